/- Walks: patterns by name, as the program lays them. -/
import Derived.Test.YtbfllkipgfpkkaaDoorvdT
import Derived.Test.YtbfllkipgfpkkaaDoorvE3
set_option linter.unusedVariables false
set_option linter.unusedSimpArgs false
namespace Go.Sy
open Go.Proofs
attribute [local irreducible] atCall HT runOps runD onC onE onO onG goV goA goS onSt onGuard
set_option maxHeartbeats 1600000 in
set_option maxRecDepth 100000 in
theorem base_NNw  :
 Ct Tryd.prog 13 [.w (.one (.pl (.str [78, 78])))] (Told (fun v m => v = .tup [.agg [.pl (.str [78, 78]), .pl (.b false), .pl (.R true 1 []), .pl (.R true 1 []), .pl (.R true 1 []), .s 15 [] 2 1], .one (.pl (.b true))] ∧ m = [(15, ⟨true, [.s 13 [] 1 1, .s 14 [] 2 1]⟩), (13, ⟨true, [.pl (.i 1)]⟩), (14, ⟨true, [.pl (.i 1), .pl (.i 3)]⟩)])) := by
 have F0 := trivial
 have zF : FG [6, 7, 10, 11, 12, 16, 17, 18, 19, 20, 21, 25, 26, 27, 32, 33, 34, 35, 36, 37, 41, 42, 43, 44, 45, 46, 51, 52, 53, 54, 56, 57, 61, 62, 63, 64, 66, 67, 71, 72] := trivial
 exact Ct.run Tryd.func13 rfl Tryd.ntmps13 Tryd.results13
theorem base_NN : Ct Tryd.prog 13 [.w (.one (.pl (.str [78, 78])))] (fun v m => v = .tup [.agg [.pl (.str [78, 78]), .pl (.b false), .pl (.R true 1 []), .pl (.R true 1 []), .pl (.R true 1 []), .s 15 [] 2 1], .one (.pl (.b true))] ∧ m = [(15, ⟨true, [.s 13 [] 1 1, .s 14 [] 2 1]⟩), (13, ⟨true, [.pl (.i 1)]⟩), (14, ⟨true, [.pl (.i 1), .pl (.i 3)]⟩)]) := base_NNw.told
set_option maxHeartbeats 1600000 in
set_option maxRecDepth 100000 in
theorem base_NKw  :
 Ct Tryd.prog 13 [.w (.one (.pl (.str [78, 75])))] (Told (fun v m => v = .tup [.agg [.pl (.str [78, 75]), .pl (.b false), .pl (.R true 1 []), .pl (.R true 1 []), .s 8 [] 1 1, .s 24 [] 2 1], .one (.pl (.b true))] ∧ m = [(24, ⟨true, [.s 22 [] 2 1, .s 23 [] 2 1]⟩), (22, ⟨true, [.pl (.i 1), .pl (.i 4)]⟩), (23, ⟨true, [.pl (.i 1), .pl (.i 3)]⟩), (8, ⟨true, [.pl (.i 2)]⟩)])) := by
 have F0 := trivial
 have zF : FG [6, 7, 10, 11, 12, 16, 17, 18, 19, 20, 21, 25, 26, 27, 32, 33, 34, 35, 36, 37, 41, 42, 43, 44, 45, 46, 51, 52, 53, 54, 56, 57, 61, 62, 63, 64, 66, 67, 71, 72] := trivial
 exact Ct.run Tryd.func13 rfl Tryd.ntmps13 Tryd.results13
theorem base_NK : Ct Tryd.prog 13 [.w (.one (.pl (.str [78, 75])))] (fun v m => v = .tup [.agg [.pl (.str [78, 75]), .pl (.b false), .pl (.R true 1 []), .pl (.R true 1 []), .s 8 [] 1 1, .s 24 [] 2 1], .one (.pl (.b true))] ∧ m = [(24, ⟨true, [.s 22 [] 2 1, .s 23 [] 2 1]⟩), (22, ⟨true, [.pl (.i 1), .pl (.i 4)]⟩), (23, ⟨true, [.pl (.i 1), .pl (.i 3)]⟩), (8, ⟨true, [.pl (.i 2)]⟩)]) := base_NKw.told
set_option maxHeartbeats 1600000 in
set_option maxRecDepth 100000 in
theorem base_XXw  :
 Ct Tryd.prog 13 [.w (.one (.pl (.str [88, 88])))] (Told (fun v m => v = .tup [.agg [.pl (.str [88, 88]), .pl (.b false), .pl (.R true 1 []), .pl (.R true 1 []), .pl (.R true 1 []), .s 31 [] 3 1], .one (.pl (.b true))] ∧ m = [(31, ⟨true, [.s 28 [] 1 1, .s 29 [] 4 1, .s 30 [] 2 1]⟩), (28, ⟨true, [.pl (.i 1)]⟩), (29, ⟨true, [.pl (.i 1), .pl (.i 3), .pl (.i 2), .pl (.i 4)]⟩), (30, ⟨true, [.pl (.i 2), .pl (.i 5)]⟩)])) := by
 have F0 := trivial
 have zF : FG [6, 7, 10, 11, 12, 16, 17, 18, 19, 20, 21, 25, 26, 27, 32, 33, 34, 35, 36, 37, 41, 42, 43, 44, 45, 46, 51, 52, 53, 54, 56, 57, 61, 62, 63, 64, 66, 67, 71, 72] := trivial
 exact Ct.run Tryd.func13 rfl Tryd.ntmps13 Tryd.results13
theorem base_XX : Ct Tryd.prog 13 [.w (.one (.pl (.str [88, 88])))] (fun v m => v = .tup [.agg [.pl (.str [88, 88]), .pl (.b false), .pl (.R true 1 []), .pl (.R true 1 []), .pl (.R true 1 []), .s 31 [] 3 1], .one (.pl (.b true))] ∧ m = [(31, ⟨true, [.s 28 [] 1 1, .s 29 [] 4 1, .s 30 [] 2 1]⟩), (28, ⟨true, [.pl (.i 1)]⟩), (29, ⟨true, [.pl (.i 1), .pl (.i 3), .pl (.i 2), .pl (.i 4)]⟩), (30, ⟨true, [.pl (.i 2), .pl (.i 5)]⟩)]) := base_XXw.told
set_option maxHeartbeats 1600000 in
set_option maxRecDepth 100000 in
theorem base_IKw  :
 Ct Tryd.prog 13 [.w (.one (.pl (.str [73, 75])))] (Told (fun v m => v = .tup [.agg [.pl (.str [73, 75]), .pl (.b false), .pl (.R true 1 []), .pl (.R true 1 []), .s 8 [] 1 1, .s 40 [] 2 1], .one (.pl (.b true))] ∧ m = [(40, ⟨true, [.s 38 [] 4 1, .s 39 [] 3 1]⟩), (38, ⟨true, [.pl (.i 1), .pl (.i 4), .pl (.i 2), .pl (.i 6)]⟩), (39, ⟨true, [.pl (.i 1), .pl (.i 3), .pl (.i 5)]⟩), (8, ⟨true, [.pl (.i 2)]⟩)])) := by
 have F0 := trivial
 have zF : FG [6, 7, 10, 11, 12, 16, 17, 18, 19, 20, 21, 25, 26, 27, 32, 33, 34, 35, 36, 37, 41, 42, 43, 44, 45, 46, 51, 52, 53, 54, 56, 57, 61, 62, 63, 64, 66, 67, 71, 72] := trivial
 exact Ct.run Tryd.func13 rfl Tryd.ntmps13 Tryd.results13
theorem base_IK : Ct Tryd.prog 13 [.w (.one (.pl (.str [73, 75])))] (fun v m => v = .tup [.agg [.pl (.str [73, 75]), .pl (.b false), .pl (.R true 1 []), .pl (.R true 1 []), .s 8 [] 1 1, .s 40 [] 2 1], .one (.pl (.b true))] ∧ m = [(40, ⟨true, [.s 38 [] 4 1, .s 39 [] 3 1]⟩), (38, ⟨true, [.pl (.i 1), .pl (.i 4), .pl (.i 2), .pl (.i 6)]⟩), (39, ⟨true, [.pl (.i 1), .pl (.i 3), .pl (.i 5)]⟩), (8, ⟨true, [.pl (.i 2)]⟩)]) := base_IKw.told
set_option maxHeartbeats 1600000 in
set_option maxRecDepth 100000 in
theorem base_XKw  :
 Ct Tryd.prog 13 [.w (.one (.pl (.str [88, 75])))] (Told (fun v m => v = .tup [.agg [.pl (.str [88, 75]), .pl (.b false), .pl (.R true 1 []), .pl (.R true 1 []), .s 8 [] 1 1, .s 50 [] 3 1], .one (.pl (.b true))] ∧ m = [(50, ⟨true, [.s 47 [] 2 1, .s 48 [] 2 1, .s 49 [] 2 1]⟩), (47, ⟨true, [.pl (.i 1), .pl (.i 4)]⟩), (48, ⟨true, [.pl (.i 1), .pl (.i 3)]⟩), (49, ⟨true, [.pl (.i 2), .pl (.i 5)]⟩), (8, ⟨true, [.pl (.i 2)]⟩)])) := by
 have F0 := trivial
 have zF : FG [6, 7, 10, 11, 12, 16, 17, 18, 19, 20, 21, 25, 26, 27, 32, 33, 34, 35, 36, 37, 41, 42, 43, 44, 45, 46, 51, 52, 53, 54, 56, 57, 61, 62, 63, 64, 66, 67, 71, 72] := trivial
 exact Ct.run Tryd.func13 rfl Tryd.ntmps13 Tryd.results13
theorem base_XK : Ct Tryd.prog 13 [.w (.one (.pl (.str [88, 75])))] (fun v m => v = .tup [.agg [.pl (.str [88, 75]), .pl (.b false), .pl (.R true 1 []), .pl (.R true 1 []), .s 8 [] 1 1, .s 50 [] 3 1], .one (.pl (.b true))] ∧ m = [(50, ⟨true, [.s 47 [] 2 1, .s 48 [] 2 1, .s 49 [] 2 1]⟩), (47, ⟨true, [.pl (.i 1), .pl (.i 4)]⟩), (48, ⟨true, [.pl (.i 1), .pl (.i 3)]⟩), (49, ⟨true, [.pl (.i 2), .pl (.i 5)]⟩), (8, ⟨true, [.pl (.i 2)]⟩)]) := base_XKw.told
set_option maxHeartbeats 1600000 in
set_option maxRecDepth 100000 in
theorem base_KKw  :
 Ct Tryd.prog 13 [.w (.one (.pl (.str [75, 75])))] (Told (fun v m => v = .tup [.agg [.pl (.str [75, 75]), .pl (.b false), .pl (.R true 1 []), .s 8 [] 1 1, .s 55 [] 1 1, .s 60 [] 2 1], .one (.pl (.b true))] ∧ m = [(60, ⟨true, [.s 58 [] 3 1, .s 59 [] 3 1]⟩), (58, ⟨true, [.pl (.i 1), .pl (.i 4), .pl (.i 6)]⟩), (59, ⟨true, [.pl (.i 1), .pl (.i 3), .pl (.i 5)]⟩), (8, ⟨true, [.pl (.i 2)]⟩), (55, ⟨true, [.pl (.i 2)]⟩)])) := by
 have F0 := trivial
 have zF : FG [6, 7, 10, 11, 12, 16, 17, 18, 19, 20, 21, 25, 26, 27, 32, 33, 34, 35, 36, 37, 41, 42, 43, 44, 45, 46, 51, 52, 53, 54, 56, 57, 61, 62, 63, 64, 66, 67, 71, 72] := trivial
 exact Ct.run Tryd.func13 rfl Tryd.ntmps13 Tryd.results13
theorem base_KK : Ct Tryd.prog 13 [.w (.one (.pl (.str [75, 75])))] (fun v m => v = .tup [.agg [.pl (.str [75, 75]), .pl (.b false), .pl (.R true 1 []), .s 8 [] 1 1, .s 55 [] 1 1, .s 60 [] 2 1], .one (.pl (.b true))] ∧ m = [(60, ⟨true, [.s 58 [] 3 1, .s 59 [] 3 1]⟩), (58, ⟨true, [.pl (.i 1), .pl (.i 4), .pl (.i 6)]⟩), (59, ⟨true, [.pl (.i 1), .pl (.i 3), .pl (.i 5)]⟩), (8, ⟨true, [.pl (.i 2)]⟩), (55, ⟨true, [.pl (.i 2)]⟩)]) := base_KKw.told
set_option maxHeartbeats 1600000 in
set_option maxRecDepth 100000 in
theorem base_XXfallbackw  :
 Ct Tryd.prog 13 [.w (.one (.pl (.str [88, 88, 102, 97, 108, 108, 98, 97, 99, 107])))] (Told (fun v m => v = .tup [.agg [.pl (.str [88, 88, 102, 97, 108, 108, 98, 97, 99, 107]), .pl (.b true), .pl (.R true 1 []), .s 65 [] 1 1, .pl (.R true 1 []), .s 70 [] 2 1], .one (.pl (.b true))] ∧ m = [(70, ⟨true, [.s 68 [] 4 1, .s 69 [] 2 1]⟩), (68, ⟨true, [.pl (.i 1), .pl (.i 3), .pl (.i 2), .pl (.i 4)]⟩), (69, ⟨true, [.pl (.i 2), .pl (.i 5)]⟩), (65, ⟨true, [.pl (.i 1)]⟩)])) := by
 have F0 := trivial
 have zF : FG [6, 7, 10, 11, 12, 16, 17, 18, 19, 20, 21, 25, 26, 27, 32, 33, 34, 35, 36, 37, 41, 42, 43, 44, 45, 46, 51, 52, 53, 54, 56, 57, 61, 62, 63, 64, 66, 67, 71, 72] := trivial
 exact Ct.run Tryd.func13 rfl Tryd.ntmps13 Tryd.results13
theorem base_XXfallback : Ct Tryd.prog 13 [.w (.one (.pl (.str [88, 88, 102, 97, 108, 108, 98, 97, 99, 107])))] (fun v m => v = .tup [.agg [.pl (.str [88, 88, 102, 97, 108, 108, 98, 97, 99, 107]), .pl (.b true), .pl (.R true 1 []), .s 65 [] 1 1, .pl (.R true 1 []), .s 70 [] 2 1], .one (.pl (.b true))] ∧ m = [(70, ⟨true, [.s 68 [] 4 1, .s 69 [] 2 1]⟩), (68, ⟨true, [.pl (.i 1), .pl (.i 3), .pl (.i 2), .pl (.i 4)]⟩), (69, ⟨true, [.pl (.i 2), .pl (.i 5)]⟩), (65, ⟨true, [.pl (.i 1)]⟩)]) := base_XXfallbackw.told
set_option maxHeartbeats 1600000 in
set_option maxRecDepth 100000 in
theorem base_no (bs : List UInt8) (h0 : ¬ bs = [78, 78]) (h1 : ¬ bs = [78, 75]) (h2 : ¬ bs = [88, 88]) (h3 : ¬ bs = [73, 75]) (h4 : ¬ bs = [88, 75]) (h5 : ¬ bs = [75, 75]) (h6 : ¬ bs = [88, 88, 102, 97, 108, 108, 98, 97, 99, 107]) :
 Ct Tryd.prog 13 [.w (.one (.pl (.str bs)))] (Told (fun v m => v = .tup [.agg [.pl (.str []), .pl (.b false), .pl (.R true 1 []), .pl (.R true 1 []), .pl (.R true 1 []), .pl (.R true 1 [])], .one (.pl (.b false))] ∧ m = [])) := by
 have F0 := And.intro h0 <| And.intro h1 <| And.intro h2 <| And.intro h3 <| And.intro h4 <| And.intro h5 <| h6
 have zF : FG [6, 7, 10, 11, 12, 16, 17, 18, 19, 20, 21, 25, 26, 27, 32, 33, 34, 35, 36, 37, 41, 42, 43, 44, 45, 46, 51, 52, 53, 54, 56, 57, 61, 62, 63, 64, 66, 67, 71, 72] := trivial
 exact Ct.run Tryd.func13 rfl Tryd.ntmps13 Tryd.results13
theorem base_XXfallback2 : Ct Tryd.prog 13 [.w (.one (.pl (.str [88, 88, 102, 97, 108, 108, 98, 97, 99, 107])))] (fun v m => v = .tup [.agg [.pl (.str [88, 88, 102, 97, 108, 108, 98, 97, 99, 107]), .pl (.b true), .pl (.R true 1 []), .s 165 [] 1 1, .pl (.R true 1 []), .s 170 [] 2 1], .one (.pl (.b true))] ∧ m = [(170, ⟨true, [.s 168 [] 4 1, .s 169 [] 2 1]⟩), (168, ⟨true, [.pl (.i 1), .pl (.i 3), .pl (.i 2), .pl (.i 4)]⟩), (169, ⟨true, [.pl (.i 2), .pl (.i 5)]⟩), (165, ⟨true, [.pl (.i 1)]⟩)]) := base_XXfallback.imp fun v m h => by
 obtain ⟨rfl, rfl⟩ := h
 exact told_up rfl (by simp [look, gUp, L.ren]) ⟨rfl, rfl⟩
end Go.Sy

