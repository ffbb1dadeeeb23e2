/- Walks: a term is told. -/
import Derived.Test.YtbfllkipgfpkkaavtV4
set_option linter.unusedVariables false
set_option linter.unusedSimpArgs false
namespace Go.Sy
open Go.Proofs
attribute [local irreducible] atCall HT runOps runD onC onE onO onG goV goA goS onSt onGuard
theorem pls_app (a b : List PL) : pls a ++ pls b = pls (a ++ b) := by simp [pls]
theorem sealL_rows (k : Nat) (ts : List TermD) : sealL k (termRows ts).flatten (.s k [] ts.length 4) = .pl (.R false 4 (termRows ts)) := by
 simp only [sealL, if_true, pok, psz, tflat_length, and_self, rd, t_chunks]
theorem sealL_rows3 (k : Nat) (a b c : TermD) : sealL k (termRows [a, b, c]).flatten (.s k [] 3 4) = .pl (.R false 4 (termRows [a, b, c])) := sealL_rows k [a, b, c]
theorem sealL_pls (k : Nat) (d : List PL) (c : List PL) : (pls c).map (sealL k d) = pls c := by
 simp only [pls, List.map_map]; rfl
theorem sealL_off {k j : Nat} (d : List PL) (p : Path) (n z : Nat) (h : ¬ j = k) : sealL k d (.s j p n z) = .s j p n z := by
 simp only [sealL, if_neg h]
theorem sealL_p (k : Nat) (d : List PL) (x : PL) : sealL k d (.pl x) = .pl x := rfl
theorem lock_cells (a b c : TermD) : (TermD.mk 7 0 0 [a, b, c]).cells = [.i 7, .i 0, .i 0, .R false 4 (termRows [a, b, c])] := by rw [TermD.cells]
theorem lit_term : lit (.agg #[.int .i64 0, .int .i64 0, .int .i64 0, .slice none 0 0]) = some (.agg [.pl (.i 0), .pl (.i 0), .pl (.i 0), .pl (.R true 1 [])]) := rfl
set_option maxHeartbeats 400000 in
set_option maxRecDepth 100000 in
theorem tell_00w (c t : TermD) (k : List PL) (hk : k.length = 4) (ps : Int) :
 CtM Try.prog 39 [.w (.one (.p 500000 [])), argT t] [(500000, ⟨false, handC c k false ps (.pl (.R true 1 []))⟩)] (Told (fun v m => v = .tup [] ∧ m = [(500000, ⟨false, handC c k false ps (.s 29 [] 1 4)⟩), (29, ⟨true, pls t.cells⟩)])) := by
 have F0 := And.intro lit_term <| And.intro cells_len <| And.intro pls_len <| And.intro pls_has <| And.intro handC.eq_1 <| hk
 refine CtM.k Try.func39 rfl Try.ntmps39 (congrArg Array.toList Try.results39) (by simp) fun w0 ro may fx => ?_
 refine top_k fun zZ zhZ => ?_
 refine seq_k fun zN zM zhN zhM => ?_
 refine region_k fun zK zhK => ?_
 simp only [go_sem, F0]
 repeat' (first | apply And.intro | intro _)
 refine zhK _ ?_
 refine zhN _ ?_; clear zhN zhM
 refine seq_k fun zN zM zhN zhM => ?_
 refine seq_k fun zN zM zhN zhM => ?_
 refine region_k fun zK zhK => ?_
 simp only [go_sem, F0]
 repeat' (first | apply And.intro | intro _)
 refine zhK _ ?_
 refine zhN _ ?_; clear zhN zhM
 (refine condF_k ?_ ?_; focus (first | rfl | (simp [go_sem, F0]; done)))
 refine skip_k ?_
 refine zhN _ ?_; clear zhN zhM
 refine dr_k (id := 3) mixed fun zE zhE => ?_
 refine dr_piece_k (p := 0) 7 [22, 23, 24, 25, 26, 27, 28] [0, 1, 3, 7, 0, 15, 0, 127, 255, 511, 255, 1279, 3327] [] rfl (by kernel_rfl) rfl (by simp only [go_sem]) fun zR zK zhR zhK => ?_
 simp only [go_sem, F0]
 repeat' (first | apply And.intro | intro _)
 refine zhK _ _ trivial (zhR _ ?_)
 refine dr_runs_k 1 8 rfl (by kernel_rfl) rfl rfl fun zR zhR => ?_
 simp only [go_sem, F0]
 repeat' (first | apply And.intro | intro _)
 refine zhR _ ?_
 refine dr_piece_k (p := 8) 13 [30, 31, 32] [0, 1, 3, 7, 0, 15, 0, 127, 255, 511, 255, 1279, 3327] [(1, 2), (1, 3), (0, 4), (1, 4)] rfl (by kernel_rfl) rfl (by simp only [go_sem]) fun zR zK zhR zhK => ?_
 simp only [go_sem, F0]
 repeat' (first | apply And.intro | intro _)
 refine zhK _ _ ?_ (zhR _ ?_)
 focus (first | trivial | (simp only [go_sem]; done) | (simp only [go_sem]; simp; done) | (simp only [go_sem]; simp; simp only [go_sem]))
 refine dr_end rfl (zhE _ ?_)
 refine zhZ _ _ ?_
 simp only [go_sem, F0]
 all_goals (refine told_2 ⟨rfl, rfl⟩ ?_ ?_ <;> simp [look, pls])
set_option maxHeartbeats 400000 in
set_option maxRecDepth 100000 in
theorem tell_01w (c t : TermD) (k : List PL) (hk : k.length = 4) (ps : Int) (n : Nat) (hn : n ≤ 1000000) (cs : List PL) (hcs : cs.length = n * 4) :
 CtM Try.prog 39 [.w (.one (.p 500000 [])), argT t] [(500000, ⟨false, handC c k false ps (.s 750001 [] n 4)⟩), (750001, ⟨true, pls cs⟩)] (Told (fun v m => v = .tup [] ∧ m = [(500000, ⟨false, handC c k false ps (.s 750001 [] (n + 1) 4)⟩), (750001, ⟨true, pls (cs ++ t.cells)⟩)])) := by
 have hn1 : (n + 1) * 48 ≤ 140737488355328 := by omega
 have hn2 : (n + 1) * 4 = n * 4 + 4 := by omega
 have hi0 : (0 : Int) ≤ (n : Int) := by omega
 have hi1 : (n : Int) < ((n + 1 : Nat) : Int) := by omega
 have F0 := And.intro lit_term <| And.intro cells_len <| And.intro pls_len <| And.intro pls_has <| And.intro handC.eq_1 <| And.intro hk <| And.intro hcs <| And.intro hn1 <| And.intro hn2 <| And.intro hi0 <| hi1
 refine CtM.k Try.func39 rfl Try.ntmps39 (congrArg Array.toList Try.results39) (by simp) fun w0 ro may fx => ?_
 refine top_k fun zZ zhZ => ?_
 refine seq_k fun zN zM zhN zhM => ?_
 refine region_k fun zK zhK => ?_
 simp only [go_sem, F0]
 repeat' (first | apply And.intro | intro _)
 refine zhK _ ?_
 refine zhN _ ?_; clear zhN zhM
 refine seq_k fun zN zM zhN zhM => ?_
 refine seq_k fun zN zM zhN zhM => ?_
 refine region_k fun zK zhK => ?_
 simp only [go_sem, F0]
 repeat' (first | apply And.intro | intro _)
 refine zhK _ ?_
 refine zhN _ ?_; clear zhN zhM
 (refine condF_k ?_ ?_; focus (first | rfl | (simp [go_sem, F0]; done)))
 refine skip_k ?_
 refine zhN _ ?_; clear zhN zhM
 refine dr_k (id := 3) mixed fun zE zhE => ?_
 refine dr_piece_k (p := 0) 7 [22, 23, 24, 25, 26, 27, 28] [0, 1, 3, 7, 0, 15, 0, 127, 255, 511, 255, 1279, 3327] [] rfl (by kernel_rfl) rfl (by simp only [go_sem]) fun zR zK zhR zhK => ?_
 simp only [go_sem, F0]
 repeat' (first | apply And.intro | intro _)
 refine zhK _ _ trivial (zhR _ ?_)
 refine dr_runs_k 1 8 rfl (by kernel_rfl) rfl rfl fun zR zhR => ?_
 simp only [go_sem, F0]
 repeat' (first | apply And.intro | intro _)
 refine zhR _ ?_
 refine dr_piece_k (p := 8) 13 [30, 31, 32] [0, 1, 3, 7, 0, 15, 0, 127, 255, 511, 255, 1279, 3327] [(1, 2), (1, 3), (0, 4), (1, 4)] rfl (by kernel_rfl) rfl (by simp only [go_sem]) fun zR zK zhR zhK => ?_
 simp only [go_sem, F0]
 repeat' (first | apply And.intro | intro _)
 refine zhK _ _ ?_ (zhR _ ?_)
 focus (first | trivial | (simp only [go_sem]; done) | (simp only [go_sem]; simp; done) | (simp only [go_sem]; simp; simp only [go_sem]))
 refine dr_end rfl (zhE _ ?_)
 refine zhZ _ _ ?_
 simp only [go_sem, F0]
 all_goals (refine told_2 ⟨rfl, rfl⟩ ?_ ?_ <;> simp [look, pls])
set_option maxHeartbeats 400000 in
set_option maxRecDepth 100000 in
theorem tell_10w (c t : TermD) (kt : TermD) (ps : Int) :
 CtM Try.prog 39 [.w (.one (.p 500000 [])), argT t] [(500000, ⟨false, handC c kt.cells true ps (.pl (.R true 1 []))⟩)] (Told (fun v m => v = .tup [] ∧ m = [(500000, ⟨false, handC c kt.cells true ps (.s 29 [] 1 4)⟩), (29, ⟨true, pls (lockT kt 100 t).cells⟩)])) := by
 have F0 := And.intro lit_term <| And.intro cells_len <| And.intro pls_len <| And.intro pls_has <| handC.eq_1
 refine CtM.k Try.func39 rfl Try.ntmps39 (congrArg Array.toList Try.results39) (by simp) fun w0 ro may fx => ?_
 refine top_k fun zZ zhZ => ?_
 refine seq_k fun zN zM zhN zhM => ?_
 refine region_k fun zK zhK => ?_
 simp only [go_sem, F0]
 repeat' (first | apply And.intro | intro _)
 refine zhK _ ?_
 refine zhN _ ?_; clear zhN zhM
 refine seq_k fun zN zM zhN zhM => ?_
 refine seq_k fun zN zM zhN zhM => ?_
 refine region_k fun zK zhK => ?_
 simp only [go_sem, F0]
 repeat' (first | apply And.intro | intro _)
 refine zhK _ ?_
 refine zhN _ ?_; clear zhN zhM
 (refine condT_k ?_ ?_; focus (first | rfl | (simp [go_sem, F0]; done)))
 refine dr_k (id := 2) mixed fun zE zhE => ?_
 refine dr_piece_k (p := 0) 12 [8, 9, 10, 11, 12, 13, 14, 15, 16, 17, 18, 19] [0, 1, 3, 7, 0, 16, 48, 112, 240, 496, 1008, 0, 4095, 8191, 16383] [] rfl (by kernel_rfl) rfl (by simp only [go_sem]) fun zR zK zhR zhK => ?_
 simp only [go_sem, F0]
 repeat' (first | apply And.intro | intro _)
 all_goals (refine call_drawh false (fun k => k) (argT (atomT 100)) [] (fun _ _ => rfl) ?_ ?_ ?_ ((atom_ 100).plain fun _ _ h => h).hands ?_ ?_; (iterate 2 (focus (first | rfl | (simp only [go_sem, F0] <;> first | done | rfl | simp)))); (first | kernel_rfl | rfl | simp [fixO, fixL, pls]))
 all_goals try (refine And.intro ?_ (And.intro ?_ (And.intro ?_ ?_)) <;> (first | rfl | (simp only [go_sem, F0]; done) | (simp [go_sem, look, F0]; done)))
 all_goals (try simp only [go_sem, F0])
 all_goals (try simp only [go_sem, F0])
 all_goals repeat' (first | apply And.intro | intro _)
 refine zhK _ _ trivial (zhR _ ?_)
 refine dr_runs_k 3 15 rfl (by kernel_rfl) rfl rfl fun zR zhR => ?_
 simp only [go_sem, F0]
 repeat' (first | apply And.intro | intro _)
 refine zhR _ ?_
 refine dr_end rfl (zhE _ ?_)
 refine zhN _ ?_; clear zhN zhM
 refine dr_k (id := 3) mixed fun zE zhE => ?_
 refine dr_piece_k (p := 0) 7 [22, 23, 24, 25, 26, 27, 28] [0, 1, 3, 7, 0, 15, 0, 127, 255, 511, 255, 1279, 3327] [] rfl (by kernel_rfl) rfl (by simp only [go_sem]) fun zR zK zhR zhK => ?_
 simp only [go_sem, F0]
 repeat' (first | apply And.intro | intro _)
 refine zhK _ _ trivial (zhR _ ?_)
 refine dr_runs_k 1 8 rfl (by kernel_rfl) rfl rfl fun zR zhR => ?_
 simp only [go_sem, F0]
 repeat' (first | apply And.intro | intro _)
 refine zhR _ ?_
 refine dr_piece_k (p := 8) 13 [30, 31, 32] [0, 1, 3, 7, 0, 15, 0, 127, 255, 511, 255, 1279, 3327] [(1, 2), (1, 3), (0, 4), (1, 4)] rfl (by kernel_rfl) rfl (by simp only [go_sem]) fun zR zK zhR zhK => ?_
 simp only [go_sem, F0]
 repeat' (first | apply And.intro | intro _)
 refine zhK _ _ ?_ (zhR _ ?_)
 focus (first | trivial | (simp only [go_sem]; done) | (simp only [go_sem]; simp; done) | (simp only [go_sem]; simp; simp only [go_sem]))
 refine dr_end rfl (zhE _ ?_)
 refine zhZ _ _ ?_
 simp only [go_sem, F0]
 all_goals (refine told_seal 20 (b := true) (termRows [kt, (atomT 100), t]).flatten (by rw [flat3]; simp [look]) (by decide) ?_; refine told_2 ⟨rfl, rfl⟩ ?_ ?_ <;> simp only [sealM, look, List.map_append, List.map_cons, List.map_nil, sealL_pls, sealL_p, sealL_rows3, Nat.reduceEqDiff, if_true, if_false, Nat.reduceLT] <;> simp [look, sealL_off, sealL_pls, lockT, lock_cells, pls])
set_option maxHeartbeats 400000 in
set_option maxRecDepth 100000 in
theorem tell_11w (c t : TermD) (kt : TermD) (ps : Int) (n : Nat) (hn : n ≤ 1000000) (cs : List PL) (hcs : cs.length = n * 4) :
 CtM Try.prog 39 [.w (.one (.p 500000 [])), argT t] [(500000, ⟨false, handC c kt.cells true ps (.s 750001 [] n 4)⟩), (750001, ⟨true, pls cs⟩)] (Told (fun v m => v = .tup [] ∧ m = [(500000, ⟨false, handC c kt.cells true ps (.s 750001 [] (n + 1) 4)⟩), (750001, ⟨true, pls (cs ++ (lockT kt (100 + (n : Int)) t).cells)⟩)])) := by
 have hn1 : (n + 1) * 48 ≤ 140737488355328 := by omega
 have hn2 : (n + 1) * 4 = n * 4 + 4 := by omega
 have hi0 : (0 : Int) ≤ (n : Int) := by omega
 have hi1 : (n : Int) < ((n + 1 : Nat) : Int) := by omega
 have hw : Go.RowKit.wrap64 (100 + (n : Int)) = 100 + (n : Int) := w64 (by omega)
 have F0 := And.intro lit_term <| And.intro cells_len <| And.intro pls_len <| And.intro pls_has <| And.intro handC.eq_1 <| And.intro hcs <| And.intro hn1 <| And.intro hn2 <| And.intro hi0 <| And.intro hi1 <| hw
 refine CtM.k Try.func39 rfl Try.ntmps39 (congrArg Array.toList Try.results39) (by simp) fun w0 ro may fx => ?_
 refine top_k fun zZ zhZ => ?_
 refine seq_k fun zN zM zhN zhM => ?_
 refine region_k fun zK zhK => ?_
 simp only [go_sem, F0]
 repeat' (first | apply And.intro | intro _)
 refine zhK _ ?_
 refine zhN _ ?_; clear zhN zhM
 refine seq_k fun zN zM zhN zhM => ?_
 refine seq_k fun zN zM zhN zhM => ?_
 refine region_k fun zK zhK => ?_
 simp only [go_sem, F0]
 repeat' (first | apply And.intro | intro _)
 refine zhK _ ?_
 refine zhN _ ?_; clear zhN zhM
 (refine condT_k ?_ ?_; focus (first | rfl | (simp [go_sem, F0]; done)))
 refine dr_k (id := 2) mixed fun zE zhE => ?_
 refine dr_piece_k (p := 0) 12 [8, 9, 10, 11, 12, 13, 14, 15, 16, 17, 18, 19] [0, 1, 3, 7, 0, 16, 48, 112, 240, 496, 1008, 0, 4095, 8191, 16383] [] rfl (by kernel_rfl) rfl (by simp only [go_sem]) fun zR zK zhR zhK => ?_
 simp only [go_sem, F0]
 repeat' (first | apply And.intro | intro _)
 all_goals (refine call_drawh false (fun k => k) (argT (atomT (100 + (n : Int)))) [] (fun _ _ => rfl) ?_ ?_ ?_ ((atom_ (100 + (n : Int))).plain fun _ _ h => h).hands ?_ ?_; (iterate 2 (focus (first | rfl | (simp only [go_sem, F0] <;> first | done | rfl | simp)))); (first | kernel_rfl | rfl | simp [fixO, fixL, pls]))
 all_goals try (refine And.intro ?_ (And.intro ?_ (And.intro ?_ ?_)) <;> (first | rfl | (simp only [go_sem, F0]; done) | (simp [go_sem, look, F0]; done)))
 all_goals (try simp only [go_sem, F0])
 all_goals (try simp only [go_sem, F0])
 all_goals repeat' (first | apply And.intro | intro _)
 refine zhK _ _ trivial (zhR _ ?_)
 refine dr_runs_k 3 15 rfl (by kernel_rfl) rfl rfl fun zR zhR => ?_
 simp only [go_sem, F0]
 repeat' (first | apply And.intro | intro _)
 refine zhR _ ?_
 refine dr_end rfl (zhE _ ?_)
 refine zhN _ ?_; clear zhN zhM
 refine dr_k (id := 3) mixed fun zE zhE => ?_
 refine dr_piece_k (p := 0) 7 [22, 23, 24, 25, 26, 27, 28] [0, 1, 3, 7, 0, 15, 0, 127, 255, 511, 255, 1279, 3327] [] rfl (by kernel_rfl) rfl (by simp only [go_sem]) fun zR zK zhR zhK => ?_
 simp only [go_sem, F0]
 repeat' (first | apply And.intro | intro _)
 refine zhK _ _ trivial (zhR _ ?_)
 refine dr_runs_k 1 8 rfl (by kernel_rfl) rfl rfl fun zR zhR => ?_
 simp only [go_sem, F0]
 repeat' (first | apply And.intro | intro _)
 refine zhR _ ?_
 refine dr_piece_k (p := 8) 13 [30, 31, 32] [0, 1, 3, 7, 0, 15, 0, 127, 255, 511, 255, 1279, 3327] [(1, 2), (1, 3), (0, 4), (1, 4)] rfl (by kernel_rfl) rfl (by simp only [go_sem]) fun zR zK zhR zhK => ?_
 simp only [go_sem, F0]
 repeat' (first | apply And.intro | intro _)
 refine zhK _ _ ?_ (zhR _ ?_)
 focus (first | trivial | (simp only [go_sem]; done) | (simp only [go_sem]; simp; done) | (simp only [go_sem]; simp; simp only [go_sem]))
 refine dr_end rfl (zhE _ ?_)
 refine zhZ _ _ ?_
 simp only [go_sem, F0]
 all_goals (refine told_seal 20 (b := true) (termRows [kt, (atomT (100 + (n : Int))), t]).flatten (by rw [flat3]; simp [look]) (by decide) ?_; refine told_2 ⟨rfl, rfl⟩ ?_ ?_ <;> simp only [sealM, look, List.map_append, List.map_cons, List.map_nil, sealL_pls, sealL_p, sealL_rows3, Nat.reduceEqDiff, if_true, if_false, Nat.reduceLT] <;> simp [look, sealL_off, sealL_pls, lockT, lock_cells, pls])
end Go.Sy

