/- Walks: a term is told, as the document tells it. -/
import Derived.Test.YtbfllkipgfpkkaavtVC
set_option linter.unusedVariables false
set_option linter.unusedSimpArgs false
namespace Go.Sy
open Go.Proofs
attribute [local irreducible] atCall HT runOps runD onC onE onO onG goV goA goS onSt onGuard
@[go_sem] theorem sz67 : Try.prog.cellsOf 67 = 1 := by kernel_rfl
attribute [go_sem] Try.underlying67
theorem sealL_fn15 (d : List PL) (f : Nat) : sealL 15 d (.fn f [500000]) = .fn f [500000] := rfl
theorem plain_has' {t : TermD} (k : Nat) : (argT t).has k = false := by
 show (pls t.cells).any (L.has k) = false
 exact pls_has k _
theorem plain_ren' {t : TermD} (f : Nat → Nat) : (argT t).ren f = argT t := plain_ren (plain_term t)
def mixM (mx : List TermD) : List (Nat × Ob) := [(500000, ⟨false, [.s 500001 [] mx.length 4]⟩), (500001, ⟨true, pls (termRows mx).flatten⟩)]
theorem mix_out (mx : List TermD) (hd : Hand) (S : St) : outOk false (fun k => k) hd S (mixM mx) (mixM mx) (mixM mx) := by
 simp [outOk, mixM, leafOut, okN, look, leafOut_pls]
set_option maxHeartbeats 400000 in
set_option maxRecDepth 100000 in
theorem rtell_00w (mx : List TermD) (hmx : mx.length ≤ 1000000) (h0 : ¬ (0 : Int) < ((mx.length : Nat) : Int)) (t : TermD) :
 CtM Try.prog 42 [argT t, .w (.one (.p 500000 [])), .w (.one (.p 500002 [])), .w (.one (.p 500003 []))] [(500000, ⟨false, [.s 500001 [] mx.length 4]⟩), (500001, ⟨true, pls (termRows mx).flatten⟩), (500002, ⟨false, [.fn 40 [500000]]⟩), (500003, ⟨false, [(.pl (.R true 1 []))]⟩)] (Told (fun v m => v = .tup [] ∧ m = [(500000, ⟨false, [.s 500001 [] mx.length 4]⟩), (500001, ⟨true, pls (termRows mx).flatten⟩), (500002, ⟨false, [.fn 40 [500000]]⟩), (500003, ⟨false, [(.s 21 [] 1 4)]⟩), (21, ⟨true, pls t.cells⟩)])) := by
 skip
 have F0 := And.intro lit_term <| And.intro cells_len <| And.intro pls_len <| And.intro pls_has <| And.intro tflat_length <| And.intro h0 <| And.intro leavesIn_pls <| And.intro leavesIn_pseg <| And.intro leafOut_pls <| And.intro killL_pls <| renL_pls
 refine CtM.k Try.func42 rfl Try.ntmps42 (congrArg Array.toList Try.results42) (by simp) fun w0 ro may fx => ?_
 refine top_k fun zZ zhZ => ?_
 refine seq_k fun zN zM zhN zhM => ?_
 refine region_k fun zK zhK => ?_
 simp only [go_sem, F0]
 repeat' (first | apply And.intro | intro _)
 refine zhK _ ?_
 refine zhN _ ?_; clear zhN zhM
 refine seq_k fun zN zM zhN zhM => ?_
 refine seq_k fun zN zM zhN zhM => ?_
 refine region_k fun zK zhK => ?_
 simp only [go_sem, F0]
 repeat' (first | apply And.intro | intro _)
 refine zhK _ ?_
 refine zhN _ ?_; clear zhN zhM
 (refine condF_k ?_ ?_; focus (first | rfl | (simp [go_sem, F0]; done)))
 refine skip_k ?_
 refine zhN _ ?_; clear zhN zhM
 refine dr_k (id := 3) mixed fun zE zhE => ?_
 refine dr_piece_k (p := 0) 4 [17, 18, 19, 20] [0, 0, 1, 0, 15, 31, 63, 31] [] rfl (by kernel_rfl) rfl (by simp only [go_sem]) fun zR zK zhR zhK => ?_
 simp only [go_sem, F0]
 repeat' (first | apply And.intro | intro _)
 refine zhK _ _ trivial (zhR _ ?_)
 refine dr_runs_k 1 5 rfl (by kernel_rfl) rfl rfl fun zR zhR => ?_
 simp only [go_sem, F0]
 repeat' (first | apply And.intro | intro _)
 refine zhR _ ?_
 refine dr_piece_k (p := 5) 8 [22] [0, 0, 1, 0, 15, 31, 63, 31] [(0, 2), (1, 2)] rfl (by kernel_rfl) rfl (by simp only [go_sem]) fun zR zK zhR zhK => ?_
 simp only [go_sem, F0]
 repeat' (first | apply And.intro | intro _)
 refine zhK _ _ ?_ (zhR _ ?_)
 focus (first | trivial | (simp only [go_sem]; done) | (simp only [go_sem]; simp; done) | (simp only [go_sem]; simp; simp only [go_sem]))
 refine dr_end rfl (zhE _ ?_)
 refine zhZ _ _ ?_
 simp only [go_sem, F0]
 all_goals (refine told_some (m2 := [(500000, ⟨false, [.s 500001 [] mx.length 4]⟩), (500001, ⟨true, pls (termRows mx).flatten⟩), (500002, ⟨false, [.fn 40 [500000]]⟩), (500003, ⟨false, [(.s 21 [] 1 4)]⟩), (21, ⟨true, pls t.cells⟩)]) ?_ ⟨rfl, by simp [pls]⟩; intro y hy; simp only [List.mem_cons, List.not_mem_nil, or_false] at hy; rcases hy with rfl | rfl | rfl | rfl | rfl <;> (try simp only [sealM, look, List.map_append, List.map_cons, List.map_nil, sealL_pls, sealL_p, sealL_rows3, sealL_fn15, Nat.reduceEqDiff, if_true, if_false, Nat.reduceLT, reduceIte]) <;> simp [look, sealL_off, sealL_pls, lockT, lock_cells, pls])
set_option maxHeartbeats 400000 in
set_option maxRecDepth 100000 in
theorem rtell_10w (mx : List TermD) (hmx : mx.length ≤ 1000000) (h0 : (0 : Int) < ((mx.length : Nat) : Int)) (t : TermD) :
 CtM Try.prog 42 [argT t, .w (.one (.p 500000 [])), .w (.one (.p 500002 [])), .w (.one (.p 500003 []))] [(500000, ⟨false, [.s 500001 [] mx.length 4]⟩), (500001, ⟨true, pls (termRows mx).flatten⟩), (500002, ⟨false, [.fn 40 [500000]]⟩), (500003, ⟨false, [(.pl (.R true 1 []))]⟩)] (Told (fun v m => v = .tup [] ∧ m = [(500000, ⟨false, [.s 500001 [] mx.length 4]⟩), (500001, ⟨true, pls (termRows mx).flatten⟩), (500002, ⟨false, [.fn 40 [500000]]⟩), (500003, ⟨false, [(.s 21 [] 1 4)]⟩), (21, ⟨true, pls (lockT (chainT 2 mx) 100 t).cells⟩)])) := by
 skip
 have F0 := And.intro lit_term <| And.intro cells_len <| And.intro pls_len <| And.intro pls_has <| And.intro tflat_length <| And.intro h0 <| And.intro leavesIn_pls <| And.intro leavesIn_pseg <| And.intro leafOut_pls <| And.intro killL_pls <| renL_pls
 refine CtM.k Try.func42 rfl Try.ntmps42 (congrArg Array.toList Try.results42) (by simp) fun w0 ro may fx => ?_
 refine top_k fun zZ zhZ => ?_
 refine seq_k fun zN zM zhN zhM => ?_
 refine region_k fun zK zhK => ?_
 simp only [go_sem, F0]
 repeat' (first | apply And.intro | intro _)
 refine zhK _ ?_
 refine zhN _ ?_; clear zhN zhM
 refine seq_k fun zN zM zhN zhM => ?_
 refine seq_k fun zN zM zhN zhM => ?_
 refine region_k fun zK zhK => ?_
 simp only [go_sem, F0]
 repeat' (first | apply And.intro | intro _)
 refine zhK _ ?_
 refine zhN _ ?_; clear zhN zhM
 (refine condT_k ?_ ?_; focus (first | rfl | (simp [go_sem, F0]; done)))
 refine dr_k (id := 2) mixed fun zE zhE => ?_
 refine dr_piece_k (p := 0) 7 [8, 9, 10, 11, 12, 13, 14] [0, 1, 0, 4, 12, 31, 0, 127, 255, 511] [] rfl (by kernel_rfl) rfl (by simp only [go_sem]) fun zR zK zhR zhK => ?_
 simp only [go_sem, F0]
 repeat' (first | apply And.intro | intro _)
 all_goals (refine call_drawhf (m := mixM mx) (vs := [.w (.one (.pl (.i 2)))]) (ks := [500000]) (caps := [500000]) rfl [(500000, 500000), (500001, 500001)] (argT (chainT 2 mx)) ?_ ?_ (fun _ _ => rfl) ?_ rfl ?_ ?_ ?_ (chain_ 2 mx hmx).told ?_ ⟨plain_ren' _, plain_has'⟩ (fun S => mix_out mx _ S) rfl ?_; (iterate 7 (focus (first | rfl | (simp only [go_sem, hangB, mixM, F0] <;> first | done | rfl | simp) | (simp [mixM, hangB, go_sem, leafOutV, leafOutW, leafOut, look, F0]; done)))))
 all_goals try (refine And.intro ?_ ?_ <;> first | rfl | (simp only [go_sem, F0]; done))
 all_goals simp only [go_sem, F0]
 all_goals repeat' (first | apply And.intro | intro _)
 all_goals (refine call_drawh false (fun k => k) (argT (atomT 100)) [] (fun _ _ => rfl) ?_ ?_ ?_ ((atomof_ 100).plain fun _ _ h => h).hands ?_ ?_; (iterate 2 (focus (first | rfl | (simp only [go_sem, F0] <;> first | done | rfl | simp)))); (first | kernel_rfl | rfl | simp [fixO, fixL, pls]))
 all_goals try (refine And.intro ?_ (And.intro ?_ (And.intro ?_ ?_)) <;> (first | rfl | (simp only [go_sem, F0]; done) | (simp [go_sem, look, F0]; done)))
 all_goals (try simp only [go_sem, F0])
 all_goals (try simp only [go_sem, F0])
 all_goals repeat' (first | apply And.intro | intro _)
 refine zhK _ _ trivial (zhR _ ?_)
 refine dr_runs_k 3 10 rfl (by kernel_rfl) rfl rfl fun zR zhR => ?_
 simp only [go_sem, F0]
 repeat' (first | apply And.intro | intro _)
 refine zhR _ ?_
 refine dr_end rfl (zhE _ ?_)
 refine zhN _ ?_; clear zhN zhM
 refine dr_k (id := 3) mixed fun zE zhE => ?_
 refine dr_piece_k (p := 0) 4 [17, 18, 19, 20] [0, 0, 1, 0, 15, 31, 63, 31] [] rfl (by kernel_rfl) rfl (by simp only [go_sem]) fun zR zK zhR zhK => ?_
 simp only [go_sem, F0]
 repeat' (first | apply And.intro | intro _)
 refine zhK _ _ trivial (zhR _ ?_)
 refine dr_runs_k 1 5 rfl (by kernel_rfl) rfl rfl fun zR zhR => ?_
 simp only [go_sem, F0]
 repeat' (first | apply And.intro | intro _)
 refine zhR _ ?_
 refine dr_piece_k (p := 5) 8 [22] [0, 0, 1, 0, 15, 31, 63, 31] [(0, 2), (1, 2)] rfl (by kernel_rfl) rfl (by simp only [go_sem]) fun zR zK zhR zhK => ?_
 simp only [go_sem, F0]
 repeat' (first | apply And.intro | intro _)
 refine zhK _ _ ?_ (zhR _ ?_)
 focus (first | trivial | (simp only [go_sem]; done) | (simp only [go_sem]; simp; done) | (simp only [go_sem]; simp; simp only [go_sem]))
 refine dr_end rfl (zhE _ ?_)
 refine zhZ _ _ ?_
 simp only [go_sem, F0]
 all_goals (trace_state; refine told_seal 15 (b := true) (termRows [chainT 2 mx, atomT 100, t]).flatten (by rw [flat3]; simp [look]) (by decide) ?_; refine told_some (m2 := [(500000, ⟨false, [.s 500001 [] mx.length 4]⟩), (500001, ⟨true, pls (termRows mx).flatten⟩), (500002, ⟨false, [.fn 40 [500000]]⟩), (500003, ⟨false, [(.s 21 [] 1 4)]⟩), (21, ⟨true, pls (lockT (chainT 2 mx) 100 t).cells⟩)]) ?_ ⟨rfl, by simp [pls]⟩; intro y hy; simp only [List.mem_cons, List.not_mem_nil, or_false] at hy; rcases hy with rfl | rfl | rfl | rfl | rfl <;> (try simp only [sealM, look, List.map_append, List.map_cons, List.map_nil, sealL_pls, sealL_p, sealL_rows3, sealL_fn15, Nat.reduceEqDiff, if_true, if_false, Nat.reduceLT, reduceIte]) <;> simp [look, sealL_off, sealL_pls, lockT, lock_cells, pls])
set_option maxHeartbeats 400000 in
set_option maxRecDepth 100000 in
theorem rtell_01w (mx : List TermD) (hmx : mx.length ≤ 1000000) (h0 : ¬ (0 : Int) < ((mx.length : Nat) : Int)) (t : TermD) (n : Nat) (hn : n ≤ 1000000) (cs : List PL) (hcs : cs.length = n * 4) :
 CtM Try.prog 42 [argT t, .w (.one (.p 500000 [])), .w (.one (.p 500002 [])), .w (.one (.p 500003 []))] [(500000, ⟨false, [.s 500001 [] mx.length 4]⟩), (500001, ⟨true, pls (termRows mx).flatten⟩), (500002, ⟨false, [.fn 40 [500000]]⟩), (500003, ⟨false, [(.s 750001 [] n 4)]⟩), (750001, ⟨true, pls cs⟩)] (Told (fun v m => v = .tup [] ∧ m = [(500000, ⟨false, [.s 500001 [] mx.length 4]⟩), (500001, ⟨true, pls (termRows mx).flatten⟩), (500002, ⟨false, [.fn 40 [500000]]⟩), (500003, ⟨false, [(.s 750001 [] (n + 1) 4)]⟩), (750001, ⟨true, pls (cs ++ t.cells)⟩)])) := by
 have hn1 : (n + 1) * 48 ≤ 140737488355328 := by omega
 have hn2 : (n + 1) * 4 = n * 4 + 4 := by omega
 have hi0 : (0 : Int) ≤ (n : Int) := by omega
 have hi1 : (n : Int) < ((n + 1 : Nat) : Int) := by omega
 have F0 := And.intro lit_term <| And.intro cells_len <| And.intro pls_len <| And.intro pls_has <| And.intro tflat_length <| And.intro h0 <| And.intro leavesIn_pls <| And.intro leavesIn_pseg <| And.intro leafOut_pls <| And.intro killL_pls <| And.intro renL_pls <| And.intro hcs <| And.intro hn1 <| And.intro hn2 <| And.intro hi0 <| hi1
 refine CtM.k Try.func42 rfl Try.ntmps42 (congrArg Array.toList Try.results42) (by simp) fun w0 ro may fx => ?_
 refine top_k fun zZ zhZ => ?_
 refine seq_k fun zN zM zhN zhM => ?_
 refine region_k fun zK zhK => ?_
 simp only [go_sem, F0]
 repeat' (first | apply And.intro | intro _)
 refine zhK _ ?_
 refine zhN _ ?_; clear zhN zhM
 refine seq_k fun zN zM zhN zhM => ?_
 refine seq_k fun zN zM zhN zhM => ?_
 refine region_k fun zK zhK => ?_
 simp only [go_sem, F0]
 repeat' (first | apply And.intro | intro _)
 refine zhK _ ?_
 refine zhN _ ?_; clear zhN zhM
 (refine condF_k ?_ ?_; focus (first | rfl | (simp [go_sem, F0]; done)))
 refine skip_k ?_
 refine zhN _ ?_; clear zhN zhM
 refine dr_k (id := 3) mixed fun zE zhE => ?_
 refine dr_piece_k (p := 0) 4 [17, 18, 19, 20] [0, 0, 1, 0, 15, 31, 63, 31] [] rfl (by kernel_rfl) rfl (by simp only [go_sem]) fun zR zK zhR zhK => ?_
 simp only [go_sem, F0]
 repeat' (first | apply And.intro | intro _)
 refine zhK _ _ trivial (zhR _ ?_)
 refine dr_runs_k 1 5 rfl (by kernel_rfl) rfl rfl fun zR zhR => ?_
 simp only [go_sem, F0]
 repeat' (first | apply And.intro | intro _)
 refine zhR _ ?_
 refine dr_piece_k (p := 5) 8 [22] [0, 0, 1, 0, 15, 31, 63, 31] [(0, 2), (1, 2)] rfl (by kernel_rfl) rfl (by simp only [go_sem]) fun zR zK zhR zhK => ?_
 simp only [go_sem, F0]
 repeat' (first | apply And.intro | intro _)
 refine zhK _ _ ?_ (zhR _ ?_)
 focus (first | trivial | (simp only [go_sem]; done) | (simp only [go_sem]; simp; done) | (simp only [go_sem]; simp; simp only [go_sem]))
 refine dr_end rfl (zhE _ ?_)
 refine zhZ _ _ ?_
 simp only [go_sem, F0]
 all_goals (refine told_some (m2 := [(500000, ⟨false, [.s 500001 [] mx.length 4]⟩), (500001, ⟨true, pls (termRows mx).flatten⟩), (500002, ⟨false, [.fn 40 [500000]]⟩), (500003, ⟨false, [(.s 750001 [] (n + 1) 4)]⟩), (750001, ⟨true, pls (cs ++ t.cells)⟩)]) ?_ ⟨rfl, by simp [pls]⟩; intro y hy; simp only [List.mem_cons, List.not_mem_nil, or_false] at hy; rcases hy with rfl | rfl | rfl | rfl | rfl <;> (try simp only [sealM, look, List.map_append, List.map_cons, List.map_nil, sealL_pls, sealL_p, sealL_rows3, sealL_fn15, Nat.reduceEqDiff, if_true, if_false, Nat.reduceLT, reduceIte]) <;> simp [look, sealL_off, sealL_pls, lockT, lock_cells, pls])
set_option maxHeartbeats 400000 in
set_option maxRecDepth 100000 in
theorem rtell_11w (mx : List TermD) (hmx : mx.length ≤ 1000000) (h0 : (0 : Int) < ((mx.length : Nat) : Int)) (t : TermD) (n : Nat) (hn : n ≤ 1000000) (cs : List PL) (hcs : cs.length = n * 4) :
 CtM Try.prog 42 [argT t, .w (.one (.p 500000 [])), .w (.one (.p 500002 [])), .w (.one (.p 500003 []))] [(500000, ⟨false, [.s 500001 [] mx.length 4]⟩), (500001, ⟨true, pls (termRows mx).flatten⟩), (500002, ⟨false, [.fn 40 [500000]]⟩), (500003, ⟨false, [(.s 750001 [] n 4)]⟩), (750001, ⟨true, pls cs⟩)] (Told (fun v m => v = .tup [] ∧ m = [(500000, ⟨false, [.s 500001 [] mx.length 4]⟩), (500001, ⟨true, pls (termRows mx).flatten⟩), (500002, ⟨false, [.fn 40 [500000]]⟩), (500003, ⟨false, [(.s 750001 [] (n + 1) 4)]⟩), (750001, ⟨true, pls (cs ++ (lockT (chainT 2 mx) (100 + (n : Int)) t).cells)⟩)])) := by
 have hn1 : (n + 1) * 48 ≤ 140737488355328 := by omega
 have hn2 : (n + 1) * 4 = n * 4 + 4 := by omega
 have hi0 : (0 : Int) ≤ (n : Int) := by omega
 have hi1 : (n : Int) < ((n + 1 : Nat) : Int) := by omega
 have hw : Go.RowKit.wrap64 (100 + (n : Int)) = 100 + (n : Int) := w64 (by omega)
 have F0 := And.intro lit_term <| And.intro cells_len <| And.intro pls_len <| And.intro pls_has <| And.intro tflat_length <| And.intro h0 <| And.intro leavesIn_pls <| And.intro leavesIn_pseg <| And.intro leafOut_pls <| And.intro killL_pls <| And.intro renL_pls <| And.intro hcs <| And.intro hn1 <| And.intro hn2 <| And.intro hi0 <| And.intro hi1 <| hw
 refine CtM.k Try.func42 rfl Try.ntmps42 (congrArg Array.toList Try.results42) (by simp) fun w0 ro may fx => ?_
 refine top_k fun zZ zhZ => ?_
 refine seq_k fun zN zM zhN zhM => ?_
 refine region_k fun zK zhK => ?_
 simp only [go_sem, F0]
 repeat' (first | apply And.intro | intro _)
 refine zhK _ ?_
 refine zhN _ ?_; clear zhN zhM
 refine seq_k fun zN zM zhN zhM => ?_
 refine seq_k fun zN zM zhN zhM => ?_
 refine region_k fun zK zhK => ?_
 simp only [go_sem, F0]
 repeat' (first | apply And.intro | intro _)
 refine zhK _ ?_
 refine zhN _ ?_; clear zhN zhM
 (refine condT_k ?_ ?_; focus (first | rfl | (simp [go_sem, F0]; done)))
 refine dr_k (id := 2) mixed fun zE zhE => ?_
 refine dr_piece_k (p := 0) 7 [8, 9, 10, 11, 12, 13, 14] [0, 1, 0, 4, 12, 31, 0, 127, 255, 511] [] rfl (by kernel_rfl) rfl (by simp only [go_sem]) fun zR zK zhR zhK => ?_
 simp only [go_sem, F0]
 repeat' (first | apply And.intro | intro _)
 all_goals (refine call_drawhf (m := mixM mx) (vs := [.w (.one (.pl (.i 2)))]) (ks := [500000]) (caps := [500000]) rfl [(500000, 500000), (500001, 500001)] (argT (chainT 2 mx)) ?_ ?_ (fun _ _ => rfl) ?_ rfl ?_ ?_ ?_ (chain_ 2 mx hmx).told ?_ ⟨plain_ren' _, plain_has'⟩ (fun S => mix_out mx _ S) rfl ?_; (iterate 7 (focus (first | rfl | (simp only [go_sem, hangB, mixM, F0] <;> first | done | rfl | simp) | (simp [mixM, hangB, go_sem, leafOutV, leafOutW, leafOut, look, F0]; done)))))
 all_goals try (refine And.intro ?_ ?_ <;> first | rfl | (simp only [go_sem, F0]; done))
 all_goals simp only [go_sem, F0]
 all_goals repeat' (first | apply And.intro | intro _)
 all_goals (refine call_drawh false (fun k => k) (argT (atomT (100 + (n : Int)))) [] (fun _ _ => rfl) ?_ ?_ ?_ ((atomof_ (100 + (n : Int))).plain fun _ _ h => h).hands ?_ ?_; (iterate 2 (focus (first | rfl | (simp only [go_sem, F0] <;> first | done | rfl | simp)))); (first | kernel_rfl | rfl | simp [fixO, fixL, pls]))
 all_goals try (refine And.intro ?_ (And.intro ?_ (And.intro ?_ ?_)) <;> (first | rfl | (simp only [go_sem, F0]; done) | (simp [go_sem, look, F0]; done)))
 all_goals (try simp only [go_sem, F0])
 all_goals (try simp only [go_sem, F0])
 all_goals repeat' (first | apply And.intro | intro _)
 refine zhK _ _ trivial (zhR _ ?_)
 refine dr_runs_k 3 10 rfl (by kernel_rfl) rfl rfl fun zR zhR => ?_
 simp only [go_sem, F0]
 repeat' (first | apply And.intro | intro _)
 refine zhR _ ?_
 refine dr_end rfl (zhE _ ?_)
 refine zhN _ ?_; clear zhN zhM
 refine dr_k (id := 3) mixed fun zE zhE => ?_
 refine dr_piece_k (p := 0) 4 [17, 18, 19, 20] [0, 0, 1, 0, 15, 31, 63, 31] [] rfl (by kernel_rfl) rfl (by simp only [go_sem]) fun zR zK zhR zhK => ?_
 simp only [go_sem, F0]
 repeat' (first | apply And.intro | intro _)
 refine zhK _ _ trivial (zhR _ ?_)
 refine dr_runs_k 1 5 rfl (by kernel_rfl) rfl rfl fun zR zhR => ?_
 simp only [go_sem, F0]
 repeat' (first | apply And.intro | intro _)
 refine zhR _ ?_
 refine dr_piece_k (p := 5) 8 [22] [0, 0, 1, 0, 15, 31, 63, 31] [(0, 2), (1, 2)] rfl (by kernel_rfl) rfl (by simp only [go_sem]) fun zR zK zhR zhK => ?_
 simp only [go_sem, F0]
 repeat' (first | apply And.intro | intro _)
 refine zhK _ _ ?_ (zhR _ ?_)
 focus (first | trivial | (simp only [go_sem]; done) | (simp only [go_sem]; simp; done) | (simp only [go_sem]; simp; simp only [go_sem]))
 refine dr_end rfl (zhE _ ?_)
 refine zhZ _ _ ?_
 simp only [go_sem, F0]
 all_goals (trace_state; refine told_seal 15 (b := true) (termRows [chainT 2 mx, atomT (100 + (n : Int)), t]).flatten (by rw [flat3]; simp [look]) (by decide) ?_; refine told_some (m2 := [(500000, ⟨false, [.s 500001 [] mx.length 4]⟩), (500001, ⟨true, pls (termRows mx).flatten⟩), (500002, ⟨false, [.fn 40 [500000]]⟩), (500003, ⟨false, [(.s 750001 [] (n + 1) 4)]⟩), (750001, ⟨true, pls (cs ++ (lockT (chainT 2 mx) (100 + (n : Int)) t).cells)⟩)]) ?_ ⟨rfl, by simp [pls]⟩; intro y hy; simp only [List.mem_cons, List.not_mem_nil, or_false] at hy; rcases hy with rfl | rfl | rfl | rfl | rfl <;> (try simp only [sealM, look, List.map_append, List.map_cons, List.map_nil, sealL_pls, sealL_p, sealL_rows3, sealL_fn15, Nat.reduceEqDiff, if_true, if_false, Nat.reduceLT, reduceIte]) <;> simp [look, sealL_off, sealL_pls, lockT, lock_cells, pls])
end Go.Sy

