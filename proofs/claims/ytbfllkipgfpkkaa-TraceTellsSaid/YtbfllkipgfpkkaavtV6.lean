/- Walks: a token, in terms. -/
import Derived.Test.YtbfllkipgfpkkaavtV5
set_option linter.unusedVariables false
set_option linter.unusedSimpArgs false
namespace Go.Sy
open Go.Proofs
attribute [local irreducible] atCall HT runOps runD onC onE onO onG goV goA goS onSt onGuard
attribute [go_sem] mvOk
theorem appL_assoc (a b c : List L) : a ++ b ++ c = a ++ (b ++ c) := List.append_assoc a b c
theorem appL_nil (a : List L) : a ++ [] = a := List.append_nil a
theorem drop4 (a b c d : L) : List.drop 4 (pls ([] : List (List PL)).flatten ++ [a, b, c, d]) = [] := rfl
theorem renL_pls (f : Nat → Nat) (c : List PL) : (pls c).map (L.ren f) = pls c := by simp only [pls, List.map_map]; rfl
set_option maxHeartbeats 400000 in
set_option maxRecDepth 100000 in
theorem tokE_n0w (c : TermD) (w : Int) (hw : 0 ≤ w ∧ w ≤ 1) (k : List PL) (hk : k.length = 4) (has : Bool) (ps : Int) :
 CtM Try.prog 38 [.w (.one (.p 500000 [])), .w (.one (.pl (.i w))), .w (.one (.pl (.i 1))), .w (.one (.pl (.b false)))] [(500000, ⟨false, handC c k has ps (.pl (.R true 1 []))⟩)] (Told (fun v m => v = .tup [] ∧ m = [(500000, ⟨false, handC c k has ps (.s 20 [] 1 4)⟩), (20, ⟨true, pls (pubT (3 + w)).cells⟩)])) := by
 have hw3 : Go.RowKit.wrap64 (3 + w) = 3 + w := w64 (by omega)
 have hl : (pubT (3 + w)).cells.length = 1 * 4 := by rw [cells_len]
 have F0 := And.intro appL_assoc <| And.intro drop4 <| And.intro renL_pls <| And.intro leavesIn_pseg <| And.intro leavesIn_pls <| And.intro leafOut_pls <| And.intro killL_pls <| And.intro appL_nil <| And.intro lit_term <| And.intro cells_len <| And.intro pls_len <| And.intro pls_has <| And.intro handC.eq_1 <| And.intro hk <| hw3
 refine CtM.k Try.func38 rfl Try.ntmps38 (congrArg Array.toList Try.results38) (by simp) fun w0 ro may fx => ?_
 refine top_k fun zZ zhZ => ?_
 refine sr_k fun zK zhK => ?_
 simp only [go_sem, F0]
 repeat' (first | apply And.intro | intro _)
 refine zhK _ ?_
 refine block_k fun zB zbn zbx zbr zbi => ?_
 refine sr_k fun zK zhK => ?_
 simp only [go_sem, F0]
 repeat' (first | apply And.intro | intro _)
 refine zhK _ ?_
 (refine condT_k ?_ ?_; focus (first | rfl | (simp [go_sem, F0]; done)))
 refine seq_k fun zN zM zhN zhM => ?_
 refine dr_k (id := 2) mixed fun zE zhE => ?_
 refine dr_piece_k (p := 0) 9 [11, 12, 13, 14, 15, 16, 17, 18, 19] [0, 1, 3, 7, 0, 16, 48, 15, 0, 511, 1023, 2047, 1023, 5119, 13311] [] rfl (by kernel_rfl) rfl (by simp only [go_sem]) fun zR zK zhR zhK => ?_
 simp only [go_sem, F0]
 repeat' (first | apply And.intro | intro _)
 all_goals (refine call_drawh false (fun k => k) (argT (pubT (3 + w))) [] (fun _ _ => rfl) ?_ ?_ ?_ ((pub_ (3 + w)).plain fun _ _ h => h).hands ?_ ?_; (iterate 2 (focus (first | rfl | (simp only [go_sem, F0] <;> first | done | rfl | simp)))); (first | kernel_rfl | rfl | simp [fixO, fixL, pls]))
 all_goals try (refine And.intro ?_ (And.intro ?_ (And.intro ?_ ?_)) <;> (first | rfl | (simp only [go_sem, F0]; done) | (simp [go_sem, look, F0]; done)))
 all_goals (try simp only [go_sem, F0])
 all_goals (try simp only [go_sem, F0])
 all_goals repeat' (first | apply And.intro | intro _)
 refine zhK _ _ trivial (zhR _ ?_)
 refine dr_runs_k 1 10 rfl (by kernel_rfl) rfl rfl fun zR zhR => ?_
 simp only [go_sem, F0]
 repeat' (first | apply And.intro | intro _)
 refine zhR _ ?_
 refine dr_piece_k (p := 10) 15 [21, 22, 23] [0, 1, 3, 7, 0, 16, 48, 15, 0, 511, 1023, 2047, 1023, 5119, 13311] [(1, 2), (1, 3), (0, 4), (1, 4)] rfl (by kernel_rfl) rfl (by simp only [go_sem]) fun zR zK zhR zhK => ?_
 simp only [go_sem, F0]
 repeat' (first | apply And.intro | intro _)
 refine zhK _ _ ?_ (zhR _ ?_)
 focus (first | trivial | (simp only [go_sem]; done) | (simp only [go_sem]; simp; done) | (simp only [go_sem]; simp; simp only [go_sem]))
 refine dr_end rfl (zhE _ ?_)
 refine zhN _ ?_; clear zhN zhM
 refine sr_k fun zK zhK => ?_
 simp only [go_sem, F0]
 repeat' (first | apply And.intro | intro _)
 refine zhK _ ?_
 (refine condF_k ?_ ?_; focus (first | rfl | (simp [go_sem, F0]; done)))
 refine skip_k ?_
 refine zbn _ ?_; clear zbn zbx zbr zbi
 refine zhZ _ _ ?_
 simp only [go_sem, F0]
 all_goals (refine told_2 ⟨rfl, rfl⟩ ?_ ?_ <;> simp [look, pls, cells_len])
set_option maxHeartbeats 400000 in
set_option maxRecDepth 100000 in
theorem tokE_n1w (c : TermD) (w : Int) (hw : 0 ≤ w ∧ w ≤ 1) (k : List PL) (hk : k.length = 4) (has : Bool) (ps : Int) :
 CtM Try.prog 38 [.w (.one (.p 500000 [])), .w (.one (.pl (.i w))), .w (.one (.pl (.i 1))), .w (.one (.pl (.b true)))] [(500000, ⟨false, handC c k has ps (.pl (.R true 1 []))⟩)] (Told (fun v m => v = .tup [] ∧ m = [(500000, ⟨false, handC (kdfT 1 c (pubT (3 + w))) (kdfT 2 c (pubT (3 + w))).cells true ps (.s 20 [] 1 4)⟩), (20, ⟨true, pls (pubT (3 + w)).cells⟩)])) := by
 have hw3 : Go.RowKit.wrap64 (3 + w) = 3 + w := w64 (by omega)
 have hl : (pubT (3 + w)).cells.length = 1 * 4 := by rw [cells_len]
 have F0 := And.intro appL_assoc <| And.intro drop4 <| And.intro renL_pls <| And.intro leavesIn_pseg <| And.intro leavesIn_pls <| And.intro leafOut_pls <| And.intro killL_pls <| And.intro appL_nil <| And.intro lit_term <| And.intro cells_len <| And.intro pls_len <| And.intro pls_has <| And.intro handC.eq_1 <| And.intro hk <| hw3
 refine CtM.k Try.func38 rfl Try.ntmps38 (congrArg Array.toList Try.results38) (by simp) fun w0 ro may fx => ?_
 refine top_k fun zZ zhZ => ?_
 refine sr_k fun zK zhK => ?_
 simp only [go_sem, F0]
 repeat' (first | apply And.intro | intro _)
 refine zhK _ ?_
 refine block_k fun zB zbn zbx zbr zbi => ?_
 refine sr_k fun zK zhK => ?_
 simp only [go_sem, F0]
 repeat' (first | apply And.intro | intro _)
 refine zhK _ ?_
 (refine condT_k ?_ ?_; focus (first | rfl | (simp [go_sem, F0]; done)))
 refine seq_k fun zN zM zhN zhM => ?_
 refine dr_k (id := 2) mixed fun zE zhE => ?_
 refine dr_piece_k (p := 0) 9 [11, 12, 13, 14, 15, 16, 17, 18, 19] [0, 1, 3, 7, 0, 16, 48, 15, 0, 511, 1023, 2047, 1023, 5119, 13311] [] rfl (by kernel_rfl) rfl (by simp only [go_sem]) fun zR zK zhR zhK => ?_
 simp only [go_sem, F0]
 repeat' (first | apply And.intro | intro _)
 all_goals (refine call_drawh false (fun k => k) (argT (pubT (3 + w))) [] (fun _ _ => rfl) ?_ ?_ ?_ ((pub_ (3 + w)).plain fun _ _ h => h).hands ?_ ?_; (iterate 2 (focus (first | rfl | (simp only [go_sem, F0] <;> first | done | rfl | simp)))); (first | kernel_rfl | rfl | simp [fixO, fixL, pls]))
 all_goals try (refine And.intro ?_ (And.intro ?_ (And.intro ?_ ?_)) <;> (first | rfl | (simp only [go_sem, F0]; done) | (simp [go_sem, look, F0]; done)))
 all_goals (try simp only [go_sem, F0])
 all_goals (try simp only [go_sem, F0])
 all_goals repeat' (first | apply And.intro | intro _)
 refine zhK _ _ trivial (zhR _ ?_)
 refine dr_runs_k 1 10 rfl (by kernel_rfl) rfl rfl fun zR zhR => ?_
 simp only [go_sem, F0]
 repeat' (first | apply And.intro | intro _)
 refine zhR _ ?_
 refine dr_piece_k (p := 10) 15 [21, 22, 23] [0, 1, 3, 7, 0, 16, 48, 15, 0, 511, 1023, 2047, 1023, 5119, 13311] [(1, 2), (1, 3), (0, 4), (1, 4)] rfl (by kernel_rfl) rfl (by simp only [go_sem]) fun zR zK zhR zhK => ?_
 simp only [go_sem, F0]
 repeat' (first | apply And.intro | intro _)
 refine zhK _ _ ?_ (zhR _ ?_)
 focus (first | trivial | (simp only [go_sem]; done) | (simp only [go_sem]; simp; done) | (simp only [go_sem]; simp; simp only [go_sem]))
 refine dr_end rfl (zhE _ ?_)
 refine zhN _ ?_; clear zhN zhM
 refine sr_k fun zK zhK => ?_
 simp only [go_sem, F0]
 repeat' (first | apply And.intro | intro _)
 refine zhK _ ?_
 (refine condT_k ?_ ?_; focus (first | rfl | (simp [go_sem, F0]; done)))
 refine region_k fun zK zhK => ?_
 simp only [go_sem, F0]
 repeat' (first | apply And.intro | intro _)
 all_goals (refine call_hand false [] (fun k => k) (fun _ _ => rfl) ?_ (by decide) ?_ ((pub_ (3 + w)).plain fun _ _ h => h).hands ?_; iterate 2 (focus (first | rfl | (simp only [go_sem, F0] <;> first | done | rfl | simp))))
 all_goals (rintro v m ⟨hR, hm⟩; subst hR; subst hm)
 all_goals (refine And.intro ?_ (And.intro ?_ (And.intro ?_ ?_)); iterate 3 (focus (first | rfl | (simp only [go_sem, F0]; done) | (simp [go_sem, look, F0]; done))))
 all_goals (try simp only [go_sem, F0])
 all_goals (try simp only [go_sem, F0])
 all_goals repeat' (first | apply And.intro | intro _)
 all_goals (refine call_hand false [(500000, 500000), (500001, 20)] (fun k => k) (fun _ _ => rfl) ?_ (by decide) ?_ (mix_ow c (pubT (3 + w)) k hk has ps 1 (pubT (3 + w)).cells hl).told ?_; iterate 2 (focus (first | rfl | (simp only [go_sem, F0] <;> first | done | rfl | simp))))
 all_goals (rintro v m ⟨hR, hm⟩; subst hR; subst hm)
 all_goals (refine And.intro ?_ (And.intro ?_ (And.intro ?_ ?_)); iterate 3 (focus (first | rfl | (simp only [go_sem, F0]; done) | (simp [go_sem, look, F0]; done))))
 all_goals (try simp only [go_sem, F0])
 all_goals (try simp only [go_sem, F0])
 all_goals repeat' (first | apply And.intro | intro _)
 refine zhK _ ?_
 refine zbn _ ?_; clear zbn zbx zbr zbi
 refine zhZ _ _ ?_
 simp only [go_sem, F0]
 all_goals (refine told_2 ⟨rfl, rfl⟩ ?_ ?_ <;> simp [look, pls, cells_len])
set_option maxHeartbeats 400000 in
set_option maxRecDepth 100000 in
theorem tokE_o0w (c : TermD) (w : Int) (hw : 0 ≤ w ∧ w ≤ 1) (k : List PL) (hk : k.length = 4) (has : Bool) (ps : Int) (n : Nat) (hn : n ≤ 1000000) (cs : List PL) (hcs : cs.length = n * 4) :
 CtM Try.prog 38 [.w (.one (.p 500000 [])), .w (.one (.pl (.i w))), .w (.one (.pl (.i 1))), .w (.one (.pl (.b false)))] [(500000, ⟨false, handC c k has ps (.s 750001 [] n 4)⟩), (750001, ⟨true, pls cs⟩)] (Told (fun v m => v = .tup [] ∧ m = [(500000, ⟨false, handC c k has ps (.s 750001 [] (n + 1) 4)⟩), (750001, ⟨true, pls (cs ++ (pubT (3 + w)).cells)⟩)])) := by
 have hn1 : (n + 1) * 48 ≤ 140737488355328 := by omega
 have hn2 : (n + 1) * 4 = n * 4 + 4 := by omega
 have hi0 : (0 : Int) ≤ (n : Int) := by omega
 have hi1 : (n : Int) < ((n + 1 : Nat) : Int) := by omega
 have hw3 : Go.RowKit.wrap64 (3 + w) = 3 + w := w64 (by omega)
 have hl : (cs ++ (pubT (3 + w)).cells).length = (n + 1) * 4 := by rw [List.length_append, hcs, cells_len]; omega
 have F0 := And.intro appL_assoc <| And.intro drop4 <| And.intro renL_pls <| And.intro leavesIn_pseg <| And.intro leavesIn_pls <| And.intro leafOut_pls <| And.intro killL_pls <| And.intro appL_nil <| And.intro lit_term <| And.intro cells_len <| And.intro pls_len <| And.intro pls_has <| And.intro handC.eq_1 <| And.intro hk <| And.intro hcs <| And.intro hn1 <| And.intro hn2 <| And.intro hi0 <| And.intro hi1 <| hw3
 refine CtM.k Try.func38 rfl Try.ntmps38 (congrArg Array.toList Try.results38) (by simp) fun w0 ro may fx => ?_
 refine top_k fun zZ zhZ => ?_
 refine sr_k fun zK zhK => ?_
 simp only [go_sem, F0]
 repeat' (first | apply And.intro | intro _)
 refine zhK _ ?_
 refine block_k fun zB zbn zbx zbr zbi => ?_
 refine sr_k fun zK zhK => ?_
 simp only [go_sem, F0]
 repeat' (first | apply And.intro | intro _)
 refine zhK _ ?_
 (refine condT_k ?_ ?_; focus (first | rfl | (simp [go_sem, F0]; done)))
 refine seq_k fun zN zM zhN zhM => ?_
 refine dr_k (id := 2) mixed fun zE zhE => ?_
 refine dr_piece_k (p := 0) 9 [11, 12, 13, 14, 15, 16, 17, 18, 19] [0, 1, 3, 7, 0, 16, 48, 15, 0, 511, 1023, 2047, 1023, 5119, 13311] [] rfl (by kernel_rfl) rfl (by simp only [go_sem]) fun zR zK zhR zhK => ?_
 simp only [go_sem, F0]
 repeat' (first | apply And.intro | intro _)
 all_goals (refine call_drawh false (fun k => k) (argT (pubT (3 + w))) [] (fun _ _ => rfl) ?_ ?_ ?_ ((pub_ (3 + w)).plain fun _ _ h => h).hands ?_ ?_; (iterate 2 (focus (first | rfl | (simp only [go_sem, F0] <;> first | done | rfl | simp)))); (first | kernel_rfl | rfl | simp [fixO, fixL, pls]))
 all_goals try (refine And.intro ?_ (And.intro ?_ (And.intro ?_ ?_)) <;> (first | rfl | (simp only [go_sem, F0]; done) | (simp [go_sem, look, F0]; done)))
 all_goals (try simp only [go_sem, F0])
 all_goals (try simp only [go_sem, F0])
 all_goals repeat' (first | apply And.intro | intro _)
 refine zhK _ _ trivial (zhR _ ?_)
 refine dr_runs_k 1 10 rfl (by kernel_rfl) rfl rfl fun zR zhR => ?_
 simp only [go_sem, F0]
 repeat' (first | apply And.intro | intro _)
 refine zhR _ ?_
 refine dr_piece_k (p := 10) 15 [21, 22, 23] [0, 1, 3, 7, 0, 16, 48, 15, 0, 511, 1023, 2047, 1023, 5119, 13311] [(1, 2), (1, 3), (0, 4), (1, 4)] rfl (by kernel_rfl) rfl (by simp only [go_sem]) fun zR zK zhR zhK => ?_
 simp only [go_sem, F0]
 repeat' (first | apply And.intro | intro _)
 refine zhK _ _ ?_ (zhR _ ?_)
 focus (first | trivial | (simp only [go_sem]; done) | (simp only [go_sem]; simp; done) | (simp only [go_sem]; simp; simp only [go_sem]))
 refine dr_end rfl (zhE _ ?_)
 refine zhN _ ?_; clear zhN zhM
 refine sr_k fun zK zhK => ?_
 simp only [go_sem, F0]
 repeat' (first | apply And.intro | intro _)
 refine zhK _ ?_
 (refine condF_k ?_ ?_; focus (first | rfl | (simp [go_sem, F0]; done)))
 refine skip_k ?_
 refine zbn _ ?_; clear zbn zbx zbr zbi
 refine zhZ _ _ ?_
 simp only [go_sem, F0]
 all_goals (refine told_2 ⟨rfl, rfl⟩ ?_ ?_ <;> simp [look, pls, cells_len])
set_option maxHeartbeats 400000 in
set_option maxRecDepth 100000 in
theorem tokE_o1w (c : TermD) (w : Int) (hw : 0 ≤ w ∧ w ≤ 1) (k : List PL) (hk : k.length = 4) (has : Bool) (ps : Int) (n : Nat) (hn : n ≤ 1000000) (cs : List PL) (hcs : cs.length = n * 4) :
 CtM Try.prog 38 [.w (.one (.p 500000 [])), .w (.one (.pl (.i w))), .w (.one (.pl (.i 1))), .w (.one (.pl (.b true)))] [(500000, ⟨false, handC c k has ps (.s 750001 [] n 4)⟩), (750001, ⟨true, pls cs⟩)] (Told (fun v m => v = .tup [] ∧ m = [(500000, ⟨false, handC (kdfT 1 c (pubT (3 + w))) (kdfT 2 c (pubT (3 + w))).cells true ps (.s 750001 [] (n + 1) 4)⟩), (750001, ⟨true, pls (cs ++ (pubT (3 + w)).cells)⟩)])) := by
 have hn1 : (n + 1) * 48 ≤ 140737488355328 := by omega
 have hn2 : (n + 1) * 4 = n * 4 + 4 := by omega
 have hi0 : (0 : Int) ≤ (n : Int) := by omega
 have hi1 : (n : Int) < ((n + 1 : Nat) : Int) := by omega
 have hw3 : Go.RowKit.wrap64 (3 + w) = 3 + w := w64 (by omega)
 have hl : (cs ++ (pubT (3 + w)).cells).length = (n + 1) * 4 := by rw [List.length_append, hcs, cells_len]; omega
 have F0 := And.intro appL_assoc <| And.intro drop4 <| And.intro renL_pls <| And.intro leavesIn_pseg <| And.intro leavesIn_pls <| And.intro leafOut_pls <| And.intro killL_pls <| And.intro appL_nil <| And.intro lit_term <| And.intro cells_len <| And.intro pls_len <| And.intro pls_has <| And.intro handC.eq_1 <| And.intro hk <| And.intro hcs <| And.intro hn1 <| And.intro hn2 <| And.intro hi0 <| And.intro hi1 <| hw3
 refine CtM.k Try.func38 rfl Try.ntmps38 (congrArg Array.toList Try.results38) (by simp) fun w0 ro may fx => ?_
 refine top_k fun zZ zhZ => ?_
 refine sr_k fun zK zhK => ?_
 simp only [go_sem, F0]
 repeat' (first | apply And.intro | intro _)
 refine zhK _ ?_
 refine block_k fun zB zbn zbx zbr zbi => ?_
 refine sr_k fun zK zhK => ?_
 simp only [go_sem, F0]
 repeat' (first | apply And.intro | intro _)
 refine zhK _ ?_
 (refine condT_k ?_ ?_; focus (first | rfl | (simp [go_sem, F0]; done)))
 refine seq_k fun zN zM zhN zhM => ?_
 refine dr_k (id := 2) mixed fun zE zhE => ?_
 refine dr_piece_k (p := 0) 9 [11, 12, 13, 14, 15, 16, 17, 18, 19] [0, 1, 3, 7, 0, 16, 48, 15, 0, 511, 1023, 2047, 1023, 5119, 13311] [] rfl (by kernel_rfl) rfl (by simp only [go_sem]) fun zR zK zhR zhK => ?_
 simp only [go_sem, F0]
 repeat' (first | apply And.intro | intro _)
 all_goals (refine call_drawh false (fun k => k) (argT (pubT (3 + w))) [] (fun _ _ => rfl) ?_ ?_ ?_ ((pub_ (3 + w)).plain fun _ _ h => h).hands ?_ ?_; (iterate 2 (focus (first | rfl | (simp only [go_sem, F0] <;> first | done | rfl | simp)))); (first | kernel_rfl | rfl | simp [fixO, fixL, pls]))
 all_goals try (refine And.intro ?_ (And.intro ?_ (And.intro ?_ ?_)) <;> (first | rfl | (simp only [go_sem, F0]; done) | (simp [go_sem, look, F0]; done)))
 all_goals (try simp only [go_sem, F0])
 all_goals (try simp only [go_sem, F0])
 all_goals repeat' (first | apply And.intro | intro _)
 refine zhK _ _ trivial (zhR _ ?_)
 refine dr_runs_k 1 10 rfl (by kernel_rfl) rfl rfl fun zR zhR => ?_
 simp only [go_sem, F0]
 repeat' (first | apply And.intro | intro _)
 refine zhR _ ?_
 refine dr_piece_k (p := 10) 15 [21, 22, 23] [0, 1, 3, 7, 0, 16, 48, 15, 0, 511, 1023, 2047, 1023, 5119, 13311] [(1, 2), (1, 3), (0, 4), (1, 4)] rfl (by kernel_rfl) rfl (by simp only [go_sem]) fun zR zK zhR zhK => ?_
 simp only [go_sem, F0]
 repeat' (first | apply And.intro | intro _)
 refine zhK _ _ ?_ (zhR _ ?_)
 focus (first | trivial | (simp only [go_sem]; done) | (simp only [go_sem]; simp; done) | (simp only [go_sem]; simp; simp only [go_sem]))
 refine dr_end rfl (zhE _ ?_)
 refine zhN _ ?_; clear zhN zhM
 refine sr_k fun zK zhK => ?_
 simp only [go_sem, F0]
 repeat' (first | apply And.intro | intro _)
 refine zhK _ ?_
 (refine condT_k ?_ ?_; focus (first | rfl | (simp [go_sem, F0]; done)))
 refine region_k fun zK zhK => ?_
 simp only [go_sem, F0]
 repeat' (first | apply And.intro | intro _)
 all_goals (refine call_hand false [] (fun k => k) (fun _ _ => rfl) ?_ (by decide) ?_ ((pub_ (3 + w)).plain fun _ _ h => h).hands ?_; iterate 2 (focus (first | rfl | (simp only [go_sem, F0] <;> first | done | rfl | simp))))
 all_goals (rintro v m ⟨hR, hm⟩; subst hR; subst hm)
 all_goals (refine And.intro ?_ (And.intro ?_ (And.intro ?_ ?_)); iterate 3 (focus (first | rfl | (simp only [go_sem, F0]; done) | (simp [go_sem, look, F0]; done))))
 all_goals (try simp only [go_sem, F0])
 all_goals (try simp only [go_sem, F0])
 all_goals repeat' (first | apply And.intro | intro _)
 all_goals (refine call_hand false [(500000, 500000), (500001, 750001)] (fun k => k) (fun _ _ => rfl) ?_ (by decide) ?_ (mix_ow c (pubT (3 + w)) k hk has ps (n + 1) (cs ++ (pubT (3 + w)).cells) hl).told ?_; iterate 2 (focus (first | rfl | (simp only [go_sem, F0] <;> first | done | rfl | simp))))
 all_goals (rintro v m ⟨hR, hm⟩; subst hR; subst hm)
 all_goals (refine And.intro ?_ (And.intro ?_ (And.intro ?_ ?_)); iterate 3 (focus (first | rfl | (simp only [go_sem, F0]; done) | (simp [go_sem, look, F0]; done))))
 all_goals (try simp only [go_sem, F0])
 all_goals (try simp only [go_sem, F0])
 all_goals repeat' (first | apply And.intro | intro _)
 refine zhK _ ?_
 refine zbn _ ?_; clear zbn zbx zbr zbi
 refine zhZ _ _ ?_
 simp only [go_sem, F0]
 all_goals (refine told_2 ⟨rfl, rfl⟩ ?_ ?_ <;> simp [look, pls, cells_len])
end Go.Sy

