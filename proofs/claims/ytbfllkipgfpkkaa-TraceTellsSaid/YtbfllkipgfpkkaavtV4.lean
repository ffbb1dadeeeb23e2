/- Walks: a key is mixed in. -/
import Derived.Test.YtbfllkipgfpkkaavtV3
import Derived.Test.YtbfllkipgfpkkaavE3
set_option linter.unusedVariables false
set_option linter.unusedSimpArgs false
namespace Go.Sy
open Go.Proofs
attribute [local irreducible] atCall HT runOps runD onC onE onO onG goV goA goS onSt onGuard
def handC (c : TermD) (k : List PL) (has : Bool) (ps : Int) (o : L) : List L := pls c.cells ++ (pls k ++ [.pl (.b has), .pl (.i ps), o])
theorem told_1 {R : V → List (Nat × Ob) → Prop} {v : V} {m : List (Nat × Ob)} {a : Nat} {oa : Ob} (h : R v [(a, oa)]) (h1 : look m a = some oa) : Told R v m := told_some (fun x hx => by rw [List.mem_singleton] at hx; subst hx; exact h1) h
theorem told_2 {R : V → List (Nat × Ob) → Prop} {v : V} {m : List (Nat × Ob)} {a b : Nat} {oa ob : Ob} (h : R v [(a, oa), (b, ob)]) (h1 : look m a = some oa) (h2 : look m b = some ob) : Told R v m := told_some (fun x hx => by
 rcases List.mem_cons.mp hx with rfl | hx
 · exact h1
 · rw [List.mem_singleton] at hx; subst hx; exact h2) h
def tC (l : List TermD) : List L := pls (termRows l).flatten
def hM (c : TermD) (k : List PL) (has : Bool) (ps : Int) (l : List TermD) : List (Nat × Ob) := match l with
 | [] => [(500000, ⟨false, handC c k has ps (.pl (.R true 1 []))⟩)]
 | _ :: _ => [(500000, ⟨false, handC c k has ps (.s 500001 [] l.length 4)⟩), (500001, ⟨true, tC l⟩)]
set_option maxHeartbeats 400000 in
set_option maxRecDepth 100000 in
theorem mix_nw (c x : TermD) (k : List PL) (hk : k.length = 4) (has : Bool) (ps : Int) :
 CtM Try.prog 36 [.w (.one (.p 500000 [])), argT x] [(500000, ⟨false, handC c k has ps (.pl (.R true 1 []))⟩)] (Told (fun v m => v = .tup [] ∧ m = (500000, ⟨false, handC (kdfT 1 c x) (kdfT 2 c x).cells true ps (.pl (.R true 1 []))⟩) :: [])) := by
 have F0 := And.intro cells_len <| And.intro pls_len <| And.intro pls_has <| And.intro handC.eq_1 <| hk
 refine CtM.k Try.func36 rfl Try.ntmps36 (congrArg Array.toList Try.results36) (by simp) fun w0 ro may fx => ?_
 refine top_k fun zZ zhZ => ?_
 refine seq_k fun zN zM zhN zhM => ?_
 refine region_k fun zK zhK => ?_
 simp only [go_sem, F0]
 repeat' (first | apply And.intro | intro _)
 refine zhK _ ?_
 refine zhN _ ?_; clear zhN zhM
 refine dr_k (id := 1) mixed fun zE zhE => ?_
 refine dr_piece_k (p := 0) 21 [4, 5, 6, 7, 8, 9, 10, 11, 12, 13, 14, 15, 16, 17, 18, 19, 20, 21, 22] [0, 0, 0, 0, 8, 24, 56, 0, 248, 0, 512, 1536, 3584, 0, 16376, 32761, 65529, 131065, 262139, 524283, 1048571, 2097151, 4194303, 8388607] [(1, 17), (2, 17), (2, 20)] rfl (by kernel_rfl) rfl (by simp only [go_sem]) fun zR zK zhR zhK => ?_
 simp only [go_sem, F0]
 repeat' (first | apply And.intro | intro _)
 all_goals (refine call_drawh false (fun k => k) (argT (kdfT 1 c x)) [] (fun _ _ => rfl) ?_ ?_ ?_ ((kdf_ 1 c x).plain fun _ _ h => h).hands ?_ ?_; (iterate 2 (focus (first | rfl | (simp only [go_sem, F0] <;> first | done | rfl | simp)))); (first | kernel_rfl | rfl | simp [fixO, fixL, pls]))
 all_goals try (refine And.intro ?_ (And.intro ?_ (And.intro ?_ ?_)) <;> (first | rfl | (simp only [go_sem, F0]; done) | (simp [go_sem, look, F0]; done)))
 all_goals (try simp only [go_sem, F0])
 all_goals (try simp only [go_sem, F0])
 all_goals repeat' (first | apply And.intro | intro _)
 all_goals (refine call_drawh false (fun k => k) (argT (kdfT 2 c x)) [] (fun _ _ => rfl) ?_ ?_ ?_ ((kdf_ 2 c x).plain fun _ _ h => h).hands ?_ ?_; (iterate 2 (focus (first | rfl | (simp only [go_sem, F0] <;> first | done | rfl | simp)))); (first | kernel_rfl | rfl | simp [fixO, fixL, pls]))
 all_goals try (refine And.intro ?_ (And.intro ?_ (And.intro ?_ ?_)) <;> (first | rfl | (simp only [go_sem, F0]; done) | (simp [go_sem, look, F0]; done)))
 all_goals (try simp only [go_sem, F0])
 all_goals (try simp only [go_sem, F0])
 all_goals repeat' (first | apply And.intro | intro _)
 refine zhK _ _ ?_ (zhR _ ?_)
 focus (first | trivial | (simp only [go_sem]; done) | (simp only [go_sem]; simp; done) | (simp only [go_sem]; simp; simp only [go_sem]))
 refine dr_runs_k 3 24 rfl (by kernel_rfl) rfl rfl fun zR zhR => ?_
 simp only [go_sem, F0]
 repeat' (first | apply And.intro | intro _)
 refine zhR _ ?_
 refine dr_end rfl (zhE _ ?_)
 refine zhZ _ _ ?_
 simp only [go_sem, F0]
 all_goals (trace_state; exact told_1 ⟨rfl, rfl⟩ rfl)
set_option maxHeartbeats 400000 in
set_option maxRecDepth 100000 in
theorem mix_ow (c x : TermD) (k : List PL) (hk : k.length = 4) (has : Bool) (ps : Int) (n : Nat) (cs : List PL) (hcs : cs.length = n * 4) :
 CtM Try.prog 36 [.w (.one (.p 500000 [])), argT x] [(500000, ⟨false, handC c k has ps (.s 500001 [] n 4)⟩), (500001, ⟨true, pls cs⟩)] (Told (fun v m => v = .tup [] ∧ m = (500000, ⟨false, handC (kdfT 1 c x) (kdfT 2 c x).cells true ps (.s 500001 [] n 4)⟩) :: [(500001, ⟨true, pls cs⟩)])) := by
 have F0 := And.intro cells_len <| And.intro pls_len <| And.intro pls_has <| And.intro handC.eq_1 <| hk
 refine CtM.k Try.func36 rfl Try.ntmps36 (congrArg Array.toList Try.results36) (by simp) fun w0 ro may fx => ?_
 refine top_k fun zZ zhZ => ?_
 refine seq_k fun zN zM zhN zhM => ?_
 refine region_k fun zK zhK => ?_
 simp only [go_sem, F0]
 repeat' (first | apply And.intro | intro _)
 refine zhK _ ?_
 refine zhN _ ?_; clear zhN zhM
 refine dr_k (id := 1) mixed fun zE zhE => ?_
 refine dr_piece_k (p := 0) 21 [4, 5, 6, 7, 8, 9, 10, 11, 12, 13, 14, 15, 16, 17, 18, 19, 20, 21, 22] [0, 0, 0, 0, 8, 24, 56, 0, 248, 0, 512, 1536, 3584, 0, 16376, 32761, 65529, 131065, 262139, 524283, 1048571, 2097151, 4194303, 8388607] [(1, 17), (2, 17), (2, 20)] rfl (by kernel_rfl) rfl (by simp only [go_sem]) fun zR zK zhR zhK => ?_
 simp only [go_sem, F0]
 repeat' (first | apply And.intro | intro _)
 all_goals (refine call_drawh false (fun k => k) (argT (kdfT 1 c x)) [] (fun _ _ => rfl) ?_ ?_ ?_ ((kdf_ 1 c x).plain fun _ _ h => h).hands ?_ ?_; (iterate 2 (focus (first | rfl | (simp only [go_sem, F0] <;> first | done | rfl | simp)))); (first | kernel_rfl | rfl | simp [fixO, fixL, pls]))
 all_goals try (refine And.intro ?_ (And.intro ?_ (And.intro ?_ ?_)) <;> (first | rfl | (simp only [go_sem, F0]; done) | (simp [go_sem, look, F0]; done)))
 all_goals (try simp only [go_sem, F0])
 all_goals (try simp only [go_sem, F0])
 all_goals repeat' (first | apply And.intro | intro _)
 all_goals (refine call_drawh false (fun k => k) (argT (kdfT 2 c x)) [] (fun _ _ => rfl) ?_ ?_ ?_ ((kdf_ 2 c x).plain fun _ _ h => h).hands ?_ ?_; (iterate 2 (focus (first | rfl | (simp only [go_sem, F0] <;> first | done | rfl | simp)))); (first | kernel_rfl | rfl | simp [fixO, fixL, pls]))
 all_goals try (refine And.intro ?_ (And.intro ?_ (And.intro ?_ ?_)) <;> (first | rfl | (simp only [go_sem, F0]; done) | (simp [go_sem, look, F0]; done)))
 all_goals (try simp only [go_sem, F0])
 all_goals (try simp only [go_sem, F0])
 all_goals repeat' (first | apply And.intro | intro _)
 refine zhK _ _ ?_ (zhR _ ?_)
 focus (first | trivial | (simp only [go_sem]; done) | (simp only [go_sem]; simp; done) | (simp only [go_sem]; simp; simp only [go_sem]))
 refine dr_runs_k 3 24 rfl (by kernel_rfl) rfl rfl fun zR zhR => ?_
 simp only [go_sem, F0]
 repeat' (first | apply And.intro | intro _)
 refine zhR _ ?_
 refine dr_end rfl (zhE _ ?_)
 refine zhZ _ _ ?_
 simp only [go_sem, F0]
 all_goals (exact told_2 ⟨rfl, rfl⟩ rfl rfl)
end Go.Sy

