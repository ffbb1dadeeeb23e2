/- Walks: a lasting key is told; keys are mixed in. -/
import Derived.Test.YtbfllkipgfpkkaavtV6
set_option linter.unusedVariables false
set_option linter.unusedSimpArgs false
namespace Go.Sy
open Go.Proofs
attribute [local irreducible] atCall HT runOps runD onC onE onO onG goV goA goS onSt onGuard
set_option maxHeartbeats 400000 in
set_option maxRecDepth 100000 in
theorem tokS_n0w (c : TermD) (w : Int) (pk : Bool) (hw : 0 ≤ w ∧ w ≤ 1) (k : List PL) (hk : k.length = 4) (ps : Int) :
 CtM Try.prog 38 [.w (.one (.p 500000 [])), .w (.one (.pl (.i w))), .w (.one (.pl (.i 2))), .w (.one (.pl (.b pk)))] [(500000, ⟨false, handC c k false ps (.pl (.R true 1 []))⟩)] (Told (fun v m => v = .tup [] ∧ m = [(500000, ⟨false, handC c k false ps (.s 20 [] 1 4)⟩), (20, ⟨true, pls (pubT (1 + w)).cells⟩)])) := by
 have hw1 : Go.RowKit.wrap64 (1 + w) = 1 + w := w64 (by omega)
 have F0 := And.intro appL_assoc <| And.intro drop4 <| And.intro renL_pls <| And.intro leavesIn_pseg <| And.intro leavesIn_pls <| And.intro leafOut_pls <| And.intro killL_pls <| And.intro appL_nil <| And.intro lit_term <| And.intro cells_len <| And.intro pls_len <| And.intro pls_has <| And.intro handC.eq_1 <| And.intro hk <| hw1
 refine CtM.k Try.func38 rfl Try.ntmps38 (congrArg Array.toList Try.results38) (by simp) fun w0 ro may fx => ?_
 refine top_k fun zZ zhZ => ?_
 refine sr_k fun zK zhK => ?_
 simp only [go_sem, F0]
 repeat' (first | apply And.intro | intro _)
 refine zhK _ ?_
 refine block_k fun zB zbn zbx zbr zbi => ?_
 refine sr_k fun zK zhK => ?_
 simp only [go_sem, F0]
 repeat' (first | apply And.intro | intro _)
 refine zhK _ ?_
 (refine condF_k ?_ ?_; focus (first | rfl | (simp [go_sem, F0]; done)))
 refine sr_k fun zK zhK => ?_
 simp only [go_sem, F0]
 repeat' (first | apply And.intro | intro _)
 refine zhK _ ?_
 (refine condT_k ?_ ?_; focus (first | rfl | (simp [go_sem, F0]; done)))
 refine region_k fun zK zhK => ?_
 simp only [go_sem, F0]
 repeat' (first | apply And.intro | intro _)
 all_goals (refine call_hand false [] (fun k => k) (fun _ _ => rfl) ?_ (by decide) ?_ ((pub_ (1 + w)).plain fun _ _ h => h).hands ?_; iterate 2 (focus (first | rfl | (simp only [go_sem, F0] <;> first | done | rfl | simp))))
 all_goals (rintro v m ⟨hR, hm⟩; subst hR; subst hm)
 all_goals (refine And.intro ?_ (And.intro ?_ (And.intro ?_ ?_)); iterate 3 (focus (first | rfl | (simp only [go_sem, F0]; done) | (simp [go_sem, look, F0]; done))))
 all_goals (try simp only [go_sem, F0])
 all_goals (try simp only [go_sem, F0])
 all_goals repeat' (first | apply And.intro | intro _)
 all_goals (refine call_hand false [(500000, 500000)] (fun k => if k = 29 then 20 else k + 1000) (fun _ _ => rfl) ?_ (by decide) ?_ (tell_00w c (pubT (1 + w)) k hk ps).told ?_; iterate 2 (focus (first | rfl | (simp only [go_sem, F0] <;> first | done | rfl | simp))))
 all_goals (rintro v m ⟨hR, hm⟩; subst hR; subst hm)
 all_goals (refine And.intro ?_ (And.intro ?_ (And.intro ?_ ?_)); iterate 3 (focus (first | rfl | (simp only [go_sem, F0]; done) | (simp [go_sem, look, F0]; done))))
 all_goals (try simp only [go_sem, F0])
 all_goals (try simp only [go_sem, F0])
 all_goals repeat' (first | apply And.intro | intro _)
 refine zhK _ ?_
 refine zbn _ ?_; clear zbn zbx zbr zbi
 refine zhZ _ _ ?_
 simp only [go_sem, F0]
 all_goals (refine told_2 ⟨rfl, rfl⟩ ?_ ?_ <;> simp [look, pls, cells_len, lockT, lock_cells])
set_option maxHeartbeats 400000 in
set_option maxRecDepth 100000 in
theorem tokS_n1w (c : TermD) (w : Int) (pk : Bool) (hw : 0 ≤ w ∧ w ≤ 1) (kt : TermD) (ps : Int) :
 CtM Try.prog 38 [.w (.one (.p 500000 [])), .w (.one (.pl (.i w))), .w (.one (.pl (.i 2))), .w (.one (.pl (.b pk)))] [(500000, ⟨false, handC c kt.cells true ps (.pl (.R true 1 []))⟩)] (Told (fun v m => v = .tup [] ∧ m = [(500000, ⟨false, handC c kt.cells true ps (.s 20 [] 1 4)⟩), (20, ⟨true, pls (lockT kt 100 (pubT (1 + w))).cells⟩)])) := by
 have hw1 : Go.RowKit.wrap64 (1 + w) = 1 + w := w64 (by omega)
 have F0 := And.intro appL_assoc <| And.intro drop4 <| And.intro renL_pls <| And.intro leavesIn_pseg <| And.intro leavesIn_pls <| And.intro leafOut_pls <| And.intro killL_pls <| And.intro appL_nil <| And.intro lit_term <| And.intro cells_len <| And.intro pls_len <| And.intro pls_has <| And.intro handC.eq_1 <| hw1
 refine CtM.k Try.func38 rfl Try.ntmps38 (congrArg Array.toList Try.results38) (by simp) fun w0 ro may fx => ?_
 refine top_k fun zZ zhZ => ?_
 refine sr_k fun zK zhK => ?_
 simp only [go_sem, F0]
 repeat' (first | apply And.intro | intro _)
 refine zhK _ ?_
 refine block_k fun zB zbn zbx zbr zbi => ?_
 refine sr_k fun zK zhK => ?_
 simp only [go_sem, F0]
 repeat' (first | apply And.intro | intro _)
 refine zhK _ ?_
 (refine condF_k ?_ ?_; focus (first | rfl | (simp [go_sem, F0]; done)))
 refine sr_k fun zK zhK => ?_
 simp only [go_sem, F0]
 repeat' (first | apply And.intro | intro _)
 refine zhK _ ?_
 (refine condT_k ?_ ?_; focus (first | rfl | (simp [go_sem, F0]; done)))
 refine region_k fun zK zhK => ?_
 simp only [go_sem, F0]
 repeat' (first | apply And.intro | intro _)
 all_goals (refine call_hand false [] (fun k => k) (fun _ _ => rfl) ?_ (by decide) ?_ ((pub_ (1 + w)).plain fun _ _ h => h).hands ?_; iterate 2 (focus (first | rfl | (simp only [go_sem, F0] <;> first | done | rfl | simp))))
 all_goals (rintro v m ⟨hR, hm⟩; subst hR; subst hm)
 all_goals (refine And.intro ?_ (And.intro ?_ (And.intro ?_ ?_)); iterate 3 (focus (first | rfl | (simp only [go_sem, F0]; done) | (simp [go_sem, look, F0]; done))))
 all_goals (try simp only [go_sem, F0])
 all_goals (try simp only [go_sem, F0])
 all_goals repeat' (first | apply And.intro | intro _)
 all_goals (refine call_hand false [(500000, 500000)] (fun k => if k = 29 then 20 else k + 1000) (fun _ _ => rfl) ?_ (by decide) ?_ (tell_10w c (pubT (1 + w)) kt ps).told ?_; iterate 2 (focus (first | rfl | (simp only [go_sem, F0] <;> first | done | rfl | simp))))
 all_goals (rintro v m ⟨hR, hm⟩; subst hR; subst hm)
 all_goals (refine And.intro ?_ (And.intro ?_ (And.intro ?_ ?_)); iterate 3 (focus (first | rfl | (simp only [go_sem, F0]; done) | (simp [go_sem, look, F0]; done))))
 all_goals (try simp only [go_sem, F0])
 all_goals (try simp only [go_sem, F0])
 all_goals repeat' (first | apply And.intro | intro _)
 refine zhK _ ?_
 refine zbn _ ?_; clear zbn zbx zbr zbi
 refine zhZ _ _ ?_
 simp only [go_sem, F0]
 all_goals (refine told_2 ⟨rfl, rfl⟩ ?_ ?_ <;> simp [look, pls, cells_len, lockT, lock_cells])
set_option maxHeartbeats 400000 in
set_option maxRecDepth 100000 in
theorem tok3_nw (c : TermD) (w : Int) (pk : Bool) (k : List PL) (hk : k.length = 4) (has : Bool) (ps : Int) :
 CtM Try.prog 38 [.w (.one (.p 500000 [])), .w (.one (.pl (.i w))), .w (.one (.pl (.i 3))), .w (.one (.pl (.b pk)))] [(500000, ⟨false, handC c k has ps (.pl (.R true 1 []))⟩)] (Told (fun v m => v = .tup [] ∧ m = [(500000, ⟨false, handC (kdfT 1 c (dhT 3 4)) (kdfT 2 c (dhT 3 4)).cells true ps (.pl (.R true 1 []))⟩)])) := by
 have F0 := And.intro appL_assoc <| And.intro drop4 <| And.intro renL_pls <| And.intro leavesIn_pseg <| And.intro leavesIn_pls <| And.intro leafOut_pls <| And.intro killL_pls <| And.intro appL_nil <| And.intro lit_term <| And.intro cells_len <| And.intro pls_len <| And.intro pls_has <| And.intro handC.eq_1 <| hk
 refine CtM.k Try.func38 rfl Try.ntmps38 (congrArg Array.toList Try.results38) (by simp) fun w0 ro may fx => ?_
 refine top_k fun zZ zhZ => ?_
 iterate 18 first
  | refine zhK _ ?_
  | (refine sr_k fun zK zhK => ?_; simp only [go_sem, F0]; (repeat' (first | apply And.intro | intro _)))
  | refine block_k fun zB zbn zbx zbr zbi => ?_
  | (refine region_k fun zK zhK => ?_; simp only [go_sem, F0]; (repeat' (first | apply And.intro | intro _)))
  | (refine zbn _ ?_; clear zbn zbx zbr zbi)
  | (refine zhZ _ _ ?_; simp only [go_sem, F0]; (all_goals (refine told_1 ⟨rfl, rfl⟩ ?_; simp [look, pls, cells_len])))
  | ((all_goals (refine call_hand false [] (fun k => k) (fun _ _ => rfl) ?_ (by decide) ?_ (dh_34.plain fun _ _ h => h).hands ?_; iterate 2 (focus (first | rfl | (simp only [go_sem, F0] <;> first | done | rfl | simp))))); (all_goals (rintro v m ⟨hR, hm⟩; subst hR; subst hm)); (all_goals (refine And.intro ?_ (And.intro ?_ (And.intro ?_ ?_)); iterate 3 (focus (first | rfl | (simp only [go_sem, F0]; done) | (simp [go_sem, look, F0]; done))))); (all_goals (try simp only [go_sem, F0])); (all_goals (try simp only [go_sem, F0])); (all_goals repeat' (first | apply And.intro | intro _)))
  | ((all_goals (refine call_hand false [(500000, 500000)] (fun k => k) (fun _ _ => rfl) ?_ (by decide) ?_ (mix_nw c (dhT 3 4) k hk has ps).told ?_; iterate 2 (focus (first | rfl | (simp only [go_sem, F0] <;> first | done | rfl | simp))))); (all_goals (rintro v m ⟨hR, hm⟩; subst hR; subst hm)); (all_goals (refine And.intro ?_ (And.intro ?_ (And.intro ?_ ?_)); iterate 3 (focus (first | rfl | (simp only [go_sem, F0]; done) | (simp [go_sem, look, F0]; done))))); (all_goals (try simp only [go_sem, F0])); (all_goals (try simp only [go_sem, F0])); (all_goals repeat' (first | apply And.intro | intro _)))
  | (refine condF_k ?_ ?_; focus (first | rfl | (simp [go_sem, F0]; done)))
  | (refine condT_k ?_ ?_; focus (first | rfl | (simp [go_sem, F0]; done)))
set_option maxHeartbeats 400000 in
set_option maxRecDepth 100000 in
theorem tok4_nw (c : TermD) (w : Int) (pk : Bool) (k : List PL) (hk : k.length = 4) (has : Bool) (ps : Int) :
 CtM Try.prog 38 [.w (.one (.p 500000 [])), .w (.one (.pl (.i w))), .w (.one (.pl (.i 4))), .w (.one (.pl (.b pk)))] [(500000, ⟨false, handC c k has ps (.pl (.R true 1 []))⟩)] (Told (fun v m => v = .tup [] ∧ m = [(500000, ⟨false, handC (kdfT 1 c (dhT 2 3)) (kdfT 2 c (dhT 2 3)).cells true ps (.pl (.R true 1 []))⟩)])) := by
 have F0 := And.intro appL_assoc <| And.intro drop4 <| And.intro renL_pls <| And.intro leavesIn_pseg <| And.intro leavesIn_pls <| And.intro leafOut_pls <| And.intro killL_pls <| And.intro appL_nil <| And.intro lit_term <| And.intro cells_len <| And.intro pls_len <| And.intro pls_has <| And.intro handC.eq_1 <| hk
 refine CtM.k Try.func38 rfl Try.ntmps38 (congrArg Array.toList Try.results38) (by simp) fun w0 ro may fx => ?_
 refine top_k fun zZ zhZ => ?_
 iterate 21 first
  | refine zhK _ ?_
  | (refine sr_k fun zK zhK => ?_; simp only [go_sem, F0]; (repeat' (first | apply And.intro | intro _)))
  | refine block_k fun zB zbn zbx zbr zbi => ?_
  | (refine region_k fun zK zhK => ?_; simp only [go_sem, F0]; (repeat' (first | apply And.intro | intro _)))
  | (refine zbn _ ?_; clear zbn zbx zbr zbi)
  | (refine zhZ _ _ ?_; simp only [go_sem, F0]; (all_goals (refine told_1 ⟨rfl, rfl⟩ ?_; simp [look, pls, cells_len])))
  | ((all_goals (refine call_hand false [] (fun k => k) (fun _ _ => rfl) ?_ (by decide) ?_ (dh_32.plain fun _ _ h => h).hands ?_; iterate 2 (focus (first | rfl | (simp only [go_sem, F0] <;> first | done | rfl | simp))))); (all_goals (rintro v m ⟨hR, hm⟩; subst hR; subst hm)); (all_goals (refine And.intro ?_ (And.intro ?_ (And.intro ?_ ?_)); iterate 3 (focus (first | rfl | (simp only [go_sem, F0]; done) | (simp [go_sem, look, F0]; done))))); (all_goals (try simp only [go_sem, F0])); (all_goals (try simp only [go_sem, F0])); (all_goals repeat' (first | apply And.intro | intro _)))
  | ((all_goals (refine call_hand false [(500000, 500000)] (fun k => k) (fun _ _ => rfl) ?_ (by decide) ?_ (mix_nw c (dhT 2 3) k hk has ps).told ?_; iterate 2 (focus (first | rfl | (simp only [go_sem, F0] <;> first | done | rfl | simp))))); (all_goals (rintro v m ⟨hR, hm⟩; subst hR; subst hm)); (all_goals (refine And.intro ?_ (And.intro ?_ (And.intro ?_ ?_)); iterate 3 (focus (first | rfl | (simp only [go_sem, F0]; done) | (simp [go_sem, look, F0]; done))))); (all_goals (try simp only [go_sem, F0])); (all_goals (try simp only [go_sem, F0])); (all_goals repeat' (first | apply And.intro | intro _)))
  | (refine condF_k ?_ ?_; focus (first | rfl | (simp [go_sem, F0]; done)))
  | (refine condT_k ?_ ?_; focus (first | rfl | (simp [go_sem, F0]; done)))
set_option maxHeartbeats 400000 in
set_option maxRecDepth 100000 in
theorem tok5_nw (c : TermD) (w : Int) (pk : Bool) (k : List PL) (hk : k.length = 4) (has : Bool) (ps : Int) :
 CtM Try.prog 38 [.w (.one (.p 500000 [])), .w (.one (.pl (.i w))), .w (.one (.pl (.i 5))), .w (.one (.pl (.b pk)))] [(500000, ⟨false, handC c k has ps (.pl (.R true 1 []))⟩)] (Told (fun v m => v = .tup [] ∧ m = [(500000, ⟨false, handC (kdfT 1 c (dhT 1 4)) (kdfT 2 c (dhT 1 4)).cells true ps (.pl (.R true 1 []))⟩)])) := by
 have F0 := And.intro appL_assoc <| And.intro drop4 <| And.intro renL_pls <| And.intro leavesIn_pseg <| And.intro leavesIn_pls <| And.intro leafOut_pls <| And.intro killL_pls <| And.intro appL_nil <| And.intro lit_term <| And.intro cells_len <| And.intro pls_len <| And.intro pls_has <| And.intro handC.eq_1 <| hk
 refine CtM.k Try.func38 rfl Try.ntmps38 (congrArg Array.toList Try.results38) (by simp) fun w0 ro may fx => ?_
 refine top_k fun zZ zhZ => ?_
 iterate 24 first
  | refine zhK _ ?_
  | (refine sr_k fun zK zhK => ?_; simp only [go_sem, F0]; (repeat' (first | apply And.intro | intro _)))
  | refine block_k fun zB zbn zbx zbr zbi => ?_
  | (refine region_k fun zK zhK => ?_; simp only [go_sem, F0]; (repeat' (first | apply And.intro | intro _)))
  | (refine zbn _ ?_; clear zbn zbx zbr zbi)
  | (refine zhZ _ _ ?_; simp only [go_sem, F0]; (all_goals (refine told_1 ⟨rfl, rfl⟩ ?_; simp [look, pls, cells_len])))
  | ((all_goals (refine call_hand false [] (fun k => k) (fun _ _ => rfl) ?_ (by decide) ?_ (dh_14.plain fun _ _ h => h).hands ?_; iterate 2 (focus (first | rfl | (simp only [go_sem, F0] <;> first | done | rfl | simp))))); (all_goals (rintro v m ⟨hR, hm⟩; subst hR; subst hm)); (all_goals (refine And.intro ?_ (And.intro ?_ (And.intro ?_ ?_)); iterate 3 (focus (first | rfl | (simp only [go_sem, F0]; done) | (simp [go_sem, look, F0]; done))))); (all_goals (try simp only [go_sem, F0])); (all_goals (try simp only [go_sem, F0])); (all_goals repeat' (first | apply And.intro | intro _)))
  | ((all_goals (refine call_hand false [(500000, 500000)] (fun k => k) (fun _ _ => rfl) ?_ (by decide) ?_ (mix_nw c (dhT 1 4) k hk has ps).told ?_; iterate 2 (focus (first | rfl | (simp only [go_sem, F0] <;> first | done | rfl | simp))))); (all_goals (rintro v m ⟨hR, hm⟩; subst hR; subst hm)); (all_goals (refine And.intro ?_ (And.intro ?_ (And.intro ?_ ?_)); iterate 3 (focus (first | rfl | (simp only [go_sem, F0]; done) | (simp [go_sem, look, F0]; done))))); (all_goals (try simp only [go_sem, F0])); (all_goals (try simp only [go_sem, F0])); (all_goals repeat' (first | apply And.intro | intro _)))
  | (refine condF_k ?_ ?_; focus (first | rfl | (simp [go_sem, F0]; done)))
  | (refine condT_k ?_ ?_; focus (first | rfl | (simp [go_sem, F0]; done)))
set_option maxHeartbeats 400000 in
set_option maxRecDepth 100000 in
theorem tok6_nw (c : TermD) (w : Int) (pk : Bool) (k : List PL) (hk : k.length = 4) (has : Bool) (ps : Int) :
 CtM Try.prog 38 [.w (.one (.p 500000 [])), .w (.one (.pl (.i w))), .w (.one (.pl (.i 6))), .w (.one (.pl (.b pk)))] [(500000, ⟨false, handC c k has ps (.pl (.R true 1 []))⟩)] (Told (fun v m => v = .tup [] ∧ m = [(500000, ⟨false, handC (kdfT 1 c (dhT 1 2)) (kdfT 2 c (dhT 1 2)).cells true ps (.pl (.R true 1 []))⟩)])) := by
 have F0 := And.intro appL_assoc <| And.intro drop4 <| And.intro renL_pls <| And.intro leavesIn_pseg <| And.intro leavesIn_pls <| And.intro leafOut_pls <| And.intro killL_pls <| And.intro appL_nil <| And.intro lit_term <| And.intro cells_len <| And.intro pls_len <| And.intro pls_has <| And.intro handC.eq_1 <| hk
 refine CtM.k Try.func38 rfl Try.ntmps38 (congrArg Array.toList Try.results38) (by simp) fun w0 ro may fx => ?_
 refine top_k fun zZ zhZ => ?_
 iterate 27 first
  | refine zhK _ ?_
  | (refine sr_k fun zK zhK => ?_; simp only [go_sem, F0]; (repeat' (first | apply And.intro | intro _)))
  | refine block_k fun zB zbn zbx zbr zbi => ?_
  | (refine region_k fun zK zhK => ?_; simp only [go_sem, F0]; (repeat' (first | apply And.intro | intro _)))
  | (refine zbn _ ?_; clear zbn zbx zbr zbi)
  | (refine zhZ _ _ ?_; simp only [go_sem, F0]; (all_goals (refine told_1 ⟨rfl, rfl⟩ ?_; simp [look, pls, cells_len])))
  | ((all_goals (refine call_hand false [] (fun k => k) (fun _ _ => rfl) ?_ (by decide) ?_ (dh_12.plain fun _ _ h => h).hands ?_; iterate 2 (focus (first | rfl | (simp only [go_sem, F0] <;> first | done | rfl | simp))))); (all_goals (rintro v m ⟨hR, hm⟩; subst hR; subst hm)); (all_goals (refine And.intro ?_ (And.intro ?_ (And.intro ?_ ?_)); iterate 3 (focus (first | rfl | (simp only [go_sem, F0]; done) | (simp [go_sem, look, F0]; done))))); (all_goals (try simp only [go_sem, F0])); (all_goals (try simp only [go_sem, F0])); (all_goals repeat' (first | apply And.intro | intro _)))
  | ((all_goals (refine call_hand false [(500000, 500000)] (fun k => k) (fun _ _ => rfl) ?_ (by decide) ?_ (mix_nw c (dhT 1 2) k hk has ps).told ?_; iterate 2 (focus (first | rfl | (simp only [go_sem, F0] <;> first | done | rfl | simp))))); (all_goals (rintro v m ⟨hR, hm⟩; subst hR; subst hm)); (all_goals (refine And.intro ?_ (And.intro ?_ (And.intro ?_ ?_)); iterate 3 (focus (first | rfl | (simp only [go_sem, F0]; done) | (simp [go_sem, look, F0]; done))))); (all_goals (try simp only [go_sem, F0])); (all_goals (try simp only [go_sem, F0])); (all_goals repeat' (first | apply And.intro | intro _)))
  | (refine condF_k ?_ ?_; focus (first | rfl | (simp [go_sem, F0]; done)))
  | (refine condT_k ?_ ?_; focus (first | rfl | (simp [go_sem, F0]; done)))
set_option maxHeartbeats 400000 in
set_option maxRecDepth 100000 in
theorem tok7_nw (c : TermD) (w : Int) (pk : Bool) (k : List PL) (hk : k.length = 4) (has : Bool) (ps : Int) (hps : 0 ≤ ps ∧ ps ≤ 1000) :
 CtM Try.prog 38 [.w (.one (.p 500000 [])), .w (.one (.pl (.i w))), .w (.one (.pl (.i 7))), .w (.one (.pl (.b pk)))] [(500000, ⟨false, handC c k has ps (.pl (.R true 1 []))⟩)] (Told (fun v m => v = .tup [] ∧ m = [(500000, ⟨false, handC (kdfT 1 c (atomT (10 + ps))) (kdfT 2 c (atomT (10 + ps))).cells true (ps + 1) (.pl (.R true 1 []))⟩)])) := by
 have hp1 : Go.RowKit.wrap64 (10 + ps) = 10 + ps := w64 (by omega)
 have hp2 : Go.RowKit.wrap64 (ps + 1) = ps + 1 := w64 (by omega)
 have F0 := And.intro appL_assoc <| And.intro drop4 <| And.intro renL_pls <| And.intro leavesIn_pseg <| And.intro leavesIn_pls <| And.intro leafOut_pls <| And.intro killL_pls <| And.intro appL_nil <| And.intro lit_term <| And.intro cells_len <| And.intro pls_len <| And.intro pls_has <| And.intro handC.eq_1 <| And.intro hk <| And.intro hp1 <| hp2
 refine CtM.k Try.func38 rfl Try.ntmps38 (congrArg Array.toList Try.results38) (by simp) fun w0 ro may fx => ?_
 refine top_k fun zZ zhZ => ?_
 iterate 32 first
  | refine zhK _ ?_
  | (refine sr_k fun zK zhK => ?_; simp only [go_sem, F0]; (repeat' (first | apply And.intro | intro _)))
  | refine block_k fun zB zbn zbx zbr zbi => ?_
  | (refine region_k fun zK zhK => ?_; simp only [go_sem, F0]; (repeat' (first | apply And.intro | intro _)))
  | (refine zbn _ ?_; clear zbn zbx zbr zbi)
  | (refine zhZ _ _ ?_; simp only [go_sem, F0]; (all_goals (refine told_1 ⟨rfl, rfl⟩ ?_; simp [look, pls, cells_len])))
  | ((all_goals (refine call_hand false [] (fun k => k) (fun _ _ => rfl) ?_ (by decide) ?_ ((atom_ (10 + ps)).plain fun _ _ h => h).hands ?_; iterate 2 (focus (first | rfl | (simp only [go_sem, F0] <;> first | done | rfl | simp))))); (all_goals (rintro v m ⟨hR, hm⟩; subst hR; subst hm)); (all_goals (refine And.intro ?_ (And.intro ?_ (And.intro ?_ ?_)); iterate 3 (focus (first | rfl | (simp only [go_sem, F0]; done) | (simp [go_sem, look, F0]; done))))); (all_goals (try simp only [go_sem, F0])); (all_goals (try simp only [go_sem, F0])); (all_goals repeat' (first | apply And.intro | intro _)))
  | ((all_goals (refine call_hand false [(500000, 500000)] (fun k => k) (fun _ _ => rfl) ?_ (by decide) ?_ (mix_nw c (atomT (10 + ps)) k hk has ps).told ?_; iterate 2 (focus (first | rfl | (simp only [go_sem, F0] <;> first | done | rfl | simp))))); (all_goals (rintro v m ⟨hR, hm⟩; subst hR; subst hm)); (all_goals (refine And.intro ?_ (And.intro ?_ (And.intro ?_ ?_)); iterate 3 (focus (first | rfl | (simp only [go_sem, F0]; done) | (simp [go_sem, look, F0]; done))))); (all_goals (try simp only [go_sem, F0])); (all_goals (try simp only [go_sem, F0])); (all_goals repeat' (first | apply And.intro | intro _)))
  | (refine condF_k ?_ ?_; focus (first | rfl | (simp [go_sem, F0]; done)))
  | (refine condT_k ?_ ?_; focus (first | rfl | (simp [go_sem, F0]; done)))
set_option maxHeartbeats 400000 in
set_option maxRecDepth 100000 in
theorem tokS_o0w (c : TermD) (w : Int) (pk : Bool) (hw : 0 ≤ w ∧ w ≤ 1) (k : List PL) (hk : k.length = 4) (ps : Int) (n : Nat) (hn : n ≤ 1000000) (cs : List PL) (hcs : cs.length = n * 4) :
 CtM Try.prog 38 [.w (.one (.p 500000 [])), .w (.one (.pl (.i w))), .w (.one (.pl (.i 2))), .w (.one (.pl (.b pk)))] [(500000, ⟨false, handC c k false ps (.s 750001 [] n 4)⟩), (750001, ⟨true, pls cs⟩)] (Told (fun v m => v = .tup [] ∧ m = [(500000, ⟨false, handC c k false ps (.s 750001 [] (n + 1) 4)⟩), (750001, ⟨true, pls (cs ++ (pubT (1 + w)).cells)⟩)])) := by
 have hn1 : (n + 1) * 48 ≤ 140737488355328 := by omega
 have hn2 : (n + 1) * 4 = n * 4 + 4 := by omega
 have hi0 : (0 : Int) ≤ (n : Int) := by omega
 have hi1 : (n : Int) < ((n + 1 : Nat) : Int) := by omega
 have hw1 : Go.RowKit.wrap64 (1 + w) = 1 + w := w64 (by omega)
 have F0 := And.intro appL_assoc <| And.intro drop4 <| And.intro renL_pls <| And.intro leavesIn_pseg <| And.intro leavesIn_pls <| And.intro leafOut_pls <| And.intro killL_pls <| And.intro appL_nil <| And.intro lit_term <| And.intro cells_len <| And.intro pls_len <| And.intro pls_has <| And.intro handC.eq_1 <| And.intro hk <| And.intro hcs <| And.intro hn1 <| And.intro hn2 <| And.intro hi0 <| And.intro hi1 <| hw1
 refine CtM.k Try.func38 rfl Try.ntmps38 (congrArg Array.toList Try.results38) (by simp) fun w0 ro may fx => ?_
 refine top_k fun zZ zhZ => ?_
 refine sr_k fun zK zhK => ?_
 simp only [go_sem, F0]
 repeat' (first | apply And.intro | intro _)
 refine zhK _ ?_
 refine block_k fun zB zbn zbx zbr zbi => ?_
 refine sr_k fun zK zhK => ?_
 simp only [go_sem, F0]
 repeat' (first | apply And.intro | intro _)
 refine zhK _ ?_
 (refine condF_k ?_ ?_; focus (first | rfl | (simp [go_sem, F0]; done)))
 refine sr_k fun zK zhK => ?_
 simp only [go_sem, F0]
 repeat' (first | apply And.intro | intro _)
 refine zhK _ ?_
 (refine condT_k ?_ ?_; focus (first | rfl | (simp [go_sem, F0]; done)))
 refine region_k fun zK zhK => ?_
 simp only [go_sem, F0]
 repeat' (first | apply And.intro | intro _)
 all_goals (refine call_hand false [] (fun k => k) (fun _ _ => rfl) ?_ (by decide) ?_ ((pub_ (1 + w)).plain fun _ _ h => h).hands ?_; iterate 2 (focus (first | rfl | (simp only [go_sem, F0] <;> first | done | rfl | simp))))
 all_goals (rintro v m ⟨hR, hm⟩; subst hR; subst hm)
 all_goals (refine And.intro ?_ (And.intro ?_ (And.intro ?_ ?_)); iterate 3 (focus (first | rfl | (simp only [go_sem, F0]; done) | (simp [go_sem, look, F0]; done))))
 all_goals (try simp only [go_sem, F0])
 all_goals (try simp only [go_sem, F0])
 all_goals repeat' (first | apply And.intro | intro _)
 all_goals (refine call_handM false [(500000, 500000), (750001, 750001)] (fun k => k) (fun _ _ => rfl) ?_ (by decide) ?_ ?_ (tell_01w c (pubT (1 + w)) k hk ps n hn cs hcs).told ?_; iterate 3 (focus (first | rfl | (simp only [go_sem, F0] <;> first | done | rfl | simp))))
 all_goals (rintro v m ⟨hR, hm⟩; subst hR; subst hm)
 all_goals (refine And.intro ?_ (And.intro ?_ (And.intro ?_ ?_)); iterate 3 (focus (first | rfl | (simp only [go_sem, F0]; done) | (simp [go_sem, look, F0]; done))))
 all_goals (try simp only [go_sem, F0])
 all_goals (try simp only [go_sem, F0])
 all_goals repeat' (first | apply And.intro | intro _)
 refine zhK _ ?_
 refine zbn _ ?_; clear zbn zbx zbr zbi
 refine zhZ _ _ ?_
 simp only [go_sem, F0]
 all_goals (refine told_2 ⟨rfl, rfl⟩ ?_ ?_ <;> simp [look, pls, cells_len, lockT, lock_cells])
set_option maxHeartbeats 400000 in
set_option maxRecDepth 100000 in
theorem tokS_o1w (c : TermD) (w : Int) (pk : Bool) (hw : 0 ≤ w ∧ w ≤ 1) (kt : TermD) (ps : Int) (n : Nat) (hn : n ≤ 1000000) (cs : List PL) (hcs : cs.length = n * 4) :
 CtM Try.prog 38 [.w (.one (.p 500000 [])), .w (.one (.pl (.i w))), .w (.one (.pl (.i 2))), .w (.one (.pl (.b pk)))] [(500000, ⟨false, handC c kt.cells true ps (.s 750001 [] n 4)⟩), (750001, ⟨true, pls cs⟩)] (Told (fun v m => v = .tup [] ∧ m = [(500000, ⟨false, handC c kt.cells true ps (.s 750001 [] (n + 1) 4)⟩), (750001, ⟨true, pls (cs ++ (lockT kt (100 + (n : Int)) (pubT (1 + w))).cells)⟩)])) := by
 have hn1 : (n + 1) * 48 ≤ 140737488355328 := by omega
 have hn2 : (n + 1) * 4 = n * 4 + 4 := by omega
 have hi0 : (0 : Int) ≤ (n : Int) := by omega
 have hi1 : (n : Int) < ((n + 1 : Nat) : Int) := by omega
 have hw1 : Go.RowKit.wrap64 (1 + w) = 1 + w := w64 (by omega)
 have F0 := And.intro appL_assoc <| And.intro drop4 <| And.intro renL_pls <| And.intro leavesIn_pseg <| And.intro leavesIn_pls <| And.intro leafOut_pls <| And.intro killL_pls <| And.intro appL_nil <| And.intro lit_term <| And.intro cells_len <| And.intro pls_len <| And.intro pls_has <| And.intro handC.eq_1 <| And.intro hcs <| And.intro hn1 <| And.intro hn2 <| And.intro hi0 <| And.intro hi1 <| hw1
 refine CtM.k Try.func38 rfl Try.ntmps38 (congrArg Array.toList Try.results38) (by simp) fun w0 ro may fx => ?_
 refine top_k fun zZ zhZ => ?_
 refine sr_k fun zK zhK => ?_
 simp only [go_sem, F0]
 repeat' (first | apply And.intro | intro _)
 refine zhK _ ?_
 refine block_k fun zB zbn zbx zbr zbi => ?_
 refine sr_k fun zK zhK => ?_
 simp only [go_sem, F0]
 repeat' (first | apply And.intro | intro _)
 refine zhK _ ?_
 (refine condF_k ?_ ?_; focus (first | rfl | (simp [go_sem, F0]; done)))
 refine sr_k fun zK zhK => ?_
 simp only [go_sem, F0]
 repeat' (first | apply And.intro | intro _)
 refine zhK _ ?_
 (refine condT_k ?_ ?_; focus (first | rfl | (simp [go_sem, F0]; done)))
 refine region_k fun zK zhK => ?_
 simp only [go_sem, F0]
 repeat' (first | apply And.intro | intro _)
 all_goals (refine call_hand false [] (fun k => k) (fun _ _ => rfl) ?_ (by decide) ?_ ((pub_ (1 + w)).plain fun _ _ h => h).hands ?_; iterate 2 (focus (first | rfl | (simp only [go_sem, F0] <;> first | done | rfl | simp))))
 all_goals (rintro v m ⟨hR, hm⟩; subst hR; subst hm)
 all_goals (refine And.intro ?_ (And.intro ?_ (And.intro ?_ ?_)); iterate 3 (focus (first | rfl | (simp only [go_sem, F0]; done) | (simp [go_sem, look, F0]; done))))
 all_goals (try simp only [go_sem, F0])
 all_goals (try simp only [go_sem, F0])
 all_goals repeat' (first | apply And.intro | intro _)
 all_goals (refine call_handM false [(500000, 500000), (750001, 750001)] (fun k => k) (fun _ _ => rfl) ?_ (by decide) ?_ ?_ (tell_11w c (pubT (1 + w)) kt ps n hn cs hcs).told ?_; iterate 3 (focus (first | rfl | (simp only [go_sem, F0] <;> first | done | rfl | simp))))
 all_goals (rintro v m ⟨hR, hm⟩; subst hR; subst hm)
 all_goals (refine And.intro ?_ (And.intro ?_ (And.intro ?_ ?_)); iterate 3 (focus (first | rfl | (simp only [go_sem, F0]; done) | (simp [go_sem, look, F0]; done))))
 all_goals (try simp only [go_sem, F0])
 all_goals (try simp only [go_sem, F0])
 all_goals repeat' (first | apply And.intro | intro _)
 refine zhK _ ?_
 refine zbn _ ?_; clear zbn zbx zbr zbi
 refine zhZ _ _ ?_
 simp only [go_sem, F0]
 all_goals (refine told_2 ⟨rfl, rfl⟩ ?_ ?_ <;> simp [look, pls, cells_len, lockT, lock_cells])
set_option maxHeartbeats 400000 in
set_option maxRecDepth 100000 in
theorem tok3_ow (c : TermD) (w : Int) (pk : Bool) (k : List PL) (hk : k.length = 4) (has : Bool) (ps : Int) (n : Nat) (hn : n ≤ 1000000) (cs : List PL) (hcs : cs.length = n * 4) :
 CtM Try.prog 38 [.w (.one (.p 500000 [])), .w (.one (.pl (.i w))), .w (.one (.pl (.i 3))), .w (.one (.pl (.b pk)))] [(500000, ⟨false, handC c k has ps (.s 750001 [] n 4)⟩), (750001, ⟨true, pls cs⟩)] (Told (fun v m => v = .tup [] ∧ m = [(500000, ⟨false, handC (kdfT 1 c (dhT 3 4)) (kdfT 2 c (dhT 3 4)).cells true ps (.s 750001 [] n 4)⟩), (750001, ⟨true, pls cs⟩)])) := by
 have hn1 : (n + 1) * 48 ≤ 140737488355328 := by omega
 have hn2 : (n + 1) * 4 = n * 4 + 4 := by omega
 have hi0 : (0 : Int) ≤ (n : Int) := by omega
 have hi1 : (n : Int) < ((n + 1 : Nat) : Int) := by omega
 have F0 := And.intro appL_assoc <| And.intro drop4 <| And.intro renL_pls <| And.intro leavesIn_pseg <| And.intro leavesIn_pls <| And.intro leafOut_pls <| And.intro killL_pls <| And.intro appL_nil <| And.intro lit_term <| And.intro cells_len <| And.intro pls_len <| And.intro pls_has <| And.intro handC.eq_1 <| And.intro hk <| And.intro hcs <| And.intro hn1 <| And.intro hn2 <| And.intro hi0 <| hi1
 refine CtM.k Try.func38 rfl Try.ntmps38 (congrArg Array.toList Try.results38) (by simp) fun w0 ro may fx => ?_
 refine top_k fun zZ zhZ => ?_
 iterate 18 first
  | refine zhK _ ?_
  | (refine sr_k fun zK zhK => ?_; simp only [go_sem, F0]; (repeat' (first | apply And.intro | intro _)))
  | refine block_k fun zB zbn zbx zbr zbi => ?_
  | (refine region_k fun zK zhK => ?_; simp only [go_sem, F0]; (repeat' (first | apply And.intro | intro _)))
  | (refine zbn _ ?_; clear zbn zbx zbr zbi)
  | (refine zhZ _ _ ?_; simp only [go_sem, F0]; (all_goals (refine told_2 ⟨rfl, rfl⟩ ?_ ?_ <;> simp [look, pls, cells_len])))
  | ((all_goals (refine call_hand false [] (fun k => k) (fun _ _ => rfl) ?_ (by decide) ?_ (dh_34.plain fun _ _ h => h).hands ?_; iterate 2 (focus (first | rfl | (simp only [go_sem, F0] <;> first | done | rfl | simp))))); (all_goals (rintro v m ⟨hR, hm⟩; subst hR; subst hm)); (all_goals (refine And.intro ?_ (And.intro ?_ (And.intro ?_ ?_)); iterate 3 (focus (first | rfl | (simp only [go_sem, F0]; done) | (simp [go_sem, look, F0]; done))))); (all_goals (try simp only [go_sem, F0])); (all_goals (try simp only [go_sem, F0])); (all_goals repeat' (first | apply And.intro | intro _)))
  | ((all_goals (refine call_hand false [(500000, 500000), (500001, 750001)] (fun k => k) (fun _ _ => rfl) ?_ (by decide) ?_ (mix_ow c (dhT 3 4) k hk has ps n cs hcs).told ?_; iterate 2 (focus (first | rfl | (simp only [go_sem, F0] <;> first | done | rfl | simp))))); (all_goals (rintro v m ⟨hR, hm⟩; subst hR; subst hm)); (all_goals (refine And.intro ?_ (And.intro ?_ (And.intro ?_ ?_)); iterate 3 (focus (first | rfl | (simp only [go_sem, F0]; done) | (simp [go_sem, look, F0]; done))))); (all_goals (try simp only [go_sem, F0])); (all_goals (try simp only [go_sem, F0])); (all_goals repeat' (first | apply And.intro | intro _)))
  | (refine condF_k ?_ ?_; focus (first | rfl | (simp [go_sem, F0]; done)))
  | (refine condT_k ?_ ?_; focus (first | rfl | (simp [go_sem, F0]; done)))
set_option maxHeartbeats 400000 in
set_option maxRecDepth 100000 in
theorem tok4_ow (c : TermD) (w : Int) (pk : Bool) (k : List PL) (hk : k.length = 4) (has : Bool) (ps : Int) (n : Nat) (hn : n ≤ 1000000) (cs : List PL) (hcs : cs.length = n * 4) :
 CtM Try.prog 38 [.w (.one (.p 500000 [])), .w (.one (.pl (.i w))), .w (.one (.pl (.i 4))), .w (.one (.pl (.b pk)))] [(500000, ⟨false, handC c k has ps (.s 750001 [] n 4)⟩), (750001, ⟨true, pls cs⟩)] (Told (fun v m => v = .tup [] ∧ m = [(500000, ⟨false, handC (kdfT 1 c (dhT 2 3)) (kdfT 2 c (dhT 2 3)).cells true ps (.s 750001 [] n 4)⟩), (750001, ⟨true, pls cs⟩)])) := by
 have hn1 : (n + 1) * 48 ≤ 140737488355328 := by omega
 have hn2 : (n + 1) * 4 = n * 4 + 4 := by omega
 have hi0 : (0 : Int) ≤ (n : Int) := by omega
 have hi1 : (n : Int) < ((n + 1 : Nat) : Int) := by omega
 have F0 := And.intro appL_assoc <| And.intro drop4 <| And.intro renL_pls <| And.intro leavesIn_pseg <| And.intro leavesIn_pls <| And.intro leafOut_pls <| And.intro killL_pls <| And.intro appL_nil <| And.intro lit_term <| And.intro cells_len <| And.intro pls_len <| And.intro pls_has <| And.intro handC.eq_1 <| And.intro hk <| And.intro hcs <| And.intro hn1 <| And.intro hn2 <| And.intro hi0 <| hi1
 refine CtM.k Try.func38 rfl Try.ntmps38 (congrArg Array.toList Try.results38) (by simp) fun w0 ro may fx => ?_
 refine top_k fun zZ zhZ => ?_
 iterate 21 first
  | refine zhK _ ?_
  | (refine sr_k fun zK zhK => ?_; simp only [go_sem, F0]; (repeat' (first | apply And.intro | intro _)))
  | refine block_k fun zB zbn zbx zbr zbi => ?_
  | (refine region_k fun zK zhK => ?_; simp only [go_sem, F0]; (repeat' (first | apply And.intro | intro _)))
  | (refine zbn _ ?_; clear zbn zbx zbr zbi)
  | (refine zhZ _ _ ?_; simp only [go_sem, F0]; (all_goals (refine told_2 ⟨rfl, rfl⟩ ?_ ?_ <;> simp [look, pls, cells_len])))
  | ((all_goals (refine call_hand false [] (fun k => k) (fun _ _ => rfl) ?_ (by decide) ?_ (dh_32.plain fun _ _ h => h).hands ?_; iterate 2 (focus (first | rfl | (simp only [go_sem, F0] <;> first | done | rfl | simp))))); (all_goals (rintro v m ⟨hR, hm⟩; subst hR; subst hm)); (all_goals (refine And.intro ?_ (And.intro ?_ (And.intro ?_ ?_)); iterate 3 (focus (first | rfl | (simp only [go_sem, F0]; done) | (simp [go_sem, look, F0]; done))))); (all_goals (try simp only [go_sem, F0])); (all_goals (try simp only [go_sem, F0])); (all_goals repeat' (first | apply And.intro | intro _)))
  | ((all_goals (refine call_hand false [(500000, 500000), (500001, 750001)] (fun k => k) (fun _ _ => rfl) ?_ (by decide) ?_ (mix_ow c (dhT 2 3) k hk has ps n cs hcs).told ?_; iterate 2 (focus (first | rfl | (simp only [go_sem, F0] <;> first | done | rfl | simp))))); (all_goals (rintro v m ⟨hR, hm⟩; subst hR; subst hm)); (all_goals (refine And.intro ?_ (And.intro ?_ (And.intro ?_ ?_)); iterate 3 (focus (first | rfl | (simp only [go_sem, F0]; done) | (simp [go_sem, look, F0]; done))))); (all_goals (try simp only [go_sem, F0])); (all_goals (try simp only [go_sem, F0])); (all_goals repeat' (first | apply And.intro | intro _)))
  | (refine condF_k ?_ ?_; focus (first | rfl | (simp [go_sem, F0]; done)))
  | (refine condT_k ?_ ?_; focus (first | rfl | (simp [go_sem, F0]; done)))
set_option maxHeartbeats 400000 in
set_option maxRecDepth 100000 in
theorem tok5_ow (c : TermD) (w : Int) (pk : Bool) (k : List PL) (hk : k.length = 4) (has : Bool) (ps : Int) (n : Nat) (hn : n ≤ 1000000) (cs : List PL) (hcs : cs.length = n * 4) :
 CtM Try.prog 38 [.w (.one (.p 500000 [])), .w (.one (.pl (.i w))), .w (.one (.pl (.i 5))), .w (.one (.pl (.b pk)))] [(500000, ⟨false, handC c k has ps (.s 750001 [] n 4)⟩), (750001, ⟨true, pls cs⟩)] (Told (fun v m => v = .tup [] ∧ m = [(500000, ⟨false, handC (kdfT 1 c (dhT 1 4)) (kdfT 2 c (dhT 1 4)).cells true ps (.s 750001 [] n 4)⟩), (750001, ⟨true, pls cs⟩)])) := by
 have hn1 : (n + 1) * 48 ≤ 140737488355328 := by omega
 have hn2 : (n + 1) * 4 = n * 4 + 4 := by omega
 have hi0 : (0 : Int) ≤ (n : Int) := by omega
 have hi1 : (n : Int) < ((n + 1 : Nat) : Int) := by omega
 have F0 := And.intro appL_assoc <| And.intro drop4 <| And.intro renL_pls <| And.intro leavesIn_pseg <| And.intro leavesIn_pls <| And.intro leafOut_pls <| And.intro killL_pls <| And.intro appL_nil <| And.intro lit_term <| And.intro cells_len <| And.intro pls_len <| And.intro pls_has <| And.intro handC.eq_1 <| And.intro hk <| And.intro hcs <| And.intro hn1 <| And.intro hn2 <| And.intro hi0 <| hi1
 refine CtM.k Try.func38 rfl Try.ntmps38 (congrArg Array.toList Try.results38) (by simp) fun w0 ro may fx => ?_
 refine top_k fun zZ zhZ => ?_
 iterate 24 first
  | refine zhK _ ?_
  | (refine sr_k fun zK zhK => ?_; simp only [go_sem, F0]; (repeat' (first | apply And.intro | intro _)))
  | refine block_k fun zB zbn zbx zbr zbi => ?_
  | (refine region_k fun zK zhK => ?_; simp only [go_sem, F0]; (repeat' (first | apply And.intro | intro _)))
  | (refine zbn _ ?_; clear zbn zbx zbr zbi)
  | (refine zhZ _ _ ?_; simp only [go_sem, F0]; (all_goals (refine told_2 ⟨rfl, rfl⟩ ?_ ?_ <;> simp [look, pls, cells_len])))
  | ((all_goals (refine call_hand false [] (fun k => k) (fun _ _ => rfl) ?_ (by decide) ?_ (dh_14.plain fun _ _ h => h).hands ?_; iterate 2 (focus (first | rfl | (simp only [go_sem, F0] <;> first | done | rfl | simp))))); (all_goals (rintro v m ⟨hR, hm⟩; subst hR; subst hm)); (all_goals (refine And.intro ?_ (And.intro ?_ (And.intro ?_ ?_)); iterate 3 (focus (first | rfl | (simp only [go_sem, F0]; done) | (simp [go_sem, look, F0]; done))))); (all_goals (try simp only [go_sem, F0])); (all_goals (try simp only [go_sem, F0])); (all_goals repeat' (first | apply And.intro | intro _)))
  | ((all_goals (refine call_hand false [(500000, 500000), (500001, 750001)] (fun k => k) (fun _ _ => rfl) ?_ (by decide) ?_ (mix_ow c (dhT 1 4) k hk has ps n cs hcs).told ?_; iterate 2 (focus (first | rfl | (simp only [go_sem, F0] <;> first | done | rfl | simp))))); (all_goals (rintro v m ⟨hR, hm⟩; subst hR; subst hm)); (all_goals (refine And.intro ?_ (And.intro ?_ (And.intro ?_ ?_)); iterate 3 (focus (first | rfl | (simp only [go_sem, F0]; done) | (simp [go_sem, look, F0]; done))))); (all_goals (try simp only [go_sem, F0])); (all_goals (try simp only [go_sem, F0])); (all_goals repeat' (first | apply And.intro | intro _)))
  | (refine condF_k ?_ ?_; focus (first | rfl | (simp [go_sem, F0]; done)))
  | (refine condT_k ?_ ?_; focus (first | rfl | (simp [go_sem, F0]; done)))
set_option maxHeartbeats 400000 in
set_option maxRecDepth 100000 in
theorem tok6_ow (c : TermD) (w : Int) (pk : Bool) (k : List PL) (hk : k.length = 4) (has : Bool) (ps : Int) (n : Nat) (hn : n ≤ 1000000) (cs : List PL) (hcs : cs.length = n * 4) :
 CtM Try.prog 38 [.w (.one (.p 500000 [])), .w (.one (.pl (.i w))), .w (.one (.pl (.i 6))), .w (.one (.pl (.b pk)))] [(500000, ⟨false, handC c k has ps (.s 750001 [] n 4)⟩), (750001, ⟨true, pls cs⟩)] (Told (fun v m => v = .tup [] ∧ m = [(500000, ⟨false, handC (kdfT 1 c (dhT 1 2)) (kdfT 2 c (dhT 1 2)).cells true ps (.s 750001 [] n 4)⟩), (750001, ⟨true, pls cs⟩)])) := by
 have hn1 : (n + 1) * 48 ≤ 140737488355328 := by omega
 have hn2 : (n + 1) * 4 = n * 4 + 4 := by omega
 have hi0 : (0 : Int) ≤ (n : Int) := by omega
 have hi1 : (n : Int) < ((n + 1 : Nat) : Int) := by omega
 have F0 := And.intro appL_assoc <| And.intro drop4 <| And.intro renL_pls <| And.intro leavesIn_pseg <| And.intro leavesIn_pls <| And.intro leafOut_pls <| And.intro killL_pls <| And.intro appL_nil <| And.intro lit_term <| And.intro cells_len <| And.intro pls_len <| And.intro pls_has <| And.intro handC.eq_1 <| And.intro hk <| And.intro hcs <| And.intro hn1 <| And.intro hn2 <| And.intro hi0 <| hi1
 refine CtM.k Try.func38 rfl Try.ntmps38 (congrArg Array.toList Try.results38) (by simp) fun w0 ro may fx => ?_
 refine top_k fun zZ zhZ => ?_
 iterate 27 first
  | refine zhK _ ?_
  | (refine sr_k fun zK zhK => ?_; simp only [go_sem, F0]; (repeat' (first | apply And.intro | intro _)))
  | refine block_k fun zB zbn zbx zbr zbi => ?_
  | (refine region_k fun zK zhK => ?_; simp only [go_sem, F0]; (repeat' (first | apply And.intro | intro _)))
  | (refine zbn _ ?_; clear zbn zbx zbr zbi)
  | (refine zhZ _ _ ?_; simp only [go_sem, F0]; (all_goals (refine told_2 ⟨rfl, rfl⟩ ?_ ?_ <;> simp [look, pls, cells_len])))
  | ((all_goals (refine call_hand false [] (fun k => k) (fun _ _ => rfl) ?_ (by decide) ?_ (dh_12.plain fun _ _ h => h).hands ?_; iterate 2 (focus (first | rfl | (simp only [go_sem, F0] <;> first | done | rfl | simp))))); (all_goals (rintro v m ⟨hR, hm⟩; subst hR; subst hm)); (all_goals (refine And.intro ?_ (And.intro ?_ (And.intro ?_ ?_)); iterate 3 (focus (first | rfl | (simp only [go_sem, F0]; done) | (simp [go_sem, look, F0]; done))))); (all_goals (try simp only [go_sem, F0])); (all_goals (try simp only [go_sem, F0])); (all_goals repeat' (first | apply And.intro | intro _)))
  | ((all_goals (refine call_hand false [(500000, 500000), (500001, 750001)] (fun k => k) (fun _ _ => rfl) ?_ (by decide) ?_ (mix_ow c (dhT 1 2) k hk has ps n cs hcs).told ?_; iterate 2 (focus (first | rfl | (simp only [go_sem, F0] <;> first | done | rfl | simp))))); (all_goals (rintro v m ⟨hR, hm⟩; subst hR; subst hm)); (all_goals (refine And.intro ?_ (And.intro ?_ (And.intro ?_ ?_)); iterate 3 (focus (first | rfl | (simp only [go_sem, F0]; done) | (simp [go_sem, look, F0]; done))))); (all_goals (try simp only [go_sem, F0])); (all_goals (try simp only [go_sem, F0])); (all_goals repeat' (first | apply And.intro | intro _)))
  | (refine condF_k ?_ ?_; focus (first | rfl | (simp [go_sem, F0]; done)))
  | (refine condT_k ?_ ?_; focus (first | rfl | (simp [go_sem, F0]; done)))
set_option maxHeartbeats 400000 in
set_option maxRecDepth 100000 in
theorem tok7_ow (c : TermD) (w : Int) (pk : Bool) (k : List PL) (hk : k.length = 4) (has : Bool) (ps : Int) (hps : 0 ≤ ps ∧ ps ≤ 1000) (n : Nat) (hn : n ≤ 1000000) (cs : List PL) (hcs : cs.length = n * 4) :
 CtM Try.prog 38 [.w (.one (.p 500000 [])), .w (.one (.pl (.i w))), .w (.one (.pl (.i 7))), .w (.one (.pl (.b pk)))] [(500000, ⟨false, handC c k has ps (.s 750001 [] n 4)⟩), (750001, ⟨true, pls cs⟩)] (Told (fun v m => v = .tup [] ∧ m = [(500000, ⟨false, handC (kdfT 1 c (atomT (10 + ps))) (kdfT 2 c (atomT (10 + ps))).cells true (ps + 1) (.s 750001 [] n 4)⟩), (750001, ⟨true, pls cs⟩)])) := by
 have hn1 : (n + 1) * 48 ≤ 140737488355328 := by omega
 have hn2 : (n + 1) * 4 = n * 4 + 4 := by omega
 have hi0 : (0 : Int) ≤ (n : Int) := by omega
 have hi1 : (n : Int) < ((n + 1 : Nat) : Int) := by omega
 have hp1 : Go.RowKit.wrap64 (10 + ps) = 10 + ps := w64 (by omega)
 have hp2 : Go.RowKit.wrap64 (ps + 1) = ps + 1 := w64 (by omega)
 have F0 := And.intro appL_assoc <| And.intro drop4 <| And.intro renL_pls <| And.intro leavesIn_pseg <| And.intro leavesIn_pls <| And.intro leafOut_pls <| And.intro killL_pls <| And.intro appL_nil <| And.intro lit_term <| And.intro cells_len <| And.intro pls_len <| And.intro pls_has <| And.intro handC.eq_1 <| And.intro hk <| And.intro hcs <| And.intro hn1 <| And.intro hn2 <| And.intro hi0 <| And.intro hi1 <| And.intro hp1 <| hp2
 refine CtM.k Try.func38 rfl Try.ntmps38 (congrArg Array.toList Try.results38) (by simp) fun w0 ro may fx => ?_
 refine top_k fun zZ zhZ => ?_
 iterate 32 first
  | refine zhK _ ?_
  | (refine sr_k fun zK zhK => ?_; simp only [go_sem, F0]; (repeat' (first | apply And.intro | intro _)))
  | refine block_k fun zB zbn zbx zbr zbi => ?_
  | (refine region_k fun zK zhK => ?_; simp only [go_sem, F0]; (repeat' (first | apply And.intro | intro _)))
  | (refine zbn _ ?_; clear zbn zbx zbr zbi)
  | (refine zhZ _ _ ?_; simp only [go_sem, F0]; (all_goals (refine told_2 ⟨rfl, rfl⟩ ?_ ?_ <;> simp [look, pls, cells_len])))
  | ((all_goals (refine call_hand false [] (fun k => k) (fun _ _ => rfl) ?_ (by decide) ?_ ((atom_ (10 + ps)).plain fun _ _ h => h).hands ?_; iterate 2 (focus (first | rfl | (simp only [go_sem, F0] <;> first | done | rfl | simp))))); (all_goals (rintro v m ⟨hR, hm⟩; subst hR; subst hm)); (all_goals (refine And.intro ?_ (And.intro ?_ (And.intro ?_ ?_)); iterate 3 (focus (first | rfl | (simp only [go_sem, F0]; done) | (simp [go_sem, look, F0]; done))))); (all_goals (try simp only [go_sem, F0])); (all_goals (try simp only [go_sem, F0])); (all_goals repeat' (first | apply And.intro | intro _)))
  | ((all_goals (refine call_hand false [(500000, 500000), (500001, 750001)] (fun k => k) (fun _ _ => rfl) ?_ (by decide) ?_ (mix_ow c (atomT (10 + ps)) k hk has ps n cs hcs).told ?_; iterate 2 (focus (first | rfl | (simp only [go_sem, F0] <;> first | done | rfl | simp))))); (all_goals (rintro v m ⟨hR, hm⟩; subst hR; subst hm)); (all_goals (refine And.intro ?_ (And.intro ?_ (And.intro ?_ ?_)); iterate 3 (focus (first | rfl | (simp only [go_sem, F0]; done) | (simp [go_sem, look, F0]; done))))); (all_goals (try simp only [go_sem, F0])); (all_goals (try simp only [go_sem, F0])); (all_goals repeat' (first | apply And.intro | intro _)))
  | (refine condF_k ?_ ?_; focus (first | rfl | (simp [go_sem, F0]; done)))
  | (refine condT_k ?_ ?_; focus (first | rfl | (simp [go_sem, F0]; done)))
end Go.Sy

