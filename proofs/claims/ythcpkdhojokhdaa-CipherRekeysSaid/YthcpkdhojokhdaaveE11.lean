/- Walks: five parts and five parts. -/
import Derived.Test.YthcpkdhojokhdaaveE7
set_option linter.unusedVariables false
set_option linter.unusedSimpArgs false
namespace Go.Sy
open Go.Proofs
attribute [local irreducible] atCall HT runOps runD onC onE onO onG goV goA goS onSt onGuard
theorem ic0 : ((0 : Nat) : Int) = 0 := rfl
theorem ic1 : ((1 : Nat) : Int) = 1 := rfl
theorem ic2 : ((2 : Nat) : Int) = 2 := rfl
theorem ic3 : ((3 : Nat) : Int) = 3 := rfl
theorem ic4 : ((4 : Nat) : Int) = 4 := rfl
theorem ic5 : ((5 : Nat) : Int) = 5 := rfl
def mulN (p r : P5) : Nat → List L
 | 0 => [.pl (.u64 (0)), .pl (.u64 (0)), .pl (.u64 (0)), .pl (.u64 (0)), .pl (.u64 (0))]
 | 1 => [.pl (.u64 (0 + p.a * r.a)), .pl (.u64 (0 + p.a * r.b)), .pl (.u64 (0 + p.a * r.c)), .pl (.u64 (0 + p.a * r.d)), .pl (.u64 (0 + p.a * r.e))]
 | 2 => [.pl (.u64 (0 + p.a * r.a + p.b * r.e * 5)), .pl (.u64 (0 + p.a * r.b + p.b * r.a)), .pl (.u64 (0 + p.a * r.c + p.b * r.b)), .pl (.u64 (0 + p.a * r.d + p.b * r.c)), .pl (.u64 (0 + p.a * r.e + p.b * r.d))]
 | 3 => [.pl (.u64 (0 + p.a * r.a + p.b * r.e * 5 + p.c * r.d * 5)), .pl (.u64 (0 + p.a * r.b + p.b * r.a + p.c * r.e * 5)), .pl (.u64 (0 + p.a * r.c + p.b * r.b + p.c * r.a)), .pl (.u64 (0 + p.a * r.d + p.b * r.c + p.c * r.b)), .pl (.u64 (0 + p.a * r.e + p.b * r.d + p.c * r.c))]
 | 4 => [.pl (.u64 (0 + p.a * r.a + p.b * r.e * 5 + p.c * r.d * 5 + p.d * r.c * 5)), .pl (.u64 (0 + p.a * r.b + p.b * r.a + p.c * r.e * 5 + p.d * r.d * 5)), .pl (.u64 (0 + p.a * r.c + p.b * r.b + p.c * r.a + p.d * r.e * 5)), .pl (.u64 (0 + p.a * r.d + p.b * r.c + p.c * r.b + p.d * r.a)), .pl (.u64 (0 + p.a * r.e + p.b * r.d + p.c * r.c + p.d * r.b))]
 | _ => (mul5 p r).ls
set_option maxHeartbeats 3200000 in
set_option maxRecDepth 100000 in
theorem ptimes_ (p r : P5) :
 Ct Try.prog 63 [.w (.agg [.pl (.u64 p.a), .pl (.u64 p.b), .pl (.u64 p.c), .pl (.u64 p.d), .pl (.u64 p.e)]), .w (.agg [.pl (.u64 r.a), .pl (.u64 r.b), .pl (.u64 r.c), .pl (.u64 r.d), .pl (.u64 r.e)])] (fun v m => v = .w (.agg (mul5 p r).carried.ls)) := by
 refine Ct.k Try.func63 rfl Try.ntmps63 (congrArg Array.toList Try.results63) (by simp) fun w0 ro => ?_
 refine top_k fun zZ zhZ => ?_
 iterate 8 first
  | (refine sr_k fun zK zhK => ?_; simp only [go_sem, P5.ls, ic0, ic1, ic2, ic3, ic4, ic5, Int.reduceMod, Int.reduceTMod, Int.toNat_one]; (repeat' (first | apply And.intro | intro _)))
  | refine zhK _ ?_
  | refine block_k fun zB zbn zbx zbr zbi => ?_
  | refine seq_k fun zN zM zhN zhM => ?_
 refine ht_dropE [0, 1, 2] ?_
 simp only [dropE_mk, fgt_nil, fgt_cons, List.contains_cons, List.contains_nil, Nat.reduceBEq, beq_self_eq_true, Bool.or_false, Bool.or_true, Bool.true_or, Bool.false_or, Bool.false_eq_true, reduceIte]
 refine loop_k (fun y => [(12, .w (.one (.pl (.i ((y.1 : Nat) : Int)))))]) (fun y => [(5, ⟨false, mulN p r y.1⟩)]) (fun y => 5 - y.1) (⟨0, by omega⟩ : {y : Nat // y ≤ 5}) ?_ ?_ ?_
 · (simp only [go_sem, leX, List.cons_append, List.nil_append]; try simp)
 · (simp only [mulN, go_sem, leX, List.cons_append, List.nil_append]; try simp [mulN, leX, look])
 intro yy zN zM zhN zhM
 simp only [List.cons_append, List.nil_append]
 obtain ⟨y, hy⟩ := yy
 have hd : y = 0 ∨ y = 1 ∨ y = 2 ∨ y = 3 ∨ y = 4 ∨ y = 5 := by omega
 rcases hd with rfl | rfl | rfl | rfl | rfl | rfl
 · simp only [mulN]
   iterate 157 first
    | (refine rnd_forget (x := .seq (.region 6 _ _) _) [8, 9, 10, 18, 19, 20, 21, 22, 23, 24, 25, 26, 27, 28, 29, 30, 31, 32, 33, 34, 35, 36, 37, 38, 39] ?_; simp only [go_sem, St.forget, fgt]; refine rnd_k fun zN zM zhN zhM => ?_)
    | refine zhK _ ?_
    | (refine sr_k fun zK zhK => ?_; simp only [go_sem, P5.ls, ic0, ic1, ic2, ic3, ic4, ic5, Int.reduceMod, Int.reduceTMod, Int.toNat_one]; (repeat' (first | apply And.intro | intro _)))
    | (refine zhN _ ?_; clear zhN zhM)
    | refine skip_k ?_
    | (refine region_k fun zK zhK => ?_; simp only [go_sem, P5.ls, ic0, ic1, ic2, ic3, ic4, ic5, Int.reduceMod, Int.reduceTMod, Int.toNat_one]; (repeat' (first | apply And.intro | intro _)))
    | refine block_k fun zB zbn zbx zbr zbi => ?_
    | (refine zbn _ ?_; clear zbn zbx zbr zbi)
    | (refine zhM _ _ ?_; clear zhN zhM)
    | refine rounds_k (x := .seq (.region 6 _ _) _) 6 ?_
    | refine rnd_k fun zN zM zhN zhM => ?_
    | refine exit_k ?_
    | (refine zbx _ ?_; clear zbn zbx zbr zbi)
    | refine seq_k fun zN zM zhN zhM => ?_
    | (refine condT_k ?_ ?_; focus (first | rfl | (simp [go_sem, P5.ls, ic0, ic1, ic2, ic3, ic4, ic5, Int.reduceMod, Int.reduceTMod, Int.toNat_one]; done)))
    | (refine condF_k ?_ ?_; focus (first | rfl | (simp [go_sem, P5.ls, ic0, ic1, ic2, ic3, ic4, ic5, Int.reduceMod, Int.reduceTMod, Int.toNat_one]; done)))
   refine zhN ⟨1, by omega⟩ _ ?_ ?_ ?_
   · (show 5 - (0 + 1) < 5 - 0; omega)
   · (simp only [go_sem, leX, List.cons_append, List.nil_append]; try simp)
   · (simp only [mulN, go_sem, leX, List.cons_append, List.nil_append]; first | done | (simp [mulN, mul5, P5.ls, leX, look]; done) | rfl)
 · simp only [mulN]
   iterate 158 first
    | (refine rnd_forget (x := .seq (.region 6 _ _) _) [8, 9, 10, 18, 19, 20, 21, 22, 23, 24, 25, 26, 27, 28, 29, 30, 31, 32, 33, 34, 35, 36, 37, 38, 39] ?_; simp only [go_sem, St.forget, fgt]; refine rnd_k fun zN zM zhN zhM => ?_)
    | refine zhK _ ?_
    | (refine sr_k fun zK zhK => ?_; simp only [go_sem, P5.ls, ic0, ic1, ic2, ic3, ic4, ic5, Int.reduceMod, Int.reduceTMod, Int.toNat_one]; (repeat' (first | apply And.intro | intro _)))
    | (refine zhN _ ?_; clear zhN zhM)
    | (refine region_k fun zK zhK => ?_; simp only [go_sem, P5.ls, ic0, ic1, ic2, ic3, ic4, ic5, Int.reduceMod, Int.reduceTMod, Int.toNat_one]; (repeat' (first | apply And.intro | intro _)))
    | refine skip_k ?_
    | refine block_k fun zB zbn zbx zbr zbi => ?_
    | (refine zbn _ ?_; clear zbn zbx zbr zbi)
    | (refine zhM _ _ ?_; clear zhN zhM)
    | refine rounds_k (x := .seq (.region 6 _ _) _) 6 ?_
    | refine rnd_k fun zN zM zhN zhM => ?_
    | refine exit_k ?_
    | (refine zbx _ ?_; clear zbn zbx zbr zbi)
    | refine seq_k fun zN zM zhN zhM => ?_
    | (refine condT_k ?_ ?_; focus (first | rfl | (simp [go_sem, P5.ls, ic0, ic1, ic2, ic3, ic4, ic5, Int.reduceMod, Int.reduceTMod, Int.toNat_one]; done)))
    | (refine condF_k ?_ ?_; focus (first | rfl | (simp [go_sem, P5.ls, ic0, ic1, ic2, ic3, ic4, ic5, Int.reduceMod, Int.reduceTMod, Int.toNat_one]; done)))
   refine zhN ⟨2, by omega⟩ _ ?_ ?_ ?_
   · (show 5 - (1 + 1) < 5 - 1; omega)
   · (simp only [go_sem, leX, List.cons_append, List.nil_append]; try simp)
   · (simp only [mulN, go_sem, leX, List.cons_append, List.nil_append]; first | done | (simp [mulN, mul5, P5.ls, leX, look]; done) | rfl)
 · simp only [mulN]
   iterate 159 first
    | (refine rnd_forget (x := .seq (.region 6 _ _) _) [8, 9, 10, 18, 19, 20, 21, 22, 23, 24, 25, 26, 27, 28, 29, 30, 31, 32, 33, 34, 35, 36, 37, 38, 39] ?_; simp only [go_sem, St.forget, fgt]; refine rnd_k fun zN zM zhN zhM => ?_)
    | refine zhK _ ?_
    | (refine sr_k fun zK zhK => ?_; simp only [go_sem, P5.ls, ic0, ic1, ic2, ic3, ic4, ic5, Int.reduceMod, Int.reduceTMod, Int.toNat_one]; (repeat' (first | apply And.intro | intro _)))
    | (refine zhN _ ?_; clear zhN zhM)
    | (refine region_k fun zK zhK => ?_; simp only [go_sem, P5.ls, ic0, ic1, ic2, ic3, ic4, ic5, Int.reduceMod, Int.reduceTMod, Int.toNat_one]; (repeat' (first | apply And.intro | intro _)))
    | refine skip_k ?_
    | refine block_k fun zB zbn zbx zbr zbi => ?_
    | (refine zbn _ ?_; clear zbn zbx zbr zbi)
    | (refine zhM _ _ ?_; clear zhN zhM)
    | refine rounds_k (x := .seq (.region 6 _ _) _) 6 ?_
    | refine rnd_k fun zN zM zhN zhM => ?_
    | refine exit_k ?_
    | (refine zbx _ ?_; clear zbn zbx zbr zbi)
    | refine seq_k fun zN zM zhN zhM => ?_
    | (refine condT_k ?_ ?_; focus (first | rfl | (simp [go_sem, P5.ls, ic0, ic1, ic2, ic3, ic4, ic5, Int.reduceMod, Int.reduceTMod, Int.toNat_one]; done)))
    | (refine condF_k ?_ ?_; focus (first | rfl | (simp [go_sem, P5.ls, ic0, ic1, ic2, ic3, ic4, ic5, Int.reduceMod, Int.reduceTMod, Int.toNat_one]; done)))
   refine zhN ⟨3, by omega⟩ _ ?_ ?_ ?_
   · (show 5 - (2 + 1) < 5 - 2; omega)
   · (simp only [go_sem, leX, List.cons_append, List.nil_append]; try simp)
   · (simp only [mulN, go_sem, leX, List.cons_append, List.nil_append]; first | done | (simp [mulN, mul5, P5.ls, leX, look]; done) | rfl)
 · simp only [mulN]
   iterate 160 first
    | (refine rnd_forget (x := .seq (.region 6 _ _) _) [8, 9, 10, 18, 19, 20, 21, 22, 23, 24, 25, 26, 27, 28, 29, 30, 31, 32, 33, 34, 35, 36, 37, 38, 39] ?_; simp only [go_sem, St.forget, fgt]; refine rnd_k fun zN zM zhN zhM => ?_)
    | refine zhK _ ?_
    | (refine sr_k fun zK zhK => ?_; simp only [go_sem, P5.ls, ic0, ic1, ic2, ic3, ic4, ic5, Int.reduceMod, Int.reduceTMod, Int.toNat_one]; (repeat' (first | apply And.intro | intro _)))
    | (refine zhN _ ?_; clear zhN zhM)
    | (refine region_k fun zK zhK => ?_; simp only [go_sem, P5.ls, ic0, ic1, ic2, ic3, ic4, ic5, Int.reduceMod, Int.reduceTMod, Int.toNat_one]; (repeat' (first | apply And.intro | intro _)))
    | refine skip_k ?_
    | refine block_k fun zB zbn zbx zbr zbi => ?_
    | (refine zbn _ ?_; clear zbn zbx zbr zbi)
    | (refine zhM _ _ ?_; clear zhN zhM)
    | refine rounds_k (x := .seq (.region 6 _ _) _) 6 ?_
    | refine rnd_k fun zN zM zhN zhM => ?_
    | refine exit_k ?_
    | (refine zbx _ ?_; clear zbn zbx zbr zbi)
    | refine seq_k fun zN zM zhN zhM => ?_
    | (refine condT_k ?_ ?_; focus (first | rfl | (simp [go_sem, P5.ls, ic0, ic1, ic2, ic3, ic4, ic5, Int.reduceMod, Int.reduceTMod, Int.toNat_one]; done)))
    | (refine condF_k ?_ ?_; focus (first | rfl | (simp [go_sem, P5.ls, ic0, ic1, ic2, ic3, ic4, ic5, Int.reduceMod, Int.reduceTMod, Int.toNat_one]; done)))
   refine zhN ⟨4, by omega⟩ _ ?_ ?_ ?_
   · (show 5 - (3 + 1) < 5 - 3; omega)
   · (simp only [go_sem, leX, List.cons_append, List.nil_append]; try simp)
   · (simp only [mulN, go_sem, leX, List.cons_append, List.nil_append]; first | done | (simp [mulN, mul5, P5.ls, leX, look]; done) | rfl)
 · simp only [mulN]
   iterate 161 first
    | (refine rnd_forget (x := .seq (.region 6 _ _) _) [8, 9, 10, 18, 19, 20, 21, 22, 23, 24, 25, 26, 27, 28, 29, 30, 31, 32, 33, 34, 35, 36, 37, 38, 39] ?_; simp only [go_sem, St.forget, fgt]; refine rnd_k fun zN zM zhN zhM => ?_)
    | refine zhK _ ?_
    | (refine sr_k fun zK zhK => ?_; simp only [go_sem, P5.ls, ic0, ic1, ic2, ic3, ic4, ic5, Int.reduceMod, Int.reduceTMod, Int.toNat_one]; (repeat' (first | apply And.intro | intro _)))
    | (refine zhN _ ?_; clear zhN zhM)
    | (refine region_k fun zK zhK => ?_; simp only [go_sem, P5.ls, ic0, ic1, ic2, ic3, ic4, ic5, Int.reduceMod, Int.reduceTMod, Int.toNat_one]; (repeat' (first | apply And.intro | intro _)))
    | refine skip_k ?_
    | refine block_k fun zB zbn zbx zbr zbi => ?_
    | (refine zbn _ ?_; clear zbn zbx zbr zbi)
    | (refine zhM _ _ ?_; clear zhN zhM)
    | refine rounds_k (x := .seq (.region 6 _ _) _) 6 ?_
    | refine rnd_k fun zN zM zhN zhM => ?_
    | refine exit_k ?_
    | (refine zbx _ ?_; clear zbn zbx zbr zbi)
    | refine seq_k fun zN zM zhN zhM => ?_
    | (refine condT_k ?_ ?_; focus (first | rfl | (simp [go_sem, P5.ls, ic0, ic1, ic2, ic3, ic4, ic5, Int.reduceMod, Int.reduceTMod, Int.toNat_one]; done)))
    | (refine condF_k ?_ ?_; focus (first | rfl | (simp [go_sem, P5.ls, ic0, ic1, ic2, ic3, ic4, ic5, Int.reduceMod, Int.reduceTMod, Int.toNat_one]; done)))
   refine zhN ⟨5, by omega⟩ _ ?_ ?_ ?_
   · (show 5 - (4 + 1) < 5 - 4; omega)
   · (simp only [go_sem, leX, List.cons_append, List.nil_append]; try simp)
   · (simp only [mulN, go_sem, leX, List.cons_append, List.nil_append]; first | done | (simp [mulN, mul5, P5.ls, leX, look]; done) | rfl)
 · simp only [mulN]
   refine sr_k fun zK zhK => ?_
   simp only [go_sem, P5.ls, ic0, ic1, ic2, ic3, ic4, ic5, Int.reduceMod, Int.reduceTMod, Int.toNat_one]
   repeat' (first | apply And.intro | intro _)
   refine zhK _ ?_
   refine seq_k fun zN zM zhN zhM => ?_
   (refine condF_k ?_ ?_; focus (first | rfl | (simp [go_sem, P5.ls, ic0, ic1, ic2, ic3, ic4, ic5, Int.reduceMod, Int.reduceTMod, Int.toNat_one]; done)))
   refine exit_k ?_
   refine zhM _ _ ?_; clear zhN zhM
   refine zhM _ _ ?_; clear zhN zhM
   refine zbx _ ?_; clear zbn zbx zbr zbi
   refine zhN _ ?_; clear zhN zhM
   refine sr_k fun zK zhK => ?_
   simp only [go_sem, P5.ls, ic0, ic1, ic2, ic3, ic4, ic5, Int.reduceMod, Int.reduceTMod, Int.toNat_one]
   repeat' (first | apply And.intro | intro _)
   all_goals (refine call_view (fun k => k) (fun _ _ => rfl) ?_ ((carried_of (mul5 p r)).plain fun _ _ h => h) ?_; focus (first | rfl | (simp only [go_sem, P5.ls, ic0, ic1, ic2, ic3, ic4, ic5, Int.reduceMod, Int.reduceTMod, Int.toNat_one] <;> rfl)))
   all_goals (rintro v m ⟨hR, hm⟩; subst hR; subst hm)
   all_goals refine And.intro (by first | rfl | simp only [go_sem, P5.ls, ic0, ic1, ic2, ic3, ic4, ic5, Int.reduceMod, Int.reduceTMod, Int.toNat_one]) (And.intro (by first | rfl | simp only [go_sem, P5.ls, ic0, ic1, ic2, ic3, ic4, ic5, Int.reduceMod, Int.reduceTMod, Int.toNat_one]) ?_)
   all_goals simp only [go_sem, P5.ls, ic0, ic1, ic2, ic3, ic4, ic5, Int.reduceMod, Int.reduceTMod, Int.toNat_one]
   all_goals repeat' (first | apply And.intro | intro _)
   refine zhK _ ?_
   refine ret_k ?_
   refine zhZ _ _ ?_
   simp only [go_sem, P5.ls, ic0, ic1, ic2, ic3, ic4, ic5, Int.reduceMod, Int.reduceTMod, Int.toNat_one]
   all_goals (first | rfl | (simp only [P5.ls]; done) | trace_state)
end Go.Sy

