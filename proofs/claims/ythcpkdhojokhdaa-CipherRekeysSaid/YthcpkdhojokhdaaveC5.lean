/- Walks: the document's rounds. -/
import Derived.Test.YthcpkdhojokhdaaveC4
set_option linter.unusedVariables false
set_option linter.unusedSimpArgs false
namespace Go.Sy
open Go.Proofs
attribute [local irreducible] atCall HT runOps runD onC onE onO onG goV goA goS onSt onGuard
def W16.sh (w : W16) : W16 := ⟨w.x0, w.x1, w.x2, w.x3, w.x5, w.x6, w.x7, w.x4, w.x10, w.x11, w.x8, w.x9, w.x15, w.x12, w.x13, w.x14⟩
def W16.unsh (w : W16) : W16 := ⟨w.x0, w.x1, w.x2, w.x3, w.x7, w.x4, w.x5, w.x6, w.x10, w.x11, w.x8, w.x9, w.x13, w.x14, w.x15, w.x12⟩
theorem sh_diag (w : W16) : w.sh.col.unsh = w.diag := rfl
set_option maxHeartbeats 1600000 in
set_option maxRecDepth 100000 in
theorem round_ (x0 x1 x2 x3 x4 x5 x6 x7 x8 x9 x10 x11 x12 x13 x14 x15 : UInt32) :
 Ct Try.prog 50 [.w (.agg [.pl (.u32 x0), .pl (.u32 x1), .pl (.u32 x2), .pl (.u32 x3), .pl (.u32 x4), .pl (.u32 x5), .pl (.u32 x6), .pl (.u32 x7), .pl (.u32 x8), .pl (.u32 x9), .pl (.u32 x10), .pl (.u32 x11), .pl (.u32 x12), .pl (.u32 x13), .pl (.u32 x14), .pl (.u32 x15)])] (fun v m => v = .w (.agg (⟨x0, x1, x2, x3, x4, x5, x6, x7, x8, x9, x10, x11, x12, x13, x14, x15⟩ : W16).col.ls)) := by
 refine Ct.k Try.func50 rfl Try.ntmps50 (congrArg Array.toList Try.results50) (by simp) fun w0 ro => ?_
 refine top_k fun zZ zhZ => ?_
 iterate 181 first
  | (refine rnd_forget (x := .seq (.region 2 _ _) _) [3, 4, 5, 6, 7, 9, 10, 11, 12, 13, 14, 15, 16, 17, 18, 19, 20, 21, 22, 23, 24, 25, 26, 27, 28, 29, 30, 31, 32, 33, 34, 35, 36, 37, 38, 39, 40, 41, 42, 43, 44, 45, 46, 47, 48, 49, 50, 51, 52, 53, 54, 55, 56, 57, 58, 59, 60, 61, 62, 63, 64, 65, 66, 67, 68, 69, 70, 71] ?_; simp only [go_sem, St.forget, fgt]; refine rnd_k fun zN zM zhN zhM => ?_)
  | refine zhK _ ?_
  | (refine sr_k fun zK zhK => ?_; simp only [go_sem, Int.toNat_one]; (repeat' (first | apply And.intro | intro _)))
  | (refine zhN _ ?_; clear zhN zhM)
  | (refine region_k fun zK zhK => ?_; simp only [go_sem, Int.toNat_one]; (repeat' (first | apply And.intro | intro _)))
  | refine block_k fun zB zbn zbx zbr zbi => ?_
  | refine skip_k ?_
  | (refine sd_k (id := 4) [11, 12, 13, 14, 15, 16, 17, 18, 19, 20, 21, 22, 23, 24, 25, 26, 4, 5, 6, 7] [0, 0, 3, 7, 0, 0, 48, 112, 0, 0, 768, 1792, 0, 0, 12288, 28672, 15, 65791, 200703, 524287] [] mixed (by kernel_rfl) (by simp only [go_sem]) fun zK zhK => ?_; simp only [go_sem, Int.toNat_one]; (repeat' (first | apply And.intro | intro _)))
  | refine zhK _ _ trivial ?_
  | (refine zbn _ ?_; clear zbn zbx zbr zbi)
  | (refine zhM _ _ ?_; clear zhN zhM)
  | refine rounds_k (x := .seq (.region 2 _ _) _) 5 ?_
  | refine rnd_k fun zN zM zhN zhM => ?_
  | refine exit_k ?_
  | (refine zbx _ ?_; clear zbn zbx zbr zbi)
  | refine ret_k ?_
  | (refine zhZ _ _ ?_; simp only [go_sem, Int.toNat_one]; (all_goals (rfl)))
  | ((all_goals refine call_view (fun k => k) (fun _ _ => rfl) (by first | rfl | (simp only [go_sem, Int.toNat_one] <;> rfl)) ((left_16 _).plain fun _ _ h => h) ?_); (all_goals (rintro v m ⟨hR, hm⟩; subst hR; subst hm)); (all_goals refine And.intro (by first | rfl | simp only [go_sem, Int.toNat_one]) (And.intro (by first | rfl | simp only [go_sem, Int.toNat_one]) ?_)); (all_goals simp only [go_sem, Int.toNat_one]); (all_goals repeat' (first | apply And.intro | intro _)))
  | ((all_goals refine call_view (fun k => k) (fun _ _ => rfl) (by first | rfl | (simp only [go_sem, Int.toNat_one] <;> rfl)) ((left_12 _).plain fun _ _ h => h) ?_); (all_goals (rintro v m ⟨hR, hm⟩; subst hR; subst hm)); (all_goals refine And.intro (by first | rfl | simp only [go_sem, Int.toNat_one]) (And.intro (by first | rfl | simp only [go_sem, Int.toNat_one]) ?_)); (all_goals simp only [go_sem, Int.toNat_one]); (all_goals repeat' (first | apply And.intro | intro _)))
  | ((all_goals refine call_view (fun k => k) (fun _ _ => rfl) (by first | rfl | (simp only [go_sem, Int.toNat_one] <;> rfl)) ((left_8 _).plain fun _ _ h => h) ?_); (all_goals (rintro v m ⟨hR, hm⟩; subst hR; subst hm)); (all_goals refine And.intro (by first | rfl | simp only [go_sem, Int.toNat_one]) (And.intro (by first | rfl | simp only [go_sem, Int.toNat_one]) ?_)); (all_goals simp only [go_sem, Int.toNat_one]); (all_goals repeat' (first | apply And.intro | intro _)))
  | ((all_goals refine call_view (fun k => k) (fun _ _ => rfl) (by first | rfl | (simp only [go_sem, Int.toNat_one] <;> rfl)) ((left_7 _).plain fun _ _ h => h) ?_); (all_goals (rintro v m ⟨hR, hm⟩; subst hR; subst hm)); (all_goals refine And.intro (by first | rfl | simp only [go_sem, Int.toNat_one]) (And.intro (by first | rfl | simp only [go_sem, Int.toNat_one]) ?_)); (all_goals simp only [go_sem, Int.toNat_one]); (all_goals repeat' (first | apply And.intro | intro _)))
  | refine seq_k fun zN zM zhN zhM => ?_
  | (refine condT_k ?_ ?_; focus (first | rfl | (simp [go_sem, Int.toNat_one]; done)))
  | (refine condF_k ?_ ?_; focus (first | rfl | (simp [go_sem, Int.toNat_one]; done)))
set_option maxHeartbeats 1600000 in
set_option maxRecDepth 100000 in
theorem shifted_1 (x0 x1 x2 x3 x4 x5 x6 x7 x8 x9 x10 x11 x12 x13 x14 x15 : UInt32) :
 Ct Try.prog 49 [.w (.agg [.pl (.u32 x0), .pl (.u32 x1), .pl (.u32 x2), .pl (.u32 x3), .pl (.u32 x4), .pl (.u32 x5), .pl (.u32 x6), .pl (.u32 x7), .pl (.u32 x8), .pl (.u32 x9), .pl (.u32 x10), .pl (.u32 x11), .pl (.u32 x12), .pl (.u32 x13), .pl (.u32 x14), .pl (.u32 x15)]), .w (.one (.pl (.i 1)))] (fun v m => v = .w (.agg (⟨x0, x1, x2, x3, x4, x5, x6, x7, x8, x9, x10, x11, x12, x13, x14, x15⟩ : W16).sh.ls)) := by
 refine Ct.k Try.func49 rfl Try.ntmps49 (congrArg Array.toList Try.results49) (by simp) fun w0 ro => ?_
 refine top_k fun zZ zhZ => ?_
 iterate 427 first
  | (refine rnd_forget (x := .seq (.region 6 _ _) _) [7, 12, 13, 14, 15, 16, 17, 18, 19, 20, 21, 22, 23, 24, 25, 26, 27, 28, 29] ?_; simp only [go_sem, St.forget, fgt]; refine rnd_k fun zN zM zhN zhM => ?_)
  | (refine rnd_forget (x := .seq (.region 3 _ _) _) [6, 7, 9, 10, 11, 12, 13, 14, 15, 16, 17, 18, 19, 20, 21, 22, 23, 24, 25, 26, 27, 28, 29, 30] ?_; simp only [go_sem, St.forget, fgt]; refine rnd_k fun zN zM zhN zhM => ?_)
  | refine zhK _ ?_
  | (refine zhN _ ?_; clear zhN zhM)
  | (refine sr_k fun zK zhK => ?_; simp only [go_sem, Int.reduceTMod, Int.toNat_one, Int.mul_zero]; (repeat' (first | apply And.intro | intro _)))
  | refine block_k fun zB zbn zbx zbr zbi => ?_
  | refine skip_k ?_
  | (refine zbn _ ?_; clear zbn zbx zbr zbi)
  | (refine region_k fun zK zhK => ?_; simp only [go_sem, Int.reduceTMod, Int.toNat_one, Int.mul_zero]; (repeat' (first | apply And.intro | intro _)))
  | (refine draw_k (id := 8) [14, 15, 16, 17, 18, 19, 20, 21, 22, 23, 24, 25, 26, 27, 28] [0, 0, 0, 0, 8, 0, 0, 96, 248, 504, 4, 2044, 4092, 1, 16383, 32767] [] mixed (by kernel_rfl) (by simp only [go_sem]) fun zK zhK => ?_; simp only [go_sem, Int.reduceTMod, Int.toNat_one, Int.mul_zero]; (repeat' (first | apply And.intro | intro _)))
  | refine zhK _ _ trivial ?_
  | (refine zhM _ _ ?_; clear zhN zhM)
  | refine rnd_k fun zN zM zhN zhM => ?_
  | refine exit_k ?_
  | (refine zbx _ ?_; clear zbn zbx zbr zbi)
  | refine rounds_k (x := .seq (.region 6 _ _) _) 5 ?_
  | refine rounds_k (x := .seq (.region 3 _ _) _) 5 ?_
  | refine ret_k ?_
  | (refine zhZ _ _ ?_; simp only [go_sem, Int.reduceTMod, Int.toNat_one, Int.mul_zero]; (all_goals (rfl)))
  | refine seq_k fun zN zM zhN zhM => ?_
  | (refine condT_k ?_ ?_; focus (first | rfl | (simp [go_sem, Int.reduceTMod, Int.toNat_one, Int.mul_zero]; done)))
  | (refine condF_k ?_ ?_; focus (first | rfl | (simp [go_sem, Int.reduceTMod, Int.toNat_one, Int.mul_zero]; done)))
set_option maxHeartbeats 1600000 in
set_option maxRecDepth 100000 in
theorem shifted_m (x0 x1 x2 x3 x4 x5 x6 x7 x8 x9 x10 x11 x12 x13 x14 x15 : UInt32) :
 Ct Try.prog 49 [.w (.agg [.pl (.u32 x0), .pl (.u32 x1), .pl (.u32 x2), .pl (.u32 x3), .pl (.u32 x4), .pl (.u32 x5), .pl (.u32 x6), .pl (.u32 x7), .pl (.u32 x8), .pl (.u32 x9), .pl (.u32 x10), .pl (.u32 x11), .pl (.u32 x12), .pl (.u32 x13), .pl (.u32 x14), .pl (.u32 x15)]), .w (.one (.pl (.i (-1))))] (fun v m => v = .w (.agg (⟨x0, x1, x2, x3, x4, x5, x6, x7, x8, x9, x10, x11, x12, x13, x14, x15⟩ : W16).unsh.ls)) := by
 refine Ct.k Try.func49 rfl Try.ntmps49 (congrArg Array.toList Try.results49) (by simp) fun w0 ro => ?_
 refine top_k fun zZ zhZ => ?_
 iterate 427 first
  | (refine rnd_forget (x := .seq (.region 6 _ _) _) [7, 12, 13, 14, 15, 16, 17, 18, 19, 20, 21, 22, 23, 24, 25, 26, 27, 28, 29] ?_; simp only [go_sem, St.forget, fgt]; refine rnd_k fun zN zM zhN zhM => ?_)
  | (refine rnd_forget (x := .seq (.region 3 _ _) _) [6, 7, 9, 10, 11, 12, 13, 14, 15, 16, 17, 18, 19, 20, 21, 22, 23, 24, 25, 26, 27, 28, 29, 30] ?_; simp only [go_sem, St.forget, fgt]; refine rnd_k fun zN zM zhN zhM => ?_)
  | refine zhK _ ?_
  | (refine zhN _ ?_; clear zhN zhM)
  | (refine sr_k fun zK zhK => ?_; simp only [go_sem, Int.reduceTMod, Int.toNat_one, Int.mul_zero]; (repeat' (first | apply And.intro | intro _)))
  | refine block_k fun zB zbn zbx zbr zbi => ?_
  | refine skip_k ?_
  | (refine zbn _ ?_; clear zbn zbx zbr zbi)
  | (refine region_k fun zK zhK => ?_; simp only [go_sem, Int.reduceTMod, Int.toNat_one, Int.mul_zero]; (repeat' (first | apply And.intro | intro _)))
  | (refine draw_k (id := 8) [14, 15, 16, 17, 18, 19, 20, 21, 22, 23, 24, 25, 26, 27, 28] [0, 0, 0, 0, 8, 0, 0, 96, 248, 504, 4, 2044, 4092, 1, 16383, 32767] [] mixed (by kernel_rfl) (by simp only [go_sem]) fun zK zhK => ?_; simp only [go_sem, Int.reduceTMod, Int.toNat_one, Int.mul_zero]; (repeat' (first | apply And.intro | intro _)))
  | refine zhK _ _ trivial ?_
  | (refine zhM _ _ ?_; clear zhN zhM)
  | refine rnd_k fun zN zM zhN zhM => ?_
  | refine exit_k ?_
  | (refine zbx _ ?_; clear zbn zbx zbr zbi)
  | refine rounds_k (x := .seq (.region 6 _ _) _) 5 ?_
  | refine rounds_k (x := .seq (.region 3 _ _) _) 5 ?_
  | refine ret_k ?_
  | (refine zhZ _ _ ?_; simp only [go_sem, Int.reduceTMod, Int.toNat_one, Int.mul_zero]; (all_goals (rfl)))
  | refine seq_k fun zN zM zhN zhM => ?_
  | (refine condT_k ?_ ?_; focus (first | rfl | (simp [go_sem, Int.reduceTMod, Int.toNat_one, Int.mul_zero]; done)))
  | (refine condF_k ?_ ?_; focus (first | rfl | (simp [go_sem, Int.reduceTMod, Int.toNat_one, Int.mul_zero]; done)))
theorem round_of (w : W16) : Ct Try.prog 50 [.w (.agg w.ls)] (fun v m => v = .w (.agg w.col.ls)) := round_ w.x0 w.x1 w.x2 w.x3 w.x4 w.x5 w.x6 w.x7 w.x8 w.x9 w.x10 w.x11 w.x12 w.x13 w.x14 w.x15
theorem shifted_of (w : W16) : Ct Try.prog 49 [.w (.agg w.ls), .w (.one (.pl (.i 1)))] (fun v m => v = .w (.agg w.sh.ls)) := shifted_1 w.x0 w.x1 w.x2 w.x3 w.x4 w.x5 w.x6 w.x7 w.x8 w.x9 w.x10 w.x11 w.x12 w.x13 w.x14 w.x15
theorem unshifted_of (w : W16) : Ct Try.prog 49 [.w (.agg w.ls), .w (.one (.pl (.i (-1))))] (fun v m => v = .w (.agg w.unsh.ls)) := shifted_m w.x0 w.x1 w.x2 w.x3 w.x4 w.x5 w.x6 w.x7 w.x8 w.x9 w.x10 w.x11 w.x12 w.x13 w.x14 w.x15
end Go.Sy

