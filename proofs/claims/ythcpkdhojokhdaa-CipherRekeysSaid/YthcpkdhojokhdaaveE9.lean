/- Walks: sums with carry, products of words, three words and three words. -/
import Derived.Test.YthcpkdhojokhdaaveE3
import Derived.Test.YthcpkdhojokhdaavP5
import Derived.Laws.Externs
set_option linter.unusedVariables false
set_option linter.unusedSimpArgs false
namespace Go.Sy
open Go.Proofs
attribute [local irreducible] atCall HT runOps runD onC onE onO onG goV goA goS onSt onGuard
theorem now_add64 (x y c : UInt64) (hc : c.toNat ≤ 1) : Now Try.prog 46 [.w (.one (.pl (.u64 x))), .w (.one (.pl (.u64 y))), .w (.one (.pl (.u64 c)))] (.tup [.one (.pl (.u64 (adS x y c))), .one (.pl (.u64 (adC x y c)))]) := by
 refine ⟨fun k => rfl, fun w d vals h => ?_⟩
 have hv : vals = #[.int .u64 x.toNat, .int .u64 y.toNat, .int .u64 c.toNat] := by
  obtain ⟨l⟩ := vals
  simp only at h
  cases h with
  | cons h1 h =>
   cases h with
   | cons h2 h =>
    cases h with
    | cons h3 h =>
     cases h
     simp only [V.den, W.den, L.den] at h1 h2 h3
     rw [PL.den] at h1 h2 h3
     rw [h1, h2, h3]
 subst hv
 have hr := run_callFunc_extern (P := Try.prog) Try.func46 (by kernel_rfl) (by kernel_rfl) (by kernel_rfl) (e := add64Entry) (by kernel_rfl) #[.int .u64 x.toNat, .int .u64 y.toNat, .int .u64 c.toNat] w
 rw [run_add64 (x.toNat : Int) (y.toNat : Int) (c.toNat : Int) (by omega) (by omega) (by omega) (by omega)] at hr
 refine ⟨_, hr, fun d' => ⟨_, rfl, ?_⟩⟩
 have hx := x.toNat_lt
 have hy := y.toNat_lt
 refine .cons ?_ (.cons ?_ .nil)
 · simp only [W.den, L.den]
   rw [PL.den]
   simp only [adS, UInt64.toNat_ofNat']
   congr 1; omega
 · simp only [W.den, L.den]
   rw [PL.den]
   simp only [adC, UInt64.toNat_ofNat']
   congr 1; omega
set_option maxHeartbeats 400000 in
theorem mul64 (x y : UInt64) :
 Ct Try.prog 70 [.w (.one (.pl (.u64 x))), .w (.one (.pl (.u64 y)))] (fun v m => v = .tup [.one (.pl (.u64 (mulH x y))), .one (.pl (.u64 (x * y)))]) := by
 refine Ct.k Try.func70 rfl Try.ntmps70 (congrArg Array.toList Try.results70) (by simp) fun w0 ro => ?_
 refine top_k fun zZ zhZ => ?_
 iterate 26 first
  | (refine sr_k fun zK zhK => ?_; simp only [go_sem]; (repeat' (first | apply And.intro | intro _)))
  | refine zhK _ ?_
  | refine ret_k ?_
  | (refine zhZ _ _ ?_; simp only [go_sem]; (all_goals (rfl)))
def T3.ls (t : T3) : List L := W3 t.a t.b t.c
set_option maxHeartbeats 800000 in
theorem plus_ (x y : T3) :
 Ct Try.prog 62 [.w (.agg (W3 x.a x.b x.c)), .w (.agg (W3 y.a y.b y.c))] (fun v m => v = .w (.agg (W3 (x.plus y).a (x.plus y).b (x.plus y).c))) := by
 refine Ct.k Try.func62 rfl Try.ntmps62 (congrArg Array.toList Try.results62) (by simp) fun w0 ro => ?_
 refine top_k fun zZ zhZ => ?_
 iterate 80 first
  | (refine rnd_forget (x := .seq (.region 3 _ _) _) [6, 8, 9, 10, 11, 12, 13, 14, 15, 16, 17, 18, 19, 20, 21, 22, 23] ?_; simp only [go_sem, St.forget, fgt]; refine rnd_k fun zN zM zhN zhM => ?_)
  | refine zhK _ ?_
  | (refine sr_k fun zK zhK => ?_; simp only [go_sem, W3]; (repeat' (first | apply And.intro | intro _)))
  | (refine zhN _ ?_; clear zhN zhM)
  | refine block_k fun zB zbn zbx zbr zbi => ?_
  | refine skip_k ?_
  | (refine draw_k (id := 5) [11, 12, 13, 14, 15, 16, 17, 18, 19, 10, 20, 21, 22, 5] [0, 0, 2, 6, 0, 16, 48, 0, 254, 510, 1022, 1022, 2047, 6143, 16383] [(11, 13)] mixed (by kernel_rfl) (by simp only [go_sem]) fun zK zhK => ?_; simp only [go_sem, W3]; (repeat' (first | apply And.intro | intro _)))
  | (refine zhK _ _ ?_ ?_; (focus (first | trivial | (simp only [go_sem]; done) | (simp only [go_sem]; simp; done) | (simp only [go_sem]; simp; simp only [go_sem]))))
  | (refine zbn _ ?_; clear zbn zbx zbr zbi)
  | (refine region_k fun zK zhK => ?_; simp only [go_sem, W3]; (repeat' (first | apply And.intro | intro _)))
  | (refine zhM _ _ ?_; clear zhN zhM)
  | refine rounds_k (x := .seq (.region 3 _ _) _) 4 ?_
  | refine rnd_k fun zN zM zhN zhM => ?_
  | refine exit_k ?_
  | (refine zbx _ ?_; clear zbn zbx zbr zbi)
  | refine ret_k ?_
  | (refine zhZ _ _ ?_; simp only [go_sem, W3]; (all_goals rfl))
  | ((all_goals refine call_drawnow (by first | rfl | (simp only [go_sem, W3] <;> rfl)) (now_add64 _ _ _ (by first | decide | exact (ad_val _ _ (by decide)).2 | exact (ad_val _ _ ((ad_val _ _ (by decide)).2)).2)) ?_); (all_goals simp only [go_sem, W3]); (all_goals repeat' (first | apply And.intro | intro _)))
  | refine seq_k fun zN zM zhN zhM => ?_
  | (refine condT_k ?_ ?_; focus (first | rfl | (simp [go_sem, W3]; done)))
  | (refine condF_k ?_ ?_; focus (first | rfl | (simp [go_sem, W3]; done)))
end Go.Sy

