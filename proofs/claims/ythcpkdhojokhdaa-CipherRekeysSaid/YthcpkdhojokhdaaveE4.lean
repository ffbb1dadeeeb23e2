/- Walks: a sum begun. -/
import Derived.Test.YthcpkdhojokhdaaveE3
set_option linter.unusedVariables false
set_option linter.unusedSimpArgs false
namespace Go.Sy
open Go.Proofs
attribute [local irreducible] atCall HT runOps runD onC onE onO onG goV goA goS onSt onGuard
def polyC (r0 r1 p0 p1 a0 a1 a2 : UInt64) (held : List UInt8) (n : Int) : List L := .pl (.u64 r0) :: .pl (.u64 r1) :: .pl (.u64 p0) :: .pl (.u64 p1) :: .pl (.u64 a0) :: .pl (.u64 a1) :: .pl (.u64 a2) :: (bytesC held ++ [.pl (.i n)])
def begC (k : List UInt8) : List L := polyC (lev (k.take 8) &&& 1152921487695413247) (lev ((k.drop 8).take 8) &&& 1152921487695413244) (lev ((k.drop 16).take 8)) (lev ((k.drop 24).take 8)) 0 0 0 (List.replicate 16 0) 0
set_option maxHeartbeats 800000 in
theorem poly_begin (key : List UInt8) (hk : key.length = 32) :
 Ct Try.prog 14 [.w (.agg (bytesC key))] (fun v m => v = .w (.agg (begC key))) := by
 have hm : ∀ l : List UInt8, l.length = 8 → chunks 1 8 (List.map PL.u8 l) = byteRows l := fun l h => chunks_bytes' h
 have hm0 := hm (key.take 8) (by simp [hk])
 have hm1 := hm ((key.drop 8).take 8) (by simp [hk])
 have hm2 := hm ((key.drop 16).take 8) (by simp [hk])
 have hm3 := hm ((key.drop 24).take 8) (by simp [hk])
 have F0 := And.intro hk <| And.intro hm0 <| And.intro hm1 <| And.intro hm2 <| hm3
 refine Ct.k Try.func14 rfl Try.ntmps14 (congrArg Array.toList Try.results14) (by simp) fun w0 ro => ?_
 refine top_k fun zZ zhZ => ?_
 iterate 10 first
  | (refine sr_k fun zK zhK => ?_; simp only [go_sem, polyC, F0]; (repeat' (first | apply And.intro | intro _)))
  | refine zhK _ ?_
  | (refine sd_k (id := 1) [3, 4, 5, 6, 7, 8, 9, 10, 11, 12, 13, 14, 15] [0, 1, 3, 0, 11, 27, 63, 0, 155, 0, 923, 1947, 4095, 8191] [] mixed (by kernel_rfl) (by simp only [go_sem]) fun zK zhK => ?_; simp only [go_sem, polyC, F0]; (repeat' (first | apply And.intro | intro _)))
  | refine zhK _ _ trivial ?_
  | refine ret_k ?_
  | (refine zhZ _ _ ?_; simp only [go_sem, polyC, F0]; (all_goals (simp [begC, polyC])))
  | ((all_goals refine call_draw (fun k => k) _ [] (fun _ _ => rfl) (by first | rfl | (simp only [go_sem, polyC, F0] <;> rfl)) ((half_ _ (by first | (simp [List.length_take, List.length_drop, hk]; done) | (simp [List.length_take, List.length_drop, hk]; omega)) _).plain fun _ _ h => h) ?_ ?_); (all_goals try (refine And.intro ?_ (And.intro ?_ (And.intro ?_ ?_)) <;> first | rfl | simp only [go_sem])); (all_goals simp only [go_sem, polyC, F0]); (all_goals repeat' (first | apply And.intro | intro _)))
end Go.Sy

