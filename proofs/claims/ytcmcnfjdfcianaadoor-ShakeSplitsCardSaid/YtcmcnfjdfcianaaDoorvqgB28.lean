/- States of a handshake: a key mixed in, bytes mixed in, both. -/
import Derived.Test.YtcmcnfjdfcianaaDoorvqgB27
set_option linter.unusedVariables false
set_option linter.unusedSimpArgs false
namespace Go.Sy
namespace Bk
open Go.Proofs
attribute [local irreducible] atCall HT runOps runD onC onE onO onG goV goA goS onSt onGuard
def cipC (st : Bool) (key : List UInt8) (n : UInt64) : List L := .pl (.b st) :: (bytesC key ++ [.pl (.u64 n)])
def symS (st : Bool) (key : List UInt8) (n : UInt64) (ch h : List UInt8) : List L := .pl (.b st) :: (bytesC key ++ (.pl (.u64 n) :: (bytesC ch ++ bytesC h)))
theorem plain_sym (st : Bool) (key : List UInt8) (n : UInt64) (ch h : List UInt8) : plainV (.w (.agg (symS st key n ch h))) = true := by
 simp [plainV, plainW, symS, bytesC]
theorem symS_norm {st : Bool} {key : List UInt8} {n : UInt64} {ch h : List UInt8} : symS st key n ch h = .pl (.b st) :: (bytesC key ++ .pl (.u64 n) :: bytesC (ch ++ h)) := by
 simp [symS, bytesC]
set_option maxHeartbeats 800000 in
set_option maxRecDepth 100000 in
theorem cbegin_ (l : List UInt8) (hl : l.length = 32) :
 Ct Tryd.prog 31 [.w (.agg (bytesC l))] (fun v m => v = .w (.agg (cipC true l 0))) := by
 refine Ct.k Tryd.func31 rfl Tryd.ntmps31 (congrArg Array.toList Tryd.results31) (by simp) fun w0 ro => ?_
 refine top_k fun zZ zhZ => ?_
 iterate 6 first
  | (refine sr_k fun zK zhK => ?_; simp only [go_sem, hl, cipC]; (repeat' (first | apply And.intro | intro _)))
  | refine zhK _ ?_
  | refine ret_k ?_
  | (refine zhZ _ _ ?_; simp only [go_sem, hl, cipC]; (all_goals rfl))
set_option maxHeartbeats 1600000 in
set_option maxRecDepth 100000 in
theorem symhash_ (st : Bool) (key : List UInt8) (n : UInt64) (ch h b : List UInt8) (hk : key.length = 32) (hc : ch.length = 32) (hh : h.length = 32) (hb : b.length ≤ 140737488351232) (ex : Bool) :
 CtM Tryd.prog 14 [.w (.agg (symS st key n ch h)), .w (.one (.pl (.R ex 1 (byteRows b))))] [(1000000, ⟨false, [.pl (.u32 1779033703), .pl (.u32 3144134277), .pl (.u32 1013904242), .pl (.u32 2773480762), .pl (.u32 1359893119), .pl (.u32 2600822924), .pl (.u32 528734635), .pl (.u32 1541459225)]⟩), (1000002, ⟨false, ordC⟩)] (Told (fun v m => v = .w (.agg (symS st key n ch (sumB (h ++ b)))) ∧ m = [])) := by
 obtain ⟨z, hz⟩ : ∃ z, sumB (h ++ b) = z := ⟨_, rfl⟩
 have hzl : z.length = 32 := by rw [← hz]; exact sumB_length _
 have hn2 : (h ++ b).length ≤ 9223372036854775807 := by simp [hh]; omega
 rw [hz]
 have hS := sum_ (h ++ b) hn2 false
 rw [hz] at hS
 obtain ⟨q, hq⟩ : ∃ q, h ++ b = q := ⟨_, rfl⟩
 have hql : q.length = 32 + b.length := by rw [← hq, List.length_append, hh]
 rw [hq] at hS
 have hle : 32 + b.length ≤ 140737488355328 := by omega
 have F0 := And.intro hk <| And.intro hc <| And.intro hh <| And.intro hzl <| And.intro hle <| And.intro hq <| hql
 refine CtM.k Tryd.func14 rfl Tryd.ntmps14 (congrArg Array.toList Tryd.results14) (by simp) fun w0 ro may fx => ?_
 refine top_k fun zZ zhZ => ?_
 iterate 9 first
  | (refine sr_k fun zK zhK => ?_; simp only [go_sem, symS, cipC, F0]; (repeat' (first | apply And.intro | intro _)))
  | refine zhK _ ?_
  | refine ret_k ?_
  | (refine zhZ _ _ ?_; simp only [go_sem, symS, cipC, F0]; (all_goals (exact told_plain (by simp [plainV, plainW, bytesC]) ⟨by first | (simp; done) | (simp [symS, cipC, bytesC]; done), rfl⟩)))
  | ((all_goals (refine call_hand true [] (fun k => k) (fun _ _ => rfl) ?_ (by decide) ?_ hS.told ?_; iterate 2 (focus (first | rfl | (simp only [go_sem, symS, cipC, F0] <;> first | done | rfl | simp))))); (all_goals (rintro v m ⟨hR, hm⟩; subst hR; subst hm)); (all_goals (refine And.intro ?_ (And.intro ?_ (And.intro ?_ ?_)); iterate 3 (focus (first | rfl | (simp only [go_sem, symS, cipC, F0]; done) | (simp [go_sem, look, symS, cipC, F0]; done))))); (all_goals (try simp only [go_sem, symS, cipC, F0])); (all_goals (try simp only [go_sem, symS, cipC, F0])); (all_goals repeat' (first | apply And.intro | intro _)))
end Bk
end Go.Sy
