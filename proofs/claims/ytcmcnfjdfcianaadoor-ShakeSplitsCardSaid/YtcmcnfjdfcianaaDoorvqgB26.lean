/- Keys made of keys: the walks. -/
import Derived.Test.YtcmcnfjdfcianaaDoorvqgB25
set_option linter.unusedVariables false
set_option linter.unusedSimpArgs false
namespace Go.Sy
namespace Bk
open Go.Proofs
attribute [local irreducible] atCall HT runOps runD onC onE onO onG goV goA goS onSt onGuard
def key1 (c b : List UInt8) : List UInt8 := macB (macB c b) [1]
def key2 (c b : List UInt8) : List UInt8 := macB (macB c b) (key1 c b ++ [2])
def key3 (c b : List UInt8) : List UInt8 := macB (macB c b) (key2 c b ++ [3])
theorem key1_length (c b : List UInt8) : (key1 c b).length = 32 := macB_length _ _
theorem key2_length (c b : List UInt8) : (key2 c b).length = 32 := macB_length _ _
theorem key3_length (c b : List UInt8) : (key3 c b).length = 32 := macB_length _ _
set_option maxHeartbeats 3200000 in
set_option maxRecDepth 100000 in
theorem three_ (c b : List UInt8) (hc : c.length = 32) (hb : b.length ≤ 140737488351232) (ex : Bool) :
 CtM Tryd.prog 46 [.w (.agg (bytesC c)), .w (.one (.pl (.R ex 1 (byteRows b))))] [(1000000, ⟨false, [.pl (.u32 1779033703), .pl (.u32 3144134277), .pl (.u32 1013904242), .pl (.u32 2773480762), .pl (.u32 1359893119), .pl (.u32 2600822924), .pl (.u32 528734635), .pl (.u32 1541459225)]⟩), (1000002, ⟨false, ordC⟩)] (Told (fun v m => v = .w (.agg (bytesC (key1 c b) ++ (bytesC (key2 c b) ++ bytesC (key3 c b)))) ∧ m = [])) := by
 obtain ⟨t, ht⟩ : ∃ t, macB c b = t := ⟨_, rfl⟩
 obtain ⟨k1, hk1⟩ : ∃ k, key1 c b = k := ⟨_, rfl⟩
 obtain ⟨k2, hk2⟩ : ∃ k, key2 c b = k := ⟨_, rfl⟩
 obtain ⟨k3, hk3⟩ : ∃ k, key3 c b = k := ⟨_, rfl⟩
 have e1 : macB t (([] : List UInt8) ++ [1]) = k1 := by rw [← ht, ← hk1]; rfl
 have e2 : macB t (k1 ++ [2]) = k2 := by rw [← ht, ← hk1, ← hk2]; rfl
 have e3 : macB t (k2 ++ [3]) = k3 := by rw [← ht, ← hk2, ← hk3]; rfl
 have htl : t.length = 32 := by rw [← ht]; exact macB_length _ _
 have hl1 : k1.length = 32 := by rw [← hk1]; exact key1_length _ _
 have hl2 : k2.length = 32 := by rw [← hk2]; exact key2_length _ _
 have hl3 : k3.length = 32 := by rw [← hk3]; exact key3_length _ _
 have hM0 := mac_ c b false ex (by omega) hb
 rw [ht] at hM0
 have hC1 : CtM Tryd.prog 62 _ [] (Told (ownB (([] : List UInt8) ++ [1]))) := flat_two true false ([] : List UInt8) [1] ▸ cat_ [(true, ([] : List UInt8)), (false, [1])] false (by rw [flat_two]; simp) (by rw [flat_two, List.length_append]; simp) (by simp)
 have hM1 := mac_ t (([] : List UInt8) ++ [1]) false false (by omega) (by simp)
 rw [e1] at hM1
 obtain ⟨z1, hz1⟩ : ∃ z, ([] : List UInt8) ++ [(1 : UInt8)] = z := ⟨_, rfl⟩
 have hzl1 : z1.length = 1 := by rw [← hz1]; simp
 rw [hz1] at hM1 hC1
 have hC2 : CtM Tryd.prog 62 _ [] (Told (ownB (k1 ++ [2]))) := flat_two false false k1 [2] ▸ cat_ [(false, k1), (false, [2])] false (by rw [flat_two]; simp) (by rw [flat_two, List.length_append]; simp [hl1]) (by simp)
 have hM2 := mac_ t (k1 ++ [2]) false false (by omega) (by simp [hl1])
 rw [e2] at hM2
 obtain ⟨z2, hz2⟩ : ∃ z, k1 ++ [(2 : UInt8)] = z := ⟨_, rfl⟩
 have hzl2 : z2.length = 33 := by rw [← hz2]; simp [hl1]
 rw [hz2] at hM2 hC2
 have hC3 : CtM Tryd.prog 62 _ [] (Told (ownB (k2 ++ [3]))) := flat_two false false k2 [3] ▸ cat_ [(false, k2), (false, [3])] false (by rw [flat_two]; simp) (by rw [flat_two, List.length_append]; simp [hl2]) (by simp)
 have hM3 := mac_ t (k2 ++ [3]) false false (by omega) (by simp [hl2])
 rw [e3] at hM3
 obtain ⟨z3, hz3⟩ : ∃ z, k2 ++ [(3 : UInt8)] = z := ⟨_, rfl⟩
 have hzl3 : z3.length = 33 := by rw [← hz3]; simp [hl2]
 rw [hz3] at hM3 hC3
 have hu : UInt8.ofNat ((1 : Int) % 256).toNat = 1 ∧ UInt8.ofNat ((2 : Int) % 256).toNat = 2 ∧ UInt8.ofNat ((3 : Int) % 256).toNat = 3 := ⟨rfl, rfl, rfl⟩
 have hbz : bytesC [1] = [L.pl (.u8 1)] ∧ byteRows [1] = [[PL.u8 1]] ∧ byteRows [2] = [[PL.u8 2]] ∧ byteRows [3] = [[PL.u8 3]] := ⟨rfl, rfl, rfl, rfl⟩
 have F0 := And.intro hc <| And.intro htl <| And.intro hl1 <| And.intro hl2 <| And.intro hl3 <| And.intro hzl1 <| And.intro hzl2 <| And.intro hzl3 <| And.intro hu <| hbz
 refine CtM.k Tryd.func46 rfl Tryd.ntmps46 (congrArg Array.toList Tryd.results46) (by simp) fun w0 ro may fx => ?_
 refine top_k fun zZ zhZ => ?_
 iterate 26 first
  | refine rnd_k fun zN zM zhN zhM => ?_
  | (refine sr_k fun zK zhK => ?_; simp only [go_sem, nest, List.drop_replicate, List.take_replicate, Nat.zero_min, Nat.min_self, List.replicate_zero, F0]; (repeat' (first | apply And.intro | intro _)))
  | refine zhK _ ?_
  | refine block_k fun zB zbn zbx zbr zbi => ?_
  | refine rounds_k (x := .seq (.region 5 _ _) _) 4 ?_
  | refine skip_k ?_
  | (refine zhN _ ?_; clear zhN zhM)
  | ((all_goals (refine call_hand true [] (fun k => k) (fun _ _ => rfl) ?_ (by decide) ?_ hM0.told ?_; iterate 2 (focus (first | rfl | (simp only [go_sem, nest, List.drop_replicate, List.take_replicate, Nat.zero_min, Nat.min_self, List.replicate_zero, F0] <;> first | done | rfl | simp))))); (all_goals (rintro v m ⟨hR, hm⟩; subst hR; subst hm)); (all_goals (refine And.intro ?_ (And.intro ?_ (And.intro ?_ ?_)); iterate 3 (focus (first | rfl | (simp only [go_sem, nest, List.drop_replicate, List.take_replicate, Nat.zero_min, Nat.min_self, List.replicate_zero, F0]; done) | (simp [go_sem, look, nest, List.drop_replicate, List.take_replicate, Nat.zero_min, Nat.min_self, List.replicate_zero, F0]; done))))); (all_goals (try simp only [go_sem, nest, List.drop_replicate, List.take_replicate, Nat.zero_min, Nat.min_self, List.replicate_zero, F0])); (all_goals (try simp only [go_sem, nest, List.drop_replicate, List.take_replicate, Nat.zero_min, Nat.min_self, List.replicate_zero, F0])); (all_goals repeat' (first | apply And.intro | intro _)))
  | refine seq_k fun zN zM zhN zhM => ?_
  | (refine condT_k ?_ ?_; focus (first | rfl | (simp [go_sem, nest, List.drop_replicate, List.take_replicate, Nat.zero_min, Nat.min_self, List.replicate_zero, F0]; done)))
 refine dr_k (id := 7) mixed fun zE zhE => ?_
 refine dr_piece_k (p := 0) 10 [15, 16, 17, 18, 19, 20, 21, 22, 23, 24] [0, 0, 0, 0, 8, 24, 56, 124, 252, 510, 1023, 2047] [] rfl (by kernel_rfl) rfl (by simp only [go_sem]) fun zR zK zhR zhK => ?_
 simp only [go_sem, nest, List.drop_replicate, List.take_replicate, Nat.zero_min, Nat.min_self, List.replicate_zero, F0]
 repeat' (first | apply And.intro | intro _)
 all_goals (refine call_drawdeep rfl (fun _ => 23) (.w (.one (.s 0 [] z1.length 1))) [(0, ⟨true, bytesC z1⟩)] (fun _ _ => rfl) ?_ ?_ ?_ hC1.told ?_ ?_; (iterate 2 (focus (first | rfl | (simp only [go_sem, nest, List.drop_replicate, List.take_replicate, Nat.zero_min, Nat.min_self, List.replicate_zero, F0] <;> first | done | rfl | simp)))); (first | kernel_rfl | rfl | simp [fixO, fixL, pls]))
 all_goals try (refine And.intro ?_ (And.intro ?_ (And.intro ?_ ?_)) <;> (first | rfl | (simp only [go_sem, nest, List.drop_replicate, List.take_replicate, Nat.zero_min, Nat.min_self, List.replicate_zero, F0]; done) | (simp [go_sem, look, nest, List.drop_replicate, List.take_replicate, Nat.zero_min, Nat.min_self, List.replicate_zero, F0]; done)))
 all_goals (try simp only [go_sem, nest, List.drop_replicate, List.take_replicate, Nat.zero_min, Nat.min_self, List.replicate_zero, F0])
 all_goals (try simp only [go_sem, nest, List.drop_replicate, List.take_replicate, Nat.zero_min, Nat.min_self, List.replicate_zero, F0])
 all_goals repeat' (first | apply And.intro | intro _)
 all_goals (refine call_drawhand (fun k => k) (.w (.agg (bytesC k1))) [] (fun _ _ => rfl) ?_ ?_ ?_ hM1.told ?_ ?_; (iterate 2 (focus (first | rfl | (simp only [go_sem, nest, List.drop_replicate, List.take_replicate, Nat.zero_min, Nat.min_self, List.replicate_zero, F0] <;> first | done | rfl | simp)))); (first | kernel_rfl | rfl | simp [fixO, fixL, pls]))
 all_goals try (refine And.intro ?_ (And.intro ?_ (And.intro ?_ ?_)) <;> (first | rfl | (simp only [go_sem, nest, List.drop_replicate, List.take_replicate, Nat.zero_min, Nat.min_self, List.replicate_zero, F0]; done) | (simp [go_sem, look, nest, List.drop_replicate, List.take_replicate, Nat.zero_min, Nat.min_self, List.replicate_zero, F0]; done)))
 all_goals (try simp only [go_sem, nest, List.drop_replicate, List.take_replicate, Nat.zero_min, Nat.min_self, List.replicate_zero, F0])
 all_goals (try simp only [go_sem, nest, List.drop_replicate, List.take_replicate, Nat.zero_min, Nat.min_self, List.replicate_zero, F0])
 all_goals repeat' (first | apply And.intro | intro _)
 refine zhK _ _ trivial (zhR _ ?_)
 refine dr_runs_k 2 12 rfl (by kernel_rfl) rfl rfl fun zR zhR => ?_
 simp only [go_sem, nest, List.drop_replicate, List.take_replicate, Nat.zero_min, Nat.min_self, List.replicate_zero, F0]
 repeat' (first | apply And.intro | intro _)
 refine zhR _ ?_
 refine dr_end rfl (zhE _ ?_)
 iterate 20 first
  | (refine rnd_forget (x := .seq (.region 5 _ _) _) [8, 13, 14, 15, 16, 17, 18, 19, 20, 21, 22, 23, 24, 25, 26, 27, 28, 29] ?_; simp only [go_sem, St.forget, fgt]; refine rnd_k fun zN zM zhN zhM => ?_)
  | (refine zhN _ ?_; clear zhN zhM)
  | refine zhK _ ?_
  | (refine region_k fun zK zhK => ?_; simp only [go_sem, nest, List.drop_replicate, List.take_replicate, Nat.zero_min, Nat.min_self, List.replicate_zero, F0]; (repeat' (first | apply And.intro | intro _)))
  | (refine sr_k fun zK zhK => ?_; simp only [go_sem, nest, List.drop_replicate, List.take_replicate, Nat.zero_min, Nat.min_self, List.replicate_zero, F0]; (repeat' (first | apply And.intro | intro _)))
  | (refine zbn _ ?_; clear zbn zbx zbr zbi)
  | refine skip_k ?_
  | refine block_k fun zB zbn zbx zbr zbi => ?_
  | refine seq_k fun zN zM zhN zhM => ?_
  | (refine condT_k ?_ ?_; focus (first | rfl | (simp [go_sem, nest, List.drop_replicate, List.take_replicate, Nat.zero_min, Nat.min_self, List.replicate_zero, F0]; done)))
 refine dr_k (id := 7) mixed fun zE zhE => ?_
 refine dr_piece_k (p := 0) 10 [15, 16, 17, 18, 19, 20, 21, 22, 23, 24] [0, 0, 0, 0, 8, 24, 56, 124, 252, 510, 1023, 2047] [] rfl (by kernel_rfl) rfl (by simp only [go_sem]) fun zR zK zhR zhK => ?_
 simp only [go_sem, nest, List.drop_replicate, List.take_replicate, Nat.zero_min, Nat.min_self, List.replicate_zero, F0]
 repeat' (first | apply And.intro | intro _)
 all_goals (refine call_drawdeep rfl (fun _ => 23) (.w (.one (.s 0 [] z2.length 1))) [(0, ⟨true, bytesC z2⟩)] (fun _ _ => rfl) ?_ ?_ ?_ hC2.told ?_ ?_; (iterate 2 (focus (first | rfl | (simp only [go_sem, nest, List.drop_replicate, List.take_replicate, Nat.zero_min, Nat.min_self, List.replicate_zero, F0] <;> first | done | rfl | simp)))); (first | kernel_rfl | rfl | simp [fixO, fixL, pls]))
 all_goals try (refine And.intro ?_ (And.intro ?_ (And.intro ?_ ?_)) <;> (first | rfl | (simp only [go_sem, nest, List.drop_replicate, List.take_replicate, Nat.zero_min, Nat.min_self, List.replicate_zero, F0]; done) | (simp [go_sem, look, nest, List.drop_replicate, List.take_replicate, Nat.zero_min, Nat.min_self, List.replicate_zero, F0]; done)))
 all_goals (try simp only [go_sem, nest, List.drop_replicate, List.take_replicate, Nat.zero_min, Nat.min_self, List.replicate_zero, F0])
 all_goals (try simp only [go_sem, nest, List.drop_replicate, List.take_replicate, Nat.zero_min, Nat.min_self, List.replicate_zero, F0])
 all_goals repeat' (first | apply And.intro | intro _)
 all_goals (refine call_drawhand (fun k => k) (.w (.agg (bytesC k2))) [] (fun _ _ => rfl) ?_ ?_ ?_ hM2.told ?_ ?_; (iterate 2 (focus (first | rfl | (simp only [go_sem, nest, List.drop_replicate, List.take_replicate, Nat.zero_min, Nat.min_self, List.replicate_zero, F0] <;> first | done | rfl | simp)))); (first | kernel_rfl | rfl | simp [fixO, fixL, pls]))
 all_goals try (refine And.intro ?_ (And.intro ?_ (And.intro ?_ ?_)) <;> (first | rfl | (simp only [go_sem, nest, List.drop_replicate, List.take_replicate, Nat.zero_min, Nat.min_self, List.replicate_zero, F0]; done) | (simp [go_sem, look, nest, List.drop_replicate, List.take_replicate, Nat.zero_min, Nat.min_self, List.replicate_zero, F0]; done)))
 all_goals (try simp only [go_sem, nest, List.drop_replicate, List.take_replicate, Nat.zero_min, Nat.min_self, List.replicate_zero, F0])
 all_goals (try simp only [go_sem, nest, List.drop_replicate, List.take_replicate, Nat.zero_min, Nat.min_self, List.replicate_zero, F0])
 all_goals repeat' (first | apply And.intro | intro _)
 refine zhK _ _ trivial (zhR _ ?_)
 refine dr_runs_k 2 12 rfl (by kernel_rfl) rfl rfl fun zR zhR => ?_
 simp only [go_sem, nest, List.drop_replicate, List.take_replicate, Nat.zero_min, Nat.min_self, List.replicate_zero, F0]
 repeat' (first | apply And.intro | intro _)
 refine zhR _ ?_
 refine dr_end rfl (zhE _ ?_)
 iterate 20 first
  | (refine rnd_forget (x := .seq (.region 5 _ _) _) [8, 13, 14, 15, 16, 17, 18, 19, 20, 21, 22, 23, 24, 25, 26, 27, 28, 29] ?_; simp only [go_sem, St.forget, fgt]; refine rnd_k fun zN zM zhN zhM => ?_)
  | (refine zhN _ ?_; clear zhN zhM)
  | refine zhK _ ?_
  | (refine region_k fun zK zhK => ?_; simp only [go_sem, nest, List.drop_replicate, List.take_replicate, Nat.zero_min, Nat.min_self, List.replicate_zero, F0]; (repeat' (first | apply And.intro | intro _)))
  | (refine sr_k fun zK zhK => ?_; simp only [go_sem, nest, List.drop_replicate, List.take_replicate, Nat.zero_min, Nat.min_self, List.replicate_zero, F0]; (repeat' (first | apply And.intro | intro _)))
  | (refine zbn _ ?_; clear zbn zbx zbr zbi)
  | refine skip_k ?_
  | refine block_k fun zB zbn zbx zbr zbi => ?_
  | refine seq_k fun zN zM zhN zhM => ?_
  | (refine condT_k ?_ ?_; focus (first | rfl | (simp [go_sem, nest, List.drop_replicate, List.take_replicate, Nat.zero_min, Nat.min_self, List.replicate_zero, F0]; done)))
 refine dr_k (id := 7) mixed fun zE zhE => ?_
 refine dr_piece_k (p := 0) 10 [15, 16, 17, 18, 19, 20, 21, 22, 23, 24] [0, 0, 0, 0, 8, 24, 56, 124, 252, 510, 1023, 2047] [] rfl (by kernel_rfl) rfl (by simp only [go_sem]) fun zR zK zhR zhK => ?_
 simp only [go_sem, nest, List.drop_replicate, List.take_replicate, Nat.zero_min, Nat.min_self, List.replicate_zero, F0]
 repeat' (first | apply And.intro | intro _)
 all_goals (refine call_drawdeep rfl (fun _ => 23) (.w (.one (.s 0 [] z3.length 1))) [(0, ⟨true, bytesC z3⟩)] (fun _ _ => rfl) ?_ ?_ ?_ hC3.told ?_ ?_; (iterate 2 (focus (first | rfl | (simp only [go_sem, nest, List.drop_replicate, List.take_replicate, Nat.zero_min, Nat.min_self, List.replicate_zero, F0] <;> first | done | rfl | simp)))); (first | kernel_rfl | rfl | simp [fixO, fixL, pls]))
 all_goals try (refine And.intro ?_ (And.intro ?_ (And.intro ?_ ?_)) <;> (first | rfl | (simp only [go_sem, nest, List.drop_replicate, List.take_replicate, Nat.zero_min, Nat.min_self, List.replicate_zero, F0]; done) | (simp [go_sem, look, nest, List.drop_replicate, List.take_replicate, Nat.zero_min, Nat.min_self, List.replicate_zero, F0]; done)))
 all_goals (try simp only [go_sem, nest, List.drop_replicate, List.take_replicate, Nat.zero_min, Nat.min_self, List.replicate_zero, F0])
 all_goals (try simp only [go_sem, nest, List.drop_replicate, List.take_replicate, Nat.zero_min, Nat.min_self, List.replicate_zero, F0])
 all_goals repeat' (first | apply And.intro | intro _)
 all_goals (refine call_drawhand (fun k => k) (.w (.agg (bytesC k3))) [] (fun _ _ => rfl) ?_ ?_ ?_ hM3.told ?_ ?_; (iterate 2 (focus (first | rfl | (simp only [go_sem, nest, List.drop_replicate, List.take_replicate, Nat.zero_min, Nat.min_self, List.replicate_zero, F0] <;> first | done | rfl | simp)))); (first | kernel_rfl | rfl | simp [fixO, fixL, pls]))
 all_goals try (refine And.intro ?_ (And.intro ?_ (And.intro ?_ ?_)) <;> (first | rfl | (simp only [go_sem, nest, List.drop_replicate, List.take_replicate, Nat.zero_min, Nat.min_self, List.replicate_zero, F0]; done) | (simp [go_sem, look, nest, List.drop_replicate, List.take_replicate, Nat.zero_min, Nat.min_self, List.replicate_zero, F0]; done)))
 all_goals (try simp only [go_sem, nest, List.drop_replicate, List.take_replicate, Nat.zero_min, Nat.min_self, List.replicate_zero, F0])
 all_goals (try simp only [go_sem, nest, List.drop_replicate, List.take_replicate, Nat.zero_min, Nat.min_self, List.replicate_zero, F0])
 all_goals repeat' (first | apply And.intro | intro _)
 refine zhK _ _ trivial (zhR _ ?_)
 refine dr_runs_k 2 12 rfl (by kernel_rfl) rfl rfl fun zR zhR => ?_
 simp only [go_sem, nest, List.drop_replicate, List.take_replicate, Nat.zero_min, Nat.min_self, List.replicate_zero, F0]
 repeat' (first | apply And.intro | intro _)
 refine zhR _ ?_
 refine dr_end rfl (zhE _ ?_)
 iterate 22 first
  | (refine rnd_forget (x := .seq (.region 5 _ _) _) [8, 13, 14, 15, 16, 17, 18, 19, 20, 21, 22, 23, 24, 25, 26, 27, 28, 29] ?_; simp only [go_sem, St.forget, fgt]; refine rnd_k fun zN zM zhN zhM => ?_)
  | (refine zhN _ ?_; clear zhN zhM)
  | refine zhK _ ?_
  | (refine region_k fun zK zhK => ?_; simp only [go_sem, nest, List.drop_replicate, List.take_replicate, Nat.zero_min, Nat.min_self, List.replicate_zero, F0]; (repeat' (first | apply And.intro | intro _)))
  | (refine sr_k fun zK zhK => ?_; simp only [go_sem, nest, List.drop_replicate, List.take_replicate, Nat.zero_min, Nat.min_self, List.replicate_zero, F0]; (repeat' (first | apply And.intro | intro _)))
  | (refine zhM _ _ ?_; clear zhN zhM)
  | (refine zbn _ ?_; clear zbn zbx zbr zbi)
  | refine exit_k ?_
  | (refine zbx _ ?_; clear zbn zbx zbr zbi)
  | refine ret_k ?_
  | (refine zhZ _ _ ?_; simp only [go_sem, nest, List.drop_replicate, List.take_replicate, Nat.zero_min, Nat.min_self, List.replicate_zero, F0]; (all_goals (rw [hk1, hk2, hk3]; exact told_plain (by simp [plainV, plainW, bytesC]) ⟨by simp, rfl⟩)))
  | refine seq_k fun zN zM zhN zhM => ?_
  | (refine condF_k ?_ ?_; focus (first | rfl | (simp [go_sem, nest, List.drop_replicate, List.take_replicate, Nat.zero_min, Nat.min_self, List.replicate_zero, F0]; done)))
end Bk
end Go.Sy
