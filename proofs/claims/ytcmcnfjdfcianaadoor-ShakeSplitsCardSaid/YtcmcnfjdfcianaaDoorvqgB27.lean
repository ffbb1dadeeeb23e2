/- Keys made of keys, as the document tells them; two keys; both at once. -/
import Derived.Test.YtcmcnfjdfcianaaDoorvqgB26
set_option linter.unusedVariables false
set_option linter.unusedSimpArgs false
namespace Go.Sy
namespace Bk
open Go.Proofs
attribute [local irreducible] atCall HT runOps runD onC onE onO onG goV goA goS onSt onGuard
set_option maxHeartbeats 1600000 in
set_option maxRecDepth 100000 in
theorem two_ (c b : List UInt8) (hc : c.length = 32) (hb : b.length ≤ 140737488351232) (ex : Bool) :
 CtM Tryd.prog 30 [.w (.agg (bytesC c)), .w (.one (.pl (.R ex 1 (byteRows b))))] [(1000000, ⟨false, [.pl (.u32 1779033703), .pl (.u32 3144134277), .pl (.u32 1013904242), .pl (.u32 2773480762), .pl (.u32 1359893119), .pl (.u32 2600822924), .pl (.u32 528734635), .pl (.u32 1541459225)]⟩), (1000002, ⟨false, ordC⟩)] (Told (fun v m => v = .w (.agg (bytesC (key1 c b) ++ bytesC (key2 c b))) ∧ m = [])) := by
 have hT := three_ c b hc hb ex
 have hl1 := key1_length c b
 have hl2 := key2_length c b
 have hl3 := key3_length c b
 obtain ⟨k1, hk1⟩ : ∃ k, key1 c b = k := ⟨_, rfl⟩
 obtain ⟨k2, hk2⟩ : ∃ k, key2 c b = k := ⟨_, rfl⟩
 obtain ⟨k3, hk3⟩ : ∃ k, key3 c b = k := ⟨_, rfl⟩
 rw [hk1] at hl1 hT
 rw [hk2] at hl2 hT
 rw [hk3] at hl3 hT
 have F0 := And.intro hc <| And.intro hl1 <| And.intro hl2 <| hl3
 refine CtM.k Tryd.func30 rfl Tryd.ntmps30 (congrArg Array.toList Tryd.results30) (by simp) fun w0 ro may fx => ?_
 refine top_k fun zZ zhZ => ?_
 iterate 9 first
  | (refine sr_k fun zK zhK => ?_; simp only [go_sem, F0]; (repeat' (first | apply And.intro | intro _)))
  | refine zhK _ ?_
  | refine ret_k ?_
  | (refine zhZ _ _ ?_; simp only [go_sem, F0]; (all_goals (rw [hk1, hk2]; exact told_plain (by simp [plainV, plainW, bytesC]) ⟨by simp, rfl⟩)))
  | ((all_goals (refine call_hand false [] (fun k => k) (fun _ _ => rfl) ?_ (by decide) ?_ hT.told ?_; iterate 2 (focus (first | rfl | (simp only [go_sem, F0] <;> first | done | rfl | simp))))); (all_goals (rintro v m ⟨hR, hm⟩; subst hR; subst hm)); (all_goals (refine And.intro ?_ (And.intro ?_ (And.intro ?_ ?_)); iterate 3 (focus (first | rfl | (simp only [go_sem, F0]; done) | (simp [go_sem, look, F0]; done))))); (all_goals (try simp only [go_sem, F0])); (all_goals (try simp only [go_sem, F0])); (all_goals repeat' (first | apply And.intro | intro _)))
set_option maxHeartbeats 1600000 in
set_option maxRecDepth 100000 in
theorem keysof_ (c b : List UInt8) (hc : c.length = 32) (hb : b.length ≤ 140737488351232) :
 CtM Tryd.prog 32 [.w (.agg (bytesC c)), .w (.one (.pl (.str b)))] [(1000001, ⟨false, [.pl (.u32 1779033703), .pl (.u32 3144134277), .pl (.u32 1013904242), .pl (.u32 2773480762), .pl (.u32 1359893119), .pl (.u32 2600822924), .pl (.u32 528734635), .pl (.u32 1541459225)]⟩)] (Told (fun v m => v = .w (.agg (bytesC (key1 c b) ++ (bytesC (key2 c b) ++ bytesC (key3 c b)))) ∧ m = [])) := by
 obtain ⟨t, ht⟩ : ∃ t, macB c b = t := ⟨_, rfl⟩
 obtain ⟨k1, hk1⟩ : ∃ k, key1 c b = k := ⟨_, rfl⟩
 obtain ⟨k2, hk2⟩ : ∃ k, key2 c b = k := ⟨_, rfl⟩
 obtain ⟨k3, hk3⟩ : ∃ k, key3 c b = k := ⟨_, rfl⟩
 have e1 : macB t (([] : List UInt8) ++ [1]) = k1 := by rw [← ht, ← hk1]; rfl
 have e2 : macB t (k1 ++ [2]) = k2 := by rw [← ht, ← hk1, ← hk2]; rfl
 have e3 : macB t (k2 ++ [3]) = k3 := by rw [← ht, ← hk2, ← hk3]; rfl
 have htl : t.length = 32 := by rw [← ht]; exact macB_length _ _
 have hl1 : k1.length = 32 := by rw [← hk1]; exact key1_length _ _
 have hl2 : k2.length = 32 := by rw [← hk2]; exact key2_length _ _
 have hl3 : k3.length = 32 := by rw [← hk3]; exact key3_length _ _
 have hM0 := macof_ c b (by omega) hb
 rw [ht] at hM0
 have hT1 := text_ c hc
 have hT2 := text_ t htl
 have hM1 := macof_ t [1] (by omega) (by simp)
 have e1' : macB t [1] = k1 := e1
 rw [e1'] at hM1
 have hT3 := text_ k1 hl1
 have hM2 := macof_ t (k1 ++ [2]) (by omega) (by simp [hl1])
 rw [e2] at hM2
 have hT4 := text_ k2 hl2
 have hM3 := macof_ t (k2 ++ [3]) (by omega) (by simp [hl2])
 rw [e3] at hM3
 have F0 := And.intro hc <| And.intro htl <| And.intro hl1 <| And.intro hl2 <| hl3
 refine CtM.k Tryd.func32 rfl Tryd.ntmps32 (congrArg Array.toList Tryd.results32) (by simp) fun w0 ro may fx => ?_
 refine top_k fun zZ zhZ => ?_
 refine sr_k fun zK zhK => ?_
 simp only [go_sem, F0]
 repeat' (first | apply And.intro | intro _)
 refine zhK _ ?_
 refine sr_k fun zK zhK => ?_
 simp only [go_sem, F0]
 repeat' (first | apply And.intro | intro _)
 all_goals (refine call_view (fun k => k) (fun _ _ => rfl) ?_ (hT1.plain fun _ _ h => h) ?_; focus (first | rfl | (simp only [go_sem, F0] <;> rfl)))
 all_goals (rintro v m ⟨hR, hm⟩; subst hR; subst hm)
 all_goals refine And.intro (by first | rfl | simp only [go_sem, F0]) (And.intro (by first | rfl | simp only [go_sem, F0]) ?_)
 all_goals simp only [go_sem, F0]
 all_goals repeat' (first | apply And.intro | intro _)
 all_goals (refine call_hand false [] (fun k => k) (fun _ _ => rfl) ?_ (by decide) ?_ hM0.told ?_; iterate 2 (focus (first | rfl | (simp only [go_sem, F0] <;> first | done | rfl | simp))))
 all_goals (rintro v m ⟨hR, hm⟩; subst hR; subst hm)
 all_goals (refine And.intro ?_ (And.intro ?_ (And.intro ?_ ?_)); iterate 3 (focus (first | rfl | (simp only [go_sem, F0]; done) | (simp [go_sem, look, F0]; done))))
 all_goals (try simp only [go_sem, F0])
 all_goals (try simp only [go_sem, F0])
 all_goals repeat' (first | apply And.intro | intro _)
 all_goals (refine call_view (fun k => k) (fun _ _ => rfl) ?_ (hT2.plain fun _ _ h => h) ?_; focus (first | rfl | (simp only [go_sem, F0] <;> rfl)))
 all_goals (rintro v m ⟨hR, hm⟩; subst hR; subst hm)
 all_goals refine And.intro (by first | rfl | simp only [go_sem, F0]) (And.intro (by first | rfl | simp only [go_sem, F0]) ?_)
 all_goals simp only [go_sem, F0]
 all_goals repeat' (first | apply And.intro | intro _)
 refine zhK _ ?_
 refine sr_k fun zK zhK => ?_
 simp only [go_sem, F0]
 repeat' (first | apply And.intro | intro _)
 all_goals (refine call_hand false [] (fun k => k) (fun _ _ => rfl) ?_ (by decide) ?_ hM1.told ?_; iterate 2 (focus (first | rfl | (simp only [go_sem, F0] <;> first | done | rfl | simp))))
 all_goals (rintro v m ⟨hR, hm⟩; subst hR; subst hm)
 all_goals (refine And.intro ?_ (And.intro ?_ (And.intro ?_ ?_)); iterate 3 (focus (first | rfl | (simp only [go_sem, F0]; done) | (simp [go_sem, look, F0]; done))))
 all_goals (try simp only [go_sem, F0])
 all_goals (try simp only [go_sem, F0])
 all_goals repeat' (first | apply And.intro | intro _)
 refine zhK _ ?_
 refine sr_k fun zK zhK => ?_
 simp only [go_sem, F0]
 repeat' (first | apply And.intro | intro _)
 all_goals (refine call_view (fun k => k) (fun _ _ => rfl) ?_ (hT3.plain fun _ _ h => h) ?_; focus (first | rfl | (simp only [go_sem, F0] <;> rfl)))
 all_goals (rintro v m ⟨hR, hm⟩; subst hR; subst hm)
 all_goals refine And.intro (by first | rfl | simp only [go_sem, F0]) (And.intro (by first | rfl | simp only [go_sem, F0]) ?_)
 all_goals simp only [go_sem, F0]
 all_goals repeat' (first | apply And.intro | intro _)
 all_goals (refine call_hand false [] (fun k => k) (fun _ _ => rfl) ?_ (by decide) ?_ hM2.told ?_; iterate 2 (focus (first | rfl | (simp only [go_sem, F0] <;> first | done | rfl | simp))))
 all_goals (rintro v m ⟨hR, hm⟩; subst hR; subst hm)
 all_goals (refine And.intro ?_ (And.intro ?_ (And.intro ?_ ?_)); iterate 3 (focus (first | rfl | (simp only [go_sem, F0]; done) | (simp [go_sem, look, F0]; done))))
 all_goals (try simp only [go_sem, F0])
 all_goals (try simp only [go_sem, F0])
 all_goals repeat' (first | apply And.intro | intro _)
 refine zhK _ ?_
 refine seq_k fun zN zM zhN zhM => ?_
 refine dr_k (id := 4) mixed fun zE zhE => ?_
 refine dr_piece_k (p := 0) 7 [20, 21, 22, 23, 24, 25, 26] [0, 0, 0, 0, 8, 24, 60, 127, 255] [] rfl (by kernel_rfl) rfl (by simp only [go_sem]) fun zR zK zhR zhK => ?_
 simp only [go_sem, F0]
 repeat' (first | apply And.intro | intro _)
 all_goals (refine call_draw (fun k => k) (.w (.one (.pl (.str k2)))) [] (fun _ _ => rfl) ?_ (hT4.plain fun _ _ h => h) ?_ ?_; focus (first | rfl | (simp only [go_sem, F0] <;> rfl)))
 all_goals try (refine And.intro ?_ (And.intro ?_ (And.intro ?_ ?_)) <;> first | rfl | simp only [go_sem])
 all_goals simp only [go_sem, F0]
 all_goals repeat' (first | apply And.intro | intro _)
 all_goals (refine call_drawhand (fun k => k) (.w (.agg (bytesC k3))) [] (fun _ _ => rfl) ?_ ?_ ?_ hM3.told ?_ ?_; (iterate 2 (focus (first | rfl | (simp only [go_sem, F0] <;> first | done | rfl | simp)))); (first | kernel_rfl | rfl | simp [fixO, fixL, pls]))
 all_goals try (refine And.intro ?_ (And.intro ?_ (And.intro ?_ ?_)) <;> (first | rfl | (simp only [go_sem, F0]; done) | (simp [go_sem, look, F0]; done)))
 all_goals (try simp only [go_sem, F0])
 all_goals (try simp only [go_sem, F0])
 all_goals repeat' (first | apply And.intro | intro _)
 refine zhK _ _ trivial (zhR _ ?_)
 refine dr_runs_k 2 9 rfl (by kernel_rfl) rfl rfl fun zR zhR => ?_
 simp only [go_sem, F0]
 repeat' (first | apply And.intro | intro _)
 refine zhR _ ?_
 refine dr_end rfl (zhE _ ?_)
 refine zhN _ ?_; clear zhN zhM
 refine ret_k ?_
 refine zhZ _ _ ?_
 simp only [go_sem, F0]
 all_goals (rw [hk1, hk2, hk3]; exact told_plain (by simp [plainV, plainW, bytesC]) ⟨by simp, rfl⟩)
theorem same96 {l : List UInt8} (h : l.length = 96) : aggEq Tryd.prog 66 (bytesC l) (bytesC l) = some true := by
 have hk : (bytesC l).map kindL = ((List.replicate 32 (.int .u8) ++ (List.replicate 32 (.int .u8) ++ List.replicate 32 (.int .u8)) : List Kd)).map some := by rw [kinds_bytes h]; rfl
 rw [ae66 hk hk, eqC_bytes rfl]; simp
end Bk
end Go.Sy
