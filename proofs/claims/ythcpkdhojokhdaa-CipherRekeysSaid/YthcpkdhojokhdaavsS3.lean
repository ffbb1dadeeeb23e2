/- The tag of what is beside and of what is locked. -/
import Derived.Test.YthcpkdhojokhdaavsS2
set_option linter.unusedVariables false
set_option linter.unusedSimpArgs false
namespace Go.Sy
open Go.Proofs
attribute [local irreducible] atCall HT runOps runD onC onE onO onG goV goA goS onSt onGuard
set_option maxHeartbeats 3200000 in
set_option maxRecDepth 100000 in
theorem tag_nn (key nonce ad text once : List UInt8) (hk : key.length = 32) (hn : nonce.length = 12) (h64 : once.length = 64) (h1 : ad.length ≤ 200) (h2 : text.length ≤ 800) (ex1 ex2 : Bool) (tg : List UInt8) (htg : tg.length = 16) (p1 : ¬ padN ad = 0) (p2 : ¬ padN text = 0) (hB : Ct Try.prog 24 [.w (.agg (bytesC key)), .w (.one (.pl (.u32 0))), .w (.agg (bytesC nonce))] (fun v m => v = .w (.agg (bytesC once)))) (hT : Ct Try.prog 22 [.w (.agg (bytesC (once.take 32))), .w (.one (.pl (.R false 1 (byteRows (padB ad ++ padB text ++ eightB ad.length ++ eightB text.length)))))] (fun v m => v = .w (.agg (bytesC tg)))) :
 CtM Try.prog 52 [.w (.agg (bytesC key)), .w (.agg (bytesC nonce)), .w (.one (.pl (.R ex1 1 (byteRows ad)))), .w (.one (.pl (.R ex2 1 (byteRows text))))] [] (Told (fun v m => v = .w (.agg (bytesC tg)) ∧ m = [])) := by
 have hP1 := padded_n ad ex1 (by omega) p1
 have hP2 := padded_n text ex2 (by omega) p2
 obtain ⟨a, ha⟩ : ∃ q, padB ad = q := ⟨_, rfl⟩
 have hal : a.length ≤ 300 := by rw [← ha]; simp [padB]; unfold padN; omega
 obtain ⟨t, ht⟩ : ∃ q, padB text = q := ⟨_, rfl⟩
 have htl : t.length ≤ 900 := by rw [← ht]; simp [padB]; unfold padN; omega
 have htn : ¬ t.length = 0 := by rw [← ht]; simp only [padB, List.length_append, List.length_replicate]; omega
 have hE1 := eight_ ad.length (by omega)
 have hE2 := eight_ text.length (by omega)
 obtain ⟨e, he⟩ : ∃ q, eightB ad.length = q := ⟨_, rfl⟩
 have hel : e.length = 8 := by rw [← he]; rfl
 obtain ⟨f, hf⟩ : ∃ q, eightB text.length = q := ⟨_, rfl⟩
 have hfl : f.length = 8 := by rw [← hf]; rfl
 rw [ha] at hP1 hT
 rw [ht] at hP2 hT
 rw [he] at hE1 hT
 rw [hf] at hE2 hT
 have hq1 : a.length + t.length ≤ 140737488355328 := by omega
 have hq2 : a.length + t.length + 8 ≤ 140737488355328 := by omega
 have hq3 : a.length + t.length + 8 + 8 ≤ 140737488355328 := by omega
 obtain ⟨z, hz⟩ : ∃ q, a ++ t ++ e ++ f = q := ⟨_, rfl⟩
 have hzl : z.length = a.length + t.length + 8 + 8 := by rw [← hz]; simp only [List.length_append, hel, hfl]
 rw [hz] at hT
 have hch : chunks 1 (a.length + t.length + 8 + 8) (z.map PL.u8) = byteRows z := chunks_bytes' hzl
 have hm1 : min 64 32 = 32 := rfl
 have hm2 : min 32 64 = 32 := rfl
 have hdr : List.drop 32 (List.replicate 32 (0 : UInt8)) = [] := rfl
 obtain ⟨o32, ho⟩ : ∃ q, once.take 32 = q := ⟨_, rfl⟩
 have hol : o32.length = 32 := by rw [← ho, List.length_take]; omega
 rw [ho] at hT
 have F0 := And.intro hk <| And.intro hn <| And.intro h64 <| And.intro htg <| And.intro hel <| And.intro hfl <| And.intro hq1 <| And.intro hq2 <| And.intro hq3 <| And.intro hz <| And.intro hzl <| And.intro ho <| And.intro hol <| And.intro hm1 <| And.intro hm2 <| And.intro hdr <| And.intro hch <| htn
 refine CtM.k Try.func52 rfl Try.ntmps52 (congrArg Array.toList Try.results52) (by simp) fun w0 ro may fx => ?_
 refine top_k fun zZ zhZ => ?_
 refine sr_k fun zK zhK => ?_
 simp only [go_sem, F0]
 repeat' (first | apply And.intro | intro _)
 refine zhK _ ?_
 refine sr_k fun zK zhK => ?_
 simp only [go_sem, F0]
 repeat' (first | apply And.intro | intro _)
 all_goals (refine call_view (fun k => k) (fun _ _ => rfl) ?_ (hB.plain fun _ _ h => h) ?_; focus (first | rfl | (simp only [go_sem, F0] <;> rfl)))
 all_goals (rintro v m ⟨hR, hm⟩; subst hR; subst hm)
 all_goals refine And.intro (by first | rfl | simp only [go_sem, F0]) (And.intro (by first | rfl | simp only [go_sem, F0]) ?_)
 all_goals simp only [go_sem, F0]
 all_goals repeat' (first | apply And.intro | intro _)
 refine zhK _ ?_
 refine sr_k fun zK zhK => ?_
 simp only [go_sem, F0]
 repeat' (first | apply And.intro | intro _)
 refine zhK _ ?_
 refine seq_k fun zN zM zhN zhM => ?_
 refine draw_k (id := 3) [15, 16, 17] [0, 0, 3] [] mixed (by kernel_rfl) (by simp only [go_sem]) fun zK zhK => ?_
 simp only [go_sem, F0]
 repeat' (first | apply And.intro | intro _)
 refine zhK _ _ trivial ?_
 refine zhN _ ?_; clear zhN zhM
 refine sr_k fun zK zhK => ?_
 simp only [go_sem, F0]
 repeat' (first | apply And.intro | intro _)
 all_goals (refine call_hand false [] (fun _ => 19) (fun _ _ => rfl) ?_ (by decide) ?_ hP1.told ?_; iterate 2 (focus (first | rfl | (simp only [go_sem, F0] <;> first | done | rfl | simp))))
 all_goals (rintro v m ⟨hR, hm⟩; subst hR; subst hm)
 all_goals (refine And.intro ?_ (And.intro ?_ (And.intro ?_ ?_)); iterate 3 (focus (first | rfl | (simp only [go_sem, F0]; done) | (simp [go_sem, look, F0]; done))))
 all_goals (try simp only [go_sem, F0])
 all_goals (try simp only [go_sem, F0])
 all_goals repeat' (first | apply And.intro | intro _)
 all_goals (refine call_hand false [] (fun _ => 21) (fun _ _ => rfl) ?_ (by decide) ?_ hP2.told ?_; iterate 2 (focus (first | rfl | (simp only [go_sem, F0] <;> first | done | rfl | simp))))
 all_goals (rintro v m ⟨hR, hm⟩; subst hR; subst hm)
 all_goals (refine And.intro ?_ (And.intro ?_ (And.intro ?_ ?_)); iterate 3 (focus (first | rfl | (simp only [go_sem, F0]; done) | (simp [go_sem, look, F0]; done))))
 all_goals (try simp only [go_sem, F0])
 all_goals (try simp only [go_sem, F0])
 all_goals repeat' (first | apply And.intro | intro _)
 refine zhK _ ?_
 refine seq_k fun zN zM zhN zhM => ?_
 refine dr_k (id := 5) mixed fun zE zhE => ?_
 refine dr_piece_k (p := 0) 10 [23, 24, 25, 26, 27, 28, 29, 30, 31, 32] [0, 0, 0, 4, 12, 30, 0, 64, 254, 510, 1023, 2047] [(0, 5), (5, 6), (5, 7), (0, 9)] rfl (by kernel_rfl) rfl (by simp only [go_sem]) fun zR zK zhR zhK => ?_
 simp only [go_sem, F0]
 repeat' (first | apply And.intro | intro _)
 all_goals (refine call_drawhand (fun _ => 27) (.w (.one (.s 0 [] e.length 1))) [(0, ⟨true, bytesC e⟩)] (fun _ _ => rfl) ?_ ?_ ?_ hE1.told ?_ ?_; (iterate 2 (focus (first | rfl | (simp only [go_sem, F0] <;> first | done | rfl | simp)))); (first | kernel_rfl | rfl | simp [fixO, fixL, pls]))
 all_goals try (refine And.intro ?_ (And.intro ?_ (And.intro ?_ ?_)) <;> (first | rfl | (simp only [go_sem, F0]; done) | (simp [go_sem, look, F0]; done)))
 all_goals (try simp only [go_sem, F0])
 all_goals (try simp only [go_sem, F0])
 all_goals repeat' (first | apply And.intro | intro _)
 all_goals (refine call_drawhand (fun _ => 31) (.w (.one (.s 0 [] f.length 1))) [(0, ⟨true, bytesC f⟩)] (fun _ _ => rfl) ?_ ?_ ?_ hE2.told ?_ ?_; (iterate 2 (focus (first | rfl | (simp only [go_sem, F0] <;> first | done | rfl | simp)))); (first | kernel_rfl | rfl | simp [fixO, fixL, pls]))
 all_goals try (refine And.intro ?_ (And.intro ?_ (And.intro ?_ ?_)) <;> (first | rfl | (simp only [go_sem, F0]; done) | (simp [go_sem, look, F0]; done)))
 all_goals (try simp only [go_sem, F0])
 all_goals (try simp only [go_sem, F0])
 all_goals repeat' (first | apply And.intro | intro _)
 refine zhK _ _ ?_ (zhR _ ?_)
 focus (first | trivial | (simp only [go_sem]; done) | (simp only [go_sem]; simp; done) | (simp only [go_sem]; simp; simp only [go_sem]))
 refine dr_runs_k 2 12 rfl (by kernel_rfl) rfl rfl fun zR zhR => ?_
 simp only [go_sem, F0]
 repeat' (first | apply And.intro | intro _)
 all_goals (refine call_view (fun k => k) (fun _ _ => rfl) ?_ (hT.plain fun _ _ h => h) ?_; focus (first | rfl | (simp only [go_sem, F0] <;> rfl)))
 all_goals (rintro v m ⟨hR, hm⟩; subst hR; subst hm)
 all_goals refine And.intro (by first | rfl | simp only [go_sem, F0]) (And.intro (by first | rfl | simp only [go_sem, F0]) ?_)
 all_goals simp only [go_sem, F0]
 all_goals repeat' (first | apply And.intro | intro _)
 refine zhR _ ?_
 refine dr_end rfl (zhE _ ?_)
 refine zhN _ ?_; clear zhN zhM
 refine ret_k ?_
 refine zhZ _ _ ?_
 simp only [go_sem, F0]
 all_goals (exact told_plain (by simp [plainV, plainW, bytesC]) ⟨rfl, rfl⟩)
set_option maxHeartbeats 3200000 in
set_option maxRecDepth 100000 in
theorem tag_n0 (key nonce ad text once : List UInt8) (hk : key.length = 32) (hn : nonce.length = 12) (h64 : once.length = 64) (h1 : ad.length ≤ 200) (h2 : text.length ≤ 800) (ex1 ex2 : Bool) (tg : List UInt8) (htg : tg.length = 16) (p1 : ¬ padN ad = 0) (p2 : padN text = 0) (hB : Ct Try.prog 24 [.w (.agg (bytesC key)), .w (.one (.pl (.u32 0))), .w (.agg (bytesC nonce))] (fun v m => v = .w (.agg (bytesC once)))) (hT : Ct Try.prog 22 [.w (.agg (bytesC (once.take 32))), .w (.one (.pl (.R false 1 (byteRows (padB ad ++ padB text ++ eightB ad.length ++ eightB text.length)))))] (fun v m => v = .w (.agg (bytesC tg)))) :
 CtM Try.prog 52 [.w (.agg (bytesC key)), .w (.agg (bytesC nonce)), .w (.one (.pl (.R ex1 1 (byteRows ad)))), .w (.one (.pl (.R ex2 1 (byteRows text))))] [] (Told (fun v m => v = .w (.agg (bytesC tg)) ∧ m = [])) := by
 have hP1 := padded_n ad ex1 (by omega) p1
 have hP2 := padded_0 text ex2 (by omega) p2
 have hpt : padB text = text := by simp [padB, p2]
 obtain ⟨a, ha⟩ : ∃ q, padB ad = q := ⟨_, rfl⟩
 have hal : a.length ≤ 300 := by rw [← ha]; simp [padB]; unfold padN; omega
 obtain ⟨t, ht⟩ : ∃ q, padB text = q := ⟨_, rfl⟩
 have htl : t.length ≤ 900 := by rw [← ht, hpt]; omega
 have hE1 := eight_ ad.length (by omega)
 have hE2 := eight_ text.length (by omega)
 obtain ⟨e, he⟩ : ∃ q, eightB ad.length = q := ⟨_, rfl⟩
 have hel : e.length = 8 := by rw [← he]; rfl
 obtain ⟨f, hf⟩ : ∃ q, eightB text.length = q := ⟨_, rfl⟩
 have hfl : f.length = 8 := by rw [← hf]; rfl
 rw [ha] at hP1 hT
 rw [ht] at hT hpt
 subst hpt
 rw [he] at hE1 hT
 rw [hf] at hE2 hT
 have hq1 : a.length + t.length ≤ 140737488355328 := by omega
 have hq2 : a.length + t.length + 8 ≤ 140737488355328 := by omega
 have hq3 : a.length + t.length + 8 + 8 ≤ 140737488355328 := by omega
 obtain ⟨z, hz⟩ : ∃ q, a ++ t ++ e ++ f = q := ⟨_, rfl⟩
 have hzl : z.length = a.length + t.length + 8 + 8 := by rw [← hz]; simp only [List.length_append, hel, hfl]
 rw [hz] at hT
 have hch : chunks 1 (a.length + t.length + 8 + 8) (z.map PL.u8) = byteRows z := chunks_bytes' hzl
 have hm1 : min 64 32 = 32 := rfl
 have hm2 : min 32 64 = 32 := rfl
 have hdr : List.drop 32 (List.replicate 32 (0 : UInt8)) = [] := rfl
 obtain ⟨o32, ho⟩ : ∃ q, once.take 32 = q := ⟨_, rfl⟩
 have hol : o32.length = 32 := by rw [← ho, List.length_take]; omega
 rw [ho] at hT
 have F0 := And.intro hk <| And.intro hn <| And.intro h64 <| And.intro htg <| And.intro hel <| And.intro hfl <| And.intro hq1 <| And.intro hq2 <| And.intro hq3 <| And.intro hz <| And.intro hzl <| And.intro ho <| And.intro hol <| And.intro hm1 <| And.intro hm2 <| And.intro hdr <| hch
 refine CtM.k Try.func52 rfl Try.ntmps52 (congrArg Array.toList Try.results52) (by simp) fun w0 ro may fx => ?_
 refine top_k fun zZ zhZ => ?_
 refine sr_k fun zK zhK => ?_
 simp only [go_sem, F0]
 repeat' (first | apply And.intro | intro _)
 refine zhK _ ?_
 refine sr_k fun zK zhK => ?_
 simp only [go_sem, F0]
 repeat' (first | apply And.intro | intro _)
 all_goals (refine call_view (fun k => k) (fun _ _ => rfl) ?_ (hB.plain fun _ _ h => h) ?_; focus (first | rfl | (simp only [go_sem, F0] <;> rfl)))
 all_goals (rintro v m ⟨hR, hm⟩; subst hR; subst hm)
 all_goals refine And.intro (by first | rfl | simp only [go_sem, F0]) (And.intro (by first | rfl | simp only [go_sem, F0]) ?_)
 all_goals simp only [go_sem, F0]
 all_goals repeat' (first | apply And.intro | intro _)
 refine zhK _ ?_
 refine sr_k fun zK zhK => ?_
 simp only [go_sem, F0]
 repeat' (first | apply And.intro | intro _)
 refine zhK _ ?_
 refine seq_k fun zN zM zhN zhM => ?_
 refine draw_k (id := 3) [15, 16, 17] [0, 0, 3] [] mixed (by kernel_rfl) (by simp only [go_sem]) fun zK zhK => ?_
 simp only [go_sem, F0]
 repeat' (first | apply And.intro | intro _)
 refine zhK _ _ trivial ?_
 refine zhN _ ?_; clear zhN zhM
 refine sr_k fun zK zhK => ?_
 simp only [go_sem, F0]
 repeat' (first | apply And.intro | intro _)
 all_goals (refine call_hand false [] (fun _ => 19) (fun _ _ => rfl) ?_ (by decide) ?_ hP1.told ?_; iterate 2 (focus (first | rfl | (simp only [go_sem, F0] <;> first | done | rfl | simp))))
 all_goals (rintro v m ⟨hR, hm⟩; subst hR; subst hm)
 all_goals (refine And.intro ?_ (And.intro ?_ (And.intro ?_ ?_)); iterate 3 (focus (first | rfl | (simp only [go_sem, F0]; done) | (simp [go_sem, look, F0]; done))))
 all_goals (try simp only [go_sem, F0])
 all_goals (try simp only [go_sem, F0])
 all_goals repeat' (first | apply And.intro | intro _)
 all_goals (refine call_hand false [] (fun k => k) (fun _ _ => rfl) ?_ (by decide) ?_ hP2.hands ?_; iterate 2 (focus (first | rfl | (simp only [go_sem, F0] <;> first | done | rfl | simp))))
 all_goals (rintro v m ⟨hR, hm⟩; subst hR; subst hm)
 all_goals (refine And.intro ?_ (And.intro ?_ (And.intro ?_ ?_)); iterate 3 (focus (first | rfl | (simp only [go_sem, F0]; done) | (simp [go_sem, look, F0]; done))))
 all_goals (try simp only [go_sem, F0])
 all_goals (try simp only [go_sem, F0])
 all_goals repeat' (first | apply And.intro | intro _)
 refine zhK _ ?_
 refine seq_k fun zN zM zhN zhM => ?_
 refine dr_k (id := 5) mixed fun zE zhE => ?_
 refine dr_piece_k (p := 0) 10 [23, 24, 25, 26, 27, 28, 29, 30, 31, 32] [0, 0, 0, 4, 12, 30, 0, 64, 254, 510, 1023, 2047] [(0, 5), (5, 6), (5, 7), (0, 9)] rfl (by kernel_rfl) rfl (by simp only [go_sem]) fun zR zK zhR zhK => ?_
 simp only [go_sem, F0]
 repeat' (first | apply And.intro | intro _)
 all_goals (refine call_drawhand (fun _ => 27) (.w (.one (.s 0 [] e.length 1))) [(0, ⟨true, bytesC e⟩)] (fun _ _ => rfl) ?_ ?_ ?_ hE1.told ?_ ?_; (iterate 2 (focus (first | rfl | (simp only [go_sem, F0] <;> first | done | rfl | simp)))); (first | kernel_rfl | rfl | simp [fixO, fixL, pls]))
 all_goals try (refine And.intro ?_ (And.intro ?_ (And.intro ?_ ?_)) <;> (first | rfl | (simp only [go_sem, F0]; done) | (simp [go_sem, look, F0]; done)))
 all_goals (try simp only [go_sem, F0])
 all_goals (try simp only [go_sem, F0])
 all_goals repeat' (first | apply And.intro | intro _)
 all_goals (refine call_drawhand (fun _ => 31) (.w (.one (.s 0 [] f.length 1))) [(0, ⟨true, bytesC f⟩)] (fun _ _ => rfl) ?_ ?_ ?_ hE2.told ?_ ?_; (iterate 2 (focus (first | rfl | (simp only [go_sem, F0] <;> first | done | rfl | simp)))); (first | kernel_rfl | rfl | simp [fixO, fixL, pls]))
 all_goals try (refine And.intro ?_ (And.intro ?_ (And.intro ?_ ?_)) <;> (first | rfl | (simp only [go_sem, F0]; done) | (simp [go_sem, look, F0]; done)))
 all_goals (try simp only [go_sem, F0])
 all_goals (try simp only [go_sem, F0])
 all_goals repeat' (first | apply And.intro | intro _)
 refine zhK _ _ ?_ (zhR _ ?_)
 focus (first | trivial | (simp only [go_sem]; done) | (simp only [go_sem]; simp; done) | (simp only [go_sem]; simp; simp only [go_sem]))
 refine dr_runs_k 2 12 rfl (by kernel_rfl) rfl rfl fun zR zhR => ?_
 simp only [go_sem, F0]
 repeat' (first | apply And.intro | intro _)
 all_goals (refine call_view (fun k => k) (fun _ _ => rfl) ?_ (hT.plain fun _ _ h => h) ?_; focus (first | rfl | (simp only [go_sem, F0] <;> rfl)))
 all_goals (rintro v m ⟨hR, hm⟩; subst hR; subst hm)
 all_goals refine And.intro (by first | rfl | simp only [go_sem, F0]) (And.intro (by first | rfl | simp only [go_sem, F0]) ?_)
 all_goals simp only [go_sem, F0]
 all_goals repeat' (first | apply And.intro | intro _)
 refine zhR _ ?_
 refine dr_end rfl (zhE _ ?_)
 refine zhN _ ?_; clear zhN zhM
 refine ret_k ?_
 refine zhZ _ _ ?_
 simp only [go_sem, F0]
 all_goals (exact told_plain (by simp [plainV, plainW, bytesC]) ⟨rfl, rfl⟩)
set_option maxHeartbeats 3200000 in
set_option maxRecDepth 100000 in
theorem tag_0n (key nonce ad text once : List UInt8) (hk : key.length = 32) (hn : nonce.length = 12) (h64 : once.length = 64) (h1 : ad.length ≤ 200) (h2 : text.length ≤ 800) (ex1 ex2 : Bool) (tg : List UInt8) (htg : tg.length = 16) (p1 : padN ad = 0) (p2 : ¬ padN text = 0) (hB : Ct Try.prog 24 [.w (.agg (bytesC key)), .w (.one (.pl (.u32 0))), .w (.agg (bytesC nonce))] (fun v m => v = .w (.agg (bytesC once)))) (hT : Ct Try.prog 22 [.w (.agg (bytesC (once.take 32))), .w (.one (.pl (.R false 1 (byteRows (padB ad ++ padB text ++ eightB ad.length ++ eightB text.length)))))] (fun v m => v = .w (.agg (bytesC tg)))) :
 CtM Try.prog 52 [.w (.agg (bytesC key)), .w (.agg (bytesC nonce)), .w (.one (.pl (.R ex1 1 (byteRows ad)))), .w (.one (.pl (.R ex2 1 (byteRows text))))] [] (Told (fun v m => v = .w (.agg (bytesC tg)) ∧ m = [])) := by
 have hP1 := padded_0 ad ex1 (by omega) p1
 have hpa : padB ad = ad := by simp [padB, p1]
 have hP2 := padded_n text ex2 (by omega) p2
 obtain ⟨a, ha⟩ : ∃ q, padB ad = q := ⟨_, rfl⟩
 have hal : a.length ≤ 300 := by rw [← ha, hpa]; omega
 obtain ⟨t, ht⟩ : ∃ q, padB text = q := ⟨_, rfl⟩
 have htl : t.length ≤ 900 := by rw [← ht]; simp [padB]; unfold padN; omega
 have htn : ¬ t.length = 0 := by rw [← ht]; simp only [padB, List.length_append, List.length_replicate]; omega
 have hE1 := eight_ ad.length (by omega)
 have hE2 := eight_ text.length (by omega)
 obtain ⟨e, he⟩ : ∃ q, eightB ad.length = q := ⟨_, rfl⟩
 have hel : e.length = 8 := by rw [← he]; rfl
 obtain ⟨f, hf⟩ : ∃ q, eightB text.length = q := ⟨_, rfl⟩
 have hfl : f.length = 8 := by rw [← hf]; rfl
 rw [ha] at hT hpa
 subst hpa
 rw [ht] at hP2 hT
 rw [he] at hE1 hT
 rw [hf] at hE2 hT
 have hq1 : a.length + t.length ≤ 140737488355328 := by omega
 have hq2 : a.length + t.length + 8 ≤ 140737488355328 := by omega
 have hq3 : a.length + t.length + 8 + 8 ≤ 140737488355328 := by omega
 obtain ⟨z, hz⟩ : ∃ q, a ++ t ++ e ++ f = q := ⟨_, rfl⟩
 have hzl : z.length = a.length + t.length + 8 + 8 := by rw [← hz]; simp only [List.length_append, hel, hfl]
 rw [hz] at hT
 have hch : chunks 1 (a.length + t.length + 8 + 8) (z.map PL.u8) = byteRows z := chunks_bytes' hzl
 have hm1 : min 64 32 = 32 := rfl
 have hm2 : min 32 64 = 32 := rfl
 have hdr : List.drop 32 (List.replicate 32 (0 : UInt8)) = [] := rfl
 obtain ⟨o32, ho⟩ : ∃ q, once.take 32 = q := ⟨_, rfl⟩
 have hol : o32.length = 32 := by rw [← ho, List.length_take]; omega
 rw [ho] at hT
 have F0 := And.intro hk <| And.intro hn <| And.intro h64 <| And.intro htg <| And.intro hel <| And.intro hfl <| And.intro hq1 <| And.intro hq2 <| And.intro hq3 <| And.intro hz <| And.intro hzl <| And.intro ho <| And.intro hol <| And.intro hm1 <| And.intro hm2 <| And.intro hdr <| And.intro hch <| htn
 refine CtM.k Try.func52 rfl Try.ntmps52 (congrArg Array.toList Try.results52) (by simp) fun w0 ro may fx => ?_
 refine top_k fun zZ zhZ => ?_
 refine sr_k fun zK zhK => ?_
 simp only [go_sem, F0]
 repeat' (first | apply And.intro | intro _)
 refine zhK _ ?_
 refine sr_k fun zK zhK => ?_
 simp only [go_sem, F0]
 repeat' (first | apply And.intro | intro _)
 all_goals (refine call_view (fun k => k) (fun _ _ => rfl) ?_ (hB.plain fun _ _ h => h) ?_; focus (first | rfl | (simp only [go_sem, F0] <;> rfl)))
 all_goals (rintro v m ⟨hR, hm⟩; subst hR; subst hm)
 all_goals refine And.intro (by first | rfl | simp only [go_sem, F0]) (And.intro (by first | rfl | simp only [go_sem, F0]) ?_)
 all_goals simp only [go_sem, F0]
 all_goals repeat' (first | apply And.intro | intro _)
 refine zhK _ ?_
 refine sr_k fun zK zhK => ?_
 simp only [go_sem, F0]
 repeat' (first | apply And.intro | intro _)
 refine zhK _ ?_
 refine seq_k fun zN zM zhN zhM => ?_
 refine draw_k (id := 3) [15, 16, 17] [0, 0, 3] [] mixed (by kernel_rfl) (by simp only [go_sem]) fun zK zhK => ?_
 simp only [go_sem, F0]
 repeat' (first | apply And.intro | intro _)
 refine zhK _ _ trivial ?_
 refine zhN _ ?_; clear zhN zhM
 refine sr_k fun zK zhK => ?_
 simp only [go_sem, F0]
 repeat' (first | apply And.intro | intro _)
 all_goals (refine call_hand false [] (fun k => k) (fun _ _ => rfl) ?_ (by decide) ?_ hP1.hands ?_; iterate 2 (focus (first | rfl | (simp only [go_sem, F0] <;> first | done | rfl | simp))))
 all_goals (rintro v m ⟨hR, hm⟩; subst hR; subst hm)
 all_goals (refine And.intro ?_ (And.intro ?_ (And.intro ?_ ?_)); iterate 3 (focus (first | rfl | (simp only [go_sem, F0]; done) | (simp [go_sem, look, F0]; done))))
 all_goals (try simp only [go_sem, F0])
 all_goals (try simp only [go_sem, F0])
 all_goals repeat' (first | apply And.intro | intro _)
 all_goals (refine call_hand false [] (fun _ => 21) (fun _ _ => rfl) ?_ (by decide) ?_ hP2.told ?_; iterate 2 (focus (first | rfl | (simp only [go_sem, F0] <;> first | done | rfl | simp))))
 all_goals (rintro v m ⟨hR, hm⟩; subst hR; subst hm)
 all_goals (refine And.intro ?_ (And.intro ?_ (And.intro ?_ ?_)); iterate 3 (focus (first | rfl | (simp only [go_sem, F0]; done) | (simp [go_sem, look, F0]; done))))
 all_goals (try simp only [go_sem, F0])
 all_goals (try simp only [go_sem, F0])
 all_goals repeat' (first | apply And.intro | intro _)
 refine zhK _ ?_
 refine seq_k fun zN zM zhN zhM => ?_
 refine dr_k (id := 5) mixed fun zE zhE => ?_
 refine dr_piece_k (p := 0) 10 [23, 24, 25, 26, 27, 28, 29, 30, 31, 32] [0, 0, 0, 4, 12, 30, 0, 64, 254, 510, 1023, 2047] [(0, 5), (5, 6), (5, 7), (0, 9)] rfl (by kernel_rfl) rfl (by simp only [go_sem]) fun zR zK zhR zhK => ?_
 simp only [go_sem, F0]
 repeat' (first | apply And.intro | intro _)
 all_goals (refine call_drawhand (fun _ => 27) (.w (.one (.s 0 [] e.length 1))) [(0, ⟨true, bytesC e⟩)] (fun _ _ => rfl) ?_ ?_ ?_ hE1.told ?_ ?_; (iterate 2 (focus (first | rfl | (simp only [go_sem, F0] <;> first | done | rfl | simp)))); (first | kernel_rfl | rfl | simp [fixO, fixL, pls]))
 all_goals try (refine And.intro ?_ (And.intro ?_ (And.intro ?_ ?_)) <;> (first | rfl | (simp only [go_sem, F0]; done) | (simp [go_sem, look, F0]; done)))
 all_goals (try simp only [go_sem, F0])
 all_goals (try simp only [go_sem, F0])
 all_goals repeat' (first | apply And.intro | intro _)
 all_goals (refine call_drawhand (fun _ => 31) (.w (.one (.s 0 [] f.length 1))) [(0, ⟨true, bytesC f⟩)] (fun _ _ => rfl) ?_ ?_ ?_ hE2.told ?_ ?_; (iterate 2 (focus (first | rfl | (simp only [go_sem, F0] <;> first | done | rfl | simp)))); (first | kernel_rfl | rfl | simp [fixO, fixL, pls]))
 all_goals try (refine And.intro ?_ (And.intro ?_ (And.intro ?_ ?_)) <;> (first | rfl | (simp only [go_sem, F0]; done) | (simp [go_sem, look, F0]; done)))
 all_goals (try simp only [go_sem, F0])
 all_goals (try simp only [go_sem, F0])
 all_goals repeat' (first | apply And.intro | intro _)
 refine zhK _ _ ?_ (zhR _ ?_)
 focus (first | trivial | (simp only [go_sem]; done) | (simp only [go_sem]; simp; done) | (simp only [go_sem]; simp; simp only [go_sem]))
 refine dr_runs_k 2 12 rfl (by kernel_rfl) rfl rfl fun zR zhR => ?_
 simp only [go_sem, F0]
 repeat' (first | apply And.intro | intro _)
 all_goals (refine call_view (fun k => k) (fun _ _ => rfl) ?_ (hT.plain fun _ _ h => h) ?_; focus (first | rfl | (simp only [go_sem, F0] <;> rfl)))
 all_goals (rintro v m ⟨hR, hm⟩; subst hR; subst hm)
 all_goals refine And.intro (by first | rfl | simp only [go_sem, F0]) (And.intro (by first | rfl | simp only [go_sem, F0]) ?_)
 all_goals simp only [go_sem, F0]
 all_goals repeat' (first | apply And.intro | intro _)
 refine zhR _ ?_
 refine dr_end rfl (zhE _ ?_)
 refine zhN _ ?_; clear zhN zhM
 refine ret_k ?_
 refine zhZ _ _ ?_
 simp only [go_sem, F0]
 all_goals (exact told_plain (by simp [plainV, plainW, bytesC]) ⟨rfl, rfl⟩)
set_option maxHeartbeats 3200000 in
set_option maxRecDepth 100000 in
theorem tag_00 (key nonce ad text once : List UInt8) (hk : key.length = 32) (hn : nonce.length = 12) (h64 : once.length = 64) (h1 : ad.length ≤ 200) (h2 : text.length ≤ 800) (ex1 ex2 : Bool) (tg : List UInt8) (htg : tg.length = 16) (p1 : padN ad = 0) (p2 : padN text = 0) (q2 : ¬ text.length = 0) (hB : Ct Try.prog 24 [.w (.agg (bytesC key)), .w (.one (.pl (.u32 0))), .w (.agg (bytesC nonce))] (fun v m => v = .w (.agg (bytesC once)))) (hT : Ct Try.prog 22 [.w (.agg (bytesC (once.take 32))), .w (.one (.pl (.R false 1 (byteRows (padB ad ++ padB text ++ eightB ad.length ++ eightB text.length)))))] (fun v m => v = .w (.agg (bytesC tg)))) :
 CtM Try.prog 52 [.w (.agg (bytesC key)), .w (.agg (bytesC nonce)), .w (.one (.pl (.R ex1 1 (byteRows ad)))), .w (.one (.pl (.R ex2 1 (byteRows text))))] [] (Told (fun v m => v = .w (.agg (bytesC tg)) ∧ m = [])) := by
 have hP1 := padded_0 ad ex1 (by omega) p1
 have hpa : padB ad = ad := by simp [padB, p1]
 have hP2 := padded_0 text ex2 (by omega) p2
 have hpt : padB text = text := by simp [padB, p2]
 obtain ⟨a, ha⟩ : ∃ q, padB ad = q := ⟨_, rfl⟩
 have hal : a.length ≤ 300 := by rw [← ha, hpa]; omega
 obtain ⟨t, ht⟩ : ∃ q, padB text = q := ⟨_, rfl⟩
 have htl : t.length ≤ 900 := by rw [← ht, hpt]; omega
 have hE1 := eight_ ad.length (by omega)
 have hE2 := eight_ text.length (by omega)
 obtain ⟨e, he⟩ : ∃ q, eightB ad.length = q := ⟨_, rfl⟩
 have hel : e.length = 8 := by rw [← he]; rfl
 obtain ⟨f, hf⟩ : ∃ q, eightB text.length = q := ⟨_, rfl⟩
 have hfl : f.length = 8 := by rw [← hf]; rfl
 rw [ha] at hT hpa
 subst hpa
 rw [ht] at hT hpt
 subst hpt
 rw [he] at hE1 hT
 rw [hf] at hE2 hT
 have hq1 : a.length + t.length ≤ 140737488355328 := by omega
 have hq2 : a.length + t.length + 8 ≤ 140737488355328 := by omega
 have hq3 : a.length + t.length + 8 + 8 ≤ 140737488355328 := by omega
 obtain ⟨z, hz⟩ : ∃ q, a ++ t ++ e ++ f = q := ⟨_, rfl⟩
 have hzl : z.length = a.length + t.length + 8 + 8 := by rw [← hz]; simp only [List.length_append, hel, hfl]
 rw [hz] at hT
 have hch : chunks 1 (a.length + t.length + 8 + 8) (z.map PL.u8) = byteRows z := chunks_bytes' hzl
 have hm1 : min 64 32 = 32 := rfl
 have hm2 : min 32 64 = 32 := rfl
 have hdr : List.drop 32 (List.replicate 32 (0 : UInt8)) = [] := rfl
 obtain ⟨o32, ho⟩ : ∃ q, once.take 32 = q := ⟨_, rfl⟩
 have hol : o32.length = 32 := by rw [← ho, List.length_take]; omega
 rw [ho] at hT
 have F0 := And.intro hk <| And.intro hn <| And.intro h64 <| And.intro htg <| And.intro hel <| And.intro hfl <| And.intro hq1 <| And.intro hq2 <| And.intro hq3 <| And.intro hz <| And.intro hzl <| And.intro ho <| And.intro hol <| And.intro hm1 <| And.intro hm2 <| And.intro hdr <| And.intro hch <| q2
 refine CtM.k Try.func52 rfl Try.ntmps52 (congrArg Array.toList Try.results52) (by simp) fun w0 ro may fx => ?_
 refine top_k fun zZ zhZ => ?_
 refine sr_k fun zK zhK => ?_
 simp only [go_sem, F0]
 repeat' (first | apply And.intro | intro _)
 refine zhK _ ?_
 refine sr_k fun zK zhK => ?_
 simp only [go_sem, F0]
 repeat' (first | apply And.intro | intro _)
 all_goals (refine call_view (fun k => k) (fun _ _ => rfl) ?_ (hB.plain fun _ _ h => h) ?_; focus (first | rfl | (simp only [go_sem, F0] <;> rfl)))
 all_goals (rintro v m ⟨hR, hm⟩; subst hR; subst hm)
 all_goals refine And.intro (by first | rfl | simp only [go_sem, F0]) (And.intro (by first | rfl | simp only [go_sem, F0]) ?_)
 all_goals simp only [go_sem, F0]
 all_goals repeat' (first | apply And.intro | intro _)
 refine zhK _ ?_
 refine sr_k fun zK zhK => ?_
 simp only [go_sem, F0]
 repeat' (first | apply And.intro | intro _)
 refine zhK _ ?_
 refine seq_k fun zN zM zhN zhM => ?_
 refine draw_k (id := 3) [15, 16, 17] [0, 0, 3] [] mixed (by kernel_rfl) (by simp only [go_sem]) fun zK zhK => ?_
 simp only [go_sem, F0]
 repeat' (first | apply And.intro | intro _)
 refine zhK _ _ trivial ?_
 refine zhN _ ?_; clear zhN zhM
 refine sr_k fun zK zhK => ?_
 simp only [go_sem, F0]
 repeat' (first | apply And.intro | intro _)
 all_goals (refine call_hand false [] (fun k => k) (fun _ _ => rfl) ?_ (by decide) ?_ hP1.hands ?_; iterate 2 (focus (first | rfl | (simp only [go_sem, F0] <;> first | done | rfl | simp))))
 all_goals (rintro v m ⟨hR, hm⟩; subst hR; subst hm)
 all_goals (refine And.intro ?_ (And.intro ?_ (And.intro ?_ ?_)); iterate 3 (focus (first | rfl | (simp only [go_sem, F0]; done) | (simp [go_sem, look, F0]; done))))
 all_goals (try simp only [go_sem, F0])
 all_goals (try simp only [go_sem, F0])
 all_goals repeat' (first | apply And.intro | intro _)
 all_goals (refine call_hand false [] (fun k => k) (fun _ _ => rfl) ?_ (by decide) ?_ hP2.hands ?_; iterate 2 (focus (first | rfl | (simp only [go_sem, F0] <;> first | done | rfl | simp))))
 all_goals (rintro v m ⟨hR, hm⟩; subst hR; subst hm)
 all_goals (refine And.intro ?_ (And.intro ?_ (And.intro ?_ ?_)); iterate 3 (focus (first | rfl | (simp only [go_sem, F0]; done) | (simp [go_sem, look, F0]; done))))
 all_goals (try simp only [go_sem, F0])
 all_goals (try simp only [go_sem, F0])
 all_goals repeat' (first | apply And.intro | intro _)
 refine zhK _ ?_
 refine seq_k fun zN zM zhN zhM => ?_
 refine dr_k (id := 5) mixed fun zE zhE => ?_
 refine dr_piece_k (p := 0) 10 [23, 24, 25, 26, 27, 28, 29, 30, 31, 32] [0, 0, 0, 4, 12, 30, 0, 64, 254, 510, 1023, 2047] [(0, 5), (5, 6), (5, 7), (0, 9)] rfl (by kernel_rfl) rfl (by simp only [go_sem]) fun zR zK zhR zhK => ?_
 simp only [go_sem, F0]
 repeat' (first | apply And.intro | intro _)
 all_goals (refine call_drawhand (fun _ => 27) (.w (.one (.s 0 [] e.length 1))) [(0, ⟨true, bytesC e⟩)] (fun _ _ => rfl) ?_ ?_ ?_ hE1.told ?_ ?_; (iterate 2 (focus (first | rfl | (simp only [go_sem, F0] <;> first | done | rfl | simp)))); (first | kernel_rfl | rfl | simp [fixO, fixL, pls]))
 all_goals try (refine And.intro ?_ (And.intro ?_ (And.intro ?_ ?_)) <;> (first | rfl | (simp only [go_sem, F0]; done) | (simp [go_sem, look, F0]; done)))
 all_goals (try simp only [go_sem, F0])
 all_goals (try simp only [go_sem, F0])
 all_goals repeat' (first | apply And.intro | intro _)
 all_goals (refine call_drawhand (fun _ => 31) (.w (.one (.s 0 [] f.length 1))) [(0, ⟨true, bytesC f⟩)] (fun _ _ => rfl) ?_ ?_ ?_ hE2.told ?_ ?_; (iterate 2 (focus (first | rfl | (simp only [go_sem, F0] <;> first | done | rfl | simp)))); (first | kernel_rfl | rfl | simp [fixO, fixL, pls]))
 all_goals try (refine And.intro ?_ (And.intro ?_ (And.intro ?_ ?_)) <;> (first | rfl | (simp only [go_sem, F0]; done) | (simp [go_sem, look, F0]; done)))
 all_goals (try simp only [go_sem, F0])
 all_goals (try simp only [go_sem, F0])
 all_goals repeat' (first | apply And.intro | intro _)
 refine zhK _ _ ?_ (zhR _ ?_)
 focus (first | trivial | (simp only [go_sem]; done) | (simp only [go_sem]; simp; done) | (simp only [go_sem]; simp; simp only [go_sem]))
 refine dr_runs_k 2 12 rfl (by kernel_rfl) rfl rfl fun zR zhR => ?_
 simp only [go_sem, F0]
 repeat' (first | apply And.intro | intro _)
 all_goals (refine call_view (fun k => k) (fun _ _ => rfl) ?_ (hT.plain fun _ _ h => h) ?_; focus (first | rfl | (simp only [go_sem, F0] <;> rfl)))
 all_goals (rintro v m ⟨hR, hm⟩; subst hR; subst hm)
 all_goals refine And.intro (by first | rfl | simp only [go_sem, F0]) (And.intro (by first | rfl | simp only [go_sem, F0]) ?_)
 all_goals simp only [go_sem, F0]
 all_goals repeat' (first | apply And.intro | intro _)
 refine zhR _ ?_
 refine dr_end rfl (zhE _ ?_)
 refine zhN _ ?_; clear zhN zhM
 refine ret_k ?_
 refine zhZ _ _ ?_
 simp only [go_sem, F0]
 all_goals (exact told_plain (by simp [plainV, plainW, bytesC]) ⟨rfl, rfl⟩)
set_option maxHeartbeats 3200000 in
set_option maxRecDepth 100000 in
theorem tag_0e (key nonce ad text once : List UInt8) (hk : key.length = 32) (hn : nonce.length = 12) (h64 : once.length = 64) (h1 : ad.length ≤ 200) (h2 : text.length ≤ 800) (ex1 ex2 : Bool) (tg : List UInt8) (htg : tg.length = 16) (p1 : padN ad = 0) (p2 : padN text = 0) (q2 : text.length = 0) (hB : Ct Try.prog 24 [.w (.agg (bytesC key)), .w (.one (.pl (.u32 0))), .w (.agg (bytesC nonce))] (fun v m => v = .w (.agg (bytesC once)))) (hT : Ct Try.prog 22 [.w (.agg (bytesC (once.take 32))), .w (.one (.pl (.R false 1 (byteRows (padB ad ++ padB text ++ eightB ad.length ++ eightB text.length)))))] (fun v m => v = .w (.agg (bytesC tg)))) :
 CtM Try.prog 52 [.w (.agg (bytesC key)), .w (.agg (bytesC nonce)), .w (.one (.pl (.R ex1 1 (byteRows ad)))), .w (.one (.pl (.R ex2 1 (byteRows text))))] [] (Told (fun v m => v = .w (.agg (bytesC tg)) ∧ m = [])) := by
 have hP1 := padded_0 ad ex1 (by omega) p1
 have hpa : padB ad = ad := by simp [padB, p1]
 have hP2 := padded_0 text ex2 (by omega) p2
 have hpt : padB text = text := by simp [padB, p2]
 obtain ⟨a, ha⟩ : ∃ q, padB ad = q := ⟨_, rfl⟩
 have hal : a.length ≤ 300 := by rw [← ha, hpa]; omega
 obtain ⟨t, ht⟩ : ∃ q, padB text = q := ⟨_, rfl⟩
 have htl : t.length ≤ 900 := by rw [← ht, hpt]; omega
 have hE1 := eight_ ad.length (by omega)
 have hE2 := eight_ text.length (by omega)
 obtain ⟨e, he⟩ : ∃ q, eightB ad.length = q := ⟨_, rfl⟩
 have hel : e.length = 8 := by rw [← he]; rfl
 obtain ⟨f, hf⟩ : ∃ q, eightB text.length = q := ⟨_, rfl⟩
 have hfl : f.length = 8 := by rw [← hf]; rfl
 rw [ha] at hT hpa
 subst hpa
 rw [ht] at hT hpt
 subst hpt
 rw [he] at hE1 hT
 rw [hf] at hE2 hT
 have hq1 : a.length + t.length ≤ 140737488355328 := by omega
 have hq2 : a.length + t.length + 8 ≤ 140737488355328 := by omega
 have hq3 : a.length + t.length + 8 + 8 ≤ 140737488355328 := by omega
 obtain ⟨z, hz⟩ : ∃ q, a ++ t ++ e ++ f = q := ⟨_, rfl⟩
 have hzl : z.length = a.length + t.length + 8 + 8 := by rw [← hz]; simp only [List.length_append, hel, hfl]
 rw [hz] at hT
 have hch : chunks 1 (a.length + t.length + 8 + 8) (z.map PL.u8) = byteRows z := chunks_bytes' hzl
 have hm1 : min 64 32 = 32 := rfl
 have hm2 : min 32 64 = 32 := rfl
 have hdr : List.drop 32 (List.replicate 32 (0 : UInt8)) = [] := rfl
 obtain ⟨o32, ho⟩ : ∃ q, once.take 32 = q := ⟨_, rfl⟩
 have hol : o32.length = 32 := by rw [← ho, List.length_take]; omega
 rw [ho] at hT
 have ht0 : t = [] := List.eq_nil_of_length_eq_zero q2
 have hz0 : a ++ (e ++ f) = z := by rw [← hz, ht0, List.append_nil, List.append_assoc]
 have hz1 : a ++ e ++ f = z := by rw [← hz, ht0, List.append_nil]
 have hch0 : chunks 1 (a.length + 8 + 8) (z.map PL.u8) = byteRows z := by have := hch; rw [ht0] at this; exact this
 have hq0 : a.length + 8 ≤ 140737488355328 := by omega
 have hq00 : a.length + 8 + 8 ≤ 140737488355328 := by omega
 have F0 := And.intro hk <| And.intro hn <| And.intro h64 <| And.intro htg <| And.intro hel <| And.intro hfl <| And.intro hq1 <| And.intro hq2 <| And.intro hq3 <| And.intro hz <| And.intro hzl <| And.intro ho <| And.intro hol <| And.intro hm1 <| And.intro hm2 <| And.intro hdr <| And.intro hch <| And.intro q2 <| And.intro hz0 <| And.intro hz1 <| And.intro hch0 <| And.intro hq0 <| hq00
 refine CtM.k Try.func52 rfl Try.ntmps52 (congrArg Array.toList Try.results52) (by simp) fun w0 ro may fx => ?_
 refine top_k fun zZ zhZ => ?_
 refine sr_k fun zK zhK => ?_
 simp only [go_sem, F0]
 repeat' (first | apply And.intro | intro _)
 refine zhK _ ?_
 refine sr_k fun zK zhK => ?_
 simp only [go_sem, F0]
 repeat' (first | apply And.intro | intro _)
 all_goals (refine call_view (fun k => k) (fun _ _ => rfl) ?_ (hB.plain fun _ _ h => h) ?_; focus (first | rfl | (simp only [go_sem, F0] <;> rfl)))
 all_goals (rintro v m ⟨hR, hm⟩; subst hR; subst hm)
 all_goals refine And.intro (by first | rfl | simp only [go_sem, F0]) (And.intro (by first | rfl | simp only [go_sem, F0]) ?_)
 all_goals simp only [go_sem, F0]
 all_goals repeat' (first | apply And.intro | intro _)
 refine zhK _ ?_
 refine sr_k fun zK zhK => ?_
 simp only [go_sem, F0]
 repeat' (first | apply And.intro | intro _)
 refine zhK _ ?_
 refine seq_k fun zN zM zhN zhM => ?_
 refine draw_k (id := 3) [15, 16, 17] [0, 0, 3] [] mixed (by kernel_rfl) (by simp only [go_sem]) fun zK zhK => ?_
 simp only [go_sem, F0]
 repeat' (first | apply And.intro | intro _)
 refine zhK _ _ trivial ?_
 refine zhN _ ?_; clear zhN zhM
 refine sr_k fun zK zhK => ?_
 simp only [go_sem, F0]
 repeat' (first | apply And.intro | intro _)
 all_goals (refine call_hand false [] (fun k => k) (fun _ _ => rfl) ?_ (by decide) ?_ hP1.hands ?_; iterate 2 (focus (first | rfl | (simp only [go_sem, F0] <;> first | done | rfl | simp))))
 all_goals (rintro v m ⟨hR, hm⟩; subst hR; subst hm)
 all_goals (refine And.intro ?_ (And.intro ?_ (And.intro ?_ ?_)); iterate 3 (focus (first | rfl | (simp only [go_sem, F0]; done) | (simp [go_sem, look, F0]; done))))
 all_goals (try simp only [go_sem, F0])
 all_goals (try simp only [go_sem, F0])
 all_goals repeat' (first | apply And.intro | intro _)
 all_goals (refine call_hand false [] (fun k => k) (fun _ _ => rfl) ?_ (by decide) ?_ hP2.hands ?_; iterate 2 (focus (first | rfl | (simp only [go_sem, F0] <;> first | done | rfl | simp))))
 all_goals (rintro v m ⟨hR, hm⟩; subst hR; subst hm)
 all_goals (refine And.intro ?_ (And.intro ?_ (And.intro ?_ ?_)); iterate 3 (focus (first | rfl | (simp only [go_sem, F0]; done) | (simp [go_sem, look, F0]; done))))
 all_goals (try simp only [go_sem, F0])
 all_goals (try simp only [go_sem, F0])
 all_goals repeat' (first | apply And.intro | intro _)
 refine zhK _ ?_
 refine seq_k fun zN zM zhN zhM => ?_
 refine dr_k (id := 5) mixed fun zE zhE => ?_
 refine dr_piece_k (p := 0) 10 [23, 24, 25, 26, 27, 28, 29, 30, 31, 32] [0, 0, 0, 4, 12, 30, 0, 64, 254, 510, 1023, 2047] [(0, 5), (5, 6), (5, 7), (0, 9)] rfl (by kernel_rfl) rfl (by simp only [go_sem]) fun zR zK zhR zhK => ?_
 simp only [go_sem, F0]
 repeat' (first | apply And.intro | intro _)
 all_goals (refine call_drawhand (fun _ => 27) (.w (.one (.s 0 [] e.length 1))) [(0, ⟨true, bytesC e⟩)] (fun _ _ => rfl) ?_ ?_ ?_ hE1.told ?_ ?_; (iterate 2 (focus (first | rfl | (simp only [go_sem, F0] <;> first | done | rfl | simp)))); (first | kernel_rfl | rfl | simp [fixO, fixL, pls]))
 all_goals try (refine And.intro ?_ (And.intro ?_ (And.intro ?_ ?_)) <;> (first | rfl | (simp only [go_sem, F0]; done) | (simp [go_sem, look, F0]; done)))
 all_goals (try simp only [go_sem, F0])
 all_goals (try simp only [go_sem, F0])
 all_goals repeat' (first | apply And.intro | intro _)
 all_goals (refine call_drawhand (fun _ => 31) (.w (.one (.s 0 [] f.length 1))) [(0, ⟨true, bytesC f⟩)] (fun _ _ => rfl) ?_ ?_ ?_ hE2.told ?_ ?_; (iterate 2 (focus (first | rfl | (simp only [go_sem, F0] <;> first | done | rfl | simp)))); (first | kernel_rfl | rfl | simp [fixO, fixL, pls]))
 all_goals try (refine And.intro ?_ (And.intro ?_ (And.intro ?_ ?_)) <;> (first | rfl | (simp only [go_sem, F0]; done) | (simp [go_sem, look, F0]; done)))
 all_goals (try simp only [go_sem, F0])
 all_goals (try simp only [go_sem, F0])
 all_goals repeat' (first | apply And.intro | intro _)
 refine zhK _ _ ?_ (zhR _ ?_)
 focus (first | trivial | (simp only [go_sem]; done) | (simp only [go_sem]; simp; done) | (simp only [go_sem]; simp; simp only [go_sem]))
 refine dr_runs_k 2 12 rfl (by kernel_rfl) rfl rfl fun zR zhR => ?_
 simp only [go_sem, F0]
 repeat' (first | apply And.intro | intro _)
 all_goals (refine call_view (fun k => k) (fun _ _ => rfl) ?_ (hT.plain fun _ _ h => h) ?_; focus (first | rfl | (simp only [go_sem, F0] <;> rfl)))
 all_goals (rintro v m ⟨hR, hm⟩; subst hR; subst hm)
 all_goals refine And.intro (by first | rfl | simp only [go_sem, F0]) (And.intro (by first | rfl | simp only [go_sem, F0]) ?_)
 all_goals simp only [go_sem, F0]
 all_goals repeat' (first | apply And.intro | intro _)
 refine zhR _ ?_
 refine dr_end rfl (zhE _ ?_)
 refine zhN _ ?_; clear zhN zhM
 refine ret_k ?_
 refine zhZ _ _ ?_
 simp only [go_sem, F0]
 all_goals (exact told_plain (by simp [plainV, plainW, bytesC]) ⟨rfl, rfl⟩)
end Go.Sy

