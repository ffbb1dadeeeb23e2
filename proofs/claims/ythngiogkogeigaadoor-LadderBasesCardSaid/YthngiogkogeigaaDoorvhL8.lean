/- The ladder's rows. -/
import Derived.Test.YthngiogkogeigaaDoorvhL7
set_option linter.unusedVariables false
set_option linter.unusedSimpArgs false
namespace Go.Sy
open Go.Proofs
attribute [local irreducible] atCall HT runOps runD onC onE onO onG goV goA goS onSt onGuard
theorem same23 {l : List UInt8} (h : l.length = 32) : aggEq Tryd.prog 23 (bytesC l) (bytesC l) = some true := by
 rw [ae23 (kinds_bytes h) (kinds_bytes h), eqC_bytes rfl]; simp
def primeU : List UInt64 := [18446744073709551597, 18446744073709551615, 18446744073709551615, 9223372036854775807]
theorem same_b (t : Bool) : binV Tryd.prog .eql 4 (.w (.one (.pl (.b t)))) (.w (.one (.pl (.b t)))) = some (.w (.one (.pl (.b true)))) := by
 simp [binV, Tryd.underlying4]
def nine : List UInt8 := 9 :: List.replicate 31 0
theorem nine_length : nine.length = 32 := rfl
set_option maxHeartbeats 1600000 in
set_option maxRecDepth 100000 in
theorem lbase (k : List UInt8) (hk : k.length = 32) :
 CtM Tryd.prog 9 [.w (.agg (bytesC k))] [(1000001, ⟨false, [.pl (.u64 18446744073709551597), .pl (.u64 18446744073709551615), .pl (.u64 18446744073709551615), .pl (.u64 9223372036854775807)]⟩)] (Told (fun v m => v = .w (.agg (bytesC (wB (ladN k nine)))) ∧ m = [])) := by
 obtain ⟨n, hn⟩ : ∃ n, ladN k nine = n := ⟨_, rfl⟩
 obtain ⟨b, hb⟩ : ∃ b, wB n = b := ⟨_, rfl⟩
 have hbl : b.length = 32 := by rw [← hb]; exact wB_length n
 obtain ⟨t, ht⟩ : ∃ t, (!decide (b = List.replicate 32 0)) = t := ⟨_, rfl⟩
 have hM := lmult k nine hk nine_length
 rw [hn, tell, hb, ht] at hM
 rw [hn, hb]
 refine CtM.k Tryd.func9 rfl Tryd.ntmps9 (congrArg Array.toList Tryd.results9) (by simp) fun w0 ro may fx => ?_
 refine sr_k fun K1 hK1 => ?_
 simp only [go_sem, hk, hbl]
 repeat' (first | apply And.intro | intro _)
 refine hK1 _ ?_
 refine sr_k fun K2 hK2 => ?_
 simp only [go_sem, hk, hbl]
 repeat' (first | apply And.intro | intro _)
 all_goals (refine call_hand false [] (fun k => k) (fun _ _ => rfl) ?_ (by decide) ?_ hM.told ?_; iterate 2 (focus (first | rfl | (simp only [go_sem, hk, hbl] <;> first | done | rfl | simp))))
 all_goals (rintro v m ⟨hR, hm⟩; subst hR; subst hm)
 all_goals (refine And.intro ?_ (And.intro ?_ (And.intro ?_ ?_)); iterate 3 (focus (first | rfl | (simp only [go_sem, hk, hbl]; done) | (simp [go_sem, look, hk, hbl]; done))))
 all_goals (try simp only [go_sem, hk, hbl])
 all_goals (try simp only [go_sem, hk, hbl])
 all_goals repeat' (first | apply And.intro | intro _)
 refine hK2 _ ?_
 refine sr_k fun K3 hK3 => ?_
 simp only [go_sem, hk, hbl]
 repeat' (first | apply And.intro | intro _)
 refine hK3 _ ?_
 refine ret_k ?_
 simp only [go_sem, hk, hbl]
 all_goals (exact told_plain (by simp [plainV, plainW, bytesC]) ⟨rfl, rfl⟩)
set_option maxHeartbeats 1600000 in
set_option maxRecDepth 100000 in
theorem rbase (k : List UInt8) (hk : k.length = 32) :
 CtM Tryd.prog 10 [.w (.agg (bytesC k))] [(1000000, ⟨false, u64C prdL⟩)] (Told (fun v m => v = .w (.agg (bytesC (wB (ladN k nine)))) ∧ m = [])) := by
 obtain ⟨n, hn⟩ : ∃ n, ladN k nine = n := ⟨_, rfl⟩
 obtain ⟨b, hb⟩ : ∃ b, wB n = b := ⟨_, rfl⟩
 have hbl : b.length = 32 := by rw [← hb]; exact wB_length n
 obtain ⟨t, ht⟩ : ∃ t, (!decide (b = List.replicate 32 0)) = t := ⟨_, rfl⟩
 have hM := rmult k nine hk nine_length
 rw [hn, tell, hb, ht] at hM
 rw [hn, hb]
 refine CtM.k Tryd.func10 rfl Tryd.ntmps10 (congrArg Array.toList Tryd.results10) (by simp) fun w0 ro may fx => ?_
 refine sr_k fun K1 hK1 => ?_
 simp only [go_sem, hk, hbl]
 repeat' (first | apply And.intro | intro _)
 refine hK1 _ ?_
 refine sr_k fun K2 hK2 => ?_
 simp only [go_sem, hk, hbl]
 repeat' (first | apply And.intro | intro _)
 all_goals (refine call_hand false [] (fun k => k) (fun _ _ => rfl) ?_ (by decide) ?_ hM.told ?_; iterate 2 (focus (first | rfl | (simp only [go_sem, hk, hbl] <;> first | done | rfl | simp))))
 all_goals (rintro v m ⟨hR, hm⟩; subst hR; subst hm)
 all_goals (refine And.intro ?_ (And.intro ?_ (And.intro ?_ ?_)); iterate 3 (focus (first | rfl | (simp only [go_sem, hk, hbl]; done) | (simp [go_sem, look, hk, hbl]; done))))
 all_goals (try simp only [go_sem, hk, hbl])
 all_goals (try simp only [go_sem, hk, hbl])
 all_goals repeat' (first | apply And.intro | intro _)
 refine hK2 _ ?_
 refine sr_k fun K3 hK3 => ?_
 simp only [go_sem, hk, hbl]
 repeat' (first | apply And.intro | intro _)
 refine hK3 _ ?_
 refine ret_k ?_
 simp only [go_sem, hk, hbl]
 all_goals (exact told_plain (by simp [plainV, plainW, bytesC]) ⟨rfl, rfl⟩)
set_option maxHeartbeats 1600000 in
set_option maxRecDepth 100000 in
theorem lmults (k u : List UInt8) (hk : k.length = 32) (hu : u.length = 32) :
 CtM Tryd.prog 3 [.w (.agg (bytesC k)), .w (.agg (bytesC u))] [(1000000, ⟨false, u64C prdL⟩), (1000001, ⟨false, [.pl (.u64 18446744073709551597), .pl (.u64 18446744073709551615), .pl (.u64 18446744073709551615), .pl (.u64 9223372036854775807)]⟩)] (Told (fun v m => v = .w (.one (.pl (.b true))) ∧ m = [])) := by
 obtain ⟨n, hn⟩ : ∃ n, ladN k u = n := ⟨_, rfl⟩
 obtain ⟨b, hb⟩ : ∃ b, wB n = b := ⟨_, rfl⟩
 have hbl : b.length = 32 := by rw [← hb]; exact wB_length n
 obtain ⟨t, ht⟩ : ∃ t, (!decide (b = List.replicate 32 0)) = t := ⟨_, rfl⟩
 have hM := lmult k u hk hu
 have hR := rmult k u hk hu
 rw [hn, tell, hb, ht] at hM hR
 obtain ⟨kc, hkc⟩ : ∃ q, clampB k = q := ⟨_, rfl⟩
 have hkl : kc.length = 32 := by rw [← hkc]; exact clampB_length hk
 have hC := clamp_ k hk
 have hD := rclamp_ k hk
 rw [hkc] at hC hD
 have hs1 := same23 hkl
 have hs2 := same23 hbl
 have hs3 := same_b t
 have F0 := And.intro hk <| And.intro hu <| And.intro hbl <| And.intro hkl <| And.intro hs1 <| And.intro hs2 <| hs3
 refine CtM.k Tryd.func3 rfl Tryd.ntmps3 (congrArg Array.toList Tryd.results3) (by simp) fun w0 ro may fx => ?_
 refine sr_k fun K1 hK1 => ?_
 simp only [go_sem, F0]
 repeat' (first | apply And.intro | intro _)
 refine hK1 _ ?_
 refine sr_k fun K2 hK2 => ?_
 simp only [go_sem, F0]
 repeat' (first | apply And.intro | intro _)
 all_goals refine call_view (fun k => k) (fun _ _ => rfl) (by first | rfl | (simp only [go_sem, F0] <;> rfl)) ((hC).plain fun _ _ h => h) ?_
 all_goals (rintro v m ⟨hR, hm⟩; subst hR; subst hm)
 all_goals refine And.intro (by first | rfl | simp only [go_sem, F0]) (And.intro (by first | rfl | simp only [go_sem, F0]) ?_)
 all_goals simp only [go_sem, F0]
 all_goals repeat' (first | apply And.intro | intro _)
 refine hK2 _ ?_
 refine sr_k fun K3 hK3 => ?_
 simp only [go_sem, F0]
 repeat' (first | apply And.intro | intro _)
 all_goals (refine call_hand false [] (fun k => k) (fun _ _ => rfl) ?_ (by decide) ?_ hM.told ?_; iterate 2 (focus (first | rfl | (simp only [go_sem, F0] <;> first | done | rfl | simp))))
 all_goals (rintro v m ⟨hR, hm⟩; subst hR; subst hm)
 all_goals (refine And.intro ?_ (And.intro ?_ (And.intro ?_ ?_)); iterate 3 (focus (first | rfl | (simp only [go_sem, F0]; done) | (simp [go_sem, look, F0]; done))))
 all_goals (try simp only [go_sem, F0])
 all_goals (try simp only [go_sem, F0])
 all_goals repeat' (first | apply And.intro | intro _)
 refine hK3 _ ?_
 refine sr_k fun K4 hK4 => ?_
 simp only [go_sem, F0]
 repeat' (first | apply And.intro | intro _)
 all_goals refine call_view (fun k => k) (fun _ _ => rfl) (by first | rfl | (simp only [go_sem, F0] <;> rfl)) ((hD).plain fun _ _ h => h) ?_
 all_goals (rintro v m ⟨hR, hm⟩; subst hR; subst hm)
 all_goals refine And.intro (by first | rfl | simp only [go_sem, F0]) (And.intro (by first | rfl | simp only [go_sem, F0]) ?_)
 all_goals simp only [go_sem, F0]
 all_goals repeat' (first | apply And.intro | intro _)
 refine hK4 _ ?_
 refine sr_k fun K5 hK5 => ?_
 simp only [go_sem, F0]
 repeat' (first | apply And.intro | intro _)
 all_goals (refine call_hand false [] (fun k => k) (fun _ _ => rfl) ?_ (by decide) ?_ hR.told ?_; iterate 2 (focus (first | rfl | (simp only [go_sem, F0] <;> first | done | rfl | simp))))
 all_goals (rintro v m ⟨hR, hm⟩; subst hR; subst hm)
 all_goals (refine And.intro ?_ (And.intro ?_ (And.intro ?_ ?_)); iterate 3 (focus (first | rfl | (simp only [go_sem, F0]; done) | (simp [go_sem, look, F0]; done))))
 all_goals (try simp only [go_sem, F0])
 all_goals (try simp only [go_sem, F0])
 all_goals repeat' (first | apply And.intro | intro _)
 refine hK5 _ ?_
 refine sr_k fun K6 hK6 => ?_
 simp only [go_sem, F0]
 repeat' (first | apply And.intro | intro _)
 refine hK6 _ ?_
 refine ret_k ?_
 simp only [go_sem, F0]
 all_goals (exact told_plain rfl ⟨rfl, rfl⟩)
set_option maxHeartbeats 1600000 in
set_option maxRecDepth 100000 in
theorem lbases (k : List UInt8) (hk : k.length = 32) :
 CtM Tryd.prog 4 [.w (.agg (bytesC k))] [(1000000, ⟨false, u64C prdL⟩), (1000001, ⟨false, [.pl (.u64 18446744073709551597), .pl (.u64 18446744073709551615), .pl (.u64 18446744073709551615), .pl (.u64 9223372036854775807)]⟩)] (Told (fun v m => v = .w (.one (.pl (.b true))) ∧ m = [])) := by
 have hM := lbase k hk
 have hR := rbase k hk
 obtain ⟨b, hb⟩ : ∃ b, wB (ladN k nine) = b := ⟨_, rfl⟩
 have hbl : b.length = 32 := by rw [← hb]; exact wB_length _
 rw [hb] at hM hR
 have hs2 := same23 hbl
 have F0 := And.intro hk <| And.intro hbl <| hs2
 refine CtM.k Tryd.func4 rfl Tryd.ntmps4 (congrArg Array.toList Tryd.results4) (by simp) fun w0 ro may fx => ?_
 refine sr_k fun K1 hK1 => ?_
 simp only [go_sem, F0]
 repeat' (first | apply And.intro | intro _)
 refine hK1 _ ?_
 refine sr_k fun K2 hK2 => ?_
 simp only [go_sem, F0]
 repeat' (first | apply And.intro | intro _)
 all_goals (refine call_hand false [] (fun k => k) (fun _ _ => rfl) ?_ (by decide) ?_ hM.told ?_; iterate 2 (focus (first | rfl | (simp only [go_sem, F0] <;> first | done | rfl | simp))))
 all_goals (rintro v m ⟨hR, hm⟩; subst hR; subst hm)
 all_goals (refine And.intro ?_ (And.intro ?_ (And.intro ?_ ?_)); iterate 3 (focus (first | rfl | (simp only [go_sem, F0]; done) | (simp [go_sem, look, F0]; done))))
 all_goals (try simp only [go_sem, F0])
 all_goals (try simp only [go_sem, F0])
 all_goals repeat' (first | apply And.intro | intro _)
 refine hK2 _ ?_
 refine sr_k fun K3 hK3 => ?_
 simp only [go_sem, F0]
 repeat' (first | apply And.intro | intro _)
 all_goals (refine call_hand false [] (fun k => k) (fun _ _ => rfl) ?_ (by decide) ?_ hR.told ?_; iterate 2 (focus (first | rfl | (simp only [go_sem, F0] <;> first | done | rfl | simp))))
 all_goals (rintro v m ⟨hR, hm⟩; subst hR; subst hm)
 all_goals (refine And.intro ?_ (And.intro ?_ (And.intro ?_ ?_)); iterate 3 (focus (first | rfl | (simp only [go_sem, F0]; done) | (simp [go_sem, look, F0]; done))))
 all_goals (try simp only [go_sem, F0])
 all_goals (try simp only [go_sem, F0])
 all_goals repeat' (first | apply And.intro | intro _)
 refine hK3 _ ?_
 refine sr_k fun K4 hK4 => ?_
 simp only [go_sem, F0]
 repeat' (first | apply And.intro | intro _)
 refine hK4 _ ?_
 refine ret_k ?_
 simp only [go_sem, F0]
 all_goals (exact told_plain rfl ⟨rfl, rfl⟩)
theorem lmults_gs (k u : List UInt8) (hk : k.length = 32) (hu : u.length = 32) : CtM Tryd.prog 3 [.w (.agg (bytesC k)), .w (.agg (bytesC u))] (globM [(1000000, prdL.map PL.u64), (1000001, primeU.map PL.u64)]) (Told (fun v m => v = .w (.one (.pl (.b true))) ∧ m = [])) := lmults k u hk hu
theorem lbases_gs (k : List UInt8) (hk : k.length = 32) : CtM Tryd.prog 4 [.w (.agg (bytesC k))] (globM [(1000000, prdL.map PL.u64), (1000001, primeU.map PL.u64)]) (Told (fun v m => v = .w (.one (.pl (.b true))) ∧ m = [])) := lbases k hk
end Go.Sy

