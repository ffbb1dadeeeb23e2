/- Sums and opposites in sixteen digits; who is below the prime. -/
import Derived.Test.YtdbiepgoepbaoaaDoorvkK7
import Derived.Test.YtdbiepgoepbaoaaDoorvkK6b
import Derived.Test.YtdbiepgoepbaoaaDoorvQ5
set_option linter.unusedVariables false
set_option linter.unusedSimpArgs false
namespace Go.Sy
open Go.Proofs
attribute [local irreducible] atCall HT runOps runD onC onE onO onG goV goA goS onSt onGuard
set_option maxHeartbeats 800000 in
theorem in_ (a b c d : UInt64) :
 CtM Tryd.prog 19 [.w (.agg [.pl (.u64 a), .pl (.u64 b), .pl (.u64 c), .pl (.u64 d)])] [(1000001, ⟨false, u64C prdL⟩)] (Told (fun v m => v = .w (.one (.pl (.b (decide (vQ a b c d < p25))))) ∧ m = [])) := by
 have hO := of_ a b c d
 obtain ⟨q, hq⟩ : ∃ q, D16 (vQ a b c d) = q := ⟨_, rfl⟩
 have hql : q.length = 16 := by rw [← hq]; rfl
 have hqd : ∀ i, i < 16 → (fL q i).toNat < 65536 := by rw [← hq]; exact D16_lt _
 have hqv : valB 65536 q = vQ a b c d := by rw [← hq]; exact D16_val (vQ_lt a b c d)
 have hN := nb_ q hql hqd
 rw [hqv] at hN
 rw [hq] at hO
 rw [← not_ge]
 refine CtM.k Tryd.func19 rfl Tryd.ntmps19 (congrArg Array.toList Tryd.results19) (by simp) fun w0 ro may fx => ?_
 refine sr_k fun K1 hK1 => ?_
 simp only [go_sem, hql]
 repeat' (first | apply And.intro | intro _)
 refine hK1 _ ?_
 refine sr_k fun K2 hK2 => ?_
 simp only [go_sem, hql]
 repeat' (first | apply And.intro | intro _)
 all_goals refine call_view (fun k => k) (fun _ _ => rfl) (by first | rfl | (simp only [go_sem, hql] <;> rfl)) ((hO).plain fun _ _ h => h) ?_
 all_goals (rintro v m ⟨hR, hm⟩; subst hR; subst hm)
 all_goals refine And.intro (by first | rfl | simp only [go_sem, hql]) (And.intro (by first | rfl | simp only [go_sem, hql]) ?_)
 all_goals simp only [go_sem, hql]
 all_goals repeat' (first | apply And.intro | intro _)
 all_goals (refine call_hand false [] (fun k => k) (fun _ _ => rfl) ?_ (by decide) ?_ hN.told ?_; iterate 2 (focus (first | rfl | (simp only [go_sem, hql] <;> first | done | rfl | simp))))
 all_goals (rintro v m ⟨hR, hm⟩; subst hR; subst hm)
 all_goals (refine And.intro ?_ (And.intro ?_ (And.intro ?_ ?_)); iterate 3 (focus (first | rfl | (simp only [go_sem, hql]; done) | (simp [go_sem, look, hql]; done))))
 all_goals (try simp only [go_sem, hql])
 all_goals (try simp only [go_sem, hql])
 all_goals repeat' (first | apply And.intro | intro _)
 refine hK2 _ ?_
 refine ret_k ?_
 simp only [go_sem, hql]
 all_goals (exact told_plain rfl ⟨rfl, rfl⟩)
set_option maxHeartbeats 800000 in
theorem reduced_ (a b c d : UInt64) :
 CtM Tryd.prog 21 [.w (.agg [.pl (.u64 a), .pl (.u64 b), .pl (.u64 c), .pl (.u64 d)])] [(1000001, ⟨false, u64C prdL⟩)] (Told (fun v m => v = .w (.agg (w4C (vQ a b c d % p25))) ∧ m = [])) := by
 have hO := of_ a b c d
 obtain ⟨q, hq⟩ : ∃ q, D16 (vQ a b c d) = q := ⟨_, rfl⟩
 have hql : q.length = 16 := by rw [← hq]; rfl
 have hqd : ∀ i, i < 16 → (fL q i).toNat < 65536 := by rw [← hq]; exact D16_lt _
 have hqv : valB 65536 q = vQ a b c d := by rw [← hq]; exact D16_val (vQ_lt a b c d)
 have hC := carried_ q hql (fun i hi => Nat.le_trans (Nat.le_of_lt (hqd i hi)) (by decide))
 rw [hqv] at hC
 rw [hq] at hO
 have hB := back_ (vQ a b c d % p25) (mod_lt4 _)
 obtain ⟨r, hr⟩ : ∃ q, D16 (vQ a b c d % p25) = q := ⟨_, rfl⟩
 have hrl : r.length = 16 := by rw [← hr]; rfl
 have hrd : ∀ i, i < 16 → (fL r i).toNat < 65536 := by rw [← hr]; exact D16_lt _
 rw [hr] at hC hB
 obtain ⟨s0, s1, s2, s3, hs, hvs⟩ := w4_get (vQ a b c d % p25) (mod_m4 _)
 have hus : u64C [s0, s1, s2, s3] = [.pl (.u64 s0), .pl (.u64 s1), .pl (.u64 s2), .pl (.u64 s3)] := rfl
 simp only [w4C, hs, hus] at hB ⊢
 refine CtM.k Tryd.func21 rfl Tryd.ntmps21 (congrArg Array.toList Tryd.results21) (by simp) fun w0 ro may fx => ?_
 refine sr_k fun K1 hK1 => ?_
 simp only [go_sem, hql, hrl]
 repeat' (first | apply And.intro | intro _)
 refine hK1 _ ?_
 refine sr_k fun K2 hK2 => ?_
 simp only [go_sem, hql, hrl]
 repeat' (first | apply And.intro | intro _)
 all_goals refine call_view (fun k => k) (fun _ _ => rfl) (by first | rfl | (simp only [go_sem, hql, hrl] <;> rfl)) ((hO).plain fun _ _ h => h) ?_
 all_goals (rintro v m ⟨hR, hm⟩; subst hR; subst hm)
 all_goals refine And.intro (by first | rfl | simp only [go_sem, hql, hrl]) (And.intro (by first | rfl | simp only [go_sem, hql, hrl]) ?_)
 all_goals simp only [go_sem, hql, hrl]
 all_goals repeat' (first | apply And.intro | intro _)
 all_goals (refine call_hand false [] (fun k => k) (fun _ _ => rfl) ?_ (by decide) ?_ hC.told ?_; iterate 2 (focus (first | rfl | (simp only [go_sem, hql, hrl] <;> first | done | rfl | simp))))
 all_goals (rintro v m ⟨hR, hm⟩; subst hR; subst hm)
 all_goals (refine And.intro ?_ (And.intro ?_ (And.intro ?_ ?_)); iterate 3 (focus (first | rfl | (simp only [go_sem, hql, hrl]; done) | (simp [go_sem, look, hql, hrl]; done))))
 all_goals (try simp only [go_sem, hql, hrl])
 all_goals (try simp only [go_sem, hql, hrl])
 all_goals repeat' (first | apply And.intro | intro _)
 all_goals refine call_view (fun k => k) (fun _ _ => rfl) (by first | rfl | (simp only [go_sem, hql, hrl] <;> rfl)) ((hB).plain fun _ _ h => h) ?_
 all_goals (rintro v m ⟨hR, hm⟩; subst hR; subst hm)
 all_goals refine And.intro (by first | rfl | simp only [go_sem, hql, hrl]) (And.intro (by first | rfl | simp only [go_sem, hql, hrl]) ?_)
 all_goals simp only [go_sem, hql, hrl]
 all_goals repeat' (first | apply And.intro | intro _)
 refine hK2 _ ?_
 refine ret_k ?_
 simp only [go_sem, hql, hrl]
 all_goals (exact told_plain (by simp [plainV, plainW]) ⟨rfl, rfl⟩)
end Go.Sy

