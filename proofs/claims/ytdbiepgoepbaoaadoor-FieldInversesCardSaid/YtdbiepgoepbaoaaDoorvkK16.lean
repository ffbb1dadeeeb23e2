/- Inverses of the field: the row's own walk. -/
import Derived.Test.YtdbiepgoepbaoaaDoorvkK15
import Derived.Test.YtdbiepgoepbaoaaDoorvkK14
import Derived.Test.YtdbiepgoepbaoaaDoorvkK10
set_option linter.unusedVariables false
set_option linter.unusedSimpArgs false
namespace Go.Sy
open Go.Proofs
attribute [local irreducible] atCall HT runOps runD onC onE onO onG goV goA goS onSt onGuard
set_option maxHeartbeats 800000 in
theorem rInverse_bad (a b c d : UInt64) (h1 : ¬ vQ a b c d < p25) :
 CtM Tryd.prog 16 [.w (.agg [.pl (.u64 a), .pl (.u64 b), .pl (.u64 c), .pl (.u64 d)])] [(1000001, ⟨false, u64C prdL⟩)] (Told (fun v m => v = .tup [.agg [.pl (.u64 0), .pl (.u64 0), .pl (.u64 0), .pl (.u64 0)], .one (.pl (.i 6))] ∧ m = [])) := by
 have hA := in_ a b c d
 rw [decide_eq_false h1] at hA
 refine CtM.k Tryd.func16 rfl Tryd.ntmps16 (congrArg Array.toList Tryd.results16) (by simp) fun w0 ro may fx => ?_
 refine sr_k fun K1 hK1 => ?_
 simp only [go_sem]
 repeat' (first | apply And.intro | intro _)
 refine hK1 _ ?_
 refine seq_k fun N2 M2 hN2 hM2 => ?_
 refine sr_k fun K3 hK3 => ?_
 simp only [go_sem]
 repeat' (first | apply And.intro | intro _)
 all_goals (refine call_hand false [] (fun k => k) (fun _ _ => rfl) ?_ (by decide) ?_ hA.told ?_; iterate 2 (focus (first | rfl | (simp only [go_sem] <;> first | done | rfl | simp))))
 all_goals (rintro v m ⟨hR, hm⟩; subst hR; subst hm)
 all_goals (refine And.intro ?_ (And.intro ?_ (And.intro ?_ ?_)); iterate 3 (focus (first | rfl | (simp only [go_sem]; done) | (simp [go_sem, look]; done))))
 all_goals (try simp only [go_sem])
 all_goals (try simp only [go_sem])
 all_goals repeat' (first | apply And.intro | intro _)
 refine hK3 _ ?_
 refine condT_k (by first | rfl | (simp [go_sem]; done)) ?_
 refine sr_k fun K4 hK4 => ?_
 simp only [go_sem]
 repeat' (first | apply And.intro | intro _)
 refine hK4 _ ?_
 refine ret_k ?_
 refine hM2 _ _ ?_
 simp only [go_sem]
 all_goals (exact told_plain (by simp [plainV, plainW, w4C, w4, dgL, u64C]) ⟨rfl, rfl⟩)
set_option maxHeartbeats 800000 in
theorem rInverse_ok (a b c d : UInt64) (h1 : vQ a b c d < p25) :
 CtM Tryd.prog 16 [.w (.agg [.pl (.u64 a), .pl (.u64 b), .pl (.u64 c), .pl (.u64 d)])] [(1000001, ⟨false, u64C prdL⟩)] (Told (fun v m => v = .tup [.agg (w4C (pw (vQ a b c d) eP)), .one (.pl (.i 0))] ∧ m = [])) := by
 have hA := in_ a b c d
 rw [decide_eq_true h1] at hA
 have hO := of_ a b c d
 have hI := rinverse_ (vQ a b c d) h1
 obtain ⟨x, hx⟩ : ∃ q, D16 (vQ a b c d) = q := ⟨_, rfl⟩
 have hxl : x.length = 16 := by rw [← hx]; rfl
 have hxd : ∀ i, i < 16 → (fL x i).toNat < 65536 := by rw [← hx]; exact D16_lt _
 rw [hx] at hO hI
 have hK := back_ (pw (vQ a b c d) eP) (pw_m _ _)
 obtain ⟨r, hr⟩ : ∃ q, D16 (pw (vQ a b c d) eP) = q := ⟨_, rfl⟩
 have hrl : r.length = 16 := by rw [← hr]; rfl
 have hrd : ∀ i, i < 16 → (fL r i).toNat < 65536 := by rw [← hr]; exact D16_lt _
 rw [hr] at hI hK
 obtain ⟨s0, s1, s2, s3, hs, hvs⟩ := w4_get (pw (vQ a b c d) eP) (pw_m4 _ _)
 have hus : u64C [s0, s1, s2, s3] = [.pl (.u64 s0), .pl (.u64 s1), .pl (.u64 s2), .pl (.u64 s3)] := rfl
 simp only [w4C, hs, hus] at hK ⊢
 refine CtM.k Tryd.func16 rfl Tryd.ntmps16 (congrArg Array.toList Tryd.results16) (by simp) fun w0 ro may fx => ?_
 refine sr_k fun K1 hK1 => ?_
 simp only [go_sem, hxl, hrl]
 repeat' (first | apply And.intro | intro _)
 refine hK1 _ ?_
 refine seq_k fun N2 M2 hN2 hM2 => ?_
 refine sr_k fun K3 hK3 => ?_
 simp only [go_sem, hxl, hrl]
 repeat' (first | apply And.intro | intro _)
 all_goals (refine call_hand false [] (fun k => k) (fun _ _ => rfl) ?_ (by decide) ?_ hA.told ?_; iterate 2 (focus (first | rfl | (simp only [go_sem, hxl, hrl] <;> first | done | rfl | simp))))
 all_goals (rintro v m ⟨hR, hm⟩; subst hR; subst hm)
 all_goals (refine And.intro ?_ (And.intro ?_ (And.intro ?_ ?_)); iterate 3 (focus (first | rfl | (simp only [go_sem, hxl, hrl]; done) | (simp [go_sem, look, hxl, hrl]; done))))
 all_goals (try simp only [go_sem, hxl, hrl])
 all_goals (try simp only [go_sem, hxl, hrl])
 all_goals repeat' (first | apply And.intro | intro _)
 refine hK3 _ ?_
 refine condF_k (by first | rfl | (simp [go_sem, hxl, hrl]; done)) ?_
 refine skip_k ?_
 refine hN2 _ ?_
 refine sr_k fun K4 hK4 => ?_
 simp only [go_sem, hxl, hrl]
 repeat' (first | apply And.intro | intro _)
 all_goals refine call_view (fun k => k) (fun _ _ => rfl) (by first | rfl | (simp only [go_sem, hxl, hrl] <;> rfl)) ((hO).plain fun _ _ h => h) ?_
 all_goals (rintro v m ⟨hR, hm⟩; subst hR; subst hm)
 all_goals refine And.intro (by first | rfl | simp only [go_sem, hxl, hrl]) (And.intro (by first | rfl | simp only [go_sem, hxl, hrl]) ?_)
 all_goals simp only [go_sem, hxl, hrl]
 all_goals repeat' (first | apply And.intro | intro _)
 all_goals (refine call_hand false [] (fun k => k) (fun _ _ => rfl) ?_ (by decide) ?_ hI.told ?_; iterate 2 (focus (first | rfl | (simp only [go_sem, hxl, hrl] <;> first | done | rfl | simp))))
 all_goals (rintro v m ⟨hR, hm⟩; subst hR; subst hm)
 all_goals (refine And.intro ?_ (And.intro ?_ (And.intro ?_ ?_)); iterate 3 (focus (first | rfl | (simp only [go_sem, hxl, hrl]; done) | (simp [go_sem, look, hxl, hrl]; done))))
 all_goals (try simp only [go_sem, hxl, hrl])
 all_goals (try simp only [go_sem, hxl, hrl])
 all_goals repeat' (first | apply And.intro | intro _)
 all_goals refine call_view (fun k => k) (fun _ _ => rfl) (by first | rfl | (simp only [go_sem, hxl, hrl] <;> rfl)) ((hK).plain fun _ _ h => h) ?_
 all_goals (rintro v m ⟨hR, hm⟩; subst hR; subst hm)
 all_goals refine And.intro (by first | rfl | simp only [go_sem, hxl, hrl]) (And.intro (by first | rfl | simp only [go_sem, hxl, hrl]) ?_)
 all_goals simp only [go_sem, hxl, hrl]
 all_goals repeat' (first | apply And.intro | intro _)
 refine hK4 _ ?_
 refine ret_k ?_
 simp only [go_sem, hxl, hrl]
 all_goals (exact told_plain (by simp [plainV, plainW]) ⟨rfl, rfl⟩)
set_option maxHeartbeats 800000 in
theorem fieldinv_bad (a b c d : UInt64) (h1 : ¬ vQ a b c d < p25) :
 CtM Tryd.prog 6 [.w (.agg [.pl (.u64 a), .pl (.u64 b), .pl (.u64 c), .pl (.u64 d)])] [(1000000, ⟨false, [.pl (.u64 18446744073709551597), .pl (.u64 18446744073709551615), .pl (.u64 18446744073709551615), .pl (.u64 9223372036854775807)]⟩), (1000001, ⟨false, u64C prdL⟩)] (Told (fun v m => v = .w (.one (.pl (.b true))) ∧ m = [])) := by
 refine CtM.k Tryd.func6 rfl Tryd.ntmps6 (congrArg Array.toList Tryd.results6) (by simp) fun w0 ro may fx => ?_
 refine sr_k fun K1 hK1 => ?_
 simp only [go_sem]
 repeat' (first | apply And.intro | intro _)
 refine hK1 _ ?_
 refine sr_k fun K2 hK2 => ?_
 simp only [go_sem]
 repeat' (first | apply And.intro | intro _)
 all_goals (refine call_hand false [] (fun k => k) (fun _ _ => rfl) ?_ (by decide) ?_ (inv_bad a b c d h1).told ?_; iterate 2 (focus (first | rfl | (simp only [go_sem] <;> first | done | rfl | simp))))
 all_goals (rintro v m ⟨hR, hm⟩; subst hR; subst hm)
 all_goals (refine And.intro ?_ (And.intro ?_ (And.intro ?_ ?_)); iterate 3 (focus (first | rfl | (simp only [go_sem]; done) | (simp [go_sem, look]; done))))
 all_goals (try simp only [go_sem])
 all_goals (try simp only [go_sem])
 all_goals repeat' (first | apply And.intro | intro _)
 refine hK2 _ ?_
 refine sr_k fun K3 hK3 => ?_
 simp only [go_sem]
 repeat' (first | apply And.intro | intro _)
 all_goals (refine call_hand false [] (fun k => k) (fun _ _ => rfl) ?_ (by decide) ?_ (rInverse_bad a b c d h1).told ?_; iterate 2 (focus (first | rfl | (simp only [go_sem] <;> first | done | rfl | simp))))
 all_goals (rintro v m ⟨hR, hm⟩; subst hR; subst hm)
 all_goals (refine And.intro ?_ (And.intro ?_ (And.intro ?_ ?_)); iterate 3 (focus (first | rfl | (simp only [go_sem]; done) | (simp [go_sem, look]; done))))
 all_goals (try simp only [go_sem])
 all_goals (try simp only [go_sem])
 all_goals repeat' (first | apply And.intro | intro _)
 refine hK3 _ ?_
 refine sr_k fun K4 hK4 => ?_
 simp only [go_sem]
 repeat' (first | apply And.intro | intro _)
 refine hK4 _ ?_
 refine ret_k ?_
 simp only [go_sem]
 all_goals (exact told_plain rfl ⟨rfl, rfl⟩)
set_option maxHeartbeats 800000 in
theorem fieldinv_ok (a b c d : UInt64) (h1 : vQ a b c d < p25) :
 CtM Tryd.prog 6 [.w (.agg [.pl (.u64 a), .pl (.u64 b), .pl (.u64 c), .pl (.u64 d)])] [(1000000, ⟨false, [.pl (.u64 18446744073709551597), .pl (.u64 18446744073709551615), .pl (.u64 18446744073709551615), .pl (.u64 9223372036854775807)]⟩), (1000001, ⟨false, u64C prdL⟩)] (Told (fun v m => v = .w (.one (.pl (.b true))) ∧ m = [])) := by
 have hA := inv_ok a b c d h1
 have hR := rInverse_ok a b c d h1
 obtain ⟨s0, s1, s2, s3, hs, hvs⟩ := w4_get (pw (vQ a b c d) eP) (pw_m4 _ _)
 have hus : u64C [s0, s1, s2, s3] = [.pl (.u64 s0), .pl (.u64 s1), .pl (.u64 s2), .pl (.u64 s3)] := rfl
 simp only [w4C, hs, hus] at hA hR
 refine CtM.k Tryd.func6 rfl Tryd.ntmps6 (congrArg Array.toList Tryd.results6) (by simp) fun w0 ro may fx => ?_
 refine sr_k fun K1 hK1 => ?_
 simp only [go_sem]
 repeat' (first | apply And.intro | intro _)
 refine hK1 _ ?_
 refine sr_k fun K2 hK2 => ?_
 simp only [go_sem]
 repeat' (first | apply And.intro | intro _)
 all_goals (refine call_hand false [] (fun k => k) (fun _ _ => rfl) ?_ (by decide) ?_ hA.told ?_; iterate 2 (focus (first | rfl | (simp only [go_sem] <;> first | done | rfl | simp))))
 all_goals (rintro v m ⟨hR, hm⟩; subst hR; subst hm)
 all_goals (refine And.intro ?_ (And.intro ?_ (And.intro ?_ ?_)); iterate 3 (focus (first | rfl | (simp only [go_sem]; done) | (simp [go_sem, look]; done))))
 all_goals (try simp only [go_sem])
 all_goals (try simp only [go_sem])
 all_goals repeat' (first | apply And.intro | intro _)
 refine hK2 _ ?_
 refine sr_k fun K3 hK3 => ?_
 simp only [go_sem]
 repeat' (first | apply And.intro | intro _)
 all_goals (refine call_hand false [] (fun k => k) (fun _ _ => rfl) ?_ (by decide) ?_ hR.told ?_; iterate 2 (focus (first | rfl | (simp only [go_sem] <;> first | done | rfl | simp))))
 all_goals (rintro v m ⟨hR, hm⟩; subst hR; subst hm)
 all_goals (refine And.intro ?_ (And.intro ?_ (And.intro ?_ ?_)); iterate 3 (focus (first | rfl | (simp only [go_sem]; done) | (simp [go_sem, look]; done))))
 all_goals (try simp only [go_sem])
 all_goals (try simp only [go_sem])
 all_goals repeat' (first | apply And.intro | intro _)
 refine hK3 _ ?_
 refine sr_k fun K4 hK4 => ?_
 simp only [go_sem]
 repeat' (first | apply And.intro | intro _)
 refine hK4 _ ?_
 refine ret_k ?_
 simp only [go_sem]
 all_goals (exact told_plain rfl ⟨rfl, rfl⟩)
theorem fieldinv (a b c d : UInt64) : CtM Tryd.prog 6 [.w (.agg [.pl (.u64 a), .pl (.u64 b), .pl (.u64 c), .pl (.u64 d)])] (globM [(1000000, primeU.map PL.u64), (1000001, prdL.map PL.u64)]) (Told (fun v m => v = .w (.one (.pl (.b true))) ∧ m = [])) := by
 by_cases h1 : vQ a b c d < p25
 · exact fieldinv_ok a b c d h1
 · exact fieldinv_bad a b c d h1
end Go.Sy

