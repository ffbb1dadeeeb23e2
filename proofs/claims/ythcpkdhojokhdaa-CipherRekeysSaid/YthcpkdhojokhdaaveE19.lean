/- Walks: the tag of bytes by a key; their law. -/
import Derived.Test.YthcpkdhojokhdaaveE16
import Derived.Test.YthcpkdhojokhdaaveE18
set_option linter.unusedVariables false
set_option linter.unusedSimpArgs false
namespace Go.Sy
open Go.Proofs
attribute [local irreducible] atCall HT runOps runD onC onE onO onG goV goA goS onSt onGuard
def tagV (key b : List UInt8) : List UInt8 :=
 endV (finA (lev (key.take 8) &&& 1152921487695413247) (lev ((key.drop 8).take 8) &&& 1152921487695413244) (absorb (lev (key.take 8) &&& 1152921487695413247) (lev ((key.drop 8).take 8) &&& 1152921487695413244) ⟨⟨0, 0, 0⟩, []⟩ b)).a
  (finA (lev (key.take 8) &&& 1152921487695413247) (lev ((key.drop 8).take 8) &&& 1152921487695413244) (absorb (lev (key.take 8) &&& 1152921487695413247) (lev ((key.drop 8).take 8) &&& 1152921487695413244) ⟨⟨0, 0, 0⟩, []⟩ b)).b
  (lev ((key.drop 16).take 8)) (lev ((key.drop 24).take 8))
theorem tagV_length (key b : List UInt8) : (tagV key b).length = 16 := endV_length _ _ _ _
theorem and_off (x m : UInt64) : (x &&& m) &&& ~~~m = 0 := (mask_iff (x &&& m) m).mp (by rw [UInt64.and_assoc, UInt64.and_self])
theorem s0_ok : PSt.ok ⟨⟨0, 0, 0⟩, []⟩ := ⟨Nat.zero_le _, by decide⟩
set_option maxHeartbeats 800000 in
theorem poly_tag (key : List UInt8) (hk : key.length = 32) (b : List UInt8) (hbl : b.length ≤ 140737488355328) (ex : Bool) :
 Ct Try.prog 22 [.w (.agg (bytesC key)), .w (.one (.pl (.R ex 1 (byteRows b))))] (fun v m => v = .w (.agg (bytesC (tagV key b)))) := by
 obtain ⟨r0, hr0⟩ : ∃ r, lev (key.take 8) &&& 1152921487695413247 = r := ⟨_, rfl⟩
 obtain ⟨r1, hr1⟩ : ∃ r, lev ((key.drop 8).take 8) &&& 1152921487695413244 = r := ⟨_, rfl⟩
 have ho0 : r0 &&& ~~~1152921487695413247 = 0 := by rw [← hr0]; exact and_off _ _
 have ho1 : r1 &&& ~~~1152921487695413244 = 0 := by rw [← hr1]; exact and_off _ _
 have hst : tagV key b = endV (finA r0 r1 (absorb r0 r1 ⟨⟨0, 0, 0⟩, []⟩ b)).a (finA r0 r1 (absorb r0 r1 ⟨⟨0, 0, 0⟩, []⟩ b)).b (lev ((key.drop 16).take 8)) (lev ((key.drop 24).take 8)) := by rw [tagV, hr0, hr1]
 have hso : (absorb r0 r1 ⟨⟨0, 0, 0⟩, []⟩ b).ok := absorb_ok s0_ok
 have hqq : ∀ q, absorb r0 r1 ⟨⟨0, 0, 0⟩, []⟩ b = q → (pad16 q.rest).length = 16 := fun q h => pad16_length (by rw [← h]; have := hso.1; omega)
 obtain ⟨⟨⟨qa, qb, qc⟩, q⟩, hq⟩ : ∃ q, absorb r0 r1 ⟨⟨0, 0, 0⟩, []⟩ b = q := ⟨_, rfl⟩
 have hpq := hqq _ hq
 simp only at hpq
 rw [hq] at hso hst
 have F0 := And.intro hk <| And.intro hr0 <| And.intro hr1 <| And.intro hq <| hpq
 refine Ct.k Try.func22 rfl Try.ntmps22 (congrArg Array.toList Try.results22) (by simp) fun w0 ro => ?_
 refine top_k fun zZ zhZ => ?_
 refine sr_k fun zK zhK => ?_
 simp only [go_sem, begC, polyC, stC, endV_length, F0]
 repeat' (first | apply And.intro | intro _)
 refine zhK _ ?_
 refine sr_k fun zK zhK => ?_
 simp only [go_sem, begC, polyC, stC, endV_length, F0]
 repeat' (first | apply And.intro | intro _)
 all_goals (refine call_view (fun k => k) (fun _ _ => rfl) ?_ ((poly_begin key hk).plain fun _ _ h => h) ?_; focus (first | rfl | (simp only [go_sem, begC, polyC, stC, endV_length, F0] <;> rfl)))
 all_goals (rintro v m ⟨hR, hm⟩; subst hR; subst hm)
 all_goals refine And.intro (by first | rfl | simp only [go_sem, begC, polyC, stC, endV_length, F0]) (And.intro (by first | rfl | simp only [go_sem, begC, polyC, stC, endV_length, F0]) ?_)
 all_goals simp only [go_sem, begC, polyC, stC, endV_length, F0]
 all_goals repeat' (first | apply And.intro | intro _)
 all_goals refine call_view (fun k => k) (fun _ _ => rfl) (by first | rfl | (simp only [go_sem, begC, polyC, stC, endV_length, F0] <;> rfl)) ((padd_ok r0 r1 (lev ((key.drop 16).take 8)) (lev ((key.drop 24).take 8)) ⟨⟨0, 0, 0⟩, []⟩ s0_ok ho0 ho1 b hbl _).plain fun _ _ h => h) ?_
 all_goals (rintro v m ⟨hR, hm⟩; subst hR; subst hm)
 all_goals refine And.intro (by first | rfl | simp only [go_sem, begC, polyC, stC, endV_length, F0]) (And.intro (by first | rfl | simp only [go_sem, begC, polyC, stC, endV_length, F0]) ?_)
 all_goals simp only [go_sem, begC, polyC, stC, endV_length, F0]
 all_goals repeat' (first | apply And.intro | intro _)
 refine zhK _ ?_
 refine sr_k fun zK zhK => ?_
 simp only [go_sem, begC, polyC, stC, endV_length, F0]
 repeat' (first | apply And.intro | intro _)
 all_goals (refine call_view (fun k => k) (fun _ _ => rfl) ?_ ((pend_st r0 r1 (lev ((key.drop 16).take 8)) (lev ((key.drop 24).take 8)) ⟨⟨qa, qb, qc⟩, q⟩ hso ho0 ho1).plain fun _ _ h => h) ?_; focus (first | rfl | (simp only [go_sem, begC, polyC, stC, endV_length, F0] <;> rfl)))
 all_goals (rintro v m ⟨hR, hm⟩; subst hR; subst hm)
 all_goals refine And.intro (by first | rfl | simp only [go_sem, begC, polyC, stC, endV_length, F0]) (And.intro (by first | rfl | simp only [go_sem, begC, polyC, stC, endV_length, F0]) ?_)
 all_goals simp only [go_sem, begC, polyC, stC, endV_length, F0]
 all_goals repeat' (first | apply And.intro | intro _)
 refine zhK _ ?_
 refine sr_k fun zK zhK => ?_
 simp only [go_sem, begC, polyC, stC, endV_length, F0]
 repeat' (first | apply And.intro | intro _)
 refine zhK _ ?_
 refine ret_k ?_
 refine zhZ _ _ ?_
 simp only [go_sem, begC, polyC, stC, endV_length, F0]
 all_goals (rw [hst])
set_option maxHeartbeats 800000 in
theorem poly_tag_ref (key : List UInt8) (hk : key.length = 32) (b : List UInt8) (hbl : b.length ≤ 140737488355328) :
 Ct Try.prog 23 [.w (.agg (bytesC key)), .w (.one (.pl (.str b)))] (fun v m => v = .w (.agg (bytesC (tagV key b)))) := by
 obtain ⟨r0, hr0⟩ : ∃ r, lev (key.take 8) &&& 1152921487695413247 = r := ⟨_, rfl⟩
 obtain ⟨r1, hr1⟩ : ∃ r, lev ((key.drop 8).take 8) &&& 1152921487695413244 = r := ⟨_, rfl⟩
 have ho0 : r0 &&& ~~~1152921487695413247 = 0 := by rw [← hr0]; exact and_off _ _
 have ho1 : r1 &&& ~~~1152921487695413244 = 0 := by rw [← hr1]; exact and_off _ _
 have hst : tagV key b = endV (finA r0 r1 (absorb r0 r1 ⟨⟨0, 0, 0⟩, []⟩ b)).a (finA r0 r1 (absorb r0 r1 ⟨⟨0, 0, 0⟩, []⟩ b)).b (lev ((key.drop 16).take 8)) (lev ((key.drop 24).take 8)) := by rw [tagV, hr0, hr1]
 have hso : (absorb r0 r1 ⟨⟨0, 0, 0⟩, []⟩ b).ok := absorb_ok s0_ok
 have hqq : ∀ q, absorb r0 r1 ⟨⟨0, 0, 0⟩, []⟩ b = q → (pad16 q.rest).length = 16 := fun q h => pad16_length (by rw [← h]; have := hso.1; omega)
 obtain ⟨⟨⟨qa, qb, qc⟩, q⟩, hq⟩ : ∃ q, absorb r0 r1 ⟨⟨0, 0, 0⟩, []⟩ b = q := ⟨_, rfl⟩
 have hpq := hqq _ hq
 simp only at hpq
 rw [hq] at hso hst
 have hcb : b.length ≤ 140737488355328 := hbl
 have F0 := And.intro hk <| And.intro hr0 <| And.intro hr1 <| And.intro hq <| And.intro hpq <| hcb
 refine Ct.k Try.func23 rfl Try.ntmps23 (congrArg Array.toList Try.results23) (by simp) fun w0 ro => ?_
 refine top_k fun zZ zhZ => ?_
 refine sr_k fun zK zhK => ?_
 simp only [go_sem, begC, polyC, stC, endV_length, F0]
 repeat' (first | apply And.intro | intro _)
 refine zhK _ ?_
 refine sr_k fun zK zhK => ?_
 simp only [go_sem, begC, polyC, stC, endV_length, F0]
 repeat' (first | apply And.intro | intro _)
 all_goals (refine call_view (fun k => k) (fun _ _ => rfl) ?_ ((poly_begun key hk).plain fun _ _ h => h) ?_; focus (first | rfl | (simp only [go_sem, begC, polyC, stC, endV_length, F0] <;> rfl)))
 all_goals (rintro v m ⟨hR, hm⟩; subst hR; subst hm)
 all_goals refine And.intro (by first | rfl | simp only [go_sem, begC, polyC, stC, endV_length, F0]) (And.intro (by first | rfl | simp only [go_sem, begC, polyC, stC, endV_length, F0]) ?_)
 all_goals simp only [go_sem, begC, polyC, stC, endV_length, F0]
 all_goals repeat' (first | apply And.intro | intro _)
 all_goals refine call_view (fun k => k) (fun _ _ => rfl) (by first | rfl | (simp only [go_sem, begC, polyC, stC, endV_length, F0] <;> rfl)) ((pref_ok r0 r1 (lev ((key.drop 16).take 8)) (lev ((key.drop 24).take 8)) ⟨⟨0, 0, 0⟩, []⟩ s0_ok ho0 ho1 b hbl _).plain fun _ _ h => h) ?_
 all_goals (rintro v m ⟨hR, hm⟩; subst hR; subst hm)
 all_goals refine And.intro (by first | rfl | simp only [go_sem, begC, polyC, stC, endV_length, F0]) (And.intro (by first | rfl | simp only [go_sem, begC, polyC, stC, endV_length, F0]) ?_)
 all_goals simp only [go_sem, begC, polyC, stC, endV_length, F0]
 all_goals repeat' (first | apply And.intro | intro _)
 refine zhK _ ?_
 refine sr_k fun zK zhK => ?_
 simp only [go_sem, begC, polyC, stC, endV_length, F0]
 repeat' (first | apply And.intro | intro _)
 all_goals (refine call_view (fun k => k) (fun _ _ => rfl) ?_ ((pended_st r0 r1 (lev ((key.drop 16).take 8)) (lev ((key.drop 24).take 8)) ⟨⟨qa, qb, qc⟩, q⟩ hso ho0 ho1).plain fun _ _ h => h) ?_; focus (first | rfl | (simp only [go_sem, begC, polyC, stC, endV_length, F0] <;> rfl)))
 all_goals (rintro v m ⟨hR, hm⟩; subst hR; subst hm)
 all_goals refine And.intro (by first | rfl | simp only [go_sem, begC, polyC, stC, endV_length, F0]) (And.intro (by first | rfl | simp only [go_sem, begC, polyC, stC, endV_length, F0]) ?_)
 all_goals simp only [go_sem, begC, polyC, stC, endV_length, F0]
 all_goals repeat' (first | apply And.intro | intro _)
 refine zhK _ ?_
 refine sr_k fun zK zhK => ?_
 simp only [go_sem, begC, polyC, stC, endV_length, F0]
 repeat' (first | apply And.intro | intro _)
 refine zhK _ ?_
 refine ret_k ?_
 refine zhZ _ _ ?_
 simp only [go_sem, begC, polyC, stC, endV_length, F0]
 all_goals (rw [hst])
end Go.Sy

