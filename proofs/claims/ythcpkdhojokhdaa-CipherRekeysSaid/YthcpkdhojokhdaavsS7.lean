/- The laws on texts sealed and opened. -/
import Derived.Test.YthcpkdhojokhdaavsS6
set_option linter.unusedVariables false
set_option linter.unusedSimpArgs false
namespace Go.Sy
open Go.Proofs
attribute [local irreducible] atCall HT runOps runD onC onE onO onG goV goA goS onSt onGuard
set_option maxHeartbeats 800000 in
theorem sealopens (key nonce ad b : List UInt8) (hk : key.length = 32) (hn : nonce.length = 12) (ex1 ex2 : Bool) (hcap : b.length ≤ 9223372036854775807) :
 Ct Try.prog 10 [.w (.agg (bytesC key)), .w (.agg (bytesC nonce)), .w (.one (.pl (.R ex1 1 (byteRows ad)))), .w (.one (.pl (.R ex2 1 (byteRows b))))] (fun v m => v = .w (.one (.pl (.b true)))) := by
 refine Ct.k Try.func10 rfl Try.ntmps10 (congrArg Array.toList Try.results10) (by simp) fun w0 ro => ?_
 refine top_k fun zZ zhZ => ?_
 refine sr_k fun zK zhK => ?_
 simp only [go_sem, hk, hn]
 repeat' (first | apply And.intro | intro _)
 refine zhK _ ?_
 refine sr_k fun zK zhK => ?_
 simp only [go_sem, hk, hn]
 repeat' (first | apply And.intro | intro _)
 all_goals (refine call_hand false [] (fun k => k) (fun _ _ => rfl) ?_ (by decide) ?_ (open_ key nonce ad b hk hn ex1 ex2 hcap) ?_; iterate 2 (focus (first | rfl | (simp only [go_sem, hk, hn] <;> first | done | rfl | simp))))
 all_goals (rintro v m ⟨hR, hm⟩; subst hR; subst hm)
 all_goals (refine And.intro ?_ (And.intro ?_ (And.intro ?_ ?_)); iterate 3 (focus (first | rfl | (simp only [go_sem, hk, hn]; done) | (simp [go_sem, look, hk, hn]; done))))
 all_goals (try simp only [go_sem, hk, hn])
 all_goals (try simp only [go_sem, hk, hn])
 all_goals repeat' (first | apply And.intro | intro _)
 refine zhK _ ?_
 refine sr_k fun zK zhK => ?_
 simp only [go_sem, hk, hn]
 repeat' (first | apply And.intro | intro _)
 all_goals (refine call_hand false [] (fun k => k) (fun _ _ => rfl) ?_ (by decide) ?_ (unsd_ key nonce ad b hk hn ex1 ex2 hcap) ?_; iterate 2 (focus (first | rfl | (simp only [go_sem, hk, hn] <;> first | done | rfl | simp))))
 all_goals (rintro v m ⟨hR, hm⟩; subst hR; subst hm)
 all_goals (refine And.intro ?_ (And.intro ?_ (And.intro ?_ ?_)); iterate 3 (focus (first | rfl | (simp only [go_sem, hk, hn]; done) | (simp [go_sem, look, hk, hn]; done))))
 all_goals (try simp only [go_sem, hk, hn])
 all_goals (try simp only [go_sem, hk, hn])
 all_goals repeat' (first | apply And.intro | intro _)
 refine zhK _ ?_
 refine sr_k fun zK zhK => ?_
 simp only [go_sem, hk, hn]
 repeat' (first | apply And.intro | intro _)
 all_goals refine call_view (fun k => k) (fun _ _ => rfl) (by first | rfl | (simp only [go_sem, hk, hn] <;> rfl)) ((same_bytesE false false _ _).plain fun _ _ h => h) ?_
 all_goals (rintro v m ⟨hR, hm⟩; subst hR; subst hm)
 all_goals refine And.intro (by first | rfl | simp only [go_sem, hk, hn]) (And.intro (by first | rfl | simp only [go_sem, hk, hn]) ?_)
 all_goals simp only [go_sem, hk, hn]
 all_goals repeat' (first | apply And.intro | intro _)
 refine zhK _ ?_
 refine ret_k ?_
 refine zhZ _ _ ?_
 simp only [go_sem, hk, hn]
 all_goals (first | rfl | simp)
end Go.Sy

