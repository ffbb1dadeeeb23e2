/- Bytes filled up, as the document tells it. -/
import Derived.Test.YthcpkdhojokhdaavsS1
set_option linter.unusedVariables false
set_option linter.unusedSimpArgs false
namespace Go.Sy
open Go.Proofs
attribute [local irreducible] atCall HT runOps runD onC onE onO onG goV goA goS onSt onGuard
theorem rep_noughts (n : Nat) : (List.replicate n [L.pl (PL.u8 0)]).flatten = bytesC (List.replicate n 0) := by
 induction n with
 | zero => rfl
 | succ n ih => rw [List.replicate_succ, List.flatten_cons, ih, List.replicate_succ]; rfl
set_option maxHeartbeats 800000 in
theorem noughts_ (n : Nat) (hn : n ≤ 4096) :
 Ct Try.prog 58 [.w (.one (.pl (.i ((n : Nat) : Int))))] (fun v m => v = .w (.one (.pl (.str (List.replicate n 0))))) := by
 have h1 : (0 : Int) ≤ ((n : Nat) : Int) ∧ ((n : Nat) : Int) ≤ 281474976710656 := by omega
 have h2 : ((n : Nat) : Int).toNat = n := Int.toNat_natCast n
 refine Ct.k Try.func58 rfl Try.ntmps58 (congrArg Array.toList Try.results58) (by simp) fun w0 ro => ?_
 refine top_k fun zZ zhZ => ?_
 iterate 6 first
  | (refine sr_k fun zK zhK => ?_; simp only [go_sem, h1, h2, rep_noughts, Int.one_mul]; (repeat' (first | apply And.intro | intro _)))
  | refine zhK _ ?_
  | refine ret_k ?_
  | (refine zhZ _ _ ?_; simp only [go_sem, h1, h2, rep_noughts, Int.one_mul]; (all_goals rfl))
set_option maxHeartbeats 800000 in
theorem fill_ (b : List UInt8) (hb : b.length ≤ 4096) :
 Ct Try.prog 69 [.w (.one (.pl (.str b)))] (fun v m => v = .w (.one (.pl (.str (padB b))))) := by
 have hN := noughts_ (padN b) (by unfold padN; omega)
 have ht1 : ((b.length : Nat) : Int).tmod 16 = ((b.length % 16 : Nat) : Int) := rfl
 have ht2 : ((16 - b.length % 16 : Nat) : Int).tmod 16 = ((padN b : Nat) : Int) := rfl
 have hq : b.length + padN b ≤ 9223372036854775807 := by unfold padN; omega
 have hw : Go.RowKit.wrap64 (16 - ((b.length % 16 : Nat) : Int)) = ((16 - b.length % 16 : Nat) : Int) := wnat (by omega) (by omega)
 have F0 := And.intro ht1 <| And.intro ht2 <| And.intro hq <| hw
 refine Ct.k Try.func69 rfl Try.ntmps69 (congrArg Array.toList Try.results69) (by simp) fun w0 ro => ?_
 refine top_k fun zZ zhZ => ?_
 refine sr_k fun zK zhK => ?_
 simp only [go_sem, F0]
 repeat' (first | apply And.intro | intro _)
 refine zhK _ ?_
 refine sr_k fun zK zhK => ?_
 simp only [go_sem, F0]
 repeat' (first | apply And.intro | intro _)
 all_goals (refine call_view (fun k => k) (fun _ _ => rfl) ?_ (hN.plain fun _ _ h => h) ?_; focus (first | rfl | (simp only [go_sem, F0] <;> rfl)))
 all_goals (rintro v m ⟨hR, hm⟩; subst hR; subst hm)
 all_goals refine And.intro (by first | rfl | simp only [go_sem, F0]) (And.intro (by first | rfl | simp only [go_sem, F0]) ?_)
 all_goals simp only [go_sem, F0]
 all_goals repeat' (first | apply And.intro | intro _)
 refine zhK _ ?_
 refine ret_k ?_
 refine zhZ _ _ ?_
 simp only [go_sem, F0]
 all_goals (rfl)
end Go.Sy

