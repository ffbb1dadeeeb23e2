/- Sums of bytes laid one behind another; noughts. -/
import Derived.Test.YtcmcnfjdfcianaaDoorvqgB19
import Derived.Test.YtcmcnfjdfcianaaDoorvqgB21
set_option linter.unusedVariables false
set_option linter.unusedSimpArgs false
namespace Go.Sy
namespace Bk
open Go.Proofs
attribute [local irreducible] atCall HT runOps runD onC onE onO onG goV goA goS onSt onGuard
def ownK (l : List UInt8) (v : V) (m : List (Nat × Ob)) : Prop := v = .w (.one (.s 0 [(0, 32)] 32 1)) ∧ m = [(0, ⟨false, bytesC l⟩)]
theorem ownk_told {m : List (Nat × Ob)} {j : Nat} {l : List UInt8} (h : look m j = some ⟨false, bytesC l⟩) (hj : j < 500000 := by decide) : Told (ownK l) (.w (.one (.s j [(0, 32)] 32 1))) m :=
 told_tidy ⟨only j, .w (.one (.s 0 [(0, 32)] 32 1)), [(0, ⟨false, pls (l.map .u8)⟩)], rfl, within_one (by rw [pls_bytes]; exact h) hj, rfl, by rw [pls_bytes]⟩
theorem chunks_len {l : List UInt8} {n : Nat} (h : l.length = n) : chunks 1 n (l.map PL.u8) = byteRows l := by subst h; exact chunks_bytes l
theorem chunks_two (x y : PL) : chunks 1 2 [x, y] = [[x], [y]] := rfl
theorem chunks_one (x : PL) : chunks 1 1 [x] = [[x]] := rfl
attribute [go_sem] chunks_len chunks_two chunks_one
theorem rep_noughts (n : Nat) : (List.replicate n [L.pl (PL.u8 0)]).flatten = bytesC (List.replicate n 0) := by
 induction n with
 | zero => rfl
 | succ n ih => rw [List.replicate_succ, List.flatten_cons, ih, List.replicate_succ]; rfl
set_option maxHeartbeats 800000 in
set_option maxRecDepth 100000 in
theorem ksum_ (ls : List (Bool × List UInt8)) (ex : Bool) (hne : flatB ls ≠ []) (hl : (flatB ls).length ≤ 140737488355328) (hn : ls.length ≤ 4096) :
 CtM Tryd.prog 80 [.w (.one (.pl (.R ex 1 (nest ls))))] [(1000000, ⟨false, [.pl (.u32 1779033703), .pl (.u32 3144134277), .pl (.u32 1013904242), .pl (.u32 2773480762), .pl (.u32 1359893119), .pl (.u32 2600822924), .pl (.u32 528734635), .pl (.u32 1541459225)]⟩), (1000002, ⟨false, ordC⟩)] (Told (ownK (sumB (flatB ls)))) := by
 have hkl := sumB_length (flatB ls)
 refine CtM.k Tryd.func80 rfl Tryd.ntmps80 (congrArg Array.toList Tryd.results80) (by simp) fun w0 ro may fx => ?_
 refine top_k fun zZ zhZ => ?_
 refine sr_k fun zK zhK => ?_
 simp only [go_sem, hkl]
 repeat' (first | apply And.intro | intro _)
 refine zhK _ ?_
 refine sr_k fun zK zhK => ?_
 simp only [go_sem, hkl]
 repeat' (first | apply And.intro | intro _)
 all_goals (refine call_hand false [] (fun _ => 5) (fun _ _ => rfl) ?_ (by decide) ?_ (cat_ ls ex hne hl hn).told ?_; iterate 2 (focus (first | rfl | (simp only [go_sem, hkl] <;> first | done | rfl | simp))))
 all_goals (rintro v m ⟨hR, hm⟩; subst hR; subst hm)
 all_goals (refine And.intro ?_ (And.intro ?_ (And.intro ?_ ?_)); iterate 3 (focus (first | rfl | (simp only [go_sem, hkl]; done) | (simp [go_sem, look, hkl]; done))))
 all_goals (try simp only [go_sem, hkl])
 all_goals (try simp only [go_sem, hkl])
 all_goals repeat' (first | apply And.intro | intro _)
 all_goals (refine call_hand true [] (fun k => k) (fun _ _ => rfl) ?_ (by decide) ?_ (sum_ (flatB ls) (Nat.le_trans hl (by decide)) false).told ?_; iterate 2 (focus (first | rfl | (simp only [go_sem, hkl] <;> first | done | rfl | simp))))
 all_goals (rintro v m ⟨hR, hm⟩; subst hR; subst hm)
 all_goals (refine And.intro ?_ (And.intro ?_ (And.intro ?_ ?_)); iterate 3 (focus (first | rfl | (simp only [go_sem, hkl]; done) | (simp [go_sem, look, hkl]; done))))
 all_goals (try simp only [go_sem, hkl])
 all_goals (try simp only [go_sem, hkl])
 all_goals repeat' (first | apply And.intro | intro _)
 refine zhK _ ?_
 refine sr_k fun zK zhK => ?_
 simp only [go_sem, hkl]
 repeat' (first | apply And.intro | intro _)
 refine zhK _ ?_
 refine ret_k ?_
 refine zhZ _ _ ?_
 simp only [go_sem, hkl]
 all_goals (exact ownk_told rfl)
set_option maxHeartbeats 800000 in
set_option maxRecDepth 100000 in
theorem noughts_ (n : Nat) (hn : n ≤ 4096) :
 Ct Tryd.prog 63 [.w (.one (.pl (.i ((n : Nat) : Int))))] (fun v m => v = .w (.one (.pl (.str (List.replicate n 0))))) := by
 have h1 : (0 : Int) ≤ ((n : Nat) : Int) ∧ ((n : Nat) : Int) ≤ 281474976710656 := by omega
 have h2 : ((n : Nat) : Int).toNat = n := Int.toNat_natCast n
 refine Ct.k Tryd.func63 rfl Tryd.ntmps63 (congrArg Array.toList Tryd.results63) (by simp) fun w0 ro => ?_
 refine top_k fun zZ zhZ => ?_
 iterate 6 first
  | (refine sr_k fun zK zhK => ?_; simp only [go_sem, h1, h2, rep_noughts, Int.one_mul]; (repeat' (first | apply And.intro | intro _)))
  | refine zhK _ ?_
  | refine ret_k ?_
  | (refine zhZ _ _ ?_; simp only [go_sem, h1, h2, rep_noughts, Int.one_mul]; (all_goals rfl))
end Bk
end Go.Sy
