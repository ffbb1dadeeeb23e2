/- Sums of bytes: both at once. -/
import Derived.Test.YtojdgfocpmlpfaaDoorvgB19
import Derived.Test.YtojdgfocpmlpfaaDoorvgB13
set_option linter.unusedVariables false
set_option linter.unusedSimpArgs false
namespace Go.Sy
open Go.Proofs
attribute [local irreducible] atCall HT runOps runD onC onE onO onG goV goA goS onSt onGuard
set_option maxHeartbeats 800000 in
theorem blakesums (b : List UInt8) (hbl : b.length ≤ 140737488355328) (ex : Bool) :
 CtM Tryd.prog 5 [.w (.one (.pl (.R ex 1 (byteRows b))))] [(1000000, ⟨false, [.pl (.u32 1779033703), .pl (.u32 3144134277), .pl (.u32 1013904242), .pl (.u32 2773480762), .pl (.u32 1359893119), .pl (.u32 2600822924), .pl (.u32 528734635), .pl (.u32 1541459225)]⟩), (1000001, ⟨false, [.pl (.u32 1779033703), .pl (.u32 3144134277), .pl (.u32 1013904242), .pl (.u32 2773480762), .pl (.u32 1359893119), .pl (.u32 2600822924), .pl (.u32 528734635), .pl (.u32 1541459225)]⟩), (1000002, ⟨false, ordC⟩)] (Told (fun v m => v = .w (.one (.pl (.b true))) ∧ m = [])) := by
 have hkl := sumB_length b
 have hsf := same32 hkl
 have hbl2 : b.length ≤ 9223372036854775807 := by omega
 have F0 := And.intro hkl <| And.intro hsf <| hbl2
 refine CtM.k Tryd.func5 rfl Tryd.ntmps5 (congrArg Array.toList Tryd.results5) (by simp) fun w0 ro may fx => ?_
 refine sr_k fun K1 hK1 => ?_
 simp only [go_sem, F0]
 all_goals repeat' (first | apply And.intro | intro _)
 refine hK1 _ ?_
 refine sr_k fun K2 hK2 => ?_
 simp only [go_sem, F0]
 all_goals repeat' (first | apply And.intro | intro _)
 all_goals (refine call_hand false [] (fun k => k) (fun _ _ => rfl) ?_ (by decide) ?_ (sum_ b hbl ex).told ?_; iterate 2 (focus (first | rfl | (simp only [go_sem, F0] <;> first | done | rfl | simp))))
 all_goals (rintro v m ⟨hR, hm⟩; subst hR; subst hm)
 all_goals (refine And.intro ?_ (And.intro ?_ (And.intro ?_ ?_)); iterate 3 (focus (first | rfl | (simp only [go_sem, F0]; done) | (simp [go_sem, look, F0]; done))))
 all_goals (try simp only [go_sem, F0])
 all_goals (try simp only [go_sem, F0])
 all_goals repeat' (first | apply And.intro | intro _)
 refine hK2 _ ?_
 refine sr_k fun K3 hK3 => ?_
 simp only [go_sem, F0]
 all_goals repeat' (first | apply And.intro | intro _)
 all_goals (refine call_hand false [] (fun k => k) (fun _ _ => rfl) ?_ (by decide) ?_ (hashof_ b hbl).told ?_; iterate 2 (focus (first | rfl | (simp only [go_sem, F0] <;> first | done | rfl | simp))))
 all_goals (rintro v m ⟨hR, hm⟩; subst hR; subst hm)
 all_goals (refine And.intro ?_ (And.intro ?_ (And.intro ?_ ?_)); iterate 3 (focus (first | rfl | (simp only [go_sem, F0]; done) | (simp [go_sem, look, F0]; done))))
 all_goals (try simp only [go_sem, F0])
 all_goals (try simp only [go_sem, F0])
 all_goals repeat' (first | apply And.intro | intro _)
 refine hK3 _ ?_
 refine sr_k fun K4 hK4 => ?_
 simp only [go_sem, F0]
 all_goals repeat' (first | apply And.intro | intro _)
 refine hK4 _ ?_
 refine ret_k ?_
 simp only [go_sem, F0]
 all_goals (exact told_plain rfl ⟨rfl, rfl⟩)
theorem blakesums_gs (b : List UInt8) (hbl : b.length ≤ 140737488355328) (ex : Bool) : CtM Tryd.prog 5 [.w (.one (.pl (.R ex 1 (byteRows b))))] (globM [(1000000, firstU.map PL.u32), (1000001, firstU.map PL.u32), (1000002, ordZ.flatten.map PL.i)]) (Told (fun v m => v = .w (.one (.pl (.b true))) ∧ m = [])) := blakesums b hbl ex
end Go.Sy
