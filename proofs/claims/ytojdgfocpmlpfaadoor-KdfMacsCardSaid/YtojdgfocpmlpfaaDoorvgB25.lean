/- Macs of bytes: both at once. -/
import Derived.Test.YtojdgfocpmlpfaaDoorvgB24
import Derived.Test.YtojdgfocpmlpfaaDoorvgB20
set_option linter.unusedVariables false
set_option linter.unusedSimpArgs false
namespace Go.Sy
open Go.Proofs
attribute [local irreducible] atCall HT runOps runD onC onE onO onG goV goA goS onSt onGuard
theorem mac_ (k b : List UInt8) (exk ex : Bool) (hk : k.length ≤ 140737488351232) (hb : b.length ≤ 140737488351232) : CtM Tryd.prog 18 [.w (.one (.pl (.R exk 1 (byteRows k)))), .w (.one (.pl (.R ex 1 (byteRows b))))] [(1000000, ⟨false, [.pl (.u32 1779033703), .pl (.u32 3144134277), .pl (.u32 1013904242), .pl (.u32 2773480762), .pl (.u32 1359893119), .pl (.u32 2600822924), .pl (.u32 528734635), .pl (.u32 1541459225)]⟩), (1000002, ⟨false, ordC⟩)] (Told (fun v m => v = .w (.agg (bytesC (macB k b))) ∧ m = [])) := by
 by_cases h : 64 < k.length
 · exact mac_long k b exk ex hk hb h
 · exact mac_short k b exk ex hk hb h
theorem macof_ (k b : List UInt8) (hk : k.length ≤ 140737488351232) (hb : b.length ≤ 140737488351232) : CtM Tryd.prog 19 [.w (.one (.pl (.str k))), .w (.one (.pl (.str b)))] [(1000001, ⟨false, [.pl (.u32 1779033703), .pl (.u32 3144134277), .pl (.u32 1013904242), .pl (.u32 2773480762), .pl (.u32 1359893119), .pl (.u32 2600822924), .pl (.u32 528734635), .pl (.u32 1541459225)]⟩)] (Told (fun v m => v = .w (.agg (bytesC (macB k b))) ∧ m = [])) := by
 by_cases h : 64 < k.length
 · exact macof_long k b hk hb h
 · exact macof_short k b hk hb h
set_option maxHeartbeats 800000 in
theorem kdfmacs (k b : List UInt8) (exk ex : Bool) (hk : k.length ≤ 140737488351232) (hb : b.length ≤ 140737488351232) :
 CtM Tryd.prog 6 [.w (.one (.pl (.R exk 1 (byteRows k)))), .w (.one (.pl (.R ex 1 (byteRows b))))] [(1000000, ⟨false, [.pl (.u32 1779033703), .pl (.u32 3144134277), .pl (.u32 1013904242), .pl (.u32 2773480762), .pl (.u32 1359893119), .pl (.u32 2600822924), .pl (.u32 528734635), .pl (.u32 1541459225)]⟩), (1000001, ⟨false, [.pl (.u32 1779033703), .pl (.u32 3144134277), .pl (.u32 1013904242), .pl (.u32 2773480762), .pl (.u32 1359893119), .pl (.u32 2600822924), .pl (.u32 528734635), .pl (.u32 1541459225)]⟩), (1000002, ⟨false, ordC⟩)] (Told (fun v m => v = .w (.one (.pl (.b true))) ∧ m = [])) := by
 have hkl := macB_length k b
 have hsf := same32 hkl
 have h1 : k.length ≤ 9223372036854775807 := by omega
 have h2 : b.length ≤ 9223372036854775807 := by omega
 have F0 := And.intro hkl <| And.intro hsf <| And.intro h1 <| h2
 refine CtM.k Tryd.func6 rfl Tryd.ntmps6 (congrArg Array.toList Tryd.results6) (by simp) fun w0 ro may fx => ?_
 refine sr_k fun K1 hK1 => ?_
 simp only [go_sem, F0]
 repeat' (first | apply And.intro | intro _)
 refine hK1 _ ?_
 refine sr_k fun K2 hK2 => ?_
 simp only [go_sem, F0]
 repeat' (first | apply And.intro | intro _)
 all_goals (refine call_hand false [] (fun k => k) (fun _ _ => rfl) ?_ (by decide) ?_ (mac_ k b exk ex hk hb).told ?_; iterate 2 (focus (first | rfl | (simp only [go_sem, F0] <;> first | done | rfl | simp))))
 all_goals (rintro v m ⟨hR, hm⟩; subst hR; subst hm)
 all_goals (refine And.intro ?_ (And.intro ?_ (And.intro ?_ ?_)); iterate 3 (focus (first | rfl | (simp only [go_sem, F0]; done) | (simp [go_sem, look, F0]; done))))
 all_goals (try simp only [go_sem, F0])
 all_goals (try simp only [go_sem, F0])
 all_goals repeat' (first | apply And.intro | intro _)
 refine hK2 _ ?_
 refine sr_k fun K3 hK3 => ?_
 simp only [go_sem, F0]
 repeat' (first | apply And.intro | intro _)
 all_goals (refine call_hand false [] (fun k => k) (fun _ _ => rfl) ?_ (by decide) ?_ (macof_ k b hk hb).told ?_; iterate 2 (focus (first | rfl | (simp only [go_sem, F0] <;> first | done | rfl | simp))))
 all_goals (rintro v m ⟨hR, hm⟩; subst hR; subst hm)
 all_goals (refine And.intro ?_ (And.intro ?_ (And.intro ?_ ?_)); iterate 3 (focus (first | rfl | (simp only [go_sem, F0]; done) | (simp [go_sem, look, F0]; done))))
 all_goals (try simp only [go_sem, F0])
 all_goals (try simp only [go_sem, F0])
 all_goals repeat' (first | apply And.intro | intro _)
 refine hK3 _ ?_
 refine sr_k fun K4 hK4 => ?_
 simp only [go_sem, F0]
 repeat' (first | apply And.intro | intro _)
 refine hK4 _ ?_
 refine ret_k ?_
 simp only [go_sem, F0]
 all_goals (exact told_plain rfl ⟨rfl, rfl⟩)
theorem kdfmacs_gs (k b : List UInt8) (exk ex : Bool) (hk : k.length ≤ 140737488351232) (hb : b.length ≤ 140737488351232) : CtM Tryd.prog 6 [.w (.one (.pl (.R exk 1 (byteRows k)))), .w (.one (.pl (.R ex 1 (byteRows b))))] (globM [(1000000, firstU.map PL.u32), (1000001, firstU.map PL.u32), (1000002, ordZ.flatten.map PL.i)]) (Told (fun v m => v = .w (.one (.pl (.b true))) ∧ m = [])) := kdfmacs k b exk ex hk hb
end Go.Sy

