/- The end of a sum: both at once. -/
import Derived.Test.YtojdgfocpmlpfaaDoorvgB12
import Derived.Test.YtojdgfocpmlpfaaDoorvE3
set_option linter.unusedVariables false
set_option linter.unusedSimpArgs false
namespace Go.Sy
open Go.Proofs
attribute [local irreducible] atCall HT runOps runD onC onE onO onG goV goA goS onSt onGuard
set_option maxHeartbeats 800000 in
theorem blakeends_bad (h0 h1 h2 h3 h4 h5 h6 h7 : UInt32) (held : List UInt8) (hh : held.length = 64) (n len : Int) (hno : ¬ HashOk held n len) :
 CtM Tryd.prog 3 [.w (.agg (hashC ⟨h0, h1, h2, h3, h4, h5, h6, h7⟩ held n len))] [(1000000, ⟨false, [.pl (.u32 1779033703), .pl (.u32 3144134277), .pl (.u32 1013904242), .pl (.u32 2773480762), .pl (.u32 1359893119), .pl (.u32 2600822924), .pl (.u32 528734635), .pl (.u32 1541459225)]⟩), (1000001, ⟨false, [.pl (.u32 1779033703), .pl (.u32 3144134277), .pl (.u32 1013904242), .pl (.u32 2773480762), .pl (.u32 1359893119), .pl (.u32 2600822924), .pl (.u32 528734635), .pl (.u32 1541459225)]⟩), (1000002, ⟨false, ordC⟩)] (Told (fun v m => v = .w (.one (.pl (.b true))) ∧ m = [])) := by
 have hsf := same32 (l := List.replicate 32 0) (by simp)
 refine CtM.k Tryd.func3 rfl Tryd.ntmps3 (congrArg Array.toList Tryd.results3) (by simp) fun w0 ro may fx => ?_
 refine sr_k fun K1 hK1 => ?_
 simp only [go_sem, hashC, H8.ls, hh, hsf]
 all_goals repeat' (first | apply And.intro | intro _)
 refine hK1 _ ?_
 refine sr_k fun K2 hK2 => ?_
 simp only [go_sem, hashC, H8.ls, hh, hsf]
 all_goals repeat' (first | apply And.intro | intro _)
 all_goals (refine call_hand false [] (fun k => k) (fun _ _ => rfl) ?_ (by decide) ?_ (hend_bad h0 h1 h2 h3 h4 h5 h6 h7 held hh n len hno).told ?_; iterate 2 (focus (first | rfl | (simp only [go_sem, hashC, H8.ls, hh, hsf] <;> first | done | rfl | simp))))
 all_goals (rintro v m ⟨hR, hm⟩; subst hR; subst hm)
 all_goals (refine And.intro ?_ (And.intro ?_ (And.intro ?_ ?_)); iterate 3 (focus (first | rfl | (simp only [go_sem, hashC, H8.ls, hh, hsf]; done) | (simp [go_sem, look, hashC, H8.ls, hh, hsf]; done))))
 all_goals (try simp only [go_sem, hashC, H8.ls, hh, hsf])
 all_goals (try simp only [go_sem, hashC, H8.ls, hh, hsf])
 all_goals repeat' (first | apply And.intro | intro _)
 refine hK2 _ ?_
 refine sr_k fun K3 hK3 => ?_
 simp only [go_sem, hashC, H8.ls, hh, hsf]
 all_goals repeat' (first | apply And.intro | intro _)
 all_goals (refine call_hand false [] (fun k => k) (fun _ _ => rfl) ?_ (by decide) ?_ (hended_bad h0 h1 h2 h3 h4 h5 h6 h7 held hh n len hno).told ?_; iterate 2 (focus (first | rfl | (simp only [go_sem, hashC, H8.ls, hh, hsf] <;> first | done | rfl | simp))))
 all_goals (rintro v m ⟨hR, hm⟩; subst hR; subst hm)
 all_goals (refine And.intro ?_ (And.intro ?_ (And.intro ?_ ?_)); iterate 3 (focus (first | rfl | (simp only [go_sem, hashC, H8.ls, hh, hsf]; done) | (simp [go_sem, look, hashC, H8.ls, hh, hsf]; done))))
 all_goals (try simp only [go_sem, hashC, H8.ls, hh, hsf])
 all_goals (try simp only [go_sem, hashC, H8.ls, hh, hsf])
 all_goals repeat' (first | apply And.intro | intro _)
 refine hK3 _ ?_
 refine sr_k fun K4 hK4 => ?_
 simp only [go_sem, hashC, H8.ls, hh, hsf]
 all_goals repeat' (first | apply And.intro | intro _)
 refine hK4 _ ?_
 refine ret_k ?_
 simp only [go_sem, hashC, H8.ls, hh, hsf]
 all_goals (exact told_plain rfl ⟨rfl, rfl⟩)
set_option maxHeartbeats 800000 in
theorem blakeends_ok (h0 h1 h2 h3 h4 h5 h6 h7 : UInt32) (held : List UInt8) (hh : held.length = 64) (k l : Nat) (hok : HashOk held (k : Int) (l : Int)) :
 CtM Tryd.prog 3 [.w (.agg (hashC ⟨h0, h1, h2, h3, h4, h5, h6, h7⟩ held (k : Int) (l : Int)))] [(1000000, ⟨false, [.pl (.u32 1779033703), .pl (.u32 3144134277), .pl (.u32 1013904242), .pl (.u32 2773480762), .pl (.u32 1359893119), .pl (.u32 2600822924), .pl (.u32 528734635), .pl (.u32 1541459225)]⟩), (1000001, ⟨false, [.pl (.u32 1779033703), .pl (.u32 3144134277), .pl (.u32 1013904242), .pl (.u32 2773480762), .pl (.u32 1359893119), .pl (.u32 2600822924), .pl (.u32 528734635), .pl (.u32 1541459225)]⟩), (1000002, ⟨false, ordC⟩)] (Told (fun v m => v = .w (.one (.pl (.b true))) ∧ m = [])) := by
 obtain ⟨s, hs⟩ : ∃ s, soakB ⟨h0, h1, h2, h3, h4, h5, h6, h7⟩ held l true = s := ⟨_, rfl⟩
 have hq := keyB_length s
 have hsf := same32 hq
 have F0 := And.intro hh <| And.intro hs <| And.intro hq <| hsf
 refine CtM.k Tryd.func3 rfl Tryd.ntmps3 (congrArg Array.toList Tryd.results3) (by simp) fun w0 ro may fx => ?_
 refine sr_k fun K1 hK1 => ?_
 simp only [go_sem, hashC, H8.ls, F0]
 all_goals repeat' (first | apply And.intro | intro _)
 refine hK1 _ ?_
 refine sr_k fun K2 hK2 => ?_
 simp only [go_sem, hashC, H8.ls, F0]
 all_goals repeat' (first | apply And.intro | intro _)
 all_goals (refine call_hand false [] (fun k => k) (fun _ _ => rfl) ?_ (by decide) ?_ (hend_ok h0 h1 h2 h3 h4 h5 h6 h7 held hh k l hok).told ?_; iterate 2 (focus (first | rfl | (simp only [go_sem, hashC, H8.ls, F0] <;> first | done | rfl | simp))))
 all_goals (rintro v m ⟨hR, hm⟩; subst hR; subst hm)
 all_goals (refine And.intro ?_ (And.intro ?_ (And.intro ?_ ?_)); iterate 3 (focus (first | rfl | (simp only [go_sem, hashC, H8.ls, F0]; done) | (simp [go_sem, look, hashC, H8.ls, F0]; done))))
 all_goals (try simp only [go_sem, hashC, H8.ls, F0])
 all_goals (try simp only [go_sem, hashC, H8.ls, F0])
 all_goals repeat' (first | apply And.intro | intro _)
 refine hK2 _ ?_
 refine sr_k fun K3 hK3 => ?_
 simp only [go_sem, hashC, H8.ls, F0]
 all_goals repeat' (first | apply And.intro | intro _)
 all_goals (refine call_hand false [] (fun k => k) (fun _ _ => rfl) ?_ (by decide) ?_ (hended_ok h0 h1 h2 h3 h4 h5 h6 h7 held hh k l hok).told ?_; iterate 2 (focus (first | rfl | (simp only [go_sem, hashC, H8.ls, F0] <;> first | done | rfl | simp))))
 all_goals (rintro v m ⟨hR, hm⟩; subst hR; subst hm)
 all_goals (refine And.intro ?_ (And.intro ?_ (And.intro ?_ ?_)); iterate 3 (focus (first | rfl | (simp only [go_sem, hashC, H8.ls, F0]; done) | (simp [go_sem, look, hashC, H8.ls, F0]; done))))
 all_goals (try simp only [go_sem, hashC, H8.ls, F0])
 all_goals (try simp only [go_sem, hashC, H8.ls, F0])
 all_goals repeat' (first | apply And.intro | intro _)
 refine hK3 _ ?_
 refine sr_k fun K4 hK4 => ?_
 simp only [go_sem, hashC, H8.ls, F0]
 all_goals repeat' (first | apply And.intro | intro _)
 refine hK4 _ ?_
 refine ret_k ?_
 simp only [go_sem, hashC, H8.ls, F0]
 all_goals (exact told_plain rfl ⟨rfl, rfl⟩)
theorem blakeends (h0 h1 h2 h3 h4 h5 h6 h7 : UInt32) (held : List UInt8) (hh : held.length = 64) (n len : Int) : CtM Tryd.prog 3 [.w (.agg (hashC ⟨h0, h1, h2, h3, h4, h5, h6, h7⟩ held n len))] [(1000000, ⟨false, [.pl (.u32 1779033703), .pl (.u32 3144134277), .pl (.u32 1013904242), .pl (.u32 2773480762), .pl (.u32 1359893119), .pl (.u32 2600822924), .pl (.u32 528734635), .pl (.u32 1541459225)]⟩), (1000001, ⟨false, [.pl (.u32 1779033703), .pl (.u32 3144134277), .pl (.u32 1013904242), .pl (.u32 2773480762), .pl (.u32 1359893119), .pl (.u32 2600822924), .pl (.u32 528734635), .pl (.u32 1541459225)]⟩), (1000002, ⟨false, ordC⟩)] (Told (fun v m => v = .w (.one (.pl (.b true))) ∧ m = [])) := by
 by_cases hok : HashOk held n len
 · obtain ⟨k, rfl⟩ : ∃ k : Nat, n = (k : Int) := ⟨n.toNat, by have := hok.lo; omega⟩
   obtain ⟨l, rfl⟩ : ∃ l : Nat, len = (l : Int) := ⟨len.toNat, by have := hok.lo; have := hok.le; omega⟩
   exact blakeends_ok h0 h1 h2 h3 h4 h5 h6 h7 held hh k l hok
 · exact blakeends_bad h0 h1 h2 h3 h4 h5 h6 h7 held hh n len hok
theorem blakeends_gs (h0 h1 h2 h3 h4 h5 h6 h7 : UInt32) (held : List UInt8) (hh : held.length = 64) (n len : Int) : CtM Tryd.prog 3 [.w (.agg (hashC ⟨h0, h1, h2, h3, h4, h5, h6, h7⟩ held n len))] (globM [(1000000, firstU.map PL.u32), (1000001, firstU.map PL.u32), (1000002, ordZ.flatten.map PL.i)]) (Told (fun v m => v = .w (.one (.pl (.b true))) ∧ m = [])) := blakeends h0 h1 h2 h3 h4 h5 h6 h7 held hh n len
end Go.Sy
