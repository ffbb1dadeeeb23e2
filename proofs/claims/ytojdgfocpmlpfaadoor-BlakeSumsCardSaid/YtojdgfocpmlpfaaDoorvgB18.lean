/- Bytes added to a sum: both at once. -/
import Derived.Test.YtojdgfocpmlpfaaDoorvgB17
import Derived.Test.YtojdgfocpmlpfaaDoorvE3
set_option linter.unusedVariables false
set_option linter.unusedSimpArgs false
namespace Go.Sy
open Go.Proofs
attribute [local irreducible] atCall HT runOps runD onC onE onO onG goV goA goS onSt onGuard
theorem kinds_hash {h : H8} {held : List UInt8} (hh : held.length = 64) (n len : Int) : (hashC h held n len).map kindL = ((.int .u32 :: .int .u32 :: .int .u32 :: .int .u32 :: .int .u32 :: .int .u32 :: .int .u32 :: .int .u32 :: (List.replicate 64 (.int .u8) ++ [.int .i64, .int .i64]) : List Kd)).map some := by
 simp only [hashC, H8.ls, List.map_cons, List.map_append, kinds_bytes hh, List.map_replicate, List.map_nil, List.cons_append, List.nil_append]
 rfl
theorem hash_same {h : H8} {held : List UInt8} (hh : held.length = 64) (n len : Int) : aggEq Tryd.prog 26 (hashC h held n len) (hashC h held n len) = some true := by
 rw [ae26 (kinds_hash hh n len) (kinds_hash hh n len)]
 simp only [hashC, H8.ls, List.cons_append, List.nil_append, eqC_cons, eqC_seg rfl, eqC_nil, eqL_u32, eqL_i]; simp
theorem hadd_bigK (h0 h1 h2 h3 h4 h5 h6 h7 : UInt32) (held : List UInt8) (hh : held.length = 64) (k l : Nat) (hok : HashOk held (k : Int) (l : Int)) (b : List UInt8) (hbl : b.length ≤ 140737488355328) (ex : Bool) (hbig : 1073741824 < l + b.length) : CtM Tryd.prog 12 [.w (.agg (hashC ⟨h0, h1, h2, h3, h4, h5, h6, h7⟩ held (k : Int) (l : Int))), .w (.one (.pl (.R ex 1 (byteRows b))))] [(1000000, ⟨false, [.pl (.u32 1779033703), .pl (.u32 3144134277), .pl (.u32 1013904242), .pl (.u32 2773480762), .pl (.u32 1359893119), .pl (.u32 2600822924), .pl (.u32 528734635), .pl (.u32 1541459225)]⟩), (1000002, ⟨false, ordC⟩)] (Told (fun v m => v = .tup [.agg (hashC ⟨0, 0, 0, 0, 0, 0, 0, 0⟩ (List.replicate 64 0) 0 0), .one (.pl (.i 1))] ∧ m = [])) := by
 obtain ⟨e1, e2⟩ := st_of hh hok ⟨h0, h1, h2, h3, h4, h5, h6, h7⟩
 have e3 : (held.take k).length = k := by rw [List.length_take]; have := hok.hi; omega
 have e4 : k ≤ l := by have := hok.le; omega
 rw [← e2]
 exact hadd_big h0 h1 h2 h3 h4 h5 h6 h7 (l - k) (held.take k) e1 b hbl ex (by rw [e3]; omega)
theorem hadd_mainK (h0 h1 h2 h3 h4 h5 h6 h7 : UInt32) (held : List UInt8) (hh : held.length = 64) (k l : Nat) (hok : HashOk held (k : Int) (l : Int)) (b : List UInt8) (hbl : b.length ≤ 140737488355328) (ex : Bool) (hnb : ¬ 1073741824 < l + b.length) : CtM Tryd.prog 12 [.w (.agg (hashC ⟨h0, h1, h2, h3, h4, h5, h6, h7⟩ held (k : Int) (l : Int))), .w (.one (.pl (.R ex 1 (byteRows b))))] [(1000000, ⟨false, [.pl (.u32 1779033703), .pl (.u32 3144134277), .pl (.u32 1013904242), .pl (.u32 2773480762), .pl (.u32 1359893119), .pl (.u32 2600822924), .pl (.u32 528734635), .pl (.u32 1541459225)]⟩), (1000002, ⟨false, ordC⟩)] (Told (fun v m => v = .tup [.agg (stB (absB ⟨⟨h0, h1, h2, h3, h4, h5, h6, h7⟩, l - k, held.take k⟩ b)), .one (.pl (.i 0))] ∧ m = [])) := by
 obtain ⟨e1, e2⟩ := st_of hh hok ⟨h0, h1, h2, h3, h4, h5, h6, h7⟩
 have e3 : (held.take k).length = k := by rw [List.length_take]; have := hok.hi; omega
 have e4 : k ≤ l := by have := hok.le; omega
 rw [← e2]
 exact hadd_ok h0 h1 h2 h3 h4 h5 h6 h7 (l - k) (held.take k) e1 b hbl ex (by rw [e3]; omega)
theorem hadded_bigK (h0 h1 h2 h3 h4 h5 h6 h7 : UInt32) (held : List UInt8) (hh : held.length = 64) (k l : Nat) (hok : HashOk held (k : Int) (l : Int)) (b : List UInt8) (hbl : b.length ≤ 140737488355328) (ex : Bool) (hbig : 1073741824 < l + b.length) : CtM Tryd.prog 13 [.w (.agg (hashC ⟨h0, h1, h2, h3, h4, h5, h6, h7⟩ held (k : Int) (l : Int))), .w (.one (.pl (.R ex 1 (byteRows b))))] [(1000001, ⟨false, [.pl (.u32 1779033703), .pl (.u32 3144134277), .pl (.u32 1013904242), .pl (.u32 2773480762), .pl (.u32 1359893119), .pl (.u32 2600822924), .pl (.u32 528734635), .pl (.u32 1541459225)]⟩)] (Told (fun v m => v = .tup [.agg (hashC ⟨0, 0, 0, 0, 0, 0, 0, 0⟩ (List.replicate 64 0) 0 0), .one (.pl (.i 1))] ∧ m = [])) := by
 obtain ⟨e1, e2⟩ := st_of hh hok ⟨h0, h1, h2, h3, h4, h5, h6, h7⟩
 have e3 : (held.take k).length = k := by rw [List.length_take]; have := hok.hi; omega
 have e4 : k ≤ l := by have := hok.le; omega
 rw [← e2]
 exact hadded_big h0 h1 h2 h3 h4 h5 h6 h7 (l - k) (held.take k) e1 b hbl ex (by rw [e3]; omega)
theorem hadded_mainK (h0 h1 h2 h3 h4 h5 h6 h7 : UInt32) (held : List UInt8) (hh : held.length = 64) (k l : Nat) (hok : HashOk held (k : Int) (l : Int)) (b : List UInt8) (hbl : b.length ≤ 140737488355328) (ex : Bool) (hnb : ¬ 1073741824 < l + b.length) : CtM Tryd.prog 13 [.w (.agg (hashC ⟨h0, h1, h2, h3, h4, h5, h6, h7⟩ held (k : Int) (l : Int))), .w (.one (.pl (.R ex 1 (byteRows b))))] [(1000001, ⟨false, [.pl (.u32 1779033703), .pl (.u32 3144134277), .pl (.u32 1013904242), .pl (.u32 2773480762), .pl (.u32 1359893119), .pl (.u32 2600822924), .pl (.u32 528734635), .pl (.u32 1541459225)]⟩)] (Told (fun v m => v = .tup [.agg (stB (absB ⟨⟨h0, h1, h2, h3, h4, h5, h6, h7⟩, l - k, held.take k⟩ b)), .one (.pl (.i 0))] ∧ m = [])) := by
 obtain ⟨e1, e2⟩ := st_of hh hok ⟨h0, h1, h2, h3, h4, h5, h6, h7⟩
 have e3 : (held.take k).length = k := by rw [List.length_take]; have := hok.hi; omega
 have e4 : k ≤ l := by have := hok.le; omega
 rw [← e2]
 exact hadded_ok h0 h1 h2 h3 h4 h5 h6 h7 (l - k) (held.take k) e1 b hbl ex (by rw [e3]; omega)
set_option maxHeartbeats 1600000 in
theorem blakeadds_bad (h0 h1 h2 h3 h4 h5 h6 h7 : UInt32) (held : List UInt8) (hh : held.length = 64) (n len : Int) (b : List UInt8) (hbl : b.length ≤ 140737488355328) (ex : Bool) (hno : ¬ HashOk held n len) :
 CtM Tryd.prog 4 [.w (.agg (hashC ⟨h0, h1, h2, h3, h4, h5, h6, h7⟩ held n len)), .w (.one (.pl (.R ex 1 (byteRows b))))] [(1000000, ⟨false, [.pl (.u32 1779033703), .pl (.u32 3144134277), .pl (.u32 1013904242), .pl (.u32 2773480762), .pl (.u32 1359893119), .pl (.u32 2600822924), .pl (.u32 528734635), .pl (.u32 1541459225)]⟩), (1000001, ⟨false, [.pl (.u32 1779033703), .pl (.u32 3144134277), .pl (.u32 1013904242), .pl (.u32 2773480762), .pl (.u32 1359893119), .pl (.u32 2600822924), .pl (.u32 528734635), .pl (.u32 1541459225)]⟩), (1000002, ⟨false, ordC⟩)] (Told (fun v m => v = .w (.one (.pl (.b true))) ∧ m = [])) := by
 have hsb : aggEq Tryd.prog 26 _ _ = some true := hash_same (h := (⟨(1779033703 ^^^ 16842784), 3144134277, 1013904242, 2773480762, 1359893119, 2600822924, 528734635, 1541459225⟩ : H8)) (held := List.replicate 64 0) (by simp) 0 0
 simp only [hashC, H8.ls] at hsb
 have hsf : aggEq Tryd.prog 26 _ _ = some true := hash_same (h := ⟨0, 0, 0, 0, 0, 0, 0, 0⟩) (held := List.replicate 64 0) (by simp) 0 0
 simp only [hashC, H8.ls] at hsf
 have F0 := And.intro hh <| And.intro hsb <| hsf
 refine CtM.k Tryd.func4 rfl Tryd.ntmps4 (congrArg Array.toList Tryd.results4) (by simp) fun w0 ro may fx => ?_
 refine sr_k fun K1 hK1 => ?_
 simp only [go_sem, hashC, H8.ls, F0]
 all_goals repeat' (first | apply And.intro | intro _)
 refine hK1 _ ?_
 refine sr_k fun K2 hK2 => ?_
 simp only [go_sem, hashC, H8.ls, F0]
 all_goals repeat' (first | apply And.intro | intro _)
 all_goals (refine call_hand false [] (fun k => k) (fun _ _ => rfl) ?_ (by decide) ?_ (hadd_bad h0 h1 h2 h3 h4 h5 h6 h7 held hh n len b hbl ex hno).told ?_; iterate 2 (focus (first | rfl | (simp only [go_sem, hashC, H8.ls, F0] <;> first | done | rfl | simp))))
 all_goals (rintro v m ⟨hR, hm⟩; subst hR; subst hm)
 all_goals (refine And.intro ?_ (And.intro ?_ (And.intro ?_ ?_)); iterate 3 (focus (first | rfl | (simp only [go_sem, hashC, H8.ls, F0]; done) | (simp [go_sem, look, hashC, H8.ls, F0]; done))))
 all_goals (try simp only [go_sem, hashC, H8.ls, F0])
 all_goals (try simp only [go_sem, hashC, H8.ls, F0])
 all_goals repeat' (first | apply And.intro | intro _)
 refine hK2 _ ?_
 refine sr_k fun K3 hK3 => ?_
 simp only [go_sem, hashC, H8.ls, F0]
 all_goals repeat' (first | apply And.intro | intro _)
 all_goals (refine call_hand false [] (fun k => k) (fun _ _ => rfl) ?_ (by decide) ?_ (hadded_bad h0 h1 h2 h3 h4 h5 h6 h7 held hh n len b hbl ex hno).told ?_; iterate 2 (focus (first | rfl | (simp only [go_sem, hashC, H8.ls, F0] <;> first | done | rfl | simp))))
 all_goals (rintro v m ⟨hR, hm⟩; subst hR; subst hm)
 all_goals (refine And.intro ?_ (And.intro ?_ (And.intro ?_ ?_)); iterate 3 (focus (first | rfl | (simp only [go_sem, hashC, H8.ls, F0]; done) | (simp [go_sem, look, hashC, H8.ls, F0]; done))))
 all_goals (try simp only [go_sem, hashC, H8.ls, F0])
 all_goals (try simp only [go_sem, hashC, H8.ls, F0])
 all_goals repeat' (first | apply And.intro | intro _)
 refine hK3 _ ?_
 refine sr_k fun K4 hK4 => ?_
 simp only [go_sem, hashC, H8.ls, F0]
 all_goals repeat' (first | apply And.intro | intro _)
 all_goals (refine call_hand false [] (fun k => k) (fun _ _ => rfl) ?_ (by decide) ?_ hbegin.told ?_; iterate 2 (focus (first | rfl | (simp only [go_sem, hashC, H8.ls, F0] <;> first | done | rfl | simp))))
 all_goals (rintro v m ⟨hR, hm⟩; subst hR; subst hm)
 all_goals (refine And.intro ?_ (And.intro ?_ (And.intro ?_ ?_)); iterate 3 (focus (first | rfl | (simp only [go_sem, hashC, H8.ls, F0]; done) | (simp [go_sem, look, hashC, H8.ls, F0]; done))))
 all_goals (try simp only [go_sem, hashC, H8.ls, F0])
 all_goals (try simp only [go_sem, hashC, H8.ls, F0])
 all_goals repeat' (first | apply And.intro | intro _)
 all_goals (refine call_hand false [] (fun k => k) (fun _ _ => rfl) ?_ (by decide) ?_ hbegun.told ?_; iterate 2 (focus (first | rfl | (simp only [go_sem, hashC, H8.ls, F0] <;> first | done | rfl | simp))))
 all_goals (rintro v m ⟨hR, hm⟩; subst hR; subst hm)
 all_goals (refine And.intro ?_ (And.intro ?_ (And.intro ?_ ?_)); iterate 3 (focus (first | rfl | (simp only [go_sem, hashC, H8.ls, F0]; done) | (simp [go_sem, look, hashC, H8.ls, F0]; done))))
 all_goals (try simp only [go_sem, hashC, H8.ls, F0])
 all_goals (try simp only [go_sem, hashC, H8.ls, F0])
 all_goals repeat' (first | apply And.intro | intro _)
 refine hK4 _ ?_
 refine ret_k ?_
 simp only [go_sem, hashC, H8.ls, F0]
 all_goals (exact told_plain rfl ⟨rfl, rfl⟩)
set_option maxHeartbeats 1600000 in
theorem blakeadds_big (h0 h1 h2 h3 h4 h5 h6 h7 : UInt32) (held : List UInt8) (hh : held.length = 64) (k l : Nat) (hok : HashOk held (k : Int) (l : Int)) (b : List UInt8) (hbl : b.length ≤ 140737488355328) (ex : Bool) (hbig : 1073741824 < l + b.length) :
 CtM Tryd.prog 4 [.w (.agg (hashC ⟨h0, h1, h2, h3, h4, h5, h6, h7⟩ held (k : Int) (l : Int))), .w (.one (.pl (.R ex 1 (byteRows b))))] [(1000000, ⟨false, [.pl (.u32 1779033703), .pl (.u32 3144134277), .pl (.u32 1013904242), .pl (.u32 2773480762), .pl (.u32 1359893119), .pl (.u32 2600822924), .pl (.u32 528734635), .pl (.u32 1541459225)]⟩), (1000001, ⟨false, [.pl (.u32 1779033703), .pl (.u32 3144134277), .pl (.u32 1013904242), .pl (.u32 2773480762), .pl (.u32 1359893119), .pl (.u32 2600822924), .pl (.u32 528734635), .pl (.u32 1541459225)]⟩), (1000002, ⟨false, ordC⟩)] (Told (fun v m => v = .w (.one (.pl (.b true))) ∧ m = [])) := by
 have hsb : aggEq Tryd.prog 26 _ _ = some true := hash_same (h := (⟨(1779033703 ^^^ 16842784), 3144134277, 1013904242, 2773480762, 1359893119, 2600822924, 528734635, 1541459225⟩ : H8)) (held := List.replicate 64 0) (by simp) 0 0
 simp only [hashC, H8.ls] at hsb
 have hsf : aggEq Tryd.prog 26 _ _ = some true := hash_same (h := ⟨0, 0, 0, 0, 0, 0, 0, 0⟩) (held := List.replicate 64 0) (by simp) 0 0
 simp only [hashC, H8.ls] at hsf
 have F0 := And.intro hh <| And.intro hsb <| hsf
 refine CtM.k Tryd.func4 rfl Tryd.ntmps4 (congrArg Array.toList Tryd.results4) (by simp) fun w0 ro may fx => ?_
 refine sr_k fun K1 hK1 => ?_
 simp only [go_sem, hashC, H8.ls, F0]
 all_goals repeat' (first | apply And.intro | intro _)
 refine hK1 _ ?_
 refine sr_k fun K2 hK2 => ?_
 simp only [go_sem, hashC, H8.ls, F0]
 all_goals repeat' (first | apply And.intro | intro _)
 all_goals (refine call_hand false [] (fun k => k) (fun _ _ => rfl) ?_ (by decide) ?_ (hadd_bigK h0 h1 h2 h3 h4 h5 h6 h7 held hh k l hok b hbl ex hbig).told ?_; iterate 2 (focus (first | rfl | (simp only [go_sem, hashC, H8.ls, F0] <;> first | done | rfl | simp))))
 all_goals (rintro v m ⟨hR, hm⟩; subst hR; subst hm)
 all_goals (refine And.intro ?_ (And.intro ?_ (And.intro ?_ ?_)); iterate 3 (focus (first | rfl | (simp only [go_sem, hashC, H8.ls, F0]; done) | (simp [go_sem, look, hashC, H8.ls, F0]; done))))
 all_goals (try simp only [go_sem, hashC, H8.ls, F0])
 all_goals (try simp only [go_sem, hashC, H8.ls, F0])
 all_goals repeat' (first | apply And.intro | intro _)
 refine hK2 _ ?_
 refine sr_k fun K3 hK3 => ?_
 simp only [go_sem, hashC, H8.ls, F0]
 all_goals repeat' (first | apply And.intro | intro _)
 all_goals (refine call_hand false [] (fun k => k) (fun _ _ => rfl) ?_ (by decide) ?_ (hadded_bigK h0 h1 h2 h3 h4 h5 h6 h7 held hh k l hok b hbl ex hbig).told ?_; iterate 2 (focus (first | rfl | (simp only [go_sem, hashC, H8.ls, F0] <;> first | done | rfl | simp))))
 all_goals (rintro v m ⟨hR, hm⟩; subst hR; subst hm)
 all_goals (refine And.intro ?_ (And.intro ?_ (And.intro ?_ ?_)); iterate 3 (focus (first | rfl | (simp only [go_sem, hashC, H8.ls, F0]; done) | (simp [go_sem, look, hashC, H8.ls, F0]; done))))
 all_goals (try simp only [go_sem, hashC, H8.ls, F0])
 all_goals (try simp only [go_sem, hashC, H8.ls, F0])
 all_goals repeat' (first | apply And.intro | intro _)
 refine hK3 _ ?_
 refine sr_k fun K4 hK4 => ?_
 simp only [go_sem, hashC, H8.ls, F0]
 all_goals repeat' (first | apply And.intro | intro _)
 all_goals (refine call_hand false [] (fun k => k) (fun _ _ => rfl) ?_ (by decide) ?_ hbegin.told ?_; iterate 2 (focus (first | rfl | (simp only [go_sem, hashC, H8.ls, F0] <;> first | done | rfl | simp))))
 all_goals (rintro v m ⟨hR, hm⟩; subst hR; subst hm)
 all_goals (refine And.intro ?_ (And.intro ?_ (And.intro ?_ ?_)); iterate 3 (focus (first | rfl | (simp only [go_sem, hashC, H8.ls, F0]; done) | (simp [go_sem, look, hashC, H8.ls, F0]; done))))
 all_goals (try simp only [go_sem, hashC, H8.ls, F0])
 all_goals (try simp only [go_sem, hashC, H8.ls, F0])
 all_goals repeat' (first | apply And.intro | intro _)
 all_goals (refine call_hand false [] (fun k => k) (fun _ _ => rfl) ?_ (by decide) ?_ hbegun.told ?_; iterate 2 (focus (first | rfl | (simp only [go_sem, hashC, H8.ls, F0] <;> first | done | rfl | simp))))
 all_goals (rintro v m ⟨hR, hm⟩; subst hR; subst hm)
 all_goals (refine And.intro ?_ (And.intro ?_ (And.intro ?_ ?_)); iterate 3 (focus (first | rfl | (simp only [go_sem, hashC, H8.ls, F0]; done) | (simp [go_sem, look, hashC, H8.ls, F0]; done))))
 all_goals (try simp only [go_sem, hashC, H8.ls, F0])
 all_goals (try simp only [go_sem, hashC, H8.ls, F0])
 all_goals repeat' (first | apply And.intro | intro _)
 refine hK4 _ ?_
 refine ret_k ?_
 simp only [go_sem, hashC, H8.ls, F0]
 all_goals (exact told_plain rfl ⟨rfl, rfl⟩)
set_option maxHeartbeats 1600000 in
theorem blakeadds_ok (h0 h1 h2 h3 h4 h5 h6 h7 : UInt32) (held : List UInt8) (hh : held.length = 64) (k l : Nat) (hok : HashOk held (k : Int) (l : Int)) (b : List UInt8) (hbl : b.length ≤ 140737488355328) (ex : Bool) (hnb : ¬ 1073741824 < l + b.length) :
 CtM Tryd.prog 4 [.w (.agg (hashC ⟨h0, h1, h2, h3, h4, h5, h6, h7⟩ held (k : Int) (l : Int))), .w (.one (.pl (.R ex 1 (byteRows b))))] [(1000000, ⟨false, [.pl (.u32 1779033703), .pl (.u32 3144134277), .pl (.u32 1013904242), .pl (.u32 2773480762), .pl (.u32 1359893119), .pl (.u32 2600822924), .pl (.u32 528734635), .pl (.u32 1541459225)]⟩), (1000001, ⟨false, [.pl (.u32 1779033703), .pl (.u32 3144134277), .pl (.u32 1013904242), .pl (.u32 2773480762), .pl (.u32 1359893119), .pl (.u32 2600822924), .pl (.u32 528734635), .pl (.u32 1541459225)]⟩), (1000002, ⟨false, ordC⟩)] (Told (fun v m => v = .w (.one (.pl (.b true))) ∧ m = [])) := by
 have hsb : aggEq Tryd.prog 26 _ _ = some true := hash_same (h := (⟨(1779033703 ^^^ 16842784), 3144134277, 1013904242, 2773480762, 1359893119, 2600822924, 528734635, 1541459225⟩ : H8)) (held := List.replicate 64 0) (by simp) 0 0
 simp only [hashC, H8.ls] at hsb
 obtain ⟨⟨⟨q0, q1, q2, q3, q4, q5, q6, q7⟩, d1, q⟩, hq⟩ : ∃ q, absB ⟨⟨h0, h1, h2, h3, h4, h5, h6, h7⟩, l - k, held.take k⟩ b = q := ⟨_, rfl⟩
 have hal := absB_len (l := b) (s := ⟨⟨h0, h1, h2, h3, h4, h5, h6, h7⟩, l - k, held.take k⟩) (by show (held.take k).length ≤ 64; rw [List.length_take]; omega)
 rw [hq] at hal
 have hpq := pad64_length (r := q) hal.1
 have hsf : aggEq Tryd.prog 26 _ _ = some true := hash_same (h := ⟨q0, q1, q2, q3, q4, q5, q6, q7⟩) hpq ((q.length : Nat) : Int) ((HSt.len ⟨⟨q0, q1, q2, q3, q4, q5, q6, q7⟩, d1, q⟩ : Nat) : Int)
 simp only [hashC, H8.ls] at hsf
 have F0 := And.intro hh <| And.intro hsb <| And.intro hsf <| And.intro hq <| hpq
 refine CtM.k Tryd.func4 rfl Tryd.ntmps4 (congrArg Array.toList Tryd.results4) (by simp) fun w0 ro may fx => ?_
 refine sr_k fun K1 hK1 => ?_
 simp only [go_sem, hashC, H8.ls, stB, F0]
 all_goals repeat' (first | apply And.intro | intro _)
 refine hK1 _ ?_
 refine sr_k fun K2 hK2 => ?_
 simp only [go_sem, hashC, H8.ls, stB, F0]
 all_goals repeat' (first | apply And.intro | intro _)
 all_goals (refine call_hand false [] (fun k => k) (fun _ _ => rfl) ?_ (by decide) ?_ (hadd_mainK h0 h1 h2 h3 h4 h5 h6 h7 held hh k l hok b hbl ex hnb).told ?_; iterate 2 (focus (first | rfl | (simp only [go_sem, hashC, H8.ls, stB, F0] <;> first | done | rfl | simp))))
 all_goals (rintro v m ⟨hR, hm⟩; subst hR; subst hm)
 all_goals (refine And.intro ?_ (And.intro ?_ (And.intro ?_ ?_)); iterate 3 (focus (first | rfl | (simp only [go_sem, hashC, H8.ls, stB, F0]; done) | (simp [go_sem, look, hashC, H8.ls, stB, F0]; done))))
 all_goals (try simp only [go_sem, hashC, H8.ls, stB, F0])
 all_goals (try simp only [go_sem, hashC, H8.ls, stB, F0])
 all_goals repeat' (first | apply And.intro | intro _)
 refine hK2 _ ?_
 refine sr_k fun K3 hK3 => ?_
 simp only [go_sem, hashC, H8.ls, stB, F0]
 all_goals repeat' (first | apply And.intro | intro _)
 all_goals (refine call_hand false [] (fun k => k) (fun _ _ => rfl) ?_ (by decide) ?_ (hadded_mainK h0 h1 h2 h3 h4 h5 h6 h7 held hh k l hok b hbl ex hnb).told ?_; iterate 2 (focus (first | rfl | (simp only [go_sem, hashC, H8.ls, stB, F0] <;> first | done | rfl | simp))))
 all_goals (rintro v m ⟨hR, hm⟩; subst hR; subst hm)
 all_goals (refine And.intro ?_ (And.intro ?_ (And.intro ?_ ?_)); iterate 3 (focus (first | rfl | (simp only [go_sem, hashC, H8.ls, stB, F0]; done) | (simp [go_sem, look, hashC, H8.ls, stB, F0]; done))))
 all_goals (try simp only [go_sem, hashC, H8.ls, stB, F0])
 all_goals (try simp only [go_sem, hashC, H8.ls, stB, F0])
 all_goals repeat' (first | apply And.intro | intro _)
 refine hK3 _ ?_
 refine sr_k fun K4 hK4 => ?_
 simp only [go_sem, hashC, H8.ls, stB, F0]
 all_goals repeat' (first | apply And.intro | intro _)
 all_goals (refine call_hand false [] (fun k => k) (fun _ _ => rfl) ?_ (by decide) ?_ hbegin.told ?_; iterate 2 (focus (first | rfl | (simp only [go_sem, hashC, H8.ls, stB, F0] <;> first | done | rfl | simp))))
 all_goals (rintro v m ⟨hR, hm⟩; subst hR; subst hm)
 all_goals (refine And.intro ?_ (And.intro ?_ (And.intro ?_ ?_)); iterate 3 (focus (first | rfl | (simp only [go_sem, hashC, H8.ls, stB, F0]; done) | (simp [go_sem, look, hashC, H8.ls, stB, F0]; done))))
 all_goals (try simp only [go_sem, hashC, H8.ls, stB, F0])
 all_goals (try simp only [go_sem, hashC, H8.ls, stB, F0])
 all_goals repeat' (first | apply And.intro | intro _)
 all_goals (refine call_hand false [] (fun k => k) (fun _ _ => rfl) ?_ (by decide) ?_ hbegun.told ?_; iterate 2 (focus (first | rfl | (simp only [go_sem, hashC, H8.ls, stB, F0] <;> first | done | rfl | simp))))
 all_goals (rintro v m ⟨hR, hm⟩; subst hR; subst hm)
 all_goals (refine And.intro ?_ (And.intro ?_ (And.intro ?_ ?_)); iterate 3 (focus (first | rfl | (simp only [go_sem, hashC, H8.ls, stB, F0]; done) | (simp [go_sem, look, hashC, H8.ls, stB, F0]; done))))
 all_goals (try simp only [go_sem, hashC, H8.ls, stB, F0])
 all_goals (try simp only [go_sem, hashC, H8.ls, stB, F0])
 all_goals repeat' (first | apply And.intro | intro _)
 refine hK4 _ ?_
 refine ret_k ?_
 simp only [go_sem, hashC, H8.ls, stB, F0]
 all_goals (exact told_plain rfl ⟨rfl, rfl⟩)
theorem blakeadds (h0 h1 h2 h3 h4 h5 h6 h7 : UInt32) (held : List UInt8) (hh : held.length = 64) (n len : Int) (b : List UInt8) (hbl : b.length ≤ 140737488355328) (ex : Bool) : CtM Tryd.prog 4 [.w (.agg (hashC ⟨h0, h1, h2, h3, h4, h5, h6, h7⟩ held n len)), .w (.one (.pl (.R ex 1 (byteRows b))))] [(1000000, ⟨false, [.pl (.u32 1779033703), .pl (.u32 3144134277), .pl (.u32 1013904242), .pl (.u32 2773480762), .pl (.u32 1359893119), .pl (.u32 2600822924), .pl (.u32 528734635), .pl (.u32 1541459225)]⟩), (1000001, ⟨false, [.pl (.u32 1779033703), .pl (.u32 3144134277), .pl (.u32 1013904242), .pl (.u32 2773480762), .pl (.u32 1359893119), .pl (.u32 2600822924), .pl (.u32 528734635), .pl (.u32 1541459225)]⟩), (1000002, ⟨false, ordC⟩)] (Told (fun v m => v = .w (.one (.pl (.b true))) ∧ m = [])) := by
 by_cases hok : HashOk held n len
 · obtain ⟨k, rfl⟩ : ∃ k : Nat, n = (k : Int) := ⟨n.toNat, by have := hok.lo; omega⟩
   obtain ⟨l, rfl⟩ : ∃ l : Nat, len = (l : Int) := ⟨len.toNat, by have := hok.lo; have := hok.le; omega⟩
   by_cases hbig : 1073741824 < l + b.length
   · exact blakeadds_big h0 h1 h2 h3 h4 h5 h6 h7 held hh k l hok b hbl ex hbig
   · exact blakeadds_ok h0 h1 h2 h3 h4 h5 h6 h7 held hh k l hok b hbl ex hbig
 · exact blakeadds_bad h0 h1 h2 h3 h4 h5 h6 h7 held hh n len b hbl ex hok
theorem blakeadds_gs (h0 h1 h2 h3 h4 h5 h6 h7 : UInt32) (held : List UInt8) (hh : held.length = 64) (n len : Int) (b : List UInt8) (hbl : b.length ≤ 140737488355328) (ex : Bool) : CtM Tryd.prog 4 [.w (.agg (hashC ⟨h0, h1, h2, h3, h4, h5, h6, h7⟩ held n len)), .w (.one (.pl (.R ex 1 (byteRows b))))] (globM [(1000000, firstU.map PL.u32), (1000001, firstU.map PL.u32), (1000002, ordZ.flatten.map PL.i)]) (Told (fun v m => v = .w (.one (.pl (.b true))) ∧ m = [])) := blakeadds h0 h1 h2 h3 h4 h5 h6 h7 held hh n len b hbl ex
end Go.Sy
