/- A state begun; a state split. -/
import Derived.Test.YtojdgfocpmlpfaaDoorvgB29
set_option linter.unusedVariables false
set_option linter.unusedSimpArgs false
namespace Go.Sy
open Go.Proofs
attribute [local irreducible] atCall HT runOps runD onC onE onO onG goV goA goS onSt onGuard
def nameB (b : List UInt8) : List UInt8 := if b.length ≤ 32 then b ++ List.replicate (32 - b.length) 0 else sumB b
theorem nameB_s {b : List UInt8} (h : b.length ≤ 32) : nameB b = b ++ List.replicate (32 - b.length) 0 := if_pos h
theorem nameB_l {b : List UInt8} (h : 32 < b.length) : nameB b = sumB b := if_neg (by omega)
theorem nameB_length (b : List UInt8) : (nameB b).length = 32 := by
 unfold nameB
 split
 · simp; omega
 · exact sumB_length b
def Z32 : List UInt8 := List.replicate 32 0
theorem Z32_length : Z32.length = 32 := rfl
set_option maxHeartbeats 800000 in
theorem key_s (b : List UInt8) (hb : b.length ≤ 32) :
 Ct Tryd.prog 38 [.w (.one (.pl (.str b)))] (fun v m => v = .w (.agg (bytesC (nameB b)))) := by
 rw [nameB_s hb]
 have hm : min b.length 32 = b.length := by omega
 have hm2 : min 32 b.length = b.length := by omega
 have h1 : List.take b.length b = b := List.take_length
 have h2 : List.drop b.length (List.replicate 32 (0 : UInt8)) = List.replicate (32 - b.length) 0 := List.drop_replicate
 have hle : b.length + (32 - b.length) = 32 := by omega
 have F0 := And.intro hm <| And.intro hm2 <| And.intro h1 <| And.intro h2 <| hle
 refine Ct.k Tryd.func38 rfl Tryd.ntmps38 (congrArg Array.toList Tryd.results38) (by simp) fun w0 ro => ?_
 refine sr_k fun K1 hK1 => ?_
 simp only [go_sem, F0]
 repeat' (first | apply And.intro | intro _)
 refine hK1 _ ?_
 refine sr_k fun K2 hK2 => ?_
 simp only [go_sem, F0]
 repeat' (first | apply And.intro | intro _)
 refine hK2 _ ?_
 refine seq_k fun N3 M3 hN3 hM3 => ?_
 refine text_k [4, 5, 6] (by simp only [go_sem]) fun K4 hK4 => ?_
 simp only [go_sem, F0]
 repeat' (first | apply And.intro | intro _)
 refine hK4 _ _ ?_
 refine hN3 _ ?_
 refine sr_k fun K5 hK5 => ?_
 simp only [go_sem, F0]
 repeat' (first | apply And.intro | intro _)
 refine hK5 _ ?_
 refine ret_k ?_
 simp only [go_sem, F0]
 all_goals (rfl)
set_option maxHeartbeats 800000 in
theorem key_l (b : List UInt8) (hb : 32 < b.length) (hb2 : b.length ≤ 9223372036854775807) :
 Ct Tryd.prog 38 [.w (.one (.pl (.str b)))] (fun v m => v = .w (.agg (bytesC (b.take 32)))) := by
 have hm : min b.length 32 = 32 := by omega
 have hm2 : min 32 b.length = 32 := by omega
 have h2 : List.drop 32 (List.replicate 32 (0 : UInt8)) = [] := rfl
 have hle : (List.take 32 b).length = 32 := by rw [List.length_take]; omega
 have F0 := And.intro hm <| And.intro hm2 <| And.intro h2 <| hle
 refine Ct.k Tryd.func38 rfl Tryd.ntmps38 (congrArg Array.toList Tryd.results38) (by simp) fun w0 ro => ?_
 refine sr_k fun K1 hK1 => ?_
 simp only [go_sem, F0]
 repeat' (first | apply And.intro | intro _)
 refine hK1 _ ?_
 refine sr_k fun K2 hK2 => ?_
 simp only [go_sem, F0]
 repeat' (first | apply And.intro | intro _)
 refine hK2 _ ?_
 refine seq_k fun N3 M3 hN3 hM3 => ?_
 refine text_k [4, 5, 6] (by simp only [go_sem]) fun K4 hK4 => ?_
 simp only [go_sem, F0]
 repeat' (first | apply And.intro | intro _)
 refine hK4 _ _ ?_
 refine hN3 _ ?_
 refine sr_k fun K5 hK5 => ?_
 simp only [go_sem, F0]
 repeat' (first | apply And.intro | intro _)
 refine hK5 _ ?_
 refine ret_k ?_
 simp only [go_sem, F0]
 all_goals (rfl)
set_option maxHeartbeats 1600000 in
set_option maxRecDepth 100000 in
theorem sbegin_s (b : List UInt8) (hb : b.length ≤ 32) :
 CtM Tryd.prog 23 [.w (.one (.pl (.str b)))] [(1000000, ⟨false, [.pl (.u32 1779033703), .pl (.u32 3144134277), .pl (.u32 1013904242), .pl (.u32 2773480762), .pl (.u32 1359893119), .pl (.u32 2600822924), .pl (.u32 528734635), .pl (.u32 1541459225)]⟩), (1000002, ⟨false, ordC⟩)] (Told (fun v m => v = .w (.agg (symS false Z32 0 (nameB b) (nameB b))) ∧ m = [])) := by
 rw [nameB_s hb]
 have hm : min b.length 32 = b.length := by omega
 have hm2 : min 32 b.length = b.length := by omega
 have h1 : List.take b.length b = b := List.take_length
 have h2 : List.drop b.length (List.replicate 32 (0 : UInt8)) = List.replicate (32 - b.length) 0 := List.drop_replicate
 have hle : b.length + (32 - b.length) = 32 := by omega
 have hc : ¬ (32 : Int) < ((b.length : Nat) : Int) := by omega
 have F0 := And.intro hm <| And.intro hm2 <| And.intro h1 <| And.intro h2 <| And.intro hle <| hc
 refine CtM.k Tryd.func23 rfl Tryd.ntmps23 (congrArg Array.toList Tryd.results23) (by simp) fun w0 ro may fx => ?_
 refine sr_k fun K1 hK1 => ?_
 simp only [go_sem, F0]
 repeat' (first | apply And.intro | intro _)
 refine hK1 _ ?_
 refine sr_k fun K2 hK2 => ?_
 simp only [go_sem, F0]
 repeat' (first | apply And.intro | intro _)
 refine hK2 _ ?_
 refine seq_k fun N3 M3 hN3 hM3 => ?_
 refine text_k [4, 5, 6] (by simp only [go_sem]) fun K4 hK4 => ?_
 simp only [go_sem, F0]
 repeat' (first | apply And.intro | intro _)
 refine hK4 _ _ ?_
 refine hN3 _ ?_
 refine seq_k fun N5 M5 hN5 hM5 => ?_
 refine sr_k fun K6 hK6 => ?_
 simp only [go_sem, F0]
 repeat' (first | apply And.intro | intro _)
 refine hK6 _ ?_
 refine condF_k (by first | rfl | (simp [go_sem, F0]; done)) ?_
 refine skip_k ?_
 refine hN5 _ ?_
 refine sr_k fun K7 hK7 => ?_
 simp only [go_sem, F0]
 repeat' (first | apply And.intro | intro _)
 refine hK7 _ ?_
 refine ret_k ?_
 simp only [go_sem, F0]
 all_goals (exact told_plain (by simp [plainV, plainW, bytesC]) ⟨by simp [symS, Z32, bytesC], rfl⟩)
set_option maxHeartbeats 1600000 in
set_option maxRecDepth 100000 in
theorem sbegin_l (b : List UInt8) (hb : 32 < b.length) (hb2 : b.length ≤ 9223372036854775807) :
 CtM Tryd.prog 23 [.w (.one (.pl (.str b)))] [(1000000, ⟨false, [.pl (.u32 1779033703), .pl (.u32 3144134277), .pl (.u32 1013904242), .pl (.u32 2773480762), .pl (.u32 1359893119), .pl (.u32 2600822924), .pl (.u32 528734635), .pl (.u32 1541459225)]⟩), (1000002, ⟨false, ordC⟩)] (Told (fun v m => v = .w (.agg (symS false Z32 0 (nameB b) (nameB b))) ∧ m = [])) := by
 have hm : min b.length 32 = 32 := by omega
 have hm2 : min 32 b.length = 32 := by omega
 have h2 : List.drop 32 (List.replicate 32 (0 : UInt8)) = [] := rfl
 have hle : (List.take 32 b).length = 32 := by rw [List.length_take]; omega
 have hc : (32 : Int) < ((b.length : Nat) : Int) := by omega
 have hS := sum_ b hb2 false
 rw [nameB_l hb]
 obtain ⟨z, hz⟩ : ∃ z, sumB b = z := ⟨_, rfl⟩
 have hzl : z.length = 32 := by rw [← hz]; exact sumB_length b
 rw [hz] at hS ⊢
 have F0 := And.intro hm <| And.intro hm2 <| And.intro h2 <| And.intro hle <| And.intro hc <| hzl
 refine CtM.k Tryd.func23 rfl Tryd.ntmps23 (congrArg Array.toList Tryd.results23) (by simp) fun w0 ro may fx => ?_
 refine sr_k fun K1 hK1 => ?_
 simp only [go_sem, F0]
 repeat' (first | apply And.intro | intro _)
 refine hK1 _ ?_
 refine sr_k fun K2 hK2 => ?_
 simp only [go_sem, F0]
 repeat' (first | apply And.intro | intro _)
 refine hK2 _ ?_
 refine seq_k fun N3 M3 hN3 hM3 => ?_
 refine text_k [4, 5, 6] (by simp only [go_sem]) fun K4 hK4 => ?_
 simp only [go_sem, F0]
 repeat' (first | apply And.intro | intro _)
 refine hK4 _ _ ?_
 refine hN3 _ ?_
 refine seq_k fun N5 M5 hN5 hM5 => ?_
 refine sr_k fun K6 hK6 => ?_
 simp only [go_sem, F0]
 repeat' (first | apply And.intro | intro _)
 refine hK6 _ ?_
 refine condT_k (by first | rfl | (simp [go_sem, F0]; done)) ?_
 refine region_k fun K7 hK7 => ?_
 simp only [go_sem, F0]
 repeat' (first | apply And.intro | intro _)
 all_goals (refine call_hand true [] (fun k => k) (fun _ _ => rfl) ?_ (by decide) ?_ hS.told ?_; iterate 2 (focus (first | rfl | (simp only [go_sem, F0] <;> first | done | rfl | simp))))
 all_goals (rintro v m ⟨hR, hm⟩; subst hR; subst hm)
 all_goals (refine And.intro ?_ (And.intro ?_ (And.intro ?_ ?_)); iterate 3 (focus (first | rfl | (simp only [go_sem, F0]; done) | (simp [go_sem, look, F0]; done))))
 all_goals (try simp only [go_sem, F0])
 all_goals (try simp only [go_sem, F0])
 all_goals repeat' (first | apply And.intro | intro _)
 refine hK7 _ ?_
 refine hN5 _ ?_
 refine sr_k fun K8 hK8 => ?_
 simp only [go_sem, F0]
 repeat' (first | apply And.intro | intro _)
 refine hK8 _ ?_
 refine ret_k ?_
 simp only [go_sem, F0]
 all_goals (exact told_plain (by simp [plainV, plainW, bytesC]) ⟨by simp [symS, Z32, bytesC], rfl⟩)
set_option maxHeartbeats 1600000 in
set_option maxRecDepth 100000 in
theorem rbegin_s (b : List UInt8) (hb : b.length ≤ 32) :
 CtM Tryd.prog 25 [.w (.one (.pl (.str b)))] [(1000001, ⟨false, [.pl (.u32 1779033703), .pl (.u32 3144134277), .pl (.u32 1013904242), .pl (.u32 2773480762), .pl (.u32 1359893119), .pl (.u32 2600822924), .pl (.u32 528734635), .pl (.u32 1541459225)]⟩)] (Told (fun v m => v = .w (.agg (symS false Z32 0 (nameB b) (nameB b))) ∧ m = [])) := by
 have hK := key_s b hb
 have hc : ¬ (32 : Int) < ((b.length : Nat) : Int) := by omega
 obtain ⟨z, hz⟩ : ∃ z, nameB b = z := ⟨_, rfl⟩
 have hzl : z.length = 32 := by rw [← hz]; exact nameB_length b
 rw [hz] at hK ⊢
 refine CtM.k Tryd.func25 rfl Tryd.ntmps25 (congrArg Array.toList Tryd.results25) (by simp) fun w0 ro may fx => ?_
 refine sr_k fun K1 hK1 => ?_
 simp only [go_sem, hzl, hc]
 repeat' (first | apply And.intro | intro _)
 refine hK1 _ ?_
 refine sr_k fun K2 hK2 => ?_
 simp only [go_sem, hzl, hc]
 repeat' (first | apply And.intro | intro _)
 all_goals refine call_view (fun k => k) (fun _ _ => rfl) (by first | rfl | (simp only [go_sem, hzl, hc] <;> rfl)) (hK.plain fun _ _ h => h) ?_
 all_goals (rintro v m ⟨hR, hm⟩; subst hR; subst hm)
 all_goals refine And.intro (by first | rfl | simp only [go_sem, hzl, hc]) (And.intro (by first | rfl | simp only [go_sem, hzl, hc]) ?_)
 all_goals simp only [go_sem, hzl, hc]
 all_goals repeat' (first | apply And.intro | intro _)
 refine hK2 _ ?_
 refine seq_k fun N3 M3 hN3 hM3 => ?_
 refine sr_k fun K4 hK4 => ?_
 simp only [go_sem, hzl, hc]
 repeat' (first | apply And.intro | intro _)
 refine hK4 _ ?_
 refine condF_k (by first | rfl | (simp [go_sem, hzl, hc]; done)) ?_
 refine skip_k ?_
 refine hN3 _ ?_
 refine sr_k fun K5 hK5 => ?_
 simp only [go_sem, hzl, hc]
 repeat' (first | apply And.intro | intro _)
 refine hK5 _ ?_
 refine ret_k ?_
 simp only [go_sem, hzl, hc]
 all_goals (exact told_plain (by simp [plainV, plainW, bytesC]) ⟨by simp [symS, Z32, bytesC], rfl⟩)
set_option maxHeartbeats 1600000 in
set_option maxRecDepth 100000 in
theorem rbegin_l (b : List UInt8) (hb : 32 < b.length) (hb2 : b.length ≤ 9223372036854775807) :
 CtM Tryd.prog 25 [.w (.one (.pl (.str b)))] [(1000001, ⟨false, [.pl (.u32 1779033703), .pl (.u32 3144134277), .pl (.u32 1013904242), .pl (.u32 2773480762), .pl (.u32 1359893119), .pl (.u32 2600822924), .pl (.u32 528734635), .pl (.u32 1541459225)]⟩)] (Told (fun v m => v = .w (.agg (symS false Z32 0 (nameB b) (nameB b))) ∧ m = [])) := by
 have hK := key_l b hb hb2
 obtain ⟨y, hy⟩ : ∃ y, b.take 32 = y := ⟨_, rfl⟩
 have hyl : y.length = 32 := by rw [← hy, List.length_take]; omega
 rw [hy] at hK
 have hc : (32 : Int) < ((b.length : Nat) : Int) := by omega
 have hS := hashof_ b hb2
 rw [nameB_l hb]
 obtain ⟨z, hz⟩ : ∃ z, sumB b = z := ⟨_, rfl⟩
 have hzl : z.length = 32 := by rw [← hz]; exact sumB_length b
 rw [hz] at hS ⊢
 have F0 := And.intro hzl <| And.intro hyl <| hc
 refine CtM.k Tryd.func25 rfl Tryd.ntmps25 (congrArg Array.toList Tryd.results25) (by simp) fun w0 ro may fx => ?_
 refine sr_k fun K1 hK1 => ?_
 simp only [go_sem, F0]
 repeat' (first | apply And.intro | intro _)
 refine hK1 _ ?_
 refine sr_k fun K2 hK2 => ?_
 simp only [go_sem, F0]
 repeat' (first | apply And.intro | intro _)
 all_goals refine call_view (fun k => k) (fun _ _ => rfl) (by first | rfl | (simp only [go_sem, F0] <;> rfl)) (hK.plain fun _ _ h => h) ?_
 all_goals (rintro v m ⟨hR, hm⟩; subst hR; subst hm)
 all_goals refine And.intro (by first | rfl | simp only [go_sem, F0]) (And.intro (by first | rfl | simp only [go_sem, F0]) ?_)
 all_goals simp only [go_sem, F0]
 all_goals repeat' (first | apply And.intro | intro _)
 refine hK2 _ ?_
 refine seq_k fun N3 M3 hN3 hM3 => ?_
 refine sr_k fun K4 hK4 => ?_
 simp only [go_sem, F0]
 repeat' (first | apply And.intro | intro _)
 refine hK4 _ ?_
 refine condT_k (by first | rfl | (simp [go_sem, F0]; done)) ?_
 refine region_k fun K5 hK5 => ?_
 simp only [go_sem, F0]
 repeat' (first | apply And.intro | intro _)
 all_goals (refine call_hand false [] (fun k => k) (fun _ _ => rfl) ?_ (by decide) ?_ hS.told ?_; iterate 2 (focus (first | rfl | (simp only [go_sem, F0] <;> first | done | rfl | simp))))
 all_goals (rintro v m ⟨hR, hm⟩; subst hR; subst hm)
 all_goals (refine And.intro ?_ (And.intro ?_ (And.intro ?_ ?_)); iterate 3 (focus (first | rfl | (simp only [go_sem, F0]; done) | (simp [go_sem, look, F0]; done))))
 all_goals (try simp only [go_sem, F0])
 all_goals (try simp only [go_sem, F0])
 all_goals repeat' (first | apply And.intro | intro _)
 refine hK5 _ ?_
 refine hN3 _ ?_
 refine sr_k fun K6 hK6 => ?_
 simp only [go_sem, F0]
 repeat' (first | apply And.intro | intro _)
 refine hK6 _ ?_
 refine ret_k ?_
 simp only [go_sem, F0]
 all_goals (exact told_plain (by simp [plainV, plainW, bytesC]) ⟨by simp [symS, Z32, bytesC], rfl⟩)
theorem sbegin_ (b : List UInt8) (hb : b.length ≤ 9223372036854775807) : CtM Tryd.prog 23 [.w (.one (.pl (.str b)))] [(1000000, ⟨false, [.pl (.u32 1779033703), .pl (.u32 3144134277), .pl (.u32 1013904242), .pl (.u32 2773480762), .pl (.u32 1359893119), .pl (.u32 2600822924), .pl (.u32 528734635), .pl (.u32 1541459225)]⟩), (1000002, ⟨false, ordC⟩)] (Told (fun v m => v = .w (.agg (symS false Z32 0 (nameB b) (nameB b))) ∧ m = [])) := by
 by_cases h : b.length ≤ 32
 · exact sbegin_s b h
 · exact sbegin_l b (by omega) hb
theorem rbegin_ (b : List UInt8) (hb : b.length ≤ 9223372036854775807) : CtM Tryd.prog 25 [.w (.one (.pl (.str b)))] [(1000001, ⟨false, [.pl (.u32 1779033703), .pl (.u32 3144134277), .pl (.u32 1013904242), .pl (.u32 2773480762), .pl (.u32 1359893119), .pl (.u32 2600822924), .pl (.u32 528734635), .pl (.u32 1541459225)]⟩)] (Told (fun v m => v = .w (.agg (symS false Z32 0 (nameB b) (nameB b))) ∧ m = [])) := by
 by_cases h : b.length ≤ 32
 · exact rbegin_s b h
 · exact rbegin_l b (by omega) hb
set_option maxHeartbeats 1600000 in
set_option maxRecDepth 100000 in
theorem split_ (st : Bool) (key : List UInt8) (n : UInt64) (ch h : List UInt8) (hk : key.length = 32) (hc : ch.length = 32) (hh : h.length = 32) :
 CtM Tryd.prog 24 [.w (.agg (symS st key n ch h))] [(1000000, ⟨false, [.pl (.u32 1779033703), .pl (.u32 3144134277), .pl (.u32 1013904242), .pl (.u32 2773480762), .pl (.u32 1359893119), .pl (.u32 2600822924), .pl (.u32 528734635), .pl (.u32 1541459225)]⟩), (1000002, ⟨false, ordC⟩)] (Told (fun v m => v = .w (.agg (cipC true (key1 ch []) 0 ++ cipC true (key2 ch []) 0)) ∧ m = [])) := by
 have hT : CtM Tryd.prog 21 [.w (.agg (bytesC ch)), .w (.one (.pl (.R true 1 [])))] [(1000000, ⟨false, [.pl (.u32 1779033703), .pl (.u32 3144134277), .pl (.u32 1013904242), .pl (.u32 2773480762), .pl (.u32 1359893119), .pl (.u32 2600822924), .pl (.u32 528734635), .pl (.u32 1541459225)]⟩), (1000002, ⟨false, ordC⟩)] _ := two_ ch [] hc (by simp) true
 obtain ⟨k1, hk1⟩ : ∃ k, key1 ch [] = k := ⟨_, rfl⟩
 have hl1 : k1.length = 32 := by rw [← hk1]; exact key1_length _ _
 obtain ⟨k2, hk2⟩ : ∃ k, key2 ch [] = k := ⟨_, rfl⟩
 have hl2 : k2.length = 32 := by rw [← hk2]; exact key2_length _ _
 rw [hk1, hk2] at hT ⊢
 have hB1 := cbegin_ k1 hl1
 have hB2 := cbegin_ k2 hl2
 have F0 := And.intro hk <| And.intro hc <| And.intro hh <| And.intro hl1 <| hl2
 refine CtM.k Tryd.func24 rfl Tryd.ntmps24 (congrArg Array.toList Tryd.results24) (by simp) fun w0 ro may fx => ?_
 refine sr_k fun K1 hK1 => ?_
 simp only [go_sem, symS, cipC, F0]
 repeat' (first | apply And.intro | intro _)
 refine hK1 _ ?_
 refine sr_k fun K2 hK2 => ?_
 simp only [go_sem, symS, cipC, F0]
 repeat' (first | apply And.intro | intro _)
 all_goals (refine call_hand false [] (fun k => k) (fun _ _ => rfl) ?_ (by decide) ?_ hT.told ?_; iterate 2 (focus (first | rfl | (simp only [go_sem, symS, cipC, F0] <;> first | done | rfl | simp))))
 all_goals (rintro v m ⟨hR, hm⟩; subst hR; subst hm)
 all_goals (refine And.intro ?_ (And.intro ?_ (And.intro ?_ ?_)); iterate 3 (focus (first | rfl | (simp only [go_sem, symS, cipC, F0]; done) | (simp [go_sem, look, symS, cipC, F0]; done))))
 all_goals (try simp only [go_sem, symS, cipC, F0])
 all_goals (try simp only [go_sem, symS, cipC, F0])
 all_goals repeat' (first | apply And.intro | intro _)
 refine hK2 _ ?_
 refine seq_k fun N3 M3 hN3 hM3 => ?_
 refine dr_k mixed fun K4 hK4 => ?_
 refine dr_piece_k 5 [7, 8, 9, 10, 11] [0, 1, 3, 0, 8, 31, 63, 127] [] rfl (by kernel_rfl) rfl (by simp only [go_sem]) fun N5 K5 hN5 hK5 => ?_
 simp only [go_sem, symS, cipC, F0]
 repeat' (first | apply And.intro | intro _)
 all_goals refine call_draw (fun k => k) (.w (.agg (cipC true k1 0))) [] (fun _ _ => rfl) (by first | rfl | (simp only [go_sem, symS, cipC, F0] <;> rfl)) (hB1.plain fun _ _ h => h) ?_ ?_
 all_goals try (refine And.intro ?_ (And.intro ?_ (And.intro ?_ ?_)) <;> first | rfl | simp only [go_sem])
 all_goals simp only [go_sem, symS, cipC, F0]
 all_goals repeat' (first | apply And.intro | intro _)
 all_goals
  refine hK5 _ _ trivial (hN5 _ ?_)
  refine dr_runs_k 3 8 rfl (by kernel_rfl) rfl rfl fun N6 hN6 => ?_
  simp only [go_sem, symS, cipC, F0]
  repeat' (first | apply And.intro | intro _)
  all_goals refine call_view (fun k => k) (fun _ _ => rfl) (by first | rfl | (simp only [go_sem, symS, cipC, F0] <;> rfl)) (hB2.plain fun _ _ h => h) ?_
  all_goals (rintro v m ⟨hR, hm⟩; subst hR; subst hm)
  all_goals refine And.intro (by first | rfl | simp only [go_sem, symS, cipC, F0]) (And.intro (by first | rfl | simp only [go_sem, symS, cipC, F0]) ?_)
  all_goals simp only [go_sem, symS, cipC, F0]
  all_goals repeat' (first | apply And.intro | intro _)
  all_goals
   refine hN6 _ ?_
   refine dr_end rfl (hK4 _ ?_)
   refine hN3 _ ?_
   refine ret_k ?_
   simp only [go_sem, symS, cipC, F0]
   all_goals (exact told_plain (by simp [plainV, plainW, bytesC]) ⟨by first | (simp; done) | (simp [symS, cipC, bytesC]; done), rfl⟩)
set_option maxHeartbeats 1600000 in
set_option maxRecDepth 100000 in
theorem rsplit_ (st : Bool) (key : List UInt8) (n : UInt64) (ch h : List UInt8) (hk : key.length = 32) (hc : ch.length = 32) (hh : h.length = 32) :
 CtM Tryd.prog 26 [.w (.agg (symS st key n ch h))] [(1000001, ⟨false, [.pl (.u32 1779033703), .pl (.u32 3144134277), .pl (.u32 1013904242), .pl (.u32 2773480762), .pl (.u32 1359893119), .pl (.u32 2600822924), .pl (.u32 528734635), .pl (.u32 1541459225)]⟩)] (Told (fun v m => v = .w (.agg (cipC true (key1 ch []) 0 ++ cipC true (key2 ch []) 0)) ∧ m = [])) := by
 have hT := keysof_ ch [] hc (by simp)
 obtain ⟨k1, hk1⟩ : ∃ k, key1 ch [] = k := ⟨_, rfl⟩
 have hl1 : k1.length = 32 := by rw [← hk1]; exact key1_length _ _
 obtain ⟨k2, hk2⟩ : ∃ k, key2 ch [] = k := ⟨_, rfl⟩
 have hl2 : k2.length = 32 := by rw [← hk2]; exact key2_length _ _
 obtain ⟨k3, hk3⟩ : ∃ k, key3 ch [] = k := ⟨_, rfl⟩
 have hl3 : k3.length = 32 := by rw [← hk3]; exact key3_length _ _
 rw [hk1, hk2, hk3] at hT
 rw [hk1, hk2]
 have F0 := And.intro hk <| And.intro hc <| And.intro hh <| And.intro hl1 <| And.intro hl2 <| hl3
 refine CtM.k Tryd.func26 rfl Tryd.ntmps26 (congrArg Array.toList Tryd.results26) (by simp) fun w0 ro may fx => ?_
 refine sr_k fun K1 hK1 => ?_
 simp only [go_sem, symS, cipC, F0]
 repeat' (first | apply And.intro | intro _)
 refine hK1 _ ?_
 refine sr_k fun K2 hK2 => ?_
 simp only [go_sem, symS, cipC, F0]
 repeat' (first | apply And.intro | intro _)
 all_goals (refine call_hand false [] (fun k => k) (fun _ _ => rfl) ?_ (by decide) ?_ hT.told ?_; iterate 2 (focus (first | rfl | (simp only [go_sem, symS, cipC, F0] <;> first | done | rfl | simp))))
 all_goals (rintro v m ⟨hR, hm⟩; subst hR; subst hm)
 all_goals (refine And.intro ?_ (And.intro ?_ (And.intro ?_ ?_)); iterate 3 (focus (first | rfl | (simp only [go_sem, symS, cipC, F0]; done) | (simp [go_sem, look, symS, cipC, F0]; done))))
 all_goals (try simp only [go_sem, symS, cipC, F0])
 all_goals (try simp only [go_sem, symS, cipC, F0])
 all_goals repeat' (first | apply And.intro | intro _)
 refine hK2 _ ?_
 refine sr_k fun K3 hK3 => ?_
 simp only [go_sem, symS, cipC, F0]
 repeat' (first | apply And.intro | intro _)
 refine hK3 _ ?_
 refine ret_k ?_
 simp only [go_sem, symS, cipC, F0]
 all_goals (exact told_plain (by simp [plainV, plainW, bytesC]) ⟨by first | (simp; done) | (simp [symS, cipC, bytesC]; done), rfl⟩)
theorem kinds_cip {st : Bool} {k : List UInt8} {n : UInt64} (hk : k.length = 32) : (cipC st k n).map kindL = ((Kd.b :: (List.replicate 32 (Kd.int .u8) ++ [Kd.int .u64]) : List Kd)).map some := by
 have e := kinds_bytes hk
 rw [cipC, List.map_cons, List.map_append, e]; rfl
theorem cip_norm {s1 s2 : Bool} {k1 k2 : List UInt8} {n1 n2 : UInt64} : cipC s1 k1 n1 ++ cipC s2 k2 n2 = .pl (.b s1) :: (bytesC k1 ++ [.pl (.u64 n1)] ++ .pl (.b s2) :: (bytesC k2 ++ [.pl (.u64 n2)])) := by
 simp [cipC, bytesC]
theorem same56 {s1 s2 : Bool} {k1 k2 : List UInt8} {n1 n2 : UInt64} (h1 : k1.length = 32) (h2 : k2.length = 32) : aggEq Tryd.prog 56 (cipC s1 k1 n1 ++ cipC s2 k2 n2) (cipC s1 k1 n1 ++ cipC s2 k2 n2) = some true := by
 have hk : (cipC s1 k1 n1 ++ cipC s2 k2 n2).map kindL = ((Kd.b :: List.replicate 32 (Kd.int .u8) ++ (Kd.int .u64 :: Kd.b :: List.replicate 32 (Kd.int .u8) ++ (Kd.int .u64 :: [])) : List Kd)).map some := by
  rw [List.map_append, kinds_cip h1, kinds_cip h2]; rfl
 rw [ae56 hk hk, cipC, cipC, List.cons_append, List.append_assoc, eqC_cons, eqC_seg rfl, List.cons_append, List.nil_append, eqC_cons, eqC_cons, eqC_seg rfl]; simp [eqL, eqC]
set_option maxHeartbeats 1600000 in
set_option maxRecDepth 100000 in
theorem symbegins (b : List UInt8) (hb : b.length ≤ 9223372036854775807) (st : Bool) (key : List UInt8) (n : UInt64) (ch h : List UInt8) (hk : key.length = 32) (hc : ch.length = 32) (hh : h.length = 32) :
 CtM Tryd.prog 8 [.w (.one (.pl (.str b))), .w (.agg (symS st key n ch h))] [(1000000, ⟨false, [.pl (.u32 1779033703), .pl (.u32 3144134277), .pl (.u32 1013904242), .pl (.u32 2773480762), .pl (.u32 1359893119), .pl (.u32 2600822924), .pl (.u32 528734635), .pl (.u32 1541459225)]⟩), (1000001, ⟨false, [.pl (.u32 1779033703), .pl (.u32 3144134277), .pl (.u32 1013904242), .pl (.u32 2773480762), .pl (.u32 1359893119), .pl (.u32 2600822924), .pl (.u32 528734635), .pl (.u32 1541459225)]⟩), (1000002, ⟨false, ordC⟩)] (Told (fun v m => v = .w (.one (.pl (.b true))) ∧ m = [])) := by
 obtain ⟨k1, hk1⟩ : ∃ k, key1 ch [] = k := ⟨_, rfl⟩
 have hl1 : k1.length = 32 := by rw [← hk1]; exact key1_length _ _
 obtain ⟨k2, hk2⟩ : ∃ k, key2 ch [] = k := ⟨_, rfl⟩
 have hl2 : k2.length = 32 := by rw [← hk2]; exact key2_length _ _
 obtain ⟨z, hz⟩ : ∃ z, nameB b = z := ⟨_, rfl⟩
 have hzl : z.length = 32 := by rw [← hz]; exact nameB_length b
 have hs1 := same54 (st := false) (n := 0) Z32_length hzl hzl
 have hs2 := same56 (s1 := true) (s2 := true) (n1 := 0) (n2 := 0) hl1 hl2
 obtain ⟨q, hq⟩ : ∃ q, Z32 = q := ⟨_, rfl⟩
 have hql : q.length = 32 := by rw [← hq]; rfl
 have hG1 := sbegin_ b hb
 have hR1 := rbegin_ b hb
 have hG2 := split_ st key n ch h hk hc hh
 have hR2 := rsplit_ st key n ch h hk hc hh
 rw [hz, hq] at hG1 hR1
 rw [hk1, hk2] at hG2 hR2
 rw [hq, symS_norm] at hs1
 rw [cip_norm] at hs2
 have F0 := And.intro hk <| And.intro hc <| And.intro hh <| And.intro hl1 <| And.intro hl2 <| And.intro hzl <| And.intro hql <| And.intro hs1 <| hs2
 refine CtM.k Tryd.func8 rfl Tryd.ntmps8 (congrArg Array.toList Tryd.results8) (by simp) fun w0 ro may fx => ?_
 refine sr_k fun K1 hK1 => ?_
 simp only [go_sem, symS, cipC, F0]
 repeat' (first | apply And.intro | intro _)
 refine hK1 _ ?_
 refine seq_k fun N2 M2 hN2 hM2 => ?_
 refine dr_k mixed fun K3 hK3 => ?_
 refine dr_piece_k 6 [9, 10, 11, 12, 5, 6] [0, 1, 0, 7, 0, 0, 63, 127] [] rfl (by kernel_rfl) rfl (by simp only [go_sem]) fun N4 K4 hN4 hK4 => ?_
 simp only [go_sem, symS, cipC, F0]
 repeat' (first | apply And.intro | intro _)
 all_goals (refine call_drawhand (fun k => k) (.w (.agg (symS false q 0 z z))) [] (fun _ _ => rfl) ?_ ?_ ?_ hG1.told ?_ ?_; (iterate 2 (focus (first | rfl | (simp only [go_sem, symS, cipC, F0] <;> first | done | rfl | simp)))); (first | kernel_rfl | rfl | simp [fixO, fixL, pls]))
 all_goals try (refine And.intro ?_ (And.intro ?_ (And.intro ?_ ?_)) <;> (first | rfl | (simp only [go_sem, symS, cipC, F0]; done) | (simp [go_sem, look, symS, cipC, F0]; done)))
 all_goals (try simp only [go_sem, symS, cipC, F0])
 all_goals (try simp only [go_sem, symS, cipC, F0])
 all_goals repeat' (first | apply And.intro | intro _)
 all_goals (refine call_drawhand (fun k => k) (.w (.agg (cipC true k1 0 ++ cipC true k2 0))) [] (fun _ _ => rfl) ?_ ?_ ?_ hG2.told ?_ ?_; (iterate 2 (focus (first | rfl | (simp only [go_sem, symS, cipC, F0] <;> first | done | rfl | simp)))); (first | kernel_rfl | rfl | simp [fixO, fixL, pls]))
 all_goals try (refine And.intro ?_ (And.intro ?_ (And.intro ?_ ?_)) <;> (first | rfl | (simp only [go_sem, symS, cipC, F0]; done) | (simp [go_sem, look, symS, cipC, F0]; done)))
 all_goals (try simp only [go_sem, symS, cipC, F0])
 all_goals (try simp only [go_sem, symS, cipC, F0])
 all_goals repeat' (first | apply And.intro | intro _)
 all_goals
  refine hK4 _ _ trivial (hN4 _ ?_)
  refine dr_runs_k 2 8 rfl (by kernel_rfl) rfl rfl fun N5 hN5 => ?_
  simp only [go_sem, symS, cipC, F0]
  repeat' (first | apply And.intro | intro _)
  all_goals
   refine hN5 _ ?_
   refine dr_end rfl (hK3 _ ?_)
   refine hN2 _ ?_
   refine seq_k fun N6 M6 hN6 hM6 => ?_
   refine dr_k mixed fun K7 hK7 => ?_
   refine dr_piece_k 6 [13, 14, 15, 16, 7, 8] [0, 1, 0, 7, 0, 0, 63, 127] [] rfl (by kernel_rfl) rfl (by simp only [go_sem]) fun N8 K8 hN8 hK8 => ?_
   simp only [go_sem, symS, cipC, F0]
   repeat' (first | apply And.intro | intro _)
   all_goals (refine call_drawhand (fun k => k) (.w (.agg (symS false q 0 z z))) [] (fun _ _ => rfl) ?_ ?_ ?_ hR1.told ?_ ?_; (iterate 2 (focus (first | rfl | (simp only [go_sem, symS, cipC, F0] <;> first | done | rfl | simp)))); (first | kernel_rfl | rfl | simp [fixO, fixL, pls]))
   all_goals try (refine And.intro ?_ (And.intro ?_ (And.intro ?_ ?_)) <;> (first | rfl | (simp only [go_sem, symS, cipC, F0]; done) | (simp [go_sem, look, symS, cipC, F0]; done)))
   all_goals (try simp only [go_sem, symS, cipC, F0])
   all_goals (try simp only [go_sem, symS, cipC, F0])
   all_goals repeat' (first | apply And.intro | intro _)
   all_goals (refine call_drawhand (fun k => k) (.w (.agg (cipC true k1 0 ++ cipC true k2 0))) [] (fun _ _ => rfl) ?_ ?_ ?_ hR2.told ?_ ?_; (iterate 2 (focus (first | rfl | (simp only [go_sem, symS, cipC, F0] <;> first | done | rfl | simp)))); (first | kernel_rfl | rfl | simp [fixO, fixL, pls]))
   all_goals try (refine And.intro ?_ (And.intro ?_ (And.intro ?_ ?_)) <;> (first | rfl | (simp only [go_sem, symS, cipC, F0]; done) | (simp [go_sem, look, symS, cipC, F0]; done)))
   all_goals (try simp only [go_sem, symS, cipC, F0])
   all_goals (try simp only [go_sem, symS, cipC, F0])
   all_goals repeat' (first | apply And.intro | intro _)
   all_goals
    refine hK8 _ _ trivial (hN8 _ ?_)
    refine dr_runs_k 2 8 rfl (by kernel_rfl) rfl rfl fun N9 hN9 => ?_
    simp only [go_sem, symS, cipC, F0]
    repeat' (first | apply And.intro | intro _)
    all_goals
     refine hN9 _ ?_
     refine dr_end rfl (hK7 _ ?_)
     refine hN6 _ ?_
     refine sr_k fun K10 hK10 => ?_
     simp only [go_sem, symS, cipC, F0]
     repeat' (first | apply And.intro | intro _)
     refine hK10 _ ?_
     refine ret_k ?_
     simp only [go_sem, symS, cipC, F0]
     all_goals (exact told_plain rfl ⟨rfl, rfl⟩)
theorem symbegins_gs (b : List UInt8) (hb : b.length ≤ 9223372036854775807) (st : Bool) (key : List UInt8) (n : UInt64) (ch h : List UInt8) (hk : key.length = 32) (hc : ch.length = 32) (hh : h.length = 32) : CtM Tryd.prog 8 [.w (.one (.pl (.str b))), .w (.agg (symS st key n ch h))] (globM [(1000000, firstU.map PL.u32), (1000001, firstU.map PL.u32), (1000002, ordZ.flatten.map PL.i)]) (Told (fun v m => v = .w (.one (.pl (.b true))) ∧ m = [])) := symbegins b hb st key n ch h hk hc hh
end Go.Sy

