/- States of a handshake: a key mixed in, bytes mixed in, both. -/
import Derived.Test.YtojdgfocpmlpfaaDoorvgB27
set_option linter.unusedVariables false
set_option linter.unusedSimpArgs false
namespace Go.Sy
open Go.Proofs
attribute [local irreducible] atCall HT runOps runD onC onE onO onG goV goA goS onSt onGuard
def cipC (st : Bool) (key : List UInt8) (n : UInt64) : List L := .pl (.b st) :: (bytesC key ++ [.pl (.u64 n)])
def symS (st : Bool) (key : List UInt8) (n : UInt64) (ch h : List UInt8) : List L := .pl (.b st) :: (bytesC key ++ (.pl (.u64 n) :: (bytesC ch ++ bytesC h)))
theorem symS_norm {st : Bool} {key : List UInt8} {n : UInt64} {ch h : List UInt8} : symS st key n ch h = .pl (.b st) :: (bytesC key ++ .pl (.u64 n) :: bytesC (ch ++ h)) := by
 simp [symS, bytesC]
set_option maxHeartbeats 800000 in
theorem cbegin_ (l : List UInt8) (hl : l.length = 32) :
 Ct Tryd.prog 43 [.w (.agg (bytesC l))] (fun v m => v = .w (.agg (cipC true l 0))) := by
 refine Ct.k Tryd.func43 rfl Tryd.ntmps43 (congrArg Array.toList Tryd.results43) (by simp) fun w0 ro => ?_
 refine sr_k fun K1 hK1 => ?_
 simp only [go_sem, hl, cipC]
 repeat' (first | apply And.intro | intro _)
 refine hK1 _ ?_
 refine sr_k fun K2 hK2 => ?_
 simp only [go_sem, hl, cipC]
 repeat' (first | apply And.intro | intro _)
 refine hK2 _ ?_
 refine ret_k ?_
 simp only [go_sem, hl, cipC]
 all_goals rfl
set_option maxHeartbeats 1600000 in
set_option maxRecDepth 100000 in
theorem symkey_ (st : Bool) (key : List UInt8) (n : UInt64) (ch h b : List UInt8) (hk : key.length = 32) (hc : ch.length = 32) (hh : h.length = 32) (hb : b.length ≤ 140737488351232) (ex : Bool) :
 CtM Tryd.prog 27 [.w (.agg (symS st key n ch h)), .w (.one (.pl (.R ex 1 (byteRows b))))] [(1000000, ⟨false, [.pl (.u32 1779033703), .pl (.u32 3144134277), .pl (.u32 1013904242), .pl (.u32 2773480762), .pl (.u32 1359893119), .pl (.u32 2600822924), .pl (.u32 528734635), .pl (.u32 1541459225)]⟩), (1000002, ⟨false, ordC⟩)] (Told (fun v m => v = .w (.agg (symS true (key2 ch b) 0 (key1 ch b) h)) ∧ m = [])) := by
 have hT := two_ ch b hc hb ex
 obtain ⟨k1, hk1⟩ : ∃ k, key1 ch b = k := ⟨_, rfl⟩
 have hl1 : k1.length = 32 := by rw [← hk1]; exact key1_length _ _
 obtain ⟨k2, hk2⟩ : ∃ k, key2 ch b = k := ⟨_, rfl⟩
 have hl2 : k2.length = 32 := by rw [← hk2]; exact key2_length _ _
 rw [hk1, hk2] at hT ⊢
 have hB2 := cbegin_ k2 hl2
 have F0 := And.intro hk <| And.intro hc <| And.intro hh <| And.intro hl1 <| hl2
 refine CtM.k Tryd.func27 rfl Tryd.ntmps27 (congrArg Array.toList Tryd.results27) (by simp) fun w0 ro may fx => ?_
 refine sr_k fun K1 hK1 => ?_
 simp only [go_sem, symS, cipC, F0]
 repeat' (first | apply And.intro | intro _)
 refine hK1 _ ?_
 refine sr_k fun K2 hK2 => ?_
 simp only [go_sem, symS, cipC, F0]
 repeat' (first | apply And.intro | intro _)
 all_goals (refine call_hand false [] (fun k => k) (fun _ _ => rfl) ?_ (by decide) ?_ hT.told ?_; iterate 2 (focus (first | rfl | (simp only [go_sem, symS, cipC, F0] <;> first | done | rfl | simp))))
 all_goals (rintro v m ⟨hR, hm⟩; subst hR; subst hm)
 all_goals (refine And.intro ?_ (And.intro ?_ (And.intro ?_ ?_)); iterate 3 (focus (first | rfl | (simp only [go_sem, symS, cipC, F0]; done) | (simp [go_sem, look, symS, cipC, F0]; done))))
 all_goals (try simp only [go_sem, symS, cipC, F0])
 all_goals (try simp only [go_sem, symS, cipC, F0])
 all_goals repeat' (first | apply And.intro | intro _)
 refine hK2 _ ?_
 refine seq_k fun N3 M3 hN3 hM3 => ?_
 refine dr_k mixed fun K4 hK4 => ?_
 refine dr_piece_k 6 [10, 11, 12, 13, 14, 15] [0, 1, 0, 4, 12, 3, 63, 127, 255] [] rfl (by kernel_rfl) rfl (by simp only [go_sem]) fun N5 K5 hN5 hK5 => ?_
 simp only [go_sem, symS, cipC, F0]
 repeat' (first | apply And.intro | intro _)
 all_goals refine call_draw (fun k => k) (.w (.agg (cipC true k2 0))) [] (fun _ _ => rfl) (by first | rfl | (simp only [go_sem, symS, cipC, F0] <;> rfl)) (hB2.plain fun _ _ h => h) ?_ ?_
 all_goals try (refine And.intro ?_ (And.intro ?_ (And.intro ?_ ?_)) <;> first | rfl | simp only [go_sem])
 all_goals simp only [go_sem, symS, cipC, F0]
 all_goals repeat' (first | apply And.intro | intro _)
 all_goals
  refine hK5 _ _ trivial (hN5 _ ?_)
  refine dr_runs_k 3 9 rfl (by kernel_rfl) rfl rfl fun N6 hN6 => ?_
  simp only [go_sem, symS, cipC, F0]
  repeat' (first | apply And.intro | intro _)
  all_goals
   refine hN6 _ ?_
   refine dr_end rfl (hK4 _ ?_)
   refine hN3 _ ?_
   refine sr_k fun K7 hK7 => ?_
   simp only [go_sem, symS, cipC, F0]
   repeat' (first | apply And.intro | intro _)
   refine hK7 _ ?_
   refine ret_k ?_
   simp only [go_sem, symS, cipC, F0]
   all_goals (exact told_plain (by simp [plainV, plainW, bytesC]) ⟨by first | (simp; done) | (simp [symS, cipC, bytesC]; done), rfl⟩)
set_option maxHeartbeats 1600000 in
set_option maxRecDepth 100000 in
theorem symhash_ (st : Bool) (key : List UInt8) (n : UInt64) (ch h b : List UInt8) (hk : key.length = 32) (hc : ch.length = 32) (hh : h.length = 32) (hb : b.length ≤ 140737488351232) (ex : Bool) :
 CtM Tryd.prog 28 [.w (.agg (symS st key n ch h)), .w (.one (.pl (.R ex 1 (byteRows b))))] [(1000000, ⟨false, [.pl (.u32 1779033703), .pl (.u32 3144134277), .pl (.u32 1013904242), .pl (.u32 2773480762), .pl (.u32 1359893119), .pl (.u32 2600822924), .pl (.u32 528734635), .pl (.u32 1541459225)]⟩), (1000002, ⟨false, ordC⟩)] (Told (fun v m => v = .w (.agg (symS st key n ch (sumB (h ++ b)))) ∧ m = [])) := by
 obtain ⟨z, hz⟩ : ∃ z, sumB (h ++ b) = z := ⟨_, rfl⟩
 have hzl : z.length = 32 := by rw [← hz]; exact sumB_length _
 have hn2 : (h ++ b).length ≤ 9223372036854775807 := by simp [hh]; omega
 rw [hz]
 have hS := sum_ (h ++ b) hn2 false
 rw [hz] at hS
 obtain ⟨q, hq⟩ : ∃ q, h ++ b = q := ⟨_, rfl⟩
 have hql : q.length = 32 + b.length := by rw [← hq, List.length_append, hh]
 rw [hq] at hS
 have hle : 32 + b.length ≤ 140737488355328 := by omega
 have F0 := And.intro hk <| And.intro hc <| And.intro hh <| And.intro hzl <| And.intro hle <| And.intro hq <| hql
 refine CtM.k Tryd.func28 rfl Tryd.ntmps28 (congrArg Array.toList Tryd.results28) (by simp) fun w0 ro may fx => ?_
 refine sr_k fun K1 hK1 => ?_
 simp only [go_sem, symS, cipC, F0]
 repeat' (first | apply And.intro | intro _)
 refine hK1 _ ?_
 refine sr_k fun K2 hK2 => ?_
 simp only [go_sem, symS, cipC, F0]
 repeat' (first | apply And.intro | intro _)
 all_goals (refine call_hand true [] (fun k => k) (fun _ _ => rfl) ?_ (by decide) ?_ hS.told ?_; iterate 2 (focus (first | rfl | (simp only [go_sem, symS, cipC, F0] <;> first | done | rfl | simp))))
 all_goals (rintro v m ⟨hR, hm⟩; subst hR; subst hm)
 all_goals (refine And.intro ?_ (And.intro ?_ (And.intro ?_ ?_)); iterate 3 (focus (first | rfl | (simp only [go_sem, symS, cipC, F0]; done) | (simp [go_sem, look, symS, cipC, F0]; done))))
 all_goals (try simp only [go_sem, symS, cipC, F0])
 all_goals (try simp only [go_sem, symS, cipC, F0])
 all_goals repeat' (first | apply And.intro | intro _)
 refine hK2 _ ?_
 refine sr_k fun K3 hK3 => ?_
 simp only [go_sem, symS, cipC, F0]
 repeat' (first | apply And.intro | intro _)
 refine hK3 _ ?_
 refine ret_k ?_
 simp only [go_sem, symS, cipC, F0]
 all_goals (exact told_plain (by simp [plainV, plainW, bytesC]) ⟨by first | (simp; done) | (simp [symS, cipC, bytesC]; done), rfl⟩)
set_option maxHeartbeats 1600000 in
set_option maxRecDepth 100000 in
theorem symboth_ (st : Bool) (key : List UInt8) (n : UInt64) (ch h b : List UInt8) (hk : key.length = 32) (hc : ch.length = 32) (hh : h.length = 32) (hb : b.length ≤ 140737488351232) (ex : Bool) :
 CtM Tryd.prog 29 [.w (.agg (symS st key n ch h)), .w (.one (.pl (.R ex 1 (byteRows b))))] [(1000000, ⟨false, [.pl (.u32 1779033703), .pl (.u32 3144134277), .pl (.u32 1013904242), .pl (.u32 2773480762), .pl (.u32 1359893119), .pl (.u32 2600822924), .pl (.u32 528734635), .pl (.u32 1541459225)]⟩), (1000002, ⟨false, ordC⟩)] (Told (fun v m => v = .w (.agg (symS true (key3 ch b) 0 (key1 ch b) (sumB (h ++ key2 ch b)))) ∧ m = [])) := by
 have hT := three_ ch b hc hb ex
 obtain ⟨k1, hk1⟩ : ∃ k, key1 ch b = k := ⟨_, rfl⟩
 have hl1 : k1.length = 32 := by rw [← hk1]; exact key1_length _ _
 obtain ⟨k2, hk2⟩ : ∃ k, key2 ch b = k := ⟨_, rfl⟩
 have hl2 : k2.length = 32 := by rw [← hk2]; exact key2_length _ _
 obtain ⟨k3, hk3⟩ : ∃ k, key3 ch b = k := ⟨_, rfl⟩
 have hl3 : k3.length = 32 := by rw [← hk3]; exact key3_length _ _
 rw [hk1, hk2, hk3] at hT ⊢
 obtain ⟨z, hz⟩ : ∃ z, sumB (h ++ k2) = z := ⟨_, rfl⟩
 have hzl : z.length = 32 := by rw [← hz]; exact sumB_length _
 have hS := symhash_ st key n k1 h k2 hk hl1 hh (by omega) false
 rw [hz] at hS ⊢
 have hB3 := cbegin_ k3 hl3
 have F0 := And.intro hk <| And.intro hc <| And.intro hh <| And.intro hl1 <| And.intro hl2 <| And.intro hl3 <| hzl
 refine CtM.k Tryd.func29 rfl Tryd.ntmps29 (congrArg Array.toList Tryd.results29) (by simp) fun w0 ro may fx => ?_
 refine sr_k fun K1 hK1 => ?_
 simp only [go_sem, symS, cipC, List.append_assoc, F0]
 repeat' (first | apply And.intro | intro _)
 refine hK1 _ ?_
 refine sr_k fun K2 hK2 => ?_
 simp only [go_sem, symS, cipC, List.append_assoc, F0]
 repeat' (first | apply And.intro | intro _)
 all_goals (refine call_hand false [] (fun k => k) (fun _ _ => rfl) ?_ (by decide) ?_ hT.told ?_; iterate 2 (focus (first | rfl | (simp only [go_sem, symS, cipC, List.append_assoc, F0] <;> first | done | rfl | simp))))
 all_goals (rintro v m ⟨hR, hm⟩; subst hR; subst hm)
 all_goals (refine And.intro ?_ (And.intro ?_ (And.intro ?_ ?_)); iterate 3 (focus (first | rfl | (simp only [go_sem, symS, cipC, List.append_assoc, F0]; done) | (simp [go_sem, look, symS, cipC, List.append_assoc, F0]; done))))
 all_goals (try simp only [go_sem, symS, cipC, List.append_assoc, F0])
 all_goals (try simp only [go_sem, symS, cipC, List.append_assoc, F0])
 all_goals repeat' (first | apply And.intro | intro _)
 refine hK2 _ ?_
 refine sr_k fun K3 hK3 => ?_
 simp only [go_sem, symS, cipC, List.append_assoc, F0]
 repeat' (first | apply And.intro | intro _)
 refine hK3 _ ?_
 refine seq_k fun N4 M4 hN4 hM4 => ?_
 refine dr_k mixed fun K5 hK5 => ?_
 refine dr_piece_k 3 [13, 14, 15] [0, 0, 2, 7, 15] [] rfl (by kernel_rfl) rfl (by simp only [go_sem]) fun N6 K6 hN6 hK6 => ?_
 simp only [go_sem, symS, cipC, List.append_assoc, F0]
 repeat' (first | apply And.intro | intro _)
 all_goals
  refine hK6 _ _ trivial (hN6 _ ?_)
  refine dr_runs_k 2 5 rfl (by kernel_rfl) rfl rfl fun N7 hN7 => ?_
  simp only [go_sem, symS, cipC, List.append_assoc, F0]
  repeat' (first | apply And.intro | intro _)
  all_goals (refine call_hand true [] (fun k => k) (fun _ _ => rfl) ?_ (by decide) ?_ hS.told ?_; iterate 2 (focus (first | rfl | (simp only [go_sem, symS, cipC, List.append_assoc, F0] <;> first | done | rfl | simp))))
  all_goals (rintro v m ⟨hR, hm⟩; subst hR; subst hm)
  all_goals (refine And.intro ?_ (And.intro ?_ (And.intro ?_ ?_)); iterate 3 (focus (first | rfl | (simp only [go_sem, symS, cipC, List.append_assoc, F0]; done) | (simp [go_sem, look, symS, cipC, List.append_assoc, F0]; done))))
  all_goals (try simp only [go_sem, symS, cipC, List.append_assoc, F0])
  all_goals (try simp only [go_sem, symS, cipC, List.append_assoc, F0])
  all_goals repeat' (first | apply And.intro | intro _)
  all_goals
   refine hN7 _ ?_
   refine dr_end rfl (hK5 _ ?_)
   refine hN4 _ ?_
   refine sr_k fun K8 hK8 => ?_
   simp only [go_sem, symS, cipC, List.append_assoc, F0]
   repeat' (first | apply And.intro | intro _)
   all_goals refine call_view (fun k => k) (fun _ _ => rfl) (by first | rfl | (simp only [go_sem, symS, cipC, List.append_assoc, F0] <;> rfl)) (hB3.plain fun _ _ h => h) ?_
   all_goals (rintro v m ⟨hR, hm⟩; subst hR; subst hm)
   all_goals refine And.intro (by first | rfl | simp only [go_sem, symS, cipC, List.append_assoc, F0]) (And.intro (by first | rfl | simp only [go_sem, symS, cipC, List.append_assoc, F0]) ?_)
   all_goals simp only [go_sem, symS, cipC, List.append_assoc, F0]
   all_goals repeat' (first | apply And.intro | intro _)
   refine hK8 _ ?_
   refine sr_k fun K9 hK9 => ?_
   simp only [go_sem, symS, cipC, List.append_assoc, F0]
   repeat' (first | apply And.intro | intro _)
   refine hK9 _ ?_
   refine ret_k ?_
   simp only [go_sem, symS, cipC, List.append_assoc, F0]
   all_goals (exact told_plain (by simp [plainV, plainW, bytesC]) ⟨by first | (simp; done) | (simp [symS, cipC, bytesC]; done), rfl⟩)
end Go.Sy

