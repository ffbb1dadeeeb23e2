/- A state begun; a state split. -/
import Derived.Test.YtcmcnfjdfcianaaDoorvqgB29
set_option linter.unusedVariables false
set_option linter.unusedSimpArgs false
namespace Go.Sy
namespace Bk
open Go.Proofs
attribute [local irreducible] atCall HT runOps runD onC onE onO onG goV goA goS onSt onGuard
def nameB (b : List UInt8) : List UInt8 := if b.length ≤ 32 then b ++ List.replicate (32 - b.length) 0 else sumB b
theorem nameB_s {b : List UInt8} (h : b.length ≤ 32) : nameB b = b ++ List.replicate (32 - b.length) 0 := if_pos h
theorem nameB_l {b : List UInt8} (h : 32 < b.length) : nameB b = sumB b := if_neg (by omega)
theorem nameB_length (b : List UInt8) : (nameB b).length = 32 := by
 unfold nameB
 split
 · simp; omega
 · exact sumB_length b
def Z32 : List UInt8 := List.replicate 32 0
theorem Z32_length : Z32.length = 32 := rfl
theorem z32_cells : bytesC Z32 = [.pl (.u8 0), .pl (.u8 0), .pl (.u8 0), .pl (.u8 0), .pl (.u8 0), .pl (.u8 0), .pl (.u8 0), .pl (.u8 0), .pl (.u8 0), .pl (.u8 0), .pl (.u8 0), .pl (.u8 0), .pl (.u8 0), .pl (.u8 0), .pl (.u8 0), .pl (.u8 0), .pl (.u8 0), .pl (.u8 0), .pl (.u8 0), .pl (.u8 0), .pl (.u8 0), .pl (.u8 0), .pl (.u8 0), .pl (.u8 0), .pl (.u8 0), .pl (.u8 0), .pl (.u8 0), .pl (.u8 0), .pl (.u8 0), .pl (.u8 0), .pl (.u8 0), .pl (.u8 0) ] := rfl
set_option maxHeartbeats 800000 in
set_option maxRecDepth 100000 in
theorem key_s (b : List UInt8) (hb : b.length ≤ 32) :
 Ct Tryd.prog 60 [.w (.one (.pl (.str b)))] (fun v m => v = .w (.agg (bytesC (nameB b)))) := by
 rw [nameB_s hb]
 have hm : min b.length 32 = b.length := by omega
 have hm2 : min 32 b.length = b.length := by omega
 have h1 : List.take b.length b = b := List.take_length
 have h2 : List.drop b.length (List.replicate 32 (0 : UInt8)) = List.replicate (32 - b.length) 0 := List.drop_replicate
 have hle : b.length + (32 - b.length) = 32 := by omega
 have F0 := And.intro hm <| And.intro hm2 <| And.intro h1 <| And.intro h2 <| hle
 refine Ct.k Tryd.func60 rfl Tryd.ntmps60 (congrArg Array.toList Tryd.results60) (by simp) fun w0 ro => ?_
 refine top_k fun zZ zhZ => ?_
 iterate 11 first
  | (refine seq_k fun zN zM zhN zhM => ?_; refine text_k (id := 2) [4, 5, 6] (by simp only [go_sem]) fun zK zhK => ?_; simp only [go_sem, F0]; (repeat' (first | apply And.intro | intro _)))
  | (refine sr_k fun zK zhK => ?_; simp only [go_sem, F0]; (repeat' (first | apply And.intro | intro _)))
  | refine zhK _ ?_
  | refine zhK _ _ ?_
  | (refine zhN _ ?_; clear zhN zhM)
  | refine ret_k ?_
  | (refine zhZ _ _ ?_; simp only [go_sem, F0]; (all_goals (rfl)))
set_option maxHeartbeats 800000 in
set_option maxRecDepth 100000 in
theorem key_l (b : List UInt8) (hb : 32 < b.length) (hb2 : b.length ≤ 9223372036854775807) :
 Ct Tryd.prog 60 [.w (.one (.pl (.str b)))] (fun v m => v = .w (.agg (bytesC (b.take 32)))) := by
 have hm : min b.length 32 = 32 := by omega
 have hm2 : min 32 b.length = 32 := by omega
 have h2 : List.drop 32 (List.replicate 32 (0 : UInt8)) = [] := rfl
 have hle : (List.take 32 b).length = 32 := by rw [List.length_take]; omega
 have F0 := And.intro hm <| And.intro hm2 <| And.intro h2 <| hle
 refine Ct.k Tryd.func60 rfl Tryd.ntmps60 (congrArg Array.toList Tryd.results60) (by simp) fun w0 ro => ?_
 refine top_k fun zZ zhZ => ?_
 iterate 11 first
  | (refine seq_k fun zN zM zhN zhM => ?_; refine text_k (id := 2) [4, 5, 6] (by simp only [go_sem]) fun zK zhK => ?_; simp only [go_sem, F0]; (repeat' (first | apply And.intro | intro _)))
  | (refine sr_k fun zK zhK => ?_; simp only [go_sem, F0]; (repeat' (first | apply And.intro | intro _)))
  | refine zhK _ ?_
  | refine zhK _ _ ?_
  | (refine zhN _ ?_; clear zhN zhM)
  | refine ret_k ?_
  | (refine zhZ _ _ ?_; simp only [go_sem, F0]; (all_goals (rfl)))
set_option maxHeartbeats 1600000 in
set_option maxRecDepth 100000 in
theorem split_ (st : Bool) (key : List UInt8) (n : UInt64) (ch h : List UInt8) (hk : key.length = 32) (hc : ch.length = 32) (hh : h.length = 32) :
 CtM Tryd.prog 18 [.w (.agg (symS st key n ch h))] [(1000000, ⟨false, [.pl (.u32 1779033703), .pl (.u32 3144134277), .pl (.u32 1013904242), .pl (.u32 2773480762), .pl (.u32 1359893119), .pl (.u32 2600822924), .pl (.u32 528734635), .pl (.u32 1541459225)]⟩), (1000002, ⟨false, ordC⟩)] (Told (fun v m => v = .w (.agg (cipC true (key1 ch []) 0 ++ cipC true (key2 ch []) 0)) ∧ m = [])) := by
 have hT : CtM Tryd.prog 30 [.w (.agg (bytesC ch)), .w (.one (.pl (.R true 1 [])))] [(1000000, ⟨false, [.pl (.u32 1779033703), .pl (.u32 3144134277), .pl (.u32 1013904242), .pl (.u32 2773480762), .pl (.u32 1359893119), .pl (.u32 2600822924), .pl (.u32 528734635), .pl (.u32 1541459225)]⟩), (1000002, ⟨false, ordC⟩)] _ := two_ ch [] hc (by simp) true
 obtain ⟨k1, hk1⟩ : ∃ k, key1 ch [] = k := ⟨_, rfl⟩
 have hl1 : k1.length = 32 := by rw [← hk1]; exact key1_length _ _
 obtain ⟨k2, hk2⟩ : ∃ k, key2 ch [] = k := ⟨_, rfl⟩
 have hl2 : k2.length = 32 := by rw [← hk2]; exact key2_length _ _
 rw [hk1, hk2] at hT ⊢
 have hB1 := cbegin_ k1 hl1
 have hB2 := cbegin_ k2 hl2
 have F0 := And.intro hk <| And.intro hc <| And.intro hh <| And.intro hl1 <| hl2
 refine CtM.k Tryd.func18 rfl Tryd.ntmps18 (congrArg Array.toList Tryd.results18) (by simp) fun w0 ro may fx => ?_
 refine top_k fun zZ zhZ => ?_
 refine sr_k fun zK zhK => ?_
 simp only [go_sem, symS, cipC, F0]
 repeat' (first | apply And.intro | intro _)
 refine zhK _ ?_
 refine sr_k fun zK zhK => ?_
 simp only [go_sem, symS, cipC, F0]
 repeat' (first | apply And.intro | intro _)
 all_goals (refine call_hand false [] (fun k => k) (fun _ _ => rfl) ?_ (by decide) ?_ hT.told ?_; iterate 2 (focus (first | rfl | (simp only [go_sem, symS, cipC, F0] <;> first | done | rfl | simp))))
 all_goals (rintro v m ⟨hR, hm⟩; subst hR; subst hm)
 all_goals (refine And.intro ?_ (And.intro ?_ (And.intro ?_ ?_)); iterate 3 (focus (first | rfl | (simp only [go_sem, symS, cipC, F0]; done) | (simp [go_sem, look, symS, cipC, F0]; done))))
 all_goals (try simp only [go_sem, symS, cipC, F0])
 all_goals (try simp only [go_sem, symS, cipC, F0])
 all_goals repeat' (first | apply And.intro | intro _)
 refine zhK _ ?_
 refine seq_k fun zN zM zhN zhM => ?_
 refine dr_k (id := 2) mixed fun zE zhE => ?_
 refine dr_piece_k (p := 0) 5 [7, 8, 9, 10, 11] [0, 1, 3, 0, 8, 31, 63, 127] [] rfl (by kernel_rfl) rfl (by simp only [go_sem]) fun zR zK zhR zhK => ?_
 simp only [go_sem, symS, cipC, F0]
 repeat' (first | apply And.intro | intro _)
 all_goals (refine call_draw (fun k => k) (.w (.agg (cipC true k1 0))) [] (fun _ _ => rfl) ?_ (hB1.plain fun _ _ h => h) ?_ ?_; focus (first | rfl | (simp only [go_sem, symS, cipC, F0] <;> rfl)))
 all_goals try (refine And.intro ?_ (And.intro ?_ (And.intro ?_ ?_)) <;> first | rfl | simp only [go_sem])
 all_goals simp only [go_sem, symS, cipC, F0]
 all_goals repeat' (first | apply And.intro | intro _)
 refine zhK _ _ trivial (zhR _ ?_)
 refine dr_runs_k 3 8 rfl (by kernel_rfl) rfl rfl fun zR zhR => ?_
 simp only [go_sem, symS, cipC, F0]
 repeat' (first | apply And.intro | intro _)
 all_goals (refine call_view (fun k => k) (fun _ _ => rfl) ?_ (hB2.plain fun _ _ h => h) ?_; focus (first | rfl | (simp only [go_sem, symS, cipC, F0] <;> rfl)))
 all_goals (rintro v m ⟨hR, hm⟩; subst hR; subst hm)
 all_goals refine And.intro (by first | rfl | simp only [go_sem, symS, cipC, F0]) (And.intro (by first | rfl | simp only [go_sem, symS, cipC, F0]) ?_)
 all_goals simp only [go_sem, symS, cipC, F0]
 all_goals repeat' (first | apply And.intro | intro _)
 refine zhR _ ?_
 refine dr_end rfl (zhE _ ?_)
 refine zhN _ ?_; clear zhN zhM
 refine ret_k ?_
 refine zhZ _ _ ?_
 simp only [go_sem, symS, cipC, F0]
 all_goals (exact told_plain (by simp [plainV, plainW, bytesC]) ⟨by first | (simp; done) | (simp [symS, cipC, bytesC]; done), rfl⟩)
set_option maxHeartbeats 1600000 in
set_option maxRecDepth 100000 in
theorem rsplit_ (st : Bool) (key : List UInt8) (n : UInt64) (ch h : List UInt8) (hk : key.length = 32) (hc : ch.length = 32) (hh : h.length = 32) :
 CtM Tryd.prog 19 [.w (.agg (symS st key n ch h))] [(1000001, ⟨false, [.pl (.u32 1779033703), .pl (.u32 3144134277), .pl (.u32 1013904242), .pl (.u32 2773480762), .pl (.u32 1359893119), .pl (.u32 2600822924), .pl (.u32 528734635), .pl (.u32 1541459225)]⟩)] (Told (fun v m => v = .w (.agg (cipC true (key1 ch []) 0 ++ cipC true (key2 ch []) 0)) ∧ m = [])) := by
 have hT := keysof_ ch [] hc (by simp)
 obtain ⟨k1, hk1⟩ : ∃ k, key1 ch [] = k := ⟨_, rfl⟩
 have hl1 : k1.length = 32 := by rw [← hk1]; exact key1_length _ _
 obtain ⟨k2, hk2⟩ : ∃ k, key2 ch [] = k := ⟨_, rfl⟩
 have hl2 : k2.length = 32 := by rw [← hk2]; exact key2_length _ _
 obtain ⟨k3, hk3⟩ : ∃ k, key3 ch [] = k := ⟨_, rfl⟩
 have hl3 : k3.length = 32 := by rw [← hk3]; exact key3_length _ _
 rw [hk1, hk2, hk3] at hT
 rw [hk1, hk2]
 have F0 := And.intro hk <| And.intro hc <| And.intro hh <| And.intro hl1 <| And.intro hl2 <| hl3
 refine CtM.k Tryd.func19 rfl Tryd.ntmps19 (congrArg Array.toList Tryd.results19) (by simp) fun w0 ro may fx => ?_
 refine top_k fun zZ zhZ => ?_
 iterate 9 first
  | (refine sr_k fun zK zhK => ?_; simp only [go_sem, symS, cipC, F0]; (repeat' (first | apply And.intro | intro _)))
  | refine zhK _ ?_
  | refine ret_k ?_
  | (refine zhZ _ _ ?_; simp only [go_sem, symS, cipC, F0]; (all_goals (exact told_plain (by simp [plainV, plainW, bytesC]) ⟨by first | (simp; done) | (simp [symS, cipC, bytesC]; done), rfl⟩)))
  | ((all_goals (refine call_hand false [] (fun k => k) (fun _ _ => rfl) ?_ (by decide) ?_ hT.told ?_; iterate 2 (focus (first | rfl | (simp only [go_sem, symS, cipC, F0] <;> first | done | rfl | simp))))); (all_goals (rintro v m ⟨hR, hm⟩; subst hR; subst hm)); (all_goals (refine And.intro ?_ (And.intro ?_ (And.intro ?_ ?_)); iterate 3 (focus (first | rfl | (simp only [go_sem, symS, cipC, F0]; done) | (simp [go_sem, look, symS, cipC, F0]; done))))); (all_goals (try simp only [go_sem, symS, cipC, F0])); (all_goals (try simp only [go_sem, symS, cipC, F0])); (all_goals repeat' (first | apply And.intro | intro _)))
theorem kinds_cip {st : Bool} {k : List UInt8} {n : UInt64} (hk : k.length = 32) : (cipC st k n).map kindL = ((Kd.b :: (List.replicate 32 (Kd.int .u8) ++ [Kd.int .u64]) : List Kd)).map some := by
 have e := kinds_bytes hk
 rw [cipC, List.map_cons, List.map_append, e]; rfl
theorem cip_norm {s1 s2 : Bool} {k1 k2 : List UInt8} {n1 n2 : UInt64} : cipC s1 k1 n1 ++ cipC s2 k2 n2 = .pl (.b s1) :: (bytesC k1 ++ [.pl (.u64 n1)] ++ .pl (.b s2) :: (bytesC k2 ++ [.pl (.u64 n2)])) := by
 simp [cipC, bytesC]
theorem same56 {s1 s2 : Bool} {k1 k2 : List UInt8} {n1 n2 : UInt64} (h1 : k1.length = 32) (h2 : k2.length = 32) : aggEq Tryd.prog 45 (cipC s1 k1 n1 ++ cipC s2 k2 n2) (cipC s1 k1 n1 ++ cipC s2 k2 n2) = some true := by
 have hk : (cipC s1 k1 n1 ++ cipC s2 k2 n2).map kindL = ((Kd.b :: List.replicate 32 (Kd.int .u8) ++ (Kd.int .u64 :: Kd.b :: List.replicate 32 (Kd.int .u8) ++ (Kd.int .u64 :: [])) : List Kd)).map some := by
  rw [List.map_append, kinds_cip h1, kinds_cip h2]; rfl
 rw [ae45 hk hk, cipC, cipC, List.cons_append, List.append_assoc, eqC_cons, eqC_seg rfl, List.cons_append, List.nil_append, eqC_cons, eqC_cons, eqC_seg rfl]; simp [eqL, eqC]
end Bk
end Go.Sy
