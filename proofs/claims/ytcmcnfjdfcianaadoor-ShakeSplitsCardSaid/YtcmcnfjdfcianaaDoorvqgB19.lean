/- Sums of bytes: what they come to; the walks of both. -/
import Derived.Test.YtcmcnfjdfcianaaDoorvqgB18
import Derived.Test.YtcmcnfjdfcianaaDoorvqgB12
set_option linter.unusedVariables false
set_option linter.unusedSimpArgs false
namespace Go.Sy
namespace Bk
open Go.Proofs
attribute [local irreducible] atCall HT runOps runD onC onE onO onG goV goA goS onSt onGuard
theorem stepB_ok {s : HSt} (c : UInt8) (h : s.done % 64 = 0) : (stepB s c).done % 64 = 0 ∧ ¬ (stepB s c).rest.length = 0 := by
 unfold stepB
 split
 · exact ⟨by show (s.done + 64) % 64 = 0; omega, by simp⟩
 · exact ⟨h, by simp⟩
theorem absB_ok : ∀ {l : List UInt8} {s : HSt}, s.done % 64 = 0 → (s.rest.length = 0 → s.done = 0) → (absB s l).done % 64 = 0 ∧ ((absB s l).rest.length = 0 → (absB s l).done = 0)
 | [], _, h, h2 => ⟨h, h2⟩
 | c :: l, s, h, _ => by
  obtain ⟨h3, h4⟩ := stepB_ok (s := s) c h
  exact absB_ok (l := l) h3 (fun e => absurd e h4)
def zeroS : HSt := ⟨⟨0, 0, 0, 0, 0, 0, 0, 0⟩, 0, []⟩
def beginS : HSt := ⟨(⟨(1779033703 ^^^ 16842784), 3144134277, 1013904242, 2773480762, 1359893119, 2600822924, 528734635, 1541459225⟩ : H8), 0, []⟩
def sumS (b : List UInt8) : HSt := if 1073741824 < b.length then zeroS else absB beginS b
theorem plain_bytesV (l : List UInt8) : plainV (.w (.agg (bytesC l))) = true := plain_bytes l
def sumE (b : List UInt8) : Int := if 1073741824 < b.length then 1 else 0
def sumB (b : List UInt8) : List UInt8 := keyB (soakB (sumS b).h (pad64 (sumS b).rest) (sumS b).len true).l
theorem sumB_length (b : List UInt8) : (sumB b).length = 32 := keyB_length _
theorem sumS_ok (b : List UInt8) : (sumS b).ok := by
 unfold sumS
 split
 · exact ⟨by decide, by decide, by decide, fun _ => rfl⟩
 · obtain ⟨h1, h2⟩ := absB_ok (l := b) (s := beginS) rfl (fun _ => rfl)
   obtain ⟨h3, h4⟩ := absB_len (l := b) (s := beginS) (by decide)
   have h5 : beginS.done = 0 ∧ beginS.rest.length = 0 := ⟨rfl, rfl⟩
   exact ⟨h3, by show (absB beginS b).done + (absB beginS b).rest.length ≤ _; omega, h1, h2⟩
theorem stB_zero : stB zeroS = hashC ⟨0, 0, 0, 0, 0, 0, 0, 0⟩ (List.replicate 64 0) 0 0 := rfl
theorem stB_begin : stB beginS = hashC (⟨(1779033703 ^^^ 16842784), 3144134277, 1013904242, 2773480762, 1359893119, 2600822924, 528734635, 1541459225⟩ : H8) (List.replicate 64 0) 0 0 := rfl
theorem hadd_sum (b : List UInt8) (hbl : b.length ≤ 9223372036854775807) (ex : Bool) : CtM Tryd.prog 37 [.w (.agg (hashC (⟨(1779033703 ^^^ 16842784), 3144134277, 1013904242, 2773480762, 1359893119, 2600822924, 528734635, 1541459225⟩ : H8) (List.replicate 64 0) 0 0)), .w (.one (.pl (.R ex 1 (byteRows b))))] [(1000000, ⟨false, [.pl (.u32 1779033703), .pl (.u32 3144134277), .pl (.u32 1013904242), .pl (.u32 2773480762), .pl (.u32 1359893119), .pl (.u32 2600822924), .pl (.u32 528734635), .pl (.u32 1541459225)]⟩), (1000002, ⟨false, ordC⟩)] (Told (fun v m => v = .tup [.agg (stB (sumS b)), .one (.pl (.i (sumE b)))] ∧ m = [])) := by
 have hok : HashOk (List.replicate 64 0) ((0 : Nat) : Int) ((0 : Nat) : Int) := stB_ok (s := beginS) ⟨by decide, by decide, by decide, fun _ => rfl⟩
 by_cases h : 1073741824 < b.length
 · rw [sumS, sumE, if_pos h, if_pos h, stB_zero]
   exact hadd_bigK (1779033703 ^^^ 16842784) 3144134277 1013904242 2773480762 1359893119 2600822924 528734635 1541459225 (List.replicate 64 0) (by simp) 0 0 hok b (by omega) ex (by omega)
 · rw [sumS, sumE, if_neg h, if_neg h]
   exact hadd_mainK (1779033703 ^^^ 16842784) 3144134277 1013904242 2773480762 1359893119 2600822924 528734635 1541459225 (List.replicate 64 0) (by simp) 0 0 hok b (by omega) ex (by omega)
theorem hadded_sum (b : List UInt8) (hbl : b.length ≤ 9223372036854775807) (ex : Bool) : CtM Tryd.prog 43 [.w (.agg (hashC (⟨(1779033703 ^^^ 16842784), 3144134277, 1013904242, 2773480762, 1359893119, 2600822924, 528734635, 1541459225⟩ : H8) (List.replicate 64 0) 0 0)), .w (.one (.pl (.R ex 1 (byteRows b))))] [(1000001, ⟨false, [.pl (.u32 1779033703), .pl (.u32 3144134277), .pl (.u32 1013904242), .pl (.u32 2773480762), .pl (.u32 1359893119), .pl (.u32 2600822924), .pl (.u32 528734635), .pl (.u32 1541459225)]⟩)] (Told (fun v m => v = .tup [.agg (stB (sumS b)), .one (.pl (.i (sumE b)))] ∧ m = [])) := by
 have hok : HashOk (List.replicate 64 0) ((0 : Nat) : Int) ((0 : Nat) : Int) := stB_ok (s := beginS) ⟨by decide, by decide, by decide, fun _ => rfl⟩
 by_cases h : 1073741824 < b.length
 · rw [sumS, sumE, if_pos h, if_pos h, stB_zero]
   exact hadded_bigK (1779033703 ^^^ 16842784) 3144134277 1013904242 2773480762 1359893119 2600822924 528734635 1541459225 (List.replicate 64 0) (by simp) 0 0 hok b (by omega) ex (by omega)
 · rw [sumS, sumE, if_neg h, if_neg h]
   exact hadded_mainK (1779033703 ^^^ 16842784) 3144134277 1013904242 2773480762 1359893119 2600822924 528734635 1541459225 (List.replicate 64 0) (by simp) 0 0 hok b (by omega) ex (by omega)
theorem hend_sum (b : List UInt8) : CtM Tryd.prog 39 [.w (.agg (stB (sumS b)))] [(1000000, ⟨false, [.pl (.u32 1779033703), .pl (.u32 3144134277), .pl (.u32 1013904242), .pl (.u32 2773480762), .pl (.u32 1359893119), .pl (.u32 2600822924), .pl (.u32 528734635), .pl (.u32 1541459225)]⟩), (1000002, ⟨false, ordC⟩)] (Told (fun v m => v = .tup [.agg (bytesC (sumB b)), .one (.pl (.i 0))] ∧ m = [])) := by
 have h := sumS_ok b
 unfold sumB
 obtain ⟨⟨⟨h0, h1, h2, h3, h4, h5, h6, h7⟩, d, r⟩, hs⟩ : ∃ s, sumS b = s := ⟨_, rfl⟩
 rw [hs] at h ⊢
 exact hend_ok h0 h1 h2 h3 h4 h5 h6 h7 (pad64 r) (pad64_length h.1) r.length _ (stB_ok h)
theorem hended_sum (b : List UInt8) : CtM Tryd.prog 45 [.w (.agg (stB (sumS b)))] [(1000001, ⟨false, [.pl (.u32 1779033703), .pl (.u32 3144134277), .pl (.u32 1013904242), .pl (.u32 2773480762), .pl (.u32 1359893119), .pl (.u32 2600822924), .pl (.u32 528734635), .pl (.u32 1541459225)]⟩)] (Told (fun v m => v = .tup [.agg (bytesC (sumB b)), .one (.pl (.i 0))] ∧ m = [])) := by
 have h := sumS_ok b
 unfold sumB
 obtain ⟨⟨⟨h0, h1, h2, h3, h4, h5, h6, h7⟩, d, r⟩, hs⟩ : ∃ s, sumS b = s := ⟨_, rfl⟩
 rw [hs] at h ⊢
 exact hended_ok h0 h1 h2 h3 h4 h5 h6 h7 (pad64 r) (pad64_length h.1) r.length _ (stB_ok h)
set_option maxHeartbeats 800000 in
set_option maxRecDepth 100000 in
theorem sum_ (b : List UInt8) (hbl : b.length ≤ 9223372036854775807) (ex : Bool) :
 CtM Tryd.prog 22 [.w (.one (.pl (.R ex 1 (byteRows b))))] [(1000000, ⟨false, [.pl (.u32 1779033703), .pl (.u32 3144134277), .pl (.u32 1013904242), .pl (.u32 2773480762), .pl (.u32 1359893119), .pl (.u32 2600822924), .pl (.u32 528734635), .pl (.u32 1541459225)]⟩), (1000002, ⟨false, ordC⟩)] (Told (fun v m => v = .w (.agg (bytesC (sumB b))) ∧ m = [])) := by
 obtain ⟨⟨⟨q0, q1, q2, q3, q4, q5, q6, q7⟩, d, q⟩, hs⟩ : ∃ s, sumS b = s := ⟨_, rfl⟩
 have hok := sumS_ok b
 rw [hs] at hok
 have hpq := pad64_length (r := q) hok.1
 have hkl := sumB_length b
 have hA := hadd_sum b hbl ex
 rw [hs] at hA
 have hE := hend_sum b
 rw [hs] at hE
 refine CtM.k Tryd.func22 rfl Tryd.ntmps22 (congrArg Array.toList Tryd.results22) (by simp) fun w0 ro may fx => ?_
 refine top_k fun zZ zhZ => ?_
 refine sr_k fun zK zhK => ?_
 simp only [go_sem, stB, hashC, H8.ls, hpq, hkl]
 repeat' (first | apply And.intro | intro _)
 refine zhK _ ?_
 refine sr_k fun zK zhK => ?_
 simp only [go_sem, stB, hashC, H8.ls, hpq, hkl]
 repeat' (first | apply And.intro | intro _)
 all_goals (refine call_hand false [] (fun k => k) (fun _ _ => rfl) ?_ (by decide) ?_ hbegin.told ?_; iterate 2 (focus (first | rfl | (simp only [go_sem, stB, hashC, H8.ls, hpq, hkl] <;> first | done | rfl | simp))))
 all_goals (rintro v m ⟨hR, hm⟩; subst hR; subst hm)
 all_goals (refine And.intro ?_ (And.intro ?_ (And.intro ?_ ?_)); iterate 3 (focus (first | rfl | (simp only [go_sem, stB, hashC, H8.ls, hpq, hkl]; done) | (simp [go_sem, look, stB, hashC, H8.ls, hpq, hkl]; done))))
 all_goals (try simp only [go_sem, stB, hashC, H8.ls, hpq, hkl])
 all_goals (try simp only [go_sem, stB, hashC, H8.ls, hpq, hkl])
 all_goals repeat' (first | apply And.intro | intro _)
 all_goals (refine call_hand false [] (fun k => k) (fun _ _ => rfl) ?_ (by decide) ?_ hA.told ?_; iterate 2 (focus (first | rfl | (simp only [go_sem, stB, hashC, H8.ls, hpq, hkl] <;> first | done | rfl | simp))))
 all_goals (rintro v m ⟨hR, hm⟩; subst hR; subst hm)
 all_goals (refine And.intro ?_ (And.intro ?_ (And.intro ?_ ?_)); iterate 3 (focus (first | rfl | (simp only [go_sem, stB, hashC, H8.ls, hpq, hkl]; done) | (simp [go_sem, look, stB, hashC, H8.ls, hpq, hkl]; done))))
 all_goals (try simp only [go_sem, stB, hashC, H8.ls, hpq, hkl])
 all_goals (try simp only [go_sem, stB, hashC, H8.ls, hpq, hkl])
 all_goals repeat' (first | apply And.intro | intro _)
 refine zhK _ ?_
 refine sr_k fun zK zhK => ?_
 simp only [go_sem, stB, hashC, H8.ls, hpq, hkl]
 repeat' (first | apply And.intro | intro _)
 all_goals (refine call_hand false [] (fun k => k) (fun _ _ => rfl) ?_ (by decide) ?_ hE.told ?_; iterate 2 (focus (first | rfl | (simp only [go_sem, stB, hashC, H8.ls, hpq, hkl] <;> first | done | rfl | simp))))
 all_goals (rintro v m ⟨hR, hm⟩; subst hR; subst hm)
 all_goals (refine And.intro ?_ (And.intro ?_ (And.intro ?_ ?_)); iterate 3 (focus (first | rfl | (simp only [go_sem, stB, hashC, H8.ls, hpq, hkl]; done) | (simp [go_sem, look, stB, hashC, H8.ls, hpq, hkl]; done))))
 all_goals (try simp only [go_sem, stB, hashC, H8.ls, hpq, hkl])
 all_goals (try simp only [go_sem, stB, hashC, H8.ls, hpq, hkl])
 all_goals repeat' (first | apply And.intro | intro _)
 refine zhK _ ?_
 refine sr_k fun zK zhK => ?_
 simp only [go_sem, stB, hashC, H8.ls, hpq, hkl]
 repeat' (first | apply And.intro | intro _)
 refine zhK _ ?_
 refine ret_k ?_
 refine zhZ _ _ ?_
 simp only [go_sem, stB, hashC, H8.ls, hpq, hkl]
 all_goals (exact told_plain (plain_bytesV _) ⟨rfl, rfl⟩)
set_option maxHeartbeats 800000 in
set_option maxRecDepth 100000 in
theorem hashof_ (b : List UInt8) (hbl : b.length ≤ 9223372036854775807) :
 CtM Tryd.prog 28 [.w (.one (.pl (.str b)))] [(1000001, ⟨false, [.pl (.u32 1779033703), .pl (.u32 3144134277), .pl (.u32 1013904242), .pl (.u32 2773480762), .pl (.u32 1359893119), .pl (.u32 2600822924), .pl (.u32 528734635), .pl (.u32 1541459225)]⟩)] (Told (fun v m => v = .w (.agg (bytesC (sumB b))) ∧ m = [])) := by
 obtain ⟨⟨⟨q0, q1, q2, q3, q4, q5, q6, q7⟩, d, q⟩, hs⟩ : ∃ s, sumS b = s := ⟨_, rfl⟩
 have hok := sumS_ok b
 rw [hs] at hok
 have hpq := pad64_length (r := q) hok.1
 have hkl := sumB_length b
 have hA := hadded_sum b hbl false
 rw [hs] at hA
 have hE := hended_sum b
 rw [hs] at hE
 have hbl2 : b.length ≤ 9223372036854775807 := by omega
 have F0 := And.intro hpq <| And.intro hkl <| hbl2
 refine CtM.k Tryd.func28 rfl Tryd.ntmps28 (congrArg Array.toList Tryd.results28) (by simp) fun w0 ro may fx => ?_
 refine top_k fun zZ zhZ => ?_
 refine sr_k fun zK zhK => ?_
 simp only [go_sem, stB, hashC, H8.ls, F0]
 repeat' (first | apply And.intro | intro _)
 refine zhK _ ?_
 refine sr_k fun zK zhK => ?_
 simp only [go_sem, stB, hashC, H8.ls, F0]
 repeat' (first | apply And.intro | intro _)
 all_goals (refine call_hand false [] (fun k => k) (fun _ _ => rfl) ?_ (by decide) ?_ hbegun.told ?_; iterate 2 (focus (first | rfl | (simp only [go_sem, stB, hashC, H8.ls, F0] <;> first | done | rfl | simp))))
 all_goals (rintro v m ⟨hR, hm⟩; subst hR; subst hm)
 all_goals (refine And.intro ?_ (And.intro ?_ (And.intro ?_ ?_)); iterate 3 (focus (first | rfl | (simp only [go_sem, stB, hashC, H8.ls, F0]; done) | (simp [go_sem, look, stB, hashC, H8.ls, F0]; done))))
 all_goals (try simp only [go_sem, stB, hashC, H8.ls, F0])
 all_goals (try simp only [go_sem, stB, hashC, H8.ls, F0])
 all_goals repeat' (first | apply And.intro | intro _)
 all_goals (refine call_hand true [] (fun k => k) (fun _ _ => rfl) ?_ (by decide) ?_ hA.told ?_; iterate 2 (focus (first | rfl | (simp only [go_sem, stB, hashC, H8.ls, F0] <;> first | done | rfl | simp))))
 all_goals (rintro v m ⟨hR, hm⟩; subst hR; subst hm)
 all_goals (refine And.intro ?_ (And.intro ?_ (And.intro ?_ ?_)); iterate 3 (focus (first | rfl | (simp only [go_sem, stB, hashC, H8.ls, F0]; done) | (simp [go_sem, look, stB, hashC, H8.ls, F0]; done))))
 all_goals (try simp only [go_sem, stB, hashC, H8.ls, F0])
 all_goals (try simp only [go_sem, stB, hashC, H8.ls, F0])
 all_goals repeat' (first | apply And.intro | intro _)
 refine zhK _ ?_
 refine sr_k fun zK zhK => ?_
 simp only [go_sem, stB, hashC, H8.ls, F0]
 repeat' (first | apply And.intro | intro _)
 all_goals (refine call_hand false [] (fun k => k) (fun _ _ => rfl) ?_ (by decide) ?_ hE.told ?_; iterate 2 (focus (first | rfl | (simp only [go_sem, stB, hashC, H8.ls, F0] <;> first | done | rfl | simp))))
 all_goals (rintro v m ⟨hR, hm⟩; subst hR; subst hm)
 all_goals (refine And.intro ?_ (And.intro ?_ (And.intro ?_ ?_)); iterate 3 (focus (first | rfl | (simp only [go_sem, stB, hashC, H8.ls, F0]; done) | (simp [go_sem, look, stB, hashC, H8.ls, F0]; done))))
 all_goals (try simp only [go_sem, stB, hashC, H8.ls, F0])
 all_goals (try simp only [go_sem, stB, hashC, H8.ls, F0])
 all_goals repeat' (first | apply And.intro | intro _)
 refine zhK _ ?_
 refine sr_k fun zK zhK => ?_
 simp only [go_sem, stB, hashC, H8.ls, F0]
 repeat' (first | apply And.intro | intro _)
 refine zhK _ ?_
 refine ret_k ?_
 refine zhZ _ _ ?_
 simp only [go_sem, stB, hashC, H8.ls, F0]
 all_goals (exact told_plain (plain_bytesV _) ⟨rfl, rfl⟩)
end Bk
end Go.Sy
