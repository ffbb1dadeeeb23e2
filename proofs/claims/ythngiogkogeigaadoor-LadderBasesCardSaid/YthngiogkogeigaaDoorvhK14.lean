/- Inverses below the prime: from the top. -/
import Derived.Test.YthngiogkogeigaaDoorvhK11
import Derived.Test.YthngiogkogeigaaDoorvhK6
import Derived.Test.YthngiogkogeigaaDoorvQ8
set_option linter.unusedVariables false
set_option linter.unusedSimpArgs false
namespace Go.Sy
open Go.Proofs
attribute [local irreducible] atCall HT runOps runD onC onE onO onG goV goA goS onSt onGuard
theorem pw_m4 (n e : Nat) : pw n e < 115792089237316195423570985008687907853269984665640564039457584007913129639936 := by
 have := pw_lt n e
 have := p25_is
 omega
theorem wdn2 {k : Nat} (hk : k ≤ 255) : Go.RowKit.wrap64 (((k : Nat) : Int) - 1) = dn k := by
 unfold dn; exact w64 (by omega)
theorem w4C_one : w4C 1 = [.pl (.u64 1), .pl (.u64 0), .pl (.u64 0), .pl (.u64 0)] := by rw [w4C, show w4 1 = [1, 0, 0, 0] from by decide +kernel]; rfl
set_option maxHeartbeats 3200000 in
set_option maxRecDepth 100000 in
theorem inv_ok (a b c d : UInt64) (h1 : vQ a b c d < p25) :
 CtM Tryd.prog 14 [.w (.agg [.pl (.u64 a), .pl (.u64 b), .pl (.u64 c), .pl (.u64 d)])] [(1000001, ⟨false, [.pl (.u64 18446744073709551597), .pl (.u64 18446744073709551615), .pl (.u64 18446744073709551615), .pl (.u64 9223372036854775807)]⟩)] (Told (fun v m => v = .tup [.agg (w4C (pw (vQ a b c d) eP)), .one (.pl (.i 0))] ∧ m = [])) := by
 have hA := below_ a b c d
 rw [decide_eq_true h1] at hA
 obtain ⟨n, hn⟩ : ∃ n, vQ a b c d = n := ⟨_, rfl⟩
 have hnp : n < p25 := by rw [← hn]; exact h1
 rw [hn]
 refine CtM.k Tryd.func14 rfl Tryd.ntmps14 (congrArg Array.toList Tryd.results14) (by simp) fun w0 ro may fx => ?_
 refine sr_k fun K1 hK1 => ?_
 simp only [go_sem]
 repeat' (first | apply And.intro | intro _)
 refine hK1 _ ?_
 refine seq_k fun N2 M2 hN2 hM2 => ?_
 refine sr_k fun K3 hK3 => ?_
 simp only [go_sem]
 repeat' (first | apply And.intro | intro _)
 all_goals (refine call_hand false [] (fun k => k) (fun _ _ => rfl) ?_ (by decide) ?_ hA.told ?_; iterate 2 (focus (first | rfl | (simp only [go_sem] <;> first | done | rfl | simp))))
 all_goals (rintro v m ⟨hR, hm⟩; subst hR; subst hm)
 all_goals (refine And.intro ?_ (And.intro ?_ (And.intro ?_ ?_)); iterate 3 (focus (first | rfl | (simp only [go_sem]; done) | (simp [go_sem, look]; done))))
 all_goals (try simp only [go_sem])
 all_goals (try simp only [go_sem])
 all_goals repeat' (first | apply And.intro | intro _)
 refine hK3 _ ?_
 refine condF_k (by first | rfl | (simp [go_sem]; done)) ?_
 refine skip_k ?_
 refine hN2 _ ?_
 refine sr_k fun K4 hK4 => ?_
 simp only [go_sem]
 repeat' (first | apply And.intro | intro _)
 refine hK4 _ ?_
 refine seq_k fun N5 M5 hN5 hM5 => ?_
 refine sr_k fun K6 hK6 => ?_
 simp only [go_sem]
 repeat' (first | apply And.intro | intro _)
 refine hK6 _ ?_
 refine block_k fun B7 bn7 bx7 br7 bi7 => ?_
 refine ht_dropE [0, 6, 7, 8, 9, 10] ?_
 simp only [dropE_mk, fgt_nil, fgt_cons, List.contains_cons, List.contains_nil, Nat.reduceBEq, beq_self_eq_true, Bool.or_false, Bool.or_true, Bool.true_or, Bool.false_or, Bool.false_eq_true, reduceIte]
 refine loop_k (fun y => [(5, .w (.one (.pl (.i (dn y.1)))))]) (fun y => [(4, ⟨false, w4C (pw n (topE y.1))⟩)]) (fun y => y.1) (⟨255, Nat.le_refl _⟩ : {y : Nat // y ≤ 255}) ?_ ?_ ?_
 · (simp only [go_sem, leX, List.cons_append, List.nil_append]; first | done | rfl | (simp [dn]; done))
 · (simp only [topE_full, pw_zero, w4C_one, go_sem, leX, List.cons_append, List.nil_append]; first | done | rfl | (simp [leX, look]; done))
 intro yy N8 M8 hN8 hM8
 simp only [List.cons_append, List.nil_append]
 obtain ⟨y, hy⟩ := yy
 obtain ⟨q0, q1, q2, q3, hq, hvq⟩ := w4_get (pw n (topE y)) (pw_m4 _ _)
 have huq : u64C [q0, q1, q2, q3] = [.pl (.u64 q0), .pl (.u64 q1), .pl (.u64 q2), .pl (.u64 q3)] := rfl
 simp only [w4C, hq, huq]
 have hd : (y = 0) ∨ (∃ k, y = k + 1 ∧ k = 4) ∨ (∃ k, y = k + 1 ∧ k = 2) ∨ (∃ k, y = k + 1 ∧ ¬ (k = 4 ∨ k = 2)) := by
  cases y with
  | zero => exact .inl rfl
  | succ k =>
   by_cases e1 : k = 4
   · exact .inr (.inl ⟨k, rfl, e1⟩)
   · by_cases e2 : k = 2
     · exact .inr (.inr (.inl ⟨k, rfl, e2⟩))
     · exact .inr (.inr (.inr ⟨k, rfl, by omega⟩))
 rcases hd with rfl | ⟨k, rfl, hb⟩ | ⟨k, rfl, hb⟩ | ⟨k, rfl, hb⟩
 · have hi : dn 0 = -1 := rfl
   have hfin : w4C (pw n eP) = u64C [q0, q1, q2, q3] := by rw [w4C, ← topE_zero, hq]
   refine seq_k fun N9 M9 hN9 hM9 => ?_
   refine sr_k fun K10 hK10 => ?_
   simp only [go_sem, hi]
   repeat' (first | apply And.intro | intro _)
   refine hK10 _ ?_
   refine condF_k (by first | rfl | (simp [go_sem, hi]; done)) ?_
   refine exit_k ?_
   refine hM9 _ _ ?_
   refine hM8 _ _ ?_
   refine bx7 _ ?_
   refine hN5 _ ?_
   refine sr_k fun K11 hK11 => ?_
   simp only [go_sem, hi]
   repeat' (first | apply And.intro | intro _)
   refine hK11 _ ?_
   refine ret_k ?_
   simp only [go_sem, hi]
   all_goals (exact told_plain (by simp [plainV, plainW]) ⟨by rw [hfin]; rfl, rfl⟩)
 · have hk : k < 255 := by omega
   have hi : dn (k + 1) = ((k : Nat) : Int) := by unfold dn; omega
   have g0 : (0 : Int) ≤ ((k : Nat) : Int) := by omega
   have hs1 := wdn2 (k := k) (by omega)
   have hM := mul_ q0 q1 q2 q3 q0 q1 q2 q3
   rw [hvq, pw_sq] at hM
   obtain ⟨r0, r1, r2, r3, hr, hvr⟩ := w4_get (pw n (2 * topE (k + 1))) (pw_m4 _ _)
   have hur : u64C [r0, r1, r2, r3] = [.pl (.u64 r0), .pl (.u64 r1), .pl (.u64 r2), .pl (.u64 r3)] := rfl
   simp only [w4C, hr, hur] at hM
   have hq4 : (((k : Nat) : Int) = 4) = True := eq_true (by omega)
   have hT : topE k = 2 * topE (k + 1) := top_skip hk (.inl hb)
   have F11 := And.intro hi <| And.intro g0 <| And.intro hs1 <| hq4
   refine seq_k fun N12 M12 hN12 hM12 => ?_
   refine sr_k fun K13 hK13 => ?_
   simp only [go_sem, F11]
   repeat' (first | apply And.intro | intro _)
   refine hK13 _ ?_
   refine condT_k (by first | rfl | (simp [go_sem, F11]; done)) ?_
   refine skip_k ?_
   refine hN12 _ ?_
   refine seq_k fun N14 M14 hN14 hM14 => ?_
   refine block_k fun B15 bn15 bx15 br15 bi15 => ?_
   refine sr_k fun K16 hK16 => ?_
   simp only [go_sem, F11]
   repeat' (first | apply And.intro | intro _)
   all_goals (refine call_hand false [] (fun k => k) (fun _ _ => rfl) ?_ (by decide) ?_ hM.told ?_; iterate 2 (focus (first | rfl | (simp only [go_sem, F11] <;> first | done | rfl | simp))))
   all_goals (rintro v m ⟨hR, hm⟩; subst hR; subst hm)
   all_goals (refine And.intro ?_ (And.intro ?_ (And.intro ?_ ?_)); iterate 3 (focus (first | rfl | (simp only [go_sem, F11]; done) | (simp [go_sem, look, F11]; done))))
   all_goals (try simp only [go_sem, F11])
   all_goals (try simp only [go_sem, F11])
   all_goals repeat' (first | apply And.intro | intro _)
   refine hK16 _ ?_
   refine sr_k fun K17 hK17 => ?_
   simp only [go_sem, F11]
   repeat' (first | apply And.intro | intro _)
   refine hK17 _ ?_
   refine condF_k (by first | rfl | (simp [go_sem, F11]; done)) ?_
   refine skip_k ?_
   refine bn15 _ ?_
   refine hN14 _ ?_
   refine region_k fun K18 hK18 => ?_
   simp only [go_sem, F11]
   repeat' (first | apply And.intro | intro _)
   refine hK18 _ ?_
   refine hN8 ⟨k, by omega⟩ _ ?_ ?_ ?_
   · (exact Nat.lt_succ_self k)
   · (simp only [go_sem, leX, List.cons_append, List.nil_append]; try simp)
   · (simp only [w4C, hT, hr, hur, go_sem, leX, List.cons_append, List.nil_append]; first | done | rfl | (simp [leX, look]; done))
 · have hk : k < 255 := by omega
   have hi : dn (k + 1) = ((k : Nat) : Int) := by unfold dn; omega
   have g0 : (0 : Int) ≤ ((k : Nat) : Int) := by omega
   have hs1 := wdn2 (k := k) (by omega)
   have hM := mul_ q0 q1 q2 q3 q0 q1 q2 q3
   rw [hvq, pw_sq] at hM
   obtain ⟨r0, r1, r2, r3, hr, hvr⟩ := w4_get (pw n (2 * topE (k + 1))) (pw_m4 _ _)
   have hur : u64C [r0, r1, r2, r3] = [.pl (.u64 r0), .pl (.u64 r1), .pl (.u64 r2), .pl (.u64 r3)] := rfl
   simp only [w4C, hr, hur] at hM
   have hq4 : (((k : Nat) : Int) = 4) = False := eq_false (by omega)
   have hq2 : (((k : Nat) : Int) = 2) = True := eq_true (by omega)
   have hT : topE k = 2 * topE (k + 1) := top_skip hk (.inr hb)
   have F18 := And.intro hi <| And.intro g0 <| And.intro hs1 <| And.intro hq4 <| hq2
   refine seq_k fun N19 M19 hN19 hM19 => ?_
   refine sr_k fun K20 hK20 => ?_
   simp only [go_sem, F18]
   repeat' (first | apply And.intro | intro _)
   refine hK20 _ ?_
   refine condT_k (by first | rfl | (simp [go_sem, F18]; done)) ?_
   refine skip_k ?_
   refine hN19 _ ?_
   refine seq_k fun N21 M21 hN21 hM21 => ?_
   refine block_k fun B22 bn22 bx22 br22 bi22 => ?_
   refine sr_k fun K23 hK23 => ?_
   simp only [go_sem, F18]
   repeat' (first | apply And.intro | intro _)
   all_goals (refine call_hand false [] (fun k => k) (fun _ _ => rfl) ?_ (by decide) ?_ hM.told ?_; iterate 2 (focus (first | rfl | (simp only [go_sem, F18] <;> first | done | rfl | simp))))
   all_goals (rintro v m ⟨hR, hm⟩; subst hR; subst hm)
   all_goals (refine And.intro ?_ (And.intro ?_ (And.intro ?_ ?_)); iterate 3 (focus (first | rfl | (simp only [go_sem, F18]; done) | (simp [go_sem, look, F18]; done))))
   all_goals (try simp only [go_sem, F18])
   all_goals (try simp only [go_sem, F18])
   all_goals repeat' (first | apply And.intro | intro _)
   refine hK23 _ ?_
   refine sr_k fun K24 hK24 => ?_
   simp only [go_sem, F18]
   repeat' (first | apply And.intro | intro _)
   refine hK24 _ ?_
   refine condF_k (by first | rfl | (simp [go_sem, F18]; done)) ?_
   refine skip_k ?_
   refine bn22 _ ?_
   refine hN21 _ ?_
   refine region_k fun K25 hK25 => ?_
   simp only [go_sem, F18]
   repeat' (first | apply And.intro | intro _)
   refine hK25 _ ?_
   refine hN8 ⟨k, by omega⟩ _ ?_ ?_ ?_
   · (exact Nat.lt_succ_self k)
   · (simp only [go_sem, leX, List.cons_append, List.nil_append]; try simp)
   · (simp only [w4C, hT, hr, hur, go_sem, leX, List.cons_append, List.nil_append]; first | done | rfl | (simp [leX, look]; done))
 · have hk : k < 255 := by omega
   have hi : dn (k + 1) = ((k : Nat) : Int) := by unfold dn; omega
   have g0 : (0 : Int) ≤ ((k : Nat) : Int) := by omega
   have hs1 := wdn2 (k := k) (by omega)
   have hM := mul_ q0 q1 q2 q3 q0 q1 q2 q3
   rw [hvq, pw_sq] at hM
   obtain ⟨r0, r1, r2, r3, hr, hvr⟩ := w4_get (pw n (2 * topE (k + 1))) (pw_m4 _ _)
   have hur : u64C [r0, r1, r2, r3] = [.pl (.u64 r0), .pl (.u64 r1), .pl (.u64 r2), .pl (.u64 r3)] := rfl
   simp only [w4C, hr, hur] at hM
   have hq4 : (((k : Nat) : Int) = 4) = False := eq_false (by omega)
   have hq2 : (((k : Nat) : Int) = 2) = False := eq_false (by omega)
   have hM2 := mul_ r0 r1 r2 r3 a b c d
   rw [hvr, hn, pw_mul_one n _ hnp, ← top_take hk hb] at hM2
   obtain ⟨s0, s1, s2, s3, hs, hvs⟩ := w4_get (pw n (topE k)) (pw_m4 _ _)
   have hus : u64C [s0, s1, s2, s3] = [.pl (.u64 s0), .pl (.u64 s1), .pl (.u64 s2), .pl (.u64 s3)] := rfl
   simp only [w4C, hs, hus] at hM2
   have F25 := And.intro hi <| And.intro g0 <| And.intro hs1 <| And.intro hq4 <| hq2
   refine seq_k fun N26 M26 hN26 hM26 => ?_
   refine sr_k fun K27 hK27 => ?_
   simp only [go_sem, F25]
   repeat' (first | apply And.intro | intro _)
   refine hK27 _ ?_
   refine condT_k (by first | rfl | (simp [go_sem, F25]; done)) ?_
   refine skip_k ?_
   refine hN26 _ ?_
   refine seq_k fun N28 M28 hN28 hM28 => ?_
   refine block_k fun B29 bn29 bx29 br29 bi29 => ?_
   refine sr_k fun K30 hK30 => ?_
   simp only [go_sem, F25]
   repeat' (first | apply And.intro | intro _)
   all_goals (refine call_hand false [] (fun k => k) (fun _ _ => rfl) ?_ (by decide) ?_ hM.told ?_; iterate 2 (focus (first | rfl | (simp only [go_sem, F25] <;> first | done | rfl | simp))))
   all_goals (rintro v m ⟨hR, hm⟩; subst hR; subst hm)
   all_goals (refine And.intro ?_ (And.intro ?_ (And.intro ?_ ?_)); iterate 3 (focus (first | rfl | (simp only [go_sem, F25]; done) | (simp [go_sem, look, F25]; done))))
   all_goals (try simp only [go_sem, F25])
   all_goals (try simp only [go_sem, F25])
   all_goals repeat' (first | apply And.intro | intro _)
   refine hK30 _ ?_
   refine sr_k fun K31 hK31 => ?_
   simp only [go_sem, F25]
   repeat' (first | apply And.intro | intro _)
   refine hK31 _ ?_
   refine condT_k (by first | rfl | (simp [go_sem, F25]; done)) ?_
   refine region_k fun K32 hK32 => ?_
   simp only [go_sem, F25]
   repeat' (first | apply And.intro | intro _)
   all_goals (refine call_hand false [] (fun k => k) (fun _ _ => rfl) ?_ (by decide) ?_ hM2.told ?_; iterate 2 (focus (first | rfl | (simp only [go_sem, F25] <;> first | done | rfl | simp))))
   all_goals (rintro v m ⟨hR, hm⟩; subst hR; subst hm)
   all_goals (refine And.intro ?_ (And.intro ?_ (And.intro ?_ ?_)); iterate 3 (focus (first | rfl | (simp only [go_sem, F25]; done) | (simp [go_sem, look, F25]; done))))
   all_goals (try simp only [go_sem, F25])
   all_goals (try simp only [go_sem, F25])
   all_goals repeat' (first | apply And.intro | intro _)
   refine hK32 _ ?_
   refine bn29 _ ?_
   refine hN28 _ ?_
   refine region_k fun K33 hK33 => ?_
   simp only [go_sem, F25]
   repeat' (first | apply And.intro | intro _)
   refine hK33 _ ?_
   refine hN8 ⟨k, by omega⟩ _ ?_ ?_ ?_
   · (exact Nat.lt_succ_self k)
   · (simp only [go_sem, leX, List.cons_append, List.nil_append]; try simp)
   · (simp only [w4C, hs, hus, go_sem, leX, List.cons_append, List.nil_append]; first | done | rfl | (simp [leX, look]; done))
end Go.Sy

