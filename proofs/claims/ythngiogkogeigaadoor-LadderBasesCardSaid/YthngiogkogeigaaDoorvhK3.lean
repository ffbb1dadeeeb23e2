/- Settled below the prime; a reckoning of two numbers below the prime. -/
import Derived.Test.YthngiogkogeigaaDoorvhK2
set_option linter.unusedVariables false
set_option linter.unusedSimpArgs false
namespace Go.Sy
open Go.Proofs
attribute [local irreducible] atCall HT runOps runD onC onE onO onG goV goA goS onSt onGuard
theorem p25_val : p25 = 57896044618658097711785492504343953926634992332820282019728792003956564819949 := rfl
theorem sub_p {m : Nat} (h : p25 ≤ m) (hm : m < 115792089237316195423570985008687907853269984665640564039457584007913129639936) : (m + 115792089237316195423570985008687907853269984665640564039457584007913129639936 - p25) % 115792089237316195423570985008687907853269984665640564039457584007913129639936 = m - p25 := by
 have := p25_val; omega
set_option maxHeartbeats 1600000 in
theorem settled_ (a b c d : UInt64) :
 CtM Tryd.prog 24 [.w (.agg [.pl (.u64 a), .pl (.u64 b), .pl (.u64 c), .pl (.u64 d)])] [(1000001, ⟨false, [.pl (.u64 18446744073709551597), .pl (.u64 18446744073709551615), .pl (.u64 18446744073709551615), .pl (.u64 9223372036854775807)]⟩)] (Told (fun v m => v = .w (.agg (w4C (vQ a b c d % p25))) ∧ m = [])) := by
 refine CtM.k Tryd.func24 rfl Tryd.ntmps24 (congrArg Array.toList Tryd.results24) (by simp) fun w0 ro may fx => ?_
 refine sr_k fun K1 hK1 => ?_
 simp only [go_sem]
 repeat' (first | apply And.intro | intro _)
 refine hK1 _ ?_
 refine seq_k fun N2 M2 hN2 hM2 => ?_
 refine block_k fun B3 bn3 bx3 br3 bi3 => ?_
 refine ht_dropE [0] ?_
 simp only [dropE_mk, fgt_nil, fgt_cons, List.contains_cons, List.contains_nil, Nat.reduceBEq, beq_self_eq_true, Bool.or_false, Bool.or_true, Bool.true_or, Bool.false_or, Bool.false_eq_true, reduceIte]
 refine loop_k (fun y => []) (fun y => [(1, ⟨false, w4C y.1⟩)]) (fun y => y.1) (⟨vQ a b c d, vQ_lt a b c d, rfl⟩ : {m : Nat // m < 115792089237316195423570985008687907853269984665640564039457584007913129639936 ∧ m % p25 = vQ a b c d % p25}) ?_ ?_ ?_
 · (simp only [go_sem, leX, List.cons_append, List.nil_append]; try simp)
 · (simp only [w4C, ← w4_of, u64C, List.map_cons, List.map_nil, go_sem, leX, List.cons_append, List.nil_append]; try simp [leX, look])
 intro yy N4 M4 hN4 hM4
 simp only [List.cons_append, List.nil_append]
 obtain ⟨m, hm, hmp⟩ := yy
 obtain ⟨q0, q1, q2, q3, hq, hv⟩ := w4_get m hm
 have hB := below_ q0 q1 q2 q3
 rw [hv] at hB
 simp only [w4C, hq, u64C, List.map_cons, List.map_nil]
 rcases Nat.lt_or_ge m p25 with hlt | hge
 · rw [decide_eq_true hlt] at hB
   have hfin : w4C (vQ a b c d % p25) = u64C [q0, q1, q2, q3] := by rw [← hmp, Nat.mod_eq_of_lt hlt, w4C, hq]
   refine seq_k fun N5 M5 hN5 hM5 => ?_
   refine sr_k fun K6 hK6 => ?_
   simp only [go_sem]
   repeat' (first | apply And.intro | intro _)
   all_goals (refine call_hand false [] (fun k => k) (fun _ _ => rfl) ?_ (by decide) ?_ hB.told ?_; iterate 2 (focus (first | rfl | (simp only [go_sem] <;> first | done | rfl | simp))))
   all_goals (rintro v m ⟨hR, hm⟩; subst hR; subst hm)
   all_goals (refine And.intro ?_ (And.intro ?_ (And.intro ?_ ?_)); iterate 3 (focus (first | rfl | (simp only [go_sem]; done) | (simp [go_sem, look]; done))))
   all_goals (try simp only [go_sem])
   all_goals (try simp only [go_sem])
   all_goals repeat' (first | apply And.intro | intro _)
   refine hK6 _ ?_
   refine condF_k (by first | rfl | (simp [go_sem]; done)) ?_
   refine exit_k ?_
   refine hM5 _ _ ?_
   refine hM4 _ _ ?_
   refine bx3 _ ?_
   refine hN2 _ ?_
   refine sr_k fun K7 hK7 => ?_
   simp only [go_sem]
   repeat' (first | apply And.intro | intro _)
   refine hK7 _ ?_
   refine ret_k ?_
   simp only [go_sem]
   all_goals (exact told_plain (by simp [plainV, plainW]) ⟨by rw [hfin]; rfl, rfl⟩)
 · rw [decide_eq_false (by omega)] at hB
   have hL := less_ q0 q1 q2 q3 18446744073709551597 18446744073709551615 18446744073709551615 9223372036854775807
   rw [vQ_prime, hv, sub_p hge hm] at hL
   have hm2 : m - p25 < 115792089237316195423570985008687907853269984665640564039457584007913129639936 := by omega
   obtain ⟨k0, k1, k2, k3, hk, hkv⟩ := w4_get (m - p25) hm2
   rw [w4C, hk] at hL
   have hmp2 : (m - p25) % p25 = vQ a b c d % p25 := by rw [← hmp, Nat.mod_eq_sub_mod hge]
   have hdec : m - p25 < m := Nat.sub_lt (by have := p25_val; omega) (by decide)
   refine seq_k fun N8 M8 hN8 hM8 => ?_
   refine sr_k fun K9 hK9 => ?_
   simp only [go_sem, u64C]
   repeat' (first | apply And.intro | intro _)
   all_goals (refine call_hand false [] (fun k => k) (fun _ _ => rfl) ?_ (by decide) ?_ hB.told ?_; iterate 2 (focus (first | rfl | (simp only [go_sem, u64C] <;> first | done | rfl | simp))))
   all_goals (rintro v m ⟨hR, hm⟩; subst hR; subst hm)
   all_goals (refine And.intro ?_ (And.intro ?_ (And.intro ?_ ?_)); iterate 3 (focus (first | rfl | (simp only [go_sem, u64C]; done) | (simp [go_sem, look, u64C]; done))))
   all_goals (try simp only [go_sem, u64C])
   all_goals (try simp only [go_sem, u64C])
   all_goals repeat' (first | apply And.intro | intro _)
   refine hK9 _ ?_
   refine condT_k (by first | rfl | (simp [go_sem, u64C]; done)) ?_
   refine skip_k ?_
   refine hN8 _ ?_
   refine block_k fun B10 bn10 bx10 br10 bi10 => ?_
   refine region_k fun K11 hK11 => ?_
   simp only [go_sem, u64C]
   repeat' (first | apply And.intro | intro _)
   all_goals refine call_view (fun k => k) (fun _ _ => rfl) (by first | rfl | (simp only [go_sem, u64C] <;> rfl)) ((hL).plain fun _ _ h => h) ?_
   all_goals (rintro v m ⟨hR, hm⟩; subst hR; subst hm)
   all_goals refine And.intro (by first | rfl | simp only [go_sem, u64C]) (And.intro (by first | rfl | simp only [go_sem, u64C]) ?_)
   all_goals simp only [go_sem, u64C]
   all_goals repeat' (first | apply And.intro | intro _)
   refine hK11 _ ?_
   refine bn10 _ ?_
   refine hN4 ⟨m - p25, hm2, hmp2⟩ _ ?_ ?_ ?_
   · (exact hdec)
   · (simp only [go_sem, leX, List.cons_append, List.nil_append]; try simp)
   · (simp only [w4C, hk, u64C, List.map_cons, List.map_nil, go_sem, leX, List.cons_append, List.nil_append]; first | done | rfl | (simp [leX, look]; done))
set_option maxHeartbeats 800000 in
theorem by_add (a b c d e f g h : UInt64) (h1 : vQ a b c d < p25) (h2 : vQ e f g h < p25) (r : Nat) (hr : r < p25) (hop : CtM Tryd.prog 47 [.w (.agg [.pl (.u64 a), .pl (.u64 b), .pl (.u64 c), .pl (.u64 d)]), .w (.agg [.pl (.u64 e), .pl (.u64 f), .pl (.u64 g), .pl (.u64 h)])] [(1000001, ⟨false, [.pl (.u64 18446744073709551597), .pl (.u64 18446744073709551615), .pl (.u64 18446744073709551615), .pl (.u64 9223372036854775807)]⟩)] (Told (fun v m => v = .w (.agg (w4C r)) ∧ m = []))) :
 CtM Tryd.prog 42 [.w (.one (.fn 47 [])), .w (.agg [.pl (.u64 a), .pl (.u64 b), .pl (.u64 c), .pl (.u64 d)]), .w (.agg [.pl (.u64 e), .pl (.u64 f), .pl (.u64 g), .pl (.u64 h)])] [(1000001, ⟨false, [.pl (.u64 18446744073709551597), .pl (.u64 18446744073709551615), .pl (.u64 18446744073709551615), .pl (.u64 9223372036854775807)]⟩)] (Told (fun v m => v = .tup [.agg (w4C r), .one (.pl (.i 0))] ∧ m = [])) := by
 have hA := below_ a b c d
 have hB := below_ e f g h
 rw [decide_eq_true h1] at hA
 rw [decide_eq_true h2] at hB
 obtain ⟨q0, q1, q2, q3, hq, hv⟩ := w4_get r (by have := p25_val; omega)
 simp only [w4C, hq] at hop ⊢
 refine CtM.k Tryd.func42 rfl Tryd.ntmps42 (congrArg Array.toList Tryd.results42) (by simp) fun w0 ro may fx => ?_
 refine sr_k fun K1 hK1 => ?_
 simp only [go_sem, u64C]
 repeat' (first | apply And.intro | intro _)
 refine hK1 _ ?_
 refine seq_k fun N2 M2 hN2 hM2 => ?_
 refine sr_k fun K3 hK3 => ?_
 simp only [go_sem, u64C]
 repeat' (first | apply And.intro | intro _)
 all_goals (refine call_hand false [] (fun k => k) (fun _ _ => rfl) ?_ (by decide) ?_ hA.told ?_; iterate 2 (focus (first | rfl | (simp only [go_sem, u64C] <;> first | done | rfl | simp))))
 all_goals (rintro v m ⟨hR, hm⟩; subst hR; subst hm)
 all_goals (refine And.intro ?_ (And.intro ?_ (And.intro ?_ ?_)); iterate 3 (focus (first | rfl | (simp only [go_sem, u64C]; done) | (simp [go_sem, look, u64C]; done))))
 all_goals (try simp only [go_sem, u64C])
 all_goals (try simp only [go_sem, u64C])
 all_goals repeat' (first | apply And.intro | intro _)
 all_goals (refine call_hand false [] (fun k => k) (fun _ _ => rfl) ?_ (by decide) ?_ hB.told ?_; iterate 2 (focus (first | rfl | (simp only [go_sem, u64C] <;> first | done | rfl | simp))))
 all_goals (rintro v m ⟨hR, hm⟩; subst hR; subst hm)
 all_goals (refine And.intro ?_ (And.intro ?_ (And.intro ?_ ?_)); iterate 3 (focus (first | rfl | (simp only [go_sem, u64C]; done) | (simp [go_sem, look, u64C]; done))))
 all_goals (try simp only [go_sem, u64C])
 all_goals (try simp only [go_sem, u64C])
 all_goals repeat' (first | apply And.intro | intro _)
 refine hK3 _ ?_
 refine condF_k (by first | rfl | (simp [go_sem, u64C]; done)) ?_
 refine skip_k ?_
 refine hN2 _ ?_
 refine sr_k fun K4 hK4 => ?_
 simp only [go_sem, u64C]
 repeat' (first | apply And.intro | intro _)
 all_goals (refine call_fn (caps := []) false [] (fun k => k) ?_ ?_ (fun _ _ => rfl) ?_ (by decide) ?_ (show CtM Tryd.prog 47 ([.w (.agg [.pl (.u64 a), .pl (.u64 b), .pl (.u64 c), .pl (.u64 d)]), .w (.agg [.pl (.u64 e), .pl (.u64 f), .pl (.u64 g), .pl (.u64 h)])] ++ ([] : List Nat).map fun k => V.w (.one (.p k []))) _ _ from hop.told) ?_; iterate 4 (focus (first | rfl | (simp only [go_sem, u64C] <;> first | done | rfl | simp))))
 all_goals (rintro v m ⟨hR, hm⟩; subst hR; subst hm)
 all_goals (refine And.intro ?_ (And.intro ?_ (And.intro ?_ ?_)); iterate 3 (focus (first | rfl | (simp only [go_sem, u64C]; done) | (simp [go_sem, look, u64C]; done))))
 all_goals (try simp only [go_sem, u64C])
 all_goals (try simp only [go_sem, u64C])
 all_goals repeat' (first | apply And.intro | intro _)
 refine hK4 _ ?_
 refine ret_k ?_
 simp only [go_sem, u64C]
 all_goals (exact told_plain (by simp [plainV, plainW]) ⟨rfl, rfl⟩)
set_option maxHeartbeats 800000 in
theorem by_sub (a b c d e f g h : UInt64) (h1 : vQ a b c d < p25) (h2 : vQ e f g h < p25) (r : Nat) (hr : r < p25) (hop : CtM Tryd.prog 48 [.w (.agg [.pl (.u64 a), .pl (.u64 b), .pl (.u64 c), .pl (.u64 d)]), .w (.agg [.pl (.u64 e), .pl (.u64 f), .pl (.u64 g), .pl (.u64 h)])] [(1000001, ⟨false, [.pl (.u64 18446744073709551597), .pl (.u64 18446744073709551615), .pl (.u64 18446744073709551615), .pl (.u64 9223372036854775807)]⟩)] (Told (fun v m => v = .w (.agg (w4C r)) ∧ m = []))) :
 CtM Tryd.prog 42 [.w (.one (.fn 48 [])), .w (.agg [.pl (.u64 a), .pl (.u64 b), .pl (.u64 c), .pl (.u64 d)]), .w (.agg [.pl (.u64 e), .pl (.u64 f), .pl (.u64 g), .pl (.u64 h)])] [(1000001, ⟨false, [.pl (.u64 18446744073709551597), .pl (.u64 18446744073709551615), .pl (.u64 18446744073709551615), .pl (.u64 9223372036854775807)]⟩)] (Told (fun v m => v = .tup [.agg (w4C r), .one (.pl (.i 0))] ∧ m = [])) := by
 have hA := below_ a b c d
 have hB := below_ e f g h
 rw [decide_eq_true h1] at hA
 rw [decide_eq_true h2] at hB
 obtain ⟨q0, q1, q2, q3, hq, hv⟩ := w4_get r (by have := p25_val; omega)
 simp only [w4C, hq] at hop ⊢
 refine CtM.k Tryd.func42 rfl Tryd.ntmps42 (congrArg Array.toList Tryd.results42) (by simp) fun w0 ro may fx => ?_
 refine sr_k fun K1 hK1 => ?_
 simp only [go_sem, u64C]
 repeat' (first | apply And.intro | intro _)
 refine hK1 _ ?_
 refine seq_k fun N2 M2 hN2 hM2 => ?_
 refine sr_k fun K3 hK3 => ?_
 simp only [go_sem, u64C]
 repeat' (first | apply And.intro | intro _)
 all_goals (refine call_hand false [] (fun k => k) (fun _ _ => rfl) ?_ (by decide) ?_ hA.told ?_; iterate 2 (focus (first | rfl | (simp only [go_sem, u64C] <;> first | done | rfl | simp))))
 all_goals (rintro v m ⟨hR, hm⟩; subst hR; subst hm)
 all_goals (refine And.intro ?_ (And.intro ?_ (And.intro ?_ ?_)); iterate 3 (focus (first | rfl | (simp only [go_sem, u64C]; done) | (simp [go_sem, look, u64C]; done))))
 all_goals (try simp only [go_sem, u64C])
 all_goals (try simp only [go_sem, u64C])
 all_goals repeat' (first | apply And.intro | intro _)
 all_goals (refine call_hand false [] (fun k => k) (fun _ _ => rfl) ?_ (by decide) ?_ hB.told ?_; iterate 2 (focus (first | rfl | (simp only [go_sem, u64C] <;> first | done | rfl | simp))))
 all_goals (rintro v m ⟨hR, hm⟩; subst hR; subst hm)
 all_goals (refine And.intro ?_ (And.intro ?_ (And.intro ?_ ?_)); iterate 3 (focus (first | rfl | (simp only [go_sem, u64C]; done) | (simp [go_sem, look, u64C]; done))))
 all_goals (try simp only [go_sem, u64C])
 all_goals (try simp only [go_sem, u64C])
 all_goals repeat' (first | apply And.intro | intro _)
 refine hK3 _ ?_
 refine condF_k (by first | rfl | (simp [go_sem, u64C]; done)) ?_
 refine skip_k ?_
 refine hN2 _ ?_
 refine sr_k fun K4 hK4 => ?_
 simp only [go_sem, u64C]
 repeat' (first | apply And.intro | intro _)
 all_goals (refine call_fn (caps := []) false [] (fun k => k) ?_ ?_ (fun _ _ => rfl) ?_ (by decide) ?_ (show CtM Tryd.prog 48 ([.w (.agg [.pl (.u64 a), .pl (.u64 b), .pl (.u64 c), .pl (.u64 d)]), .w (.agg [.pl (.u64 e), .pl (.u64 f), .pl (.u64 g), .pl (.u64 h)])] ++ ([] : List Nat).map fun k => V.w (.one (.p k []))) _ _ from hop.told) ?_; iterate 4 (focus (first | rfl | (simp only [go_sem, u64C] <;> first | done | rfl | simp))))
 all_goals (rintro v m ⟨hR, hm⟩; subst hR; subst hm)
 all_goals (refine And.intro ?_ (And.intro ?_ (And.intro ?_ ?_)); iterate 3 (focus (first | rfl | (simp only [go_sem, u64C]; done) | (simp [go_sem, look, u64C]; done))))
 all_goals (try simp only [go_sem, u64C])
 all_goals (try simp only [go_sem, u64C])
 all_goals repeat' (first | apply And.intro | intro _)
 refine hK4 _ ?_
 refine ret_k ?_
 simp only [go_sem, u64C]
 all_goals (exact told_plain (by simp [plainV, plainW]) ⟨rfl, rfl⟩)
set_option maxHeartbeats 800000 in
theorem by_mul (a b c d e f g h : UInt64) (h1 : vQ a b c d < p25) (h2 : vQ e f g h < p25) (r : Nat) (hr : r < p25) (hop : CtM Tryd.prog 29 [.w (.agg [.pl (.u64 a), .pl (.u64 b), .pl (.u64 c), .pl (.u64 d)]), .w (.agg [.pl (.u64 e), .pl (.u64 f), .pl (.u64 g), .pl (.u64 h)])] [(1000001, ⟨false, [.pl (.u64 18446744073709551597), .pl (.u64 18446744073709551615), .pl (.u64 18446744073709551615), .pl (.u64 9223372036854775807)]⟩)] (Told (fun v m => v = .w (.agg (w4C r)) ∧ m = []))) :
 CtM Tryd.prog 42 [.w (.one (.fn 29 [])), .w (.agg [.pl (.u64 a), .pl (.u64 b), .pl (.u64 c), .pl (.u64 d)]), .w (.agg [.pl (.u64 e), .pl (.u64 f), .pl (.u64 g), .pl (.u64 h)])] [(1000001, ⟨false, [.pl (.u64 18446744073709551597), .pl (.u64 18446744073709551615), .pl (.u64 18446744073709551615), .pl (.u64 9223372036854775807)]⟩)] (Told (fun v m => v = .tup [.agg (w4C r), .one (.pl (.i 0))] ∧ m = [])) := by
 have hA := below_ a b c d
 have hB := below_ e f g h
 rw [decide_eq_true h1] at hA
 rw [decide_eq_true h2] at hB
 obtain ⟨q0, q1, q2, q3, hq, hv⟩ := w4_get r (by have := p25_val; omega)
 simp only [w4C, hq] at hop ⊢
 refine CtM.k Tryd.func42 rfl Tryd.ntmps42 (congrArg Array.toList Tryd.results42) (by simp) fun w0 ro may fx => ?_
 refine sr_k fun K1 hK1 => ?_
 simp only [go_sem, u64C]
 repeat' (first | apply And.intro | intro _)
 refine hK1 _ ?_
 refine seq_k fun N2 M2 hN2 hM2 => ?_
 refine sr_k fun K3 hK3 => ?_
 simp only [go_sem, u64C]
 repeat' (first | apply And.intro | intro _)
 all_goals (refine call_hand false [] (fun k => k) (fun _ _ => rfl) ?_ (by decide) ?_ hA.told ?_; iterate 2 (focus (first | rfl | (simp only [go_sem, u64C] <;> first | done | rfl | simp))))
 all_goals (rintro v m ⟨hR, hm⟩; subst hR; subst hm)
 all_goals (refine And.intro ?_ (And.intro ?_ (And.intro ?_ ?_)); iterate 3 (focus (first | rfl | (simp only [go_sem, u64C]; done) | (simp [go_sem, look, u64C]; done))))
 all_goals (try simp only [go_sem, u64C])
 all_goals (try simp only [go_sem, u64C])
 all_goals repeat' (first | apply And.intro | intro _)
 all_goals (refine call_hand false [] (fun k => k) (fun _ _ => rfl) ?_ (by decide) ?_ hB.told ?_; iterate 2 (focus (first | rfl | (simp only [go_sem, u64C] <;> first | done | rfl | simp))))
 all_goals (rintro v m ⟨hR, hm⟩; subst hR; subst hm)
 all_goals (refine And.intro ?_ (And.intro ?_ (And.intro ?_ ?_)); iterate 3 (focus (first | rfl | (simp only [go_sem, u64C]; done) | (simp [go_sem, look, u64C]; done))))
 all_goals (try simp only [go_sem, u64C])
 all_goals (try simp only [go_sem, u64C])
 all_goals repeat' (first | apply And.intro | intro _)
 refine hK3 _ ?_
 refine condF_k (by first | rfl | (simp [go_sem, u64C]; done)) ?_
 refine skip_k ?_
 refine hN2 _ ?_
 refine sr_k fun K4 hK4 => ?_
 simp only [go_sem, u64C]
 repeat' (first | apply And.intro | intro _)
 all_goals (refine call_fn (caps := []) false [] (fun k => k) ?_ ?_ (fun _ _ => rfl) ?_ (by decide) ?_ (show CtM Tryd.prog 29 ([.w (.agg [.pl (.u64 a), .pl (.u64 b), .pl (.u64 c), .pl (.u64 d)]), .w (.agg [.pl (.u64 e), .pl (.u64 f), .pl (.u64 g), .pl (.u64 h)])] ++ ([] : List Nat).map fun k => V.w (.one (.p k []))) _ _ from hop.told) ?_; iterate 4 (focus (first | rfl | (simp only [go_sem, u64C] <;> first | done | rfl | simp))))
 all_goals (rintro v m ⟨hR, hm⟩; subst hR; subst hm)
 all_goals (refine And.intro ?_ (And.intro ?_ (And.intro ?_ ?_)); iterate 3 (focus (first | rfl | (simp only [go_sem, u64C]; done) | (simp [go_sem, look, u64C]; done))))
 all_goals (try simp only [go_sem, u64C])
 all_goals (try simp only [go_sem, u64C])
 all_goals repeat' (first | apply And.intro | intro _)
 refine hK4 _ ?_
 refine ret_k ?_
 simp only [go_sem, u64C]
 all_goals (exact told_plain (by simp [plainV, plainW]) ⟨rfl, rfl⟩)
end Go.Sy

