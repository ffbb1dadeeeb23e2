/- Sums and opposites in sixteen digits; who is below the prime. -/
import Derived.Test.YthngiogkogeigaaDoorvhK7
import Derived.Test.YthngiogkogeigaaDoorvhK6b
import Derived.Test.YthngiogkogeigaaDoorvQ5
set_option linter.unusedVariables false
set_option linter.unusedSimpArgs false
namespace Go.Sy
open Go.Proofs
attribute [local irreducible] atCall HT runOps runD onC onE onO onG goV goA goS onSt onGuard
set_option maxHeartbeats 800000 in
theorem in_ (a b c d : UInt64) :
 CtM Tryd.prog 34 [.w (.agg [.pl (.u64 a), .pl (.u64 b), .pl (.u64 c), .pl (.u64 d)])] [(1000000, ⟨false, u64C prdL⟩)] (Told (fun v m => v = .w (.one (.pl (.b (decide (vQ a b c d < p25))))) ∧ m = [])) := by
 have hO := of_ a b c d
 obtain ⟨q, hq⟩ : ∃ q, D16 (vQ a b c d) = q := ⟨_, rfl⟩
 have hql : q.length = 16 := by rw [← hq]; rfl
 have hqd : ∀ i, i < 16 → (fL q i).toNat < 65536 := by rw [← hq]; exact D16_lt _
 have hqv : valB 65536 q = vQ a b c d := by rw [← hq]; exact D16_val (vQ_lt a b c d)
 have hN := nb_ q hql hqd
 rw [hqv] at hN
 rw [hq] at hO
 rw [← not_ge]
 refine CtM.k Tryd.func34 rfl Tryd.ntmps34 (congrArg Array.toList Tryd.results34) (by simp) fun w0 ro may fx => ?_
 refine sr_k fun K1 hK1 => ?_
 simp only [go_sem, hql]
 repeat' (first | apply And.intro | intro _)
 refine hK1 _ ?_
 refine sr_k fun K2 hK2 => ?_
 simp only [go_sem, hql]
 repeat' (first | apply And.intro | intro _)
 all_goals refine call_view (fun k => k) (fun _ _ => rfl) (by first | rfl | (simp only [go_sem, hql] <;> rfl)) ((hO).plain fun _ _ h => h) ?_
 all_goals (rintro v m ⟨hR, hm⟩; subst hR; subst hm)
 all_goals refine And.intro (by first | rfl | simp only [go_sem, hql]) (And.intro (by first | rfl | simp only [go_sem, hql]) ?_)
 all_goals simp only [go_sem, hql]
 all_goals repeat' (first | apply And.intro | intro _)
 all_goals (refine call_hand false [] (fun k => k) (fun _ _ => rfl) ?_ (by decide) ?_ hN.told ?_; iterate 2 (focus (first | rfl | (simp only [go_sem, hql] <;> first | done | rfl | simp))))
 all_goals (rintro v m ⟨hR, hm⟩; subst hR; subst hm)
 all_goals (refine And.intro ?_ (And.intro ?_ (And.intro ?_ ?_)); iterate 3 (focus (first | rfl | (simp only [go_sem, hql]; done) | (simp [go_sem, look, hql]; done))))
 all_goals (try simp only [go_sem, hql])
 all_goals (try simp only [go_sem, hql])
 all_goals repeat' (first | apply And.intro | intro _)
 refine hK2 _ ?_
 refine ret_k ?_
 simp only [go_sem, hql]
 all_goals (exact told_plain rfl ⟨rfl, rfl⟩)
set_option maxHeartbeats 800000 in
theorem reduced_ (a b c d : UInt64) :
 CtM Tryd.prog 33 [.w (.agg [.pl (.u64 a), .pl (.u64 b), .pl (.u64 c), .pl (.u64 d)])] [(1000000, ⟨false, u64C prdL⟩)] (Told (fun v m => v = .w (.agg (w4C (vQ a b c d % p25))) ∧ m = [])) := by
 have hO := of_ a b c d
 obtain ⟨q, hq⟩ : ∃ q, D16 (vQ a b c d) = q := ⟨_, rfl⟩
 have hql : q.length = 16 := by rw [← hq]; rfl
 have hqd : ∀ i, i < 16 → (fL q i).toNat < 65536 := by rw [← hq]; exact D16_lt _
 have hqv : valB 65536 q = vQ a b c d := by rw [← hq]; exact D16_val (vQ_lt a b c d)
 have hC := carried_ q hql (fun i hi => Nat.le_trans (Nat.le_of_lt (hqd i hi)) (by decide))
 rw [hqv] at hC
 rw [hq] at hO
 have hB := back_ (vQ a b c d % p25) (mod_lt4 _)
 obtain ⟨r, hr⟩ : ∃ q, D16 (vQ a b c d % p25) = q := ⟨_, rfl⟩
 have hrl : r.length = 16 := by rw [← hr]; rfl
 have hrd : ∀ i, i < 16 → (fL r i).toNat < 65536 := by rw [← hr]; exact D16_lt _
 rw [hr] at hC hB
 obtain ⟨s0, s1, s2, s3, hs, hvs⟩ := w4_get (vQ a b c d % p25) (mod_m4 _)
 have hus : u64C [s0, s1, s2, s3] = [.pl (.u64 s0), .pl (.u64 s1), .pl (.u64 s2), .pl (.u64 s3)] := rfl
 simp only [w4C, hs, hus] at hB ⊢
 refine CtM.k Tryd.func33 rfl Tryd.ntmps33 (congrArg Array.toList Tryd.results33) (by simp) fun w0 ro may fx => ?_
 refine sr_k fun K1 hK1 => ?_
 simp only [go_sem, hql, hrl]
 repeat' (first | apply And.intro | intro _)
 refine hK1 _ ?_
 refine sr_k fun K2 hK2 => ?_
 simp only [go_sem, hql, hrl]
 repeat' (first | apply And.intro | intro _)
 all_goals refine call_view (fun k => k) (fun _ _ => rfl) (by first | rfl | (simp only [go_sem, hql, hrl] <;> rfl)) ((hO).plain fun _ _ h => h) ?_
 all_goals (rintro v m ⟨hR, hm⟩; subst hR; subst hm)
 all_goals refine And.intro (by first | rfl | simp only [go_sem, hql, hrl]) (And.intro (by first | rfl | simp only [go_sem, hql, hrl]) ?_)
 all_goals simp only [go_sem, hql, hrl]
 all_goals repeat' (first | apply And.intro | intro _)
 all_goals (refine call_hand false [] (fun k => k) (fun _ _ => rfl) ?_ (by decide) ?_ hC.told ?_; iterate 2 (focus (first | rfl | (simp only [go_sem, hql, hrl] <;> first | done | rfl | simp))))
 all_goals (rintro v m ⟨hR, hm⟩; subst hR; subst hm)
 all_goals (refine And.intro ?_ (And.intro ?_ (And.intro ?_ ?_)); iterate 3 (focus (first | rfl | (simp only [go_sem, hql, hrl]; done) | (simp [go_sem, look, hql, hrl]; done))))
 all_goals (try simp only [go_sem, hql, hrl])
 all_goals (try simp only [go_sem, hql, hrl])
 all_goals repeat' (first | apply And.intro | intro _)
 all_goals refine call_view (fun k => k) (fun _ _ => rfl) (by first | rfl | (simp only [go_sem, hql, hrl] <;> rfl)) ((hB).plain fun _ _ h => h) ?_
 all_goals (rintro v m ⟨hR, hm⟩; subst hR; subst hm)
 all_goals refine And.intro (by first | rfl | simp only [go_sem, hql, hrl]) (And.intro (by first | rfl | simp only [go_sem, hql, hrl]) ?_)
 all_goals simp only [go_sem, hql, hrl]
 all_goals repeat' (first | apply And.intro | intro _)
 refine hK2 _ ?_
 refine ret_k ?_
 simp only [go_sem, hql, hrl]
 all_goals (exact told_plain (by simp [plainV, plainW]) ⟨rfl, rfl⟩)
set_option maxHeartbeats 1600000 in
set_option maxRecDepth 100000 in
theorem sum_ (x y : List UInt64) (hx : x.length = 16) (hy : y.length = 16) (h1 : ∀ i, i < 16 → (fL x i).toNat < 65536) (h2 : ∀ i, i < 16 → (fL y i).toNat < 65536) :
 CtM Tryd.prog 43 [.w (.agg (u64C x)), .w (.agg (u64C y))] [(1000000, ⟨false, u64C prdL⟩)] (Told (fun v m => v = .w (.agg (u64C (D16 ((valB 65536 x + valB 65536 y) % p25)))) ∧ m = [])) := by
 refine CtM.k Tryd.func43 rfl Tryd.ntmps43 (congrArg Array.toList Tryd.results43) (by simp) fun w0 ro may fx => ?_
 refine sr_k fun K1 hK1 => ?_
 simp only [go_sem, hx, hy]
 repeat' (first | apply And.intro | intro _)
 refine hK1 _ ?_
 refine seq_k fun N2 M2 hN2 hM2 => ?_
 refine sr_k fun K3 hK3 => ?_
 simp only [go_sem, hx, hy]
 repeat' (first | apply And.intro | intro _)
 refine hK3 _ ?_
 refine block_k fun B4 bn4 bx4 br4 bi4 => ?_
 refine ht_dropE [0, 1] ?_
 simp only [dropE_mk, fgt_nil, fgt_cons, List.contains_cons, List.contains_nil, Nat.reduceBEq, beq_self_eq_true, Bool.or_false, Bool.or_true, Bool.true_or, Bool.false_or, Bool.false_eq_true, reduceIte]
 refine loop_k (fun y => [(6, .w (.one (.pl (.i ((y.1 : Nat) : Int)))))]) (fun k => [(2, ⟨false, u64C (preL (fun i => fL x i + fL y i) k.1 x)⟩)]) (fun y => 16 - y.1) (⟨0, Nat.zero_le _⟩ : {y : Nat // y ≤ 16}) ?_ ?_ ?_
 · (simp only [go_sem, leX, List.cons_append, List.nil_append]; first | done | rfl | (simp; done))
 · (simp only [preL_zero, go_sem, leX, List.cons_append, List.nil_append]; first | done | rfl | (simp [leX, look]; done))
 intro yy N5 M5 hN5 hM5
 simp only [List.cons_append, List.nil_append]
 obtain ⟨k, hk9⟩ := yy
 rcases Nat.lt_or_ge k 16 with hlt | hge
 · have hcq : ((k : Nat) : Int) < 16 := by omega
   have hc0 : (0 : Int) ≤ ((k : Nat) : Int) := by omega
   have hk1 : k + 1 ≤ 16 := by omega
   obtain ⟨z, hz⟩ : ∃ z, preL (fun i => fL x i + fL y i) k x = z := ⟨_, rfl⟩
   have hzl : z.length = 16 := by rw [← hz, preL_length (by omega), hx]
   have hzk : z.getD k 0 = fL x k := by rw [← hz, preL_get (Nat.le_refl _)]; rfl
   have hset : z.set k (fL x k + fL y k) = preL (fun i => fL x i + fL y i) (k + 1) x := by rw [← hz]; exact preL_set (by omega)
   have o1 := u64_one (l := z) (i := k) (by omega)
   have o2 := u64_one (l := y) (i := k) (by omega)
   rw [hzk] at o1
   change _ = [L.pl (PL.u64 (fL y k))] at o2
   have p0 := put_set64 (q := z) (j := k) (fL x k + fL y k) (by omega)
   rw [hset] at p0
   simp only [hz]
   have hs1 : Go.RowKit.wrap64 (((k : Nat) : Int) + 1) = ((k + 1 : Nat) : Int) := wnat (by omega) (by omega)
   have F5 := And.intro hcq <| And.intro hc0 <| And.intro hk1 <| And.intro hzl <| And.intro o1 <| And.intro o2 <| And.intro p0 <| hs1
   refine sr_k fun K6 hK6 => ?_
   simp only [go_sem, hx, hy, F5]
   repeat' (first | apply And.intro | intro _)
   refine hK6 _ ?_
   refine seq_k fun N7 M7 hN7 hM7 => ?_
   refine condT_k (by first | rfl | (simp [go_sem, hx, hy, F5]; done)) ?_
   refine skip_k ?_
   refine hN7 _ ?_
   refine seq_k fun N8 M8 hN8 hM8 => ?_
   refine block_k fun B9 bn9 bx9 br9 bi9 => ?_
   refine sr_k fun K10 hK10 => ?_
   simp only [go_sem, hx, hy, F5]
   repeat' (first | apply And.intro | intro _)
   refine hK10 _ ?_
   refine draw_k [9, 10, 11, 12, 13, 14, 15, 16] [0, 1, 3, 0, 8, 24, 63, 127, 255] [] mixed (by kernel_rfl) (by simp only [go_sem]) fun K11 hK11 => ?_
   simp only [go_sem, hx, hy, F5]
   repeat' (first | apply And.intro | intro _)
   refine hK11 _ _ trivial ?_
   refine bn9 _ ?_
   refine hN8 _ ?_
   refine region_k fun K12 hK12 => ?_
   simp only [go_sem, hx, hy, F5]
   repeat' (first | apply And.intro | intro _)
   refine hK12 _ ?_
   refine hN5 ⟨k + 1, hlt⟩ _ ?_ ?_ ?_
   · (exact Nat.sub_lt_sub_left hlt (Nat.lt_succ_self k))
   · (simp only [go_sem, leX, List.cons_append, List.nil_append]; try simp)
   · (simp only [go_sem, leX, List.cons_append, List.nil_append]; try simp)
 · obtain rfl : k = 16 := by omega
   have hcq : ¬ ((16 : Nat) : Int) < 16 := by omega
   obtain ⟨z, hz⟩ : ∃ z, addD x y = z := ⟨_, rfl⟩
   have hzl : z.length = 16 := by rw [← hz]; exact addD_length x y
   obtain ⟨hzv, hzd⟩ := addD_val hx hy h1 h2
   rw [hz] at hzv hzd
   have hpz : preL (fun i => fL x i + fL y i) 16 x = z := by rw [← hz]; exact preL_full hx
   simp only [hpz]
   have hC := carried_ z hzl hzd
   rw [hzv] at hC
   obtain ⟨r, hr⟩ : ∃ q9, D16 ((valB 65536 x + valB 65536 y) % p25) = q9 := ⟨_, rfl⟩
   have hrl : r.length = 16 := by rw [← hr]; rfl
   rw [hr] at hC
   have hfin : u64C (D16 ((valB 65536 x + valB 65536 y) % p25)) = u64C r := by rw [hr]
   have F12 := And.intro hcq <| And.intro hzl <| hrl
   refine sr_k fun K13 hK13 => ?_
   simp only [go_sem, hx, hy, F12]
   repeat' (first | apply And.intro | intro _)
   refine hK13 _ ?_
   refine seq_k fun N14 M14 hN14 hM14 => ?_
   refine condF_k (by first | rfl | (simp [go_sem, hx, hy, F12]; done)) ?_
   refine exit_k ?_
   refine hM14 _ _ ?_
   refine hM5 _ _ ?_
   refine bx4 _ ?_
   refine hN2 _ ?_
   refine sr_k fun K15 hK15 => ?_
   simp only [go_sem, hx, hy, F12]
   repeat' (first | apply And.intro | intro _)
   all_goals (refine call_hand false [] (fun k => k) (fun _ _ => rfl) ?_ (by decide) ?_ hC.told ?_; iterate 2 (focus (first | rfl | (simp only [go_sem, hx, hy, F12] <;> first | done | rfl | simp))))
   all_goals (rintro v m ⟨hR, hm⟩; subst hR; subst hm)
   all_goals (refine And.intro ?_ (And.intro ?_ (And.intro ?_ ?_)); iterate 3 (focus (first | rfl | (simp only [go_sem, hx, hy, F12]; done) | (simp [go_sem, look, hx, hy, F12]; done))))
   all_goals (try simp only [go_sem, hx, hy, F12])
   all_goals (try simp only [go_sem, hx, hy, F12])
   all_goals repeat' (first | apply And.intro | intro _)
   refine hK15 _ ?_
   refine ret_k ?_
   simp only [go_sem, hx, hy, F12]
   all_goals (exact told_plain (plain_u64 _) ⟨by rw [hfin], rfl⟩)
set_option maxHeartbeats 1600000 in
set_option maxRecDepth 100000 in
theorem opposite_ (q : List UInt64) (hql : q.length = 16) (hqd : ∀ i, i < 16 → (fL q i).toNat < 65536) (hqp : valB 65536 q ≤ p25) :
 CtM Tryd.prog 44 [.w (.agg (u64C q))] [(1000000, ⟨false, u64C prdL⟩)] (Told (fun v m => v = .w (.agg (u64C (D16 ((p25 - valB 65536 q) % p25)))) ∧ m = [])) := by
 refine CtM.k Tryd.func44 rfl Tryd.ntmps44 (congrArg Array.toList Tryd.results44) (by simp) fun w0 ro may fx => ?_
 refine sr_k fun K1 hK1 => ?_
 simp only [go_sem, hql]
 repeat' (first | apply And.intro | intro _)
 refine hK1 _ ?_
 refine sr_k fun K2 hK2 => ?_
 simp only [go_sem, hql]
 repeat' (first | apply And.intro | intro _)
 refine hK2 _ ?_
 refine seq_k fun N3 M3 hN3 hM3 => ?_
 refine sr_k fun K4 hK4 => ?_
 simp only [go_sem, hql]
 repeat' (first | apply And.intro | intro _)
 refine hK4 _ ?_
 refine block_k fun B5 bn5 bx5 br5 bi5 => ?_
 refine ht_dropE [0] ?_
 simp only [dropE_mk, fgt_nil, fgt_cons, List.contains_cons, List.contains_nil, Nat.reduceBEq, beq_self_eq_true, Bool.or_false, Bool.or_true, Bool.true_or, Bool.false_or, Bool.false_eq_true, reduceIte]
 refine loop_k (fun y => [(6, .w (.one (.pl (.i ((y.1 : Nat) : Int))))), (3, .w (.one (.pl (.u64 (bwN (fL prdL) (fL q) y.1)))))]) (fun y => [(1, ⟨false, u64C (preL (bwV (fL prdL) (fL q)) y.1 q)⟩)]) (fun y => 16 - y.1) (⟨0, Nat.zero_le _⟩ : {y : Nat // y ≤ 16}) ?_ ?_ ?_
 · (simp only [go_sem, leX, List.cons_append, List.nil_append]; first | done | rfl | (simp; done))
 · (simp only [preL_zero, go_sem, leX, List.cons_append, List.nil_append]; first | done | rfl | (simp [leX, look]; done))
 intro yy N6 M6 hN6 hM6
 simp only [List.cons_append, List.nil_append]
 obtain ⟨k, hk9⟩ := yy
 rcases Nat.lt_or_ge k 16 with hlt | hge
 · have hcq : ((k : Nat) : Int) < 16 := by omega
   have hc0 : (0 : Int) ≤ ((k : Nat) : Int) := by omega
   have hk1 : k + 1 ≤ 16 := by omega
   obtain ⟨z, hz⟩ : ∃ z, preL (bwV (fL prdL) (fL q)) k q = z := ⟨_, rfl⟩
   have hzl : z.length = 16 := by rw [← hz, preL_length (by omega), hql]
   have hzk : z.getD k 0 = q.getD k 0 := by rw [← hz, preL_get (Nat.le_refl _)]
   have hset : z.set k (bwV (fL prdL) (fL q) k) = preL (bwV (fL prdL) (fL q)) (k + 1) q := by rw [← hz]; exact preL_set (by omega)
   obtain ⟨v, hv⟩ : ∃ v, q.getD k 0 = v := ⟨_, rfl⟩
   obtain ⟨c, hc⟩ : ∃ c, bwN (fL prdL) (fL q) k = c := ⟨_, rfl⟩
   have o1 := u64_one (l := z) (i := k) (by omega)
   rw [hzk, hv] at o1
   obtain ⟨w, hw⟩ : ∃ w, prdL.getD k 0 = w := ⟨_, rfl⟩
   have o2 := u64_one (l := prdL) (i := k) (by rw [prd_length]; omega)
   rw [hw] at o2
   have hfv : bwV (fL prdL) (fL q) k = (w + 65536 - v - c) % 65536 := by simp only [bwV, hc, fL, hv, hw]
   have hfn : bwN (fL prdL) (fL q) (k + 1) = 1 - (w + 65536 - v - c) / 65536 := by simp only [bwN, hc, fL, hv, hw]
   have p0 := put_set64 (q := z) (j := k) ((w + 65536 - v - c) % 65536) (by omega)
   rw [hfv] at hset
   rw [hset] at p0
   have hcn : 1 - (w + 65536 - v - c) / 65536 = bwN (fL prdL) (fL q) (k + 1) := hfn.symm
   simp only [hc, hz]
   have hs1 : Go.RowKit.wrap64 (((k : Nat) : Int) + 1) = ((k + 1 : Nat) : Int) := wnat (by omega) (by omega)
   have F6 := And.intro hcq <| And.intro hc0 <| And.intro hk1 <| And.intro hzl <| And.intro o1 <| And.intro p0 <| And.intro hs1 <| o2
   refine sr_k fun K7 hK7 => ?_
   simp only [go_sem, hql, prd_length, F6]
   repeat' (first | apply And.intro | intro _)
   refine hK7 _ ?_
   refine seq_k fun N8 M8 hN8 hM8 => ?_
   refine condT_k (by first | rfl | (simp [go_sem, hql, prd_length, F6]; done)) ?_
   refine skip_k ?_
   refine hN8 _ ?_
   refine seq_k fun N9 M9 hN9 hM9 => ?_
   refine block_k fun B10 bn10 bx10 br10 bi10 => ?_
   refine sr_k fun K11 hK11 => ?_
   simp only [go_sem, hql, prd_length, F6]
   repeat' (first | apply And.intro | intro _)
   refine hK11 _ ?_
   refine sd_k [9, 10, 11, 12, 13, 14, 15, 16, 17, 18, 5] [0, 1, 3, 7, 0, 16, 48, 127, 0, 511, 1023] [] mixed (by kernel_rfl) (by simp only [go_sem]) fun K12 hK12 => ?_
   simp only [go_sem, hql, prd_length, F6]
   repeat' (first | apply And.intro | intro _)
   refine hK12 _ _ trivial ?_
   refine region_k fun K13 hK13 => ?_
   simp only [go_sem, hql, prd_length, F6]
   repeat' (first | apply And.intro | intro _)
   refine hK13 _ ?_
   refine bn10 _ ?_
   refine hN9 _ ?_
   refine region_k fun K14 hK14 => ?_
   simp only [go_sem, hql, prd_length, F6]
   repeat' (first | apply And.intro | intro _)
   refine hK14 _ ?_
   refine hN6 ⟨k + 1, hlt⟩ _ ?_ ?_ ?_
   · (exact Nat.sub_lt_sub_left hlt (Nat.lt_succ_self k))
   · (simp only [hfn, go_sem, leX, List.cons_append, List.nil_append]; first | done | rfl | (simp [leX, look]; done))
   · (simp only [go_sem, leX, List.cons_append, List.nil_append]; try simp)
 · obtain rfl : k = 16 := by omega
   have hcq : ¬ ((16 : Nat) : Int) < 16 := by omega
   obtain ⟨z, hz⟩ : ∃ z, (List.range 16).map (bwV (fL prdL) (fL q)) = z := ⟨_, rfl⟩
   have hpz : preL (bwV (fL prdL) (fL q)) 16 q = z := by rw [preL_full hql, hz]
   have hzl : z.length = 16 := by rw [← hz]; simp
   have hzv := opp_prd hql hqd hqp
   rw [hz] at hzv
   have hzd : ∀ i, i < 16 → (fL z i).toNat ≤ 70368744177664 := fun i hi => by
    rw [← hz, range_fL hi]; exact Nat.le_trans (Nat.le_of_lt (bwV_lt _ _ i)) (by decide)
   simp only [hpz]
   have hC := carried_ z hzl hzd
   rw [hzv] at hC
   obtain ⟨r, hr⟩ : ∃ q9, D16 ((p25 - valB 65536 q) % p25) = q9 := ⟨_, rfl⟩
   have hrl : r.length = 16 := by rw [← hr]; rfl
   rw [hr] at hC
   have hfin : u64C (D16 ((p25 - valB 65536 q) % p25)) = u64C r := by rw [hr]
   have F14 := And.intro hcq <| And.intro hzl <| hrl
   refine sr_k fun K15 hK15 => ?_
   simp only [go_sem, hql, F14]
   repeat' (first | apply And.intro | intro _)
   refine hK15 _ ?_
   refine seq_k fun N16 M16 hN16 hM16 => ?_
   refine condF_k (by first | rfl | (simp [go_sem, hql, F14]; done)) ?_
   refine exit_k ?_
   refine hM16 _ _ ?_
   refine hM6 _ _ ?_
   refine bx5 _ ?_
   refine hN3 _ ?_
   refine sr_k fun K17 hK17 => ?_
   simp only [go_sem, hql, F14]
   repeat' (first | apply And.intro | intro _)
   all_goals (refine call_hand false [] (fun k => k) (fun _ _ => rfl) ?_ (by decide) ?_ hC.told ?_; iterate 2 (focus (first | rfl | (simp only [go_sem, hql, F14] <;> first | done | rfl | simp))))
   all_goals (rintro v m ⟨hR, hm⟩; subst hR; subst hm)
   all_goals (refine And.intro ?_ (And.intro ?_ (And.intro ?_ ?_)); iterate 3 (focus (first | rfl | (simp only [go_sem, hql, F14]; done) | (simp [go_sem, look, hql, F14]; done))))
   all_goals (try simp only [go_sem, hql, F14])
   all_goals (try simp only [go_sem, hql, F14])
   all_goals repeat' (first | apply And.intro | intro _)
   refine hK17 _ ?_
   refine ret_k ?_
   simp only [go_sem, hql, F14]
   all_goals (exact told_plain (plain_u64 _) ⟨by rw [hfin], rfl⟩)
end Go.Sy

