/- Sixteen digits carried over, below the prime. -/
import Derived.Test.YthngiogkogeigaaDoorvhK6
set_option linter.unusedVariables false
set_option linter.unusedSimpArgs false
namespace Go.Sy
open Go.Proofs
attribute [local irreducible] atCall HT runOps runD onC onE onO onG goV goA goS onSt onGuard
def rnds (x : List UInt64) : Nat → List UInt64
 | 0 => x
 | k + 1 => rndD (rnds x k)
theorem rnds_length {x : List UInt64} (hx : x.length = 16) : ∀ k, (rnds x k).length = 16
 | 0 => hx
 | k + 1 => rnd_length _
theorem rndY_pre {q : List UInt64} (hq : q.length = 16) : preL (cyV (fL q)) 16 q = rndY q := preL_full hq
set_option maxHeartbeats 3200000 in
set_option maxRecDepth 100000 in
theorem carried_ (x : List UInt64) (hx : x.length = 16) (hl : ∀ i, i < 16 → (fL x i).toNat ≤ 70368744177664) :
 CtM Tryd.prog 35 [.w (.agg (u64C x))] [(1000000, ⟨false, u64C prdL⟩)] (Told (fun v m => v = .w (.agg (u64C (D16 (valB 65536 x % p25)))) ∧ m = [])) := by
 refine CtM.k Tryd.func35 rfl Tryd.ntmps35 (congrArg Array.toList Tryd.results35) (by simp) fun w0 ro may fx => ?_
 refine sr_k fun K1 hK1 => ?_
 simp only [go_sem, hx]
 repeat' (first | apply And.intro | intro _)
 refine hK1 _ ?_
 refine seq_k fun N2 M2 hN2 hM2 => ?_
 refine sr_k fun K3 hK3 => ?_
 simp only [go_sem, hx]
 repeat' (first | apply And.intro | intro _)
 refine hK3 _ ?_
 refine block_k fun B4 bn4 bx4 br4 bi4 => ?_
 refine ht_dropE [0] ?_
 simp only [dropE_mk, fgt_nil, fgt_cons, List.contains_cons, List.contains_nil, Nat.reduceBEq, beq_self_eq_true, Bool.or_false, Bool.or_true, Bool.true_or, Bool.false_or, Bool.false_eq_true, reduceIte]
 refine loop_k (fun y => [(8, .w (.one (.pl (.i ((y.1 : Nat) : Int)))))]) (fun y => [(1, ⟨false, u64C (rnds x y.1)⟩)]) (fun y => 3 - y.1) (⟨0, Nat.zero_le _⟩ : {y : Nat // y ≤ 3}) ?_ ?_ ?_
 · (simp only [go_sem, leX, List.cons_append, List.nil_append]; try simp)
 · (simp only [rnds, go_sem, leX, List.cons_append, List.nil_append]; first | done | rfl | (simp [leX, look]; done))
 intro yy N5 M5 hN5 hM5
 simp only [List.cons_append, List.nil_append]
 obtain ⟨r, hr9⟩ := yy
 rcases Nat.lt_or_ge r 3 with hrl | hrg
 · have hcq : ((r : Nat) : Int) < 3 := by omega
   obtain ⟨q, hq⟩ : ∃ q, rnds x r = q := ⟨_, rfl⟩
   have hql : q.length = 16 := by rw [← hq]; exact rnds_length hx r
   have hnx : rnds x (r + 1) = rndD q := by rw [rnds, hq]
   simp only [hq]
   refine sr_k fun K6 hK6 => ?_
   simp only [go_sem, hx, hcq, hql]
   repeat' (first | apply And.intro | intro _)
   refine hK6 _ ?_
   refine seq_k fun N7 M7 hN7 hM7 => ?_
   refine condT_k (by first | rfl | (simp [go_sem, hx, hcq, hql]; done)) ?_
   refine skip_k ?_
   refine hN7 _ ?_
   refine seq_k fun N8 M8 hN8 hM8 => ?_
   refine block_k fun B9 bn9 bx9 br9 bi9 => ?_
   refine sr_k fun K10 hK10 => ?_
   simp only [go_sem, hx, hcq, hql]
   repeat' (first | apply And.intro | intro _)
   refine hK10 _ ?_
   refine seq_k fun N11 M11 hN11 hM11 => ?_
   refine sr_k fun K12 hK12 => ?_
   simp only [go_sem, hx, hcq, hql]
   repeat' (first | apply And.intro | intro _)
   refine hK12 _ ?_
   refine block_k fun B13 bn13 bx13 br13 bi13 => ?_
   refine loop_k (fun y => [(10, .w (.one (.pl (.i ((y.1 : Nat) : Int))))), (3, .w (.one (.pl (.u64 (cyN (fL q) y.1)))))]) (fun y => [(1, ⟨false, u64C (preL (cyV (fL q)) y.1 q)⟩)]) (fun y => 16 - y.1) (⟨0, Nat.zero_le _⟩ : {y : Nat // y ≤ 16}) ?_ ?_ ?_
   · (simp only [go_sem, leX, List.cons_append, List.nil_append]; first | done | rfl | (simp; done))
   · (simp only [preL_zero, go_sem, leX, List.cons_append, List.nil_append]; first | done | rfl | (simp [leX, look]; done))
   intro yy N14 M14 hN14 hM14
   simp only [List.cons_append, List.nil_append]
   obtain ⟨k, hk9⟩ := yy
   rcases Nat.lt_or_ge k 16 with hlt | hge
   · have hcq : ((k : Nat) : Int) < 16 := by omega
     have hc0 : (0 : Int) ≤ ((k : Nat) : Int) := by omega
     have hk1 : k + 1 ≤ 16 := by omega
     obtain ⟨z, hz⟩ : ∃ z, preL (cyV (fL q)) k q = z := ⟨_, rfl⟩
     have hzl : z.length = 16 := by rw [← hz, preL_length (by omega), hql]
     have hzk : z.getD k 0 = q.getD k 0 := by rw [← hz, preL_get (Nat.le_refl _)]
     have hset : z.set k (cyV (fL q) k) = preL (cyV (fL q)) (k + 1) q := by rw [← hz]; exact preL_set (by omega)
     obtain ⟨v, hv⟩ : ∃ v, q.getD k 0 = v := ⟨_, rfl⟩
     obtain ⟨c, hc⟩ : ∃ c, cyN (fL q) k = c := ⟨_, rfl⟩
     have o1 := u64_one (l := z) (i := k) (by omega)
     rw [hzk, hv] at o1

     have hfv : cyV (fL q) k = (c + v) % 65536 := by simp only [cyV, hc, fL, hv]
     have hfn : cyN (fL q) (k + 1) = (c + v) / 65536 := by simp only [cyN, hc, fL, hv]
     have p0 := put_set64 (q := z) (j := k) ((c + v) % 65536) (by omega)
     rw [hfv] at hset
     rw [hset] at p0
     have hcn : (c + v) / 65536 = cyN (fL q) (k + 1) := hfn.symm
     simp only [hc, hz]
     have hs1 : Go.RowKit.wrap64 (((k : Nat) : Int) + 1) = ((k + 1 : Nat) : Int) := wnat (by omega) (by omega)
     have F14 := And.intro hcq <| And.intro hc0 <| And.intro hk1 <| And.intro hzl <| And.intro o1 <| And.intro p0 <| hs1
     refine sr_k fun K15 hK15 => ?_
     simp only [go_sem, hx, hcq, hql, F14]
     repeat' (first | apply And.intro | intro _)
     refine hK15 _ ?_
     refine seq_k fun N16 M16 hN16 hM16 => ?_
     refine condT_k (by first | rfl | (simp [go_sem, hx, hcq, hql, F14]; done)) ?_
     refine skip_k ?_
     refine hN16 _ ?_
     refine seq_k fun N17 M17 hN17 hM17 => ?_
     refine block_k fun B18 bn18 bx18 br18 bi18 => ?_
     refine sr_k fun K19 hK19 => ?_
     simp only [go_sem, hx, hcq, hql, F14]
     repeat' (first | apply And.intro | intro _)
     refine hK19 _ ?_
     refine sr_k fun K20 hK20 => ?_
     simp only [go_sem, hx, hcq, hql, F14]
     repeat' (first | apply And.intro | intro _)
     refine hK20 _ ?_
     refine region_k fun K21 hK21 => ?_
     simp only [go_sem, hx, hcq, hql, F14]
     repeat' (first | apply And.intro | intro _)
     refine hK21 _ ?_
     refine bn18 _ ?_
     refine hN17 _ ?_
     refine region_k fun K22 hK22 => ?_
     simp only [go_sem, hx, hcq, hql, F14]
     repeat' (first | apply And.intro | intro _)
     refine hK22 _ ?_
     refine hN14 ⟨k + 1, hlt⟩ _ ?_ ?_ ?_
     · (exact Nat.sub_lt_sub_left hlt (Nat.lt_succ_self k))
     · (simp only [hfn, go_sem, leX, List.cons_append, List.nil_append]; first | done | rfl | (simp [leX, look]; done))
     · (simp only [go_sem, leX, List.cons_append, List.nil_append]; try simp)
   · obtain rfl : k = 16 := by omega
     have hcq : ¬ ((16 : Nat) : Int) < 16 := by omega
     obtain ⟨c, hc⟩ : ∃ c, cyN (fL q) 16 = c := ⟨_, rfl⟩
     obtain ⟨z, hz⟩ : ∃ z, rndY q = z := ⟨_, rfl⟩
     have hzl : z.length = 16 := by rw [← hz]; exact rndY_length q
     obtain ⟨v, hv⟩ : ∃ v, z.getD 0 0 = v := ⟨_, rfl⟩
     have o1 := u64_one (l := z) (i := 0) (by omega)
     have hrn : z.set 0 (v + 38 * c) = rndD q := by rw [rndD, hz, hv, hc]
     have p0 := put_set64 (q := z) (j := 0) (v + 38 * c) (by omega)
     rw [hrn] at p0
     rw [hv] at o1
     simp only [List.drop_zero] at o1
     simp only [List.take_zero, List.nil_append, Nat.zero_add] at p0
     simp only [rndY_pre hql, hc, hz]
     have hs2 : Go.RowKit.wrap64 (((r : Nat) : Int) + 1) = ((r + 1 : Nat) : Int) := wnat (by omega) (by omega)
     have F22 := And.intro hcq <| And.intro hzl <| And.intro o1 <| And.intro p0 <| hs2
     refine sr_k fun K23 hK23 => ?_
     simp only [go_sem, hx, hcq, hql, Nat.zero_add, F22]
     repeat' (first | apply And.intro | intro _)
     refine hK23 _ ?_
     refine seq_k fun N24 M24 hN24 hM24 => ?_
     refine condF_k (by first | rfl | (simp [go_sem, hx, hcq, hql, Nat.zero_add, F22]; done)) ?_
     refine exit_k ?_
     refine hM24 _ _ ?_
     refine hM14 _ _ ?_
     refine bx13 _ ?_
     refine hN11 _ ?_
     refine region_k fun K25 hK25 => ?_
     simp only [go_sem, hx, hcq, hql, Nat.zero_add, F22]
     repeat' (first | apply And.intro | intro _)
     refine hK25 _ ?_
     refine bn9 _ ?_
     refine hN8 _ ?_
     refine region_k fun K26 hK26 => ?_
     simp only [go_sem, hx, hcq, hql, Nat.zero_add, F22]
     repeat' (first | apply And.intro | intro _)
     refine hK26 _ ?_
     refine hN5 ⟨r + 1, hrl⟩ _ ?_ ?_ ?_
     · (exact Nat.sub_lt_sub_left hrl (Nat.lt_succ_self r))
     · (simp only [go_sem, leX, List.cons_append, List.nil_append]; try simp)
     · (simp only [hnx, go_sem, leX, List.cons_append, List.nil_append]; first | done | rfl | (simp [leX, look]; done))
 · obtain rfl : r = 3 := by omega
   have hcq : ¬ ((3 : Nat) : Int) < 3 := by omega
   obtain ⟨r1, r2, r3⟩ := rnd3_val hx hl
   obtain ⟨q3, hq3⟩ : ∃ q, rnds x 3 = q := ⟨_, rfl⟩
   have hq3' : rndD (rndD (rndD x)) = q3 := hq3
   rw [hq3'] at r1 r2 r3
   simp only [hq3]
   refine sr_k fun K27 hK27 => ?_
   simp only [go_sem, hx, hcq]
   repeat' (first | apply And.intro | intro _)
   refine hK27 _ ?_
   refine seq_k fun N28 M28 hN28 hM28 => ?_
   refine condF_k (by first | rfl | (simp [go_sem, hx, hcq]; done)) ?_
   refine exit_k ?_
   refine hM28 _ _ ?_
   refine hM5 _ _ ?_
   refine bx4 _ ?_
   refine hN2 _ ?_
   refine seq_k fun N29 M29 hN29 hM29 => ?_
   refine block_k fun B30 bn30 bx30 br30 bi30 => ?_
   refine ht_dropE [0, 3, 4, 8, 9, 10, 11, 12, 13, 14, 15, 16, 17, 18, 19, 20, 21, 22, 23, 24, 25, 26, 27, 28, 29, 30, 31] ?_
   simp only [dropE_mk, fgt_nil, fgt_cons, List.contains_cons, List.contains_nil, Nat.reduceBEq, beq_self_eq_true, Bool.or_false, Bool.or_true, Bool.true_or, Bool.false_or, Bool.false_eq_true, reduceIte]
   refine loop_k (fun y => []) (fun y => [(1, ⟨false, u64C y.1⟩)]) (fun y => valB 65536 y.1) (⟨q3, r1, r2, r3⟩ : {q : List UInt64 // q.length = 16 ∧ (∀ i, i < 16 → (fL q i).toNat < 65536) ∧ valB 65536 q % p25 = valB 65536 x % p25}) ?_ ?_ ?_
   · (simp only [go_sem, leX, List.cons_append, List.nil_append]; try simp)
   · (simp only [go_sem, leX, List.cons_append, List.nil_append]; first | done | rfl | (simp [leX, look]; done))
   intro yy N31 M31 hN31 hM31
   simp only [List.cons_append, List.nil_append]
   obtain ⟨q, hql, hqd, hqm⟩ := yy
   have hN := nb_ q hql hqd
   rcases Nat.lt_or_ge (valB 65536 q) p25 with hlt2 | hge2
   · rw [decide_eq_false (by omega)] at hN
     have hfin : u64C (D16 (valB 65536 x % p25)) = u64C q := by rw [← D16_of hql hqd (n := valB 65536 x % p25) (by rw [← hqm, Nat.mod_eq_of_lt hlt2])]
     refine seq_k fun N32 M32 hN32 hM32 => ?_
     refine sr_k fun K33 hK33 => ?_
     simp only [go_sem, hx, hcq, hql]
     repeat' (first | apply And.intro | intro _)
     all_goals (refine call_hand false [] (fun k => k) (fun _ _ => rfl) ?_ (by decide) ?_ hN.told ?_; iterate 2 (focus (first | rfl | (simp only [go_sem, hx, hcq, hql] <;> first | done | rfl | simp))))
     all_goals (rintro v m ⟨hR, hm⟩; subst hR; subst hm)
     all_goals (refine And.intro ?_ (And.intro ?_ (And.intro ?_ ?_)); iterate 3 (focus (first | rfl | (simp only [go_sem, hx, hcq, hql]; done) | (simp [go_sem, look, hx, hcq, hql]; done))))
     all_goals (try simp only [go_sem, hx, hcq, hql])
     all_goals (try simp only [go_sem, hx, hcq, hql])
     all_goals repeat' (first | apply And.intro | intro _)
     refine hK33 _ ?_
     refine condF_k (by first | rfl | (simp [go_sem, hx, hcq, hql]; done)) ?_
     refine exit_k ?_
     refine hM32 _ _ ?_
     refine hM31 _ _ ?_
     refine bx30 _ ?_
     refine hN29 _ ?_
     refine sr_k fun K34 hK34 => ?_
     simp only [go_sem, hx, hcq, hql]
     repeat' (first | apply And.intro | intro _)
     refine hK34 _ ?_
     refine ret_k ?_
     simp only [go_sem, hx, hcq, hql]
     all_goals (exact told_plain (plain_u64 _) ⟨by rw [hfin], rfl⟩)
   · rw [decide_eq_true hge2] at hN
     refine seq_k fun N35 M35 hN35 hM35 => ?_
     refine sr_k fun K36 hK36 => ?_
     simp only [go_sem, hx, hcq, hql]
     repeat' (first | apply And.intro | intro _)
     all_goals (refine call_hand false [] (fun k => k) (fun _ _ => rfl) ?_ (by decide) ?_ hN.told ?_; iterate 2 (focus (first | rfl | (simp only [go_sem, hx, hcq, hql] <;> first | done | rfl | simp))))
     all_goals (rintro v m ⟨hR, hm⟩; subst hR; subst hm)
     all_goals (refine And.intro ?_ (And.intro ?_ (And.intro ?_ ?_)); iterate 3 (focus (first | rfl | (simp only [go_sem, hx, hcq, hql]; done) | (simp [go_sem, look, hx, hcq, hql]; done))))
     all_goals (try simp only [go_sem, hx, hcq, hql])
     all_goals (try simp only [go_sem, hx, hcq, hql])
     all_goals repeat' (first | apply And.intro | intro _)
     refine hK36 _ ?_
     refine condT_k (by first | rfl | (simp [go_sem, hx, hcq, hql]; done)) ?_
     refine skip_k ?_
     refine hN35 _ ?_
     refine block_k fun B37 bn37 bx37 br37 bi37 => ?_
     refine sr_k fun K38 hK38 => ?_
     simp only [go_sem, hx, hcq, hql]
     repeat' (first | apply And.intro | intro _)
     refine hK38 _ ?_
     refine sr_k fun K39 hK39 => ?_
     simp only [go_sem, hx, hcq, hql]
     repeat' (first | apply And.intro | intro _)
     refine hK39 _ ?_
     refine block_k fun B40 bn40 bx40 br40 bi40 => ?_
     refine loop_k (fun y => [(34, .w (.one (.pl (.i ((y.1 : Nat) : Int))))), (5, .w (.one (.pl (.u64 (bwN (fL q) (fL prdL) y.1)))))]) (fun y => [(1, ⟨false, u64C (preL (bwV (fL q) (fL prdL)) y.1 q)⟩)]) (fun y => 16 - y.1) (⟨0, Nat.zero_le _⟩ : {y : Nat // y ≤ 16}) ?_ ?_ ?_
     · (simp only [go_sem, leX, List.cons_append, List.nil_append]; first | done | rfl | (simp; done))
     · (simp only [preL_zero, go_sem, leX, List.cons_append, List.nil_append]; first | done | rfl | (simp [leX, look]; done))
     intro yy N41 M41 hN41 hM41
     simp only [List.cons_append, List.nil_append]
     obtain ⟨k, hk9⟩ := yy
     rcases Nat.lt_or_ge k 16 with hlt | hge
     · have hcq : ((k : Nat) : Int) < 16 := by omega
       have hc0 : (0 : Int) ≤ ((k : Nat) : Int) := by omega
       have hk1 : k + 1 ≤ 16 := by omega
       obtain ⟨z, hz⟩ : ∃ z, preL (bwV (fL q) (fL prdL)) k q = z := ⟨_, rfl⟩
       have hzl : z.length = 16 := by rw [← hz, preL_length (by omega), hql]
       have hzk : z.getD k 0 = q.getD k 0 := by rw [← hz, preL_get (Nat.le_refl _)]
       have hset : z.set k (bwV (fL q) (fL prdL) k) = preL (bwV (fL q) (fL prdL)) (k + 1) q := by rw [← hz]; exact preL_set (by omega)
       obtain ⟨v, hv⟩ : ∃ v, q.getD k 0 = v := ⟨_, rfl⟩
       obtain ⟨c, hc⟩ : ∃ c, bwN (fL q) (fL prdL) k = c := ⟨_, rfl⟩
       have o1 := u64_one (l := z) (i := k) (by omega)
       rw [hzk, hv] at o1
       obtain ⟨w, hw⟩ : ∃ w, prdL.getD k 0 = w := ⟨_, rfl⟩
       have o2 := u64_one (l := prdL) (i := k) (by rw [prd_length]; omega)
       rw [hw] at o2
       have hfv : bwV (fL q) (fL prdL) k = (v + 65536 - w - c) % 65536 := by simp only [bwV, hc, fL, hv, hw]
       have hfn : bwN (fL q) (fL prdL) (k + 1) = 1 - (v + 65536 - w - c) / 65536 := by simp only [bwN, hc, fL, hv, hw]
       have p0 := put_set64 (q := z) (j := k) ((v + 65536 - w - c) % 65536) (by omega)
       rw [hfv] at hset
       rw [hset] at p0
       have hcn : 1 - (v + 65536 - w - c) / 65536 = bwN (fL q) (fL prdL) (k + 1) := hfn.symm
       simp only [hc, hz]
       have hs1 : Go.RowKit.wrap64 (((k : Nat) : Int) + 1) = ((k + 1 : Nat) : Int) := wnat (by omega) (by omega)
       have F41 := And.intro hcq <| And.intro hc0 <| And.intro hk1 <| And.intro hzl <| And.intro o1 <| And.intro p0 <| And.intro hs1 <| o2
       refine sr_k fun K42 hK42 => ?_
       simp only [go_sem, hx, hcq, hql, prd_length, F41]
       repeat' (first | apply And.intro | intro _)
       refine hK42 _ ?_
       refine seq_k fun N43 M43 hN43 hM43 => ?_
       refine condT_k (by first | rfl | (simp [go_sem, hx, hcq, hql, prd_length, F41]; done)) ?_
       refine skip_k ?_
       refine hN43 _ ?_
       refine seq_k fun N44 M44 hN44 hM44 => ?_
       refine block_k fun B45 bn45 bx45 br45 bi45 => ?_
       refine sr_k fun K46 hK46 => ?_
       simp only [go_sem, hx, hcq, hql, prd_length, F41]
       repeat' (first | apply And.intro | intro _)
       refine hK46 _ ?_
       refine sd_k [37, 38, 39, 40, 41, 42, 43, 44, 45, 46, 7] [0, 1, 3, 7, 0, 16, 48, 127, 0, 511, 1023] [] mixed (by kernel_rfl) (by simp only [go_sem]) fun K47 hK47 => ?_
       simp only [go_sem, hx, hcq, hql, prd_length, F41]
       repeat' (first | apply And.intro | intro _)
       refine hK47 _ _ trivial ?_
       refine region_k fun K48 hK48 => ?_
       simp only [go_sem, hx, hcq, hql, prd_length, F41]
       repeat' (first | apply And.intro | intro _)
       refine hK48 _ ?_
       refine bn45 _ ?_
       refine hN44 _ ?_
       refine region_k fun K49 hK49 => ?_
       simp only [go_sem, hx, hcq, hql, prd_length, F41]
       repeat' (first | apply And.intro | intro _)
       refine hK49 _ ?_
       refine hN41 ⟨k + 1, hlt⟩ _ ?_ ?_ ?_
       · (exact Nat.sub_lt_sub_left hlt (Nat.lt_succ_self k))
       · (simp only [hfn, go_sem, leX, List.cons_append, List.nil_append]; first | done | rfl | (simp [leX, look]; done))
       · (simp only [go_sem, leX, List.cons_append, List.nil_append]; try simp)
     · obtain rfl : k = 16 := by omega
       have hcq : ¬ ((16 : Nat) : Int) < 16 := by omega
       obtain ⟨z, hz⟩ : ∃ z, (List.range 16).map (bwV (fL q) (fL prdL)) = z := ⟨_, rfl⟩
       have hpz : preL (bwV (fL q) (fL prdL)) 16 q = z := by rw [preL_full hql, hz]
       have hzl : z.length = 16 := by rw [← hz]; simp
       have hzv := sub_prd hql hqd hge2
       rw [hz] at hzv
       have hzd : ∀ i, i < 16 → (fL z i).toNat < 65536 := fun i hi => by rw [← hz, range_fL hi]; exact bwV_lt _ _ i
       have hzm : valB 65536 z % p25 = valB 65536 x % p25 := by
        rw [← hqm, ← hzv, Nat.add_mod_right]
       have hdec : valB 65536 z < valB 65536 q := by rw [← hzv]; exact Nat.lt_add_of_pos_right (by decide)
       simp only [hpz]
       refine sr_k fun K50 hK50 => ?_
       simp only [go_sem, hx, hcq, hql]
       repeat' (first | apply And.intro | intro _)
       refine hK50 _ ?_
       refine seq_k fun N51 M51 hN51 hM51 => ?_
       refine condF_k (by first | rfl | (simp [go_sem, hx, hcq, hql]; done)) ?_
       refine exit_k ?_
       refine hM51 _ _ ?_
       refine hM41 _ _ ?_
       refine bx40 _ ?_
       refine bn37 _ ?_
       refine hN31 ⟨z, hzl, hzd, hzm⟩ _ ?_ ?_ ?_
       · (exact hdec)
       · (simp only [go_sem, leX, List.cons_append, List.nil_append]; try simp)
       · (simp only [go_sem, leX, List.cons_append, List.nil_append]; try simp)
end Go.Sy

