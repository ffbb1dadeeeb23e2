/- Inverses below the prime: from the bottom, in digits. -/
import Derived.Test.YthngiogkogeigaaDoorvhK12
import Derived.Test.YthngiogkogeigaaDoorvQ8
set_option linter.unusedVariables false
set_option linter.unusedSimpArgs false
namespace Go.Sy
open Go.Proofs
attribute [local irreducible] atCall HT runOps runD onC onE onO onG goV goA goS onSt onGuard
theorem d16_one : u64C (D16 1) = [.pl (.u64 1), .pl (.u64 0), .pl (.u64 0), .pl (.u64 0), .pl (.u64 0), .pl (.u64 0), .pl (.u64 0), .pl (.u64 0), .pl (.u64 0), .pl (.u64 0), .pl (.u64 0), .pl (.u64 0), .pl (.u64 0), .pl (.u64 0), .pl (.u64 0), .pl (.u64 0)] := by rw [show D16 1 = [1, 0, 0, 0, 0, 0, 0, 0, 0, 0, 0, 0, 0, 0, 0, 0] from by decide +kernel]; rfl
theorem pw_m (n e : Nat) : pw n e < m4 := by
 have := pw_lt n e
 have := p25_is
 have := m4_is
 omega
theorem prd_0 : prdL.getD 0 0 = 65517 := rfl
theorem prd_ex : prdL.set 0 (65517 - 2) = exL := by decide +kernel
set_option maxHeartbeats 3200000 in
set_option maxRecDepth 100000 in
theorem rinverse_ (n : Nat) (hnp : n < p25) :
 CtM Tryd.prog 23 [.w (.agg (u64C (D16 n)))] [(1000000, ⟨false, u64C prdL⟩)] (Told (fun v m => v = .w (.agg (u64C (D16 (pw n eP)))) ∧ m = [])) := by
 have h0 := u64_one (l := prdL) (i := 0) (by decide)
 rw [prd_0] at h0
 simp only [List.drop_zero] at h0
 have p0 := put_set64 (q := prdL) (j := 0) (65517 - 2) (by decide)
 rw [prd_ex] at p0
 simp only [List.take_zero, List.nil_append, Nat.zero_add] at p0
 refine CtM.k Tryd.func23 rfl Tryd.ntmps23 (congrArg Array.toList Tryd.results23) (by simp) fun w0 ro may fx => ?_
 refine sr_k fun K1 hK1 => ?_
 simp only [go_sem, h0, p0, prd_length, D16_length, exL_length, Nat.zero_add]
 repeat' (first | apply And.intro | intro _)
 refine hK1 _ ?_
 refine sr_k fun K2 hK2 => ?_
 simp only [go_sem, h0, p0, prd_length, D16_length, exL_length, Nat.zero_add]
 repeat' (first | apply And.intro | intro _)
 refine hK2 _ ?_
 refine sr_k fun K3 hK3 => ?_
 simp only [go_sem, h0, p0, prd_length, D16_length, exL_length, Nat.zero_add]
 repeat' (first | apply And.intro | intro _)
 refine hK3 _ ?_
 refine sr_k fun K4 hK4 => ?_
 simp only [go_sem, h0, p0, prd_length, D16_length, exL_length, Nat.zero_add]
 repeat' (first | apply And.intro | intro _)
 refine hK4 _ ?_
 refine seq_k fun N5 M5 hN5 hM5 => ?_
 refine sr_k fun K6 hK6 => ?_
 simp only [go_sem, h0, p0, prd_length, D16_length, exL_length, Nat.zero_add]
 repeat' (first | apply And.intro | intro _)
 refine hK6 _ ?_
 refine block_k fun B7 bn7 bx7 br7 bi7 => ?_
 refine ht_dropE [0, 6, 7, 8, 9, 10, 11] ?_
 simp only [dropE_mk, fgt_nil, fgt_cons, List.contains_cons, List.contains_nil, Nat.reduceBEq, beq_self_eq_true, Bool.or_false, Bool.or_true, Bool.true_or, Bool.false_or, Bool.false_eq_true, reduceIte]
 refine loop_k (fun y => [(12, .w (.one (.pl (.i ((y.1 : Nat) : Int)))))]) (fun y => [(1, ⟨false, u64C (D16 (pw n (2 ^ y.1)))⟩), (3, ⟨false, u64C (D16 (pw n (lowE y.1)))⟩)]) (fun y => 255 - y.1) (⟨0, Nat.zero_le _⟩ : {y : Nat // y ≤ 255}) ?_ ?_ ?_
 · (simp only [go_sem, leX, List.cons_append, List.nil_append]; first | done | rfl | (simp; done))
 · (simp only [Nat.pow_zero, low_zero, pw_one n hnp, pw_zero, d16_one, go_sem, leX, List.cons_append, List.nil_append]; first | done | rfl | (simp [leX, look]; done))
 intro yy N8 M8 hN8 hM8
 simp only [List.cons_append, List.nil_append]
 obtain ⟨k, hk9⟩ := yy
 obtain ⟨x, hx⟩ : ∃ q, D16 (pw n (2 ^ k)) = q := ⟨_, rfl⟩
 have hxl : x.length = 16 := by rw [← hx]; rfl
 have hxd : ∀ i, i < 16 → (fL x i).toNat < 65536 := by rw [← hx]; exact D16_lt _
 have hxv : valB 65536 x = pw n (2 ^ k) := by rw [← hx]; exact D16_val (pw_m _ _)
 obtain ⟨z, hz⟩ : ∃ q, D16 (pw n (lowE k)) = q := ⟨_, rfl⟩
 have hzl : z.length = 16 := by rw [← hz]; rfl
 have hzd : ∀ i, i < 16 → (fL z i).toNat < 65536 := by rw [← hz]; exact D16_lt _
 have hzv : valB 65536 z = pw n (lowE k) := by rw [← hz]; exact D16_val (pw_m _ _)
 simp only [hx, hz]
 have hd : (k < 255 ∧ bitE k = 1) ∨ (k < 255 ∧ ¬ bitE k = 1) ∨ k = 255 := by
  by_cases e1 : k = 255
  · exact .inr (.inr e1)
  · by_cases e2 : bitE k = 1
    · exact .inl ⟨by omega, e2⟩
    · exact .inr (.inl ⟨by omega, e2⟩)
 rcases hd with ⟨hlt, hb⟩ | ⟨hlt, hb⟩ | rfl
 · have hcq : ((k : Nat) : Int) < 255 := by omega
   have hj0 : (0 : Int) ≤ ((k / 16 : Nat) : Int) ∧ ((k / 16 : Nat) : Int) < 16 ∧ k / 16 + 1 ≤ 16 ∧ (0 : Int) ≤ ((k % 16 : Nat) : Int) := by omega
   have oe := u64_one (l := exL) (i := k / 16) (by rw [exL_length]; omega)
   obtain ⟨v, hv⟩ : ∃ v, exL.getD (k / 16) 0 = v := ⟨_, rfl⟩
   rw [hv] at oe
   have hbe : bitE k = shr64 v (k % 16) % 2 := by rw [bitE, hv]
   have htd : ((k : Nat) : Int).tdiv 16 = ((k / 16 : Nat) : Int) := rfl
   have htm : ((k : Nat) : Int).tmod 16 = ((k % 16 : Nat) : Int) := rfl
   have hSq := product_ x x hxl hxl hxd hxd
   rw [hxv, pw_two] at hSq
   obtain ⟨y, hy⟩ : ∃ q, D16 (pw n (2 ^ (k + 1))) = q := ⟨_, rfl⟩
   have hyl : y.length = 16 := by rw [← hy]; rfl
   have hyd : ∀ i, i < 16 → (fL y i).toNat < 65536 := by rw [← hy]; exact D16_lt _
   rw [hy] at hSq
   rw [hbe] at hb
   have hMu := product_ z x hzl hxl hzd hxd
   rw [hzv, hxv, pw_mul, ← low_take hlt (hbe ▸ hb)] at hMu
   obtain ⟨w, hw⟩ : ∃ q, D16 (pw n (lowE (k + 1))) = q := ⟨_, rfl⟩
   have hwl : w.length = 16 := by rw [← hw]; rfl
   have hwd : ∀ i, i < 16 → (fL w i).toNat < 65536 := by rw [← hw]; exact D16_lt _
   rw [hw] at hMu
   obtain ⟨hs1, hwd⟩ : Go.RowKit.wrap64 (((k : Nat) : Int) + 1) = ((k + 1 : Nat) : Int) ∧ Go.RowKit.wrap64 ((k / 16 : Nat) : Int) = ((k / 16 : Nat) : Int) := ⟨wnat (by omega) (by omega), wnat rfl (by omega)⟩
   have F8 := And.intro hcq <| And.intro hj0 <| And.intro oe <| And.intro htd <| And.intro htm <| And.intro hb <| And.intro hs1 <| And.intro hwd <| And.intro hxl <| And.intro hzl <| And.intro hyl <| hwl
   refine sr_k fun K9 hK9 => ?_
   simp only [go_sem, h0, p0, prd_length, D16_length, exL_length, Nat.zero_add, F8]
   repeat' (first | apply And.intro | intro _)
   refine hK9 _ ?_
   refine seq_k fun N10 M10 hN10 hM10 => ?_
   refine condT_k (by first | rfl | (simp [go_sem, h0, p0, prd_length, D16_length, exL_length, Nat.zero_add, F8]; done)) ?_
   refine skip_k ?_
   refine hN10 _ ?_
   refine seq_k fun N11 M11 hN11 hM11 => ?_
   refine block_k fun B12 bn12 bx12 br12 bi12 => ?_
   refine sr_k fun K13 hK13 => ?_
   simp only [go_sem, h0, p0, prd_length, D16_length, exL_length, Nat.zero_add, F8]
   repeat' (first | apply And.intro | intro _)
   refine hK13 _ ?_
   refine seq_k fun N14 M14 hN14 hM14 => ?_
   refine sr_k fun K15 hK15 => ?_
   simp only [go_sem, h0, p0, prd_length, D16_length, exL_length, Nat.zero_add, F8]
   repeat' (first | apply And.intro | intro _)
   refine hK15 _ ?_
   refine condT_k (by first | rfl | (simp [go_sem, h0, p0, prd_length, D16_length, exL_length, Nat.zero_add, F8]; done)) ?_
   refine region_k fun K16 hK16 => ?_
   simp only [go_sem, h0, p0, prd_length, D16_length, exL_length, Nat.zero_add, F8]
   repeat' (first | apply And.intro | intro _)
   all_goals (refine call_hand false [] (fun k => k) (fun _ _ => rfl) ?_ (by decide) ?_ hMu.told ?_; iterate 2 (focus (first | rfl | (simp only [go_sem, h0, p0, prd_length, D16_length, exL_length, Nat.zero_add, F8] <;> first | done | rfl | simp))))
   all_goals (rintro v m ⟨hR, hm⟩; subst hR; subst hm)
   all_goals (refine And.intro ?_ (And.intro ?_ (And.intro ?_ ?_)); iterate 3 (focus (first | rfl | (simp only [go_sem, h0, p0, prd_length, D16_length, exL_length, Nat.zero_add, F8]; done) | (simp [go_sem, look, h0, p0, prd_length, D16_length, exL_length, Nat.zero_add, F8]; done))))
   all_goals (try simp only [go_sem, h0, p0, prd_length, D16_length, exL_length, Nat.zero_add, F8])
   all_goals (try simp only [go_sem, h0, p0, prd_length, D16_length, exL_length, Nat.zero_add, F8])
   all_goals repeat' (first | apply And.intro | intro _)
   refine hK16 _ ?_
   refine hN14 _ ?_
   refine region_k fun K17 hK17 => ?_
   simp only [go_sem, h0, p0, prd_length, D16_length, exL_length, Nat.zero_add, F8]
   repeat' (first | apply And.intro | intro _)
   all_goals (refine call_hand false [] (fun k => k) (fun _ _ => rfl) ?_ (by decide) ?_ hSq.told ?_; iterate 2 (focus (first | rfl | (simp only [go_sem, h0, p0, prd_length, D16_length, exL_length, Nat.zero_add, F8] <;> first | done | rfl | simp))))
   all_goals (rintro v m ⟨hR, hm⟩; subst hR; subst hm)
   all_goals (refine And.intro ?_ (And.intro ?_ (And.intro ?_ ?_)); iterate 3 (focus (first | rfl | (simp only [go_sem, h0, p0, prd_length, D16_length, exL_length, Nat.zero_add, F8]; done) | (simp [go_sem, look, h0, p0, prd_length, D16_length, exL_length, Nat.zero_add, F8]; done))))
   all_goals (try simp only [go_sem, h0, p0, prd_length, D16_length, exL_length, Nat.zero_add, F8])
   all_goals (try simp only [go_sem, h0, p0, prd_length, D16_length, exL_length, Nat.zero_add, F8])
   all_goals repeat' (first | apply And.intro | intro _)
   refine hK17 _ ?_
   refine bn12 _ ?_
   refine hN11 _ ?_
   refine region_k fun K18 hK18 => ?_
   simp only [go_sem, h0, p0, prd_length, D16_length, exL_length, Nat.zero_add, F8]
   repeat' (first | apply And.intro | intro _)
   refine hK18 _ ?_
   refine hN8 ⟨k + 1, hlt⟩ _ ?_ ?_ ?_
   · (exact Nat.sub_lt_sub_left hlt (Nat.lt_succ_self k))
   · (simp only [go_sem, leX, List.cons_append, List.nil_append]; try simp)
   · (simp only [hy, hw, go_sem, leX, List.cons_append, List.nil_append]; first | done | rfl | (simp [leX, look]; done))
 · have hcq : ((k : Nat) : Int) < 255 := by omega
   have hj0 : (0 : Int) ≤ ((k / 16 : Nat) : Int) ∧ ((k / 16 : Nat) : Int) < 16 ∧ k / 16 + 1 ≤ 16 ∧ (0 : Int) ≤ ((k % 16 : Nat) : Int) := by omega
   have oe := u64_one (l := exL) (i := k / 16) (by rw [exL_length]; omega)
   obtain ⟨v, hv⟩ : ∃ v, exL.getD (k / 16) 0 = v := ⟨_, rfl⟩
   rw [hv] at oe
   have hbe : bitE k = shr64 v (k % 16) % 2 := by rw [bitE, hv]
   have htd : ((k : Nat) : Int).tdiv 16 = ((k / 16 : Nat) : Int) := rfl
   have htm : ((k : Nat) : Int).tmod 16 = ((k % 16 : Nat) : Int) := rfl
   have hSq := product_ x x hxl hxl hxd hxd
   rw [hxv, pw_two] at hSq
   obtain ⟨y, hy⟩ : ∃ q, D16 (pw n (2 ^ (k + 1))) = q := ⟨_, rfl⟩
   have hyl : y.length = 16 := by rw [← hy]; rfl
   have hyd : ∀ i, i < 16 → (fL y i).toNat < 65536 := by rw [← hy]; exact D16_lt _
   rw [hy] at hSq
   have hsk : lowE (k + 1) = lowE k := low_skip hlt hb
   rw [hbe] at hb
   obtain ⟨hs1, hwd⟩ : Go.RowKit.wrap64 (((k : Nat) : Int) + 1) = ((k + 1 : Nat) : Int) ∧ Go.RowKit.wrap64 ((k / 16 : Nat) : Int) = ((k / 16 : Nat) : Int) := ⟨wnat (by omega) (by omega), wnat rfl (by omega)⟩
   have F18 := And.intro hcq <| And.intro hj0 <| And.intro oe <| And.intro htd <| And.intro htm <| And.intro hb <| And.intro hs1 <| And.intro hwd <| And.intro hxl <| And.intro hzl <| hyl
   refine sr_k fun K19 hK19 => ?_
   simp only [go_sem, h0, p0, prd_length, D16_length, exL_length, Nat.zero_add, F18]
   repeat' (first | apply And.intro | intro _)
   refine hK19 _ ?_
   refine seq_k fun N20 M20 hN20 hM20 => ?_
   refine condT_k (by first | rfl | (simp [go_sem, h0, p0, prd_length, D16_length, exL_length, Nat.zero_add, F18]; done)) ?_
   refine skip_k ?_
   refine hN20 _ ?_
   refine seq_k fun N21 M21 hN21 hM21 => ?_
   refine block_k fun B22 bn22 bx22 br22 bi22 => ?_
   refine sr_k fun K23 hK23 => ?_
   simp only [go_sem, h0, p0, prd_length, D16_length, exL_length, Nat.zero_add, F18]
   repeat' (first | apply And.intro | intro _)
   refine hK23 _ ?_
   refine seq_k fun N24 M24 hN24 hM24 => ?_
   refine sr_k fun K25 hK25 => ?_
   simp only [go_sem, h0, p0, prd_length, D16_length, exL_length, Nat.zero_add, F18]
   repeat' (first | apply And.intro | intro _)
   refine hK25 _ ?_
   refine condF_k (by first | rfl | (simp [go_sem, h0, p0, prd_length, D16_length, exL_length, Nat.zero_add, F18]; done)) ?_
   refine skip_k ?_
   refine hN24 _ ?_
   refine region_k fun K26 hK26 => ?_
   simp only [go_sem, h0, p0, prd_length, D16_length, exL_length, Nat.zero_add, F18]
   repeat' (first | apply And.intro | intro _)
   all_goals (refine call_hand false [] (fun k => k) (fun _ _ => rfl) ?_ (by decide) ?_ hSq.told ?_; iterate 2 (focus (first | rfl | (simp only [go_sem, h0, p0, prd_length, D16_length, exL_length, Nat.zero_add, F18] <;> first | done | rfl | simp))))
   all_goals (rintro v m ⟨hR, hm⟩; subst hR; subst hm)
   all_goals (refine And.intro ?_ (And.intro ?_ (And.intro ?_ ?_)); iterate 3 (focus (first | rfl | (simp only [go_sem, h0, p0, prd_length, D16_length, exL_length, Nat.zero_add, F18]; done) | (simp [go_sem, look, h0, p0, prd_length, D16_length, exL_length, Nat.zero_add, F18]; done))))
   all_goals (try simp only [go_sem, h0, p0, prd_length, D16_length, exL_length, Nat.zero_add, F18])
   all_goals (try simp only [go_sem, h0, p0, prd_length, D16_length, exL_length, Nat.zero_add, F18])
   all_goals repeat' (first | apply And.intro | intro _)
   refine hK26 _ ?_
   refine bn22 _ ?_
   refine hN21 _ ?_
   refine region_k fun K27 hK27 => ?_
   simp only [go_sem, h0, p0, prd_length, D16_length, exL_length, Nat.zero_add, F18]
   repeat' (first | apply And.intro | intro _)
   refine hK27 _ ?_
   refine hN8 ⟨k + 1, hlt⟩ _ ?_ ?_ ?_
   · (exact Nat.sub_lt_sub_left hlt (Nat.lt_succ_self k))
   · (simp only [go_sem, leX, List.cons_append, List.nil_append]; try simp)
   · (simp only [hy, hsk, hz, go_sem, leX, List.cons_append, List.nil_append]; first | done | rfl | (simp [leX, look]; done))
 · have hcq : ¬ ((255 : Nat) : Int) < 255 := by omega
   rw [low_full] at hz
   have hfin : u64C (D16 (pw n eP)) = u64C z := by rw [hz]
   refine sr_k fun K28 hK28 => ?_
   simp only [go_sem, h0, p0, prd_length, D16_length, exL_length, Nat.zero_add, hcq, hzl]
   repeat' (first | apply And.intro | intro _)
   refine hK28 _ ?_
   refine seq_k fun N29 M29 hN29 hM29 => ?_
   refine condF_k (by first | rfl | (simp [go_sem, h0, p0, prd_length, D16_length, exL_length, Nat.zero_add, hcq, hzl]; done)) ?_
   refine exit_k ?_
   refine hM29 _ _ ?_
   refine hM8 _ _ ?_
   refine bx7 _ ?_
   refine hN5 _ ?_
   refine sr_k fun K30 hK30 => ?_
   simp only [go_sem, h0, p0, prd_length, D16_length, exL_length, Nat.zero_add, hcq, hzl]
   repeat' (first | apply And.intro | intro _)
   refine hK30 _ ?_
   refine ret_k ?_
   simp only [go_sem, h0, p0, prd_length, D16_length, exL_length, Nat.zero_add, hcq, hzl]
   all_goals (exact told_plain (plain_u64 _) ⟨by rw [hfin], rfl⟩)
end Go.Sy

