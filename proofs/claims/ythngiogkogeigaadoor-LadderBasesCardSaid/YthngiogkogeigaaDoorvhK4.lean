/- A word added; sums and differences below the prime. -/
import Derived.Test.YthngiogkogeigaaDoorvhK3
import Derived.Test.YthngiogkogeigaaDoorvQ2
set_option linter.unusedVariables false
set_option linter.unusedSimpArgs false
namespace Go.Sy
open Go.Proofs
attribute [local irreducible] atCall HT runOps runD onC onE onO onG goV goA goS onSt onGuard
set_option maxHeartbeats 800000 in
theorem plus_z (a b c d : UInt64) :
 Ct Tryd.prog 41 [.w (.agg [.pl (.u64 a), .pl (.u64 b), .pl (.u64 c), .pl (.u64 d)]), .w (.one (.pl (.u64 0)))] (fun v m => v = .w (.agg (w4C (vQ a b c d)))) := by
 refine Ct.k Tryd.func41 rfl Tryd.ntmps41 (congrArg Array.toList Tryd.results41) (by simp) fun w0 ro => ?_
 refine sr_k fun K1 hK1 => ?_
 simp only [go_sem]
 repeat' (first | apply And.intro | intro _)
 refine hK1 _ ?_
 refine seq_k fun N2 M2 hN2 hM2 => ?_
 refine block_k fun B3 bn3 bx3 br3 bi3 => ?_
 refine rounds_k 1 ?_
 refine rnd_k fun N5 M5 hN5 hM5 => ?_
 refine seq_k fun N6 M6 hN6 hM6 => ?_
 refine sr_k fun K7 hK7 => ?_
 simp only [go_sem]
 repeat' (first | apply And.intro | intro _)
 refine hK7 _ ?_
 refine condF_k (by first | rfl | (simp [go_sem]; done)) ?_
 refine exit_k ?_
 refine hM6 _ _ ?_
 refine hM5 _ _ ?_
 refine bx3 _ ?_
 refine hN2 _ ?_
 refine sr_k fun K8 hK8 => ?_
 simp only [go_sem]
 repeat' (first | apply And.intro | intro _)
 refine hK8 _ ?_
 refine ret_k ?_
 simp only [go_sem]
 all_goals (rw [w4C, ← w4_of]; rfl)
set_option maxHeartbeats 1600000 in
theorem plus_n (a b c d k : UInt64) (hk : ¬ k = 0) (hn : vQ a b c d + k.toNat < m4) :
 Ct Tryd.prog 41 [.w (.agg [.pl (.u64 a), .pl (.u64 b), .pl (.u64 c), .pl (.u64 d)]), .w (.one (.pl (.u64 k)))] (fun v m => v = .w (.agg (w4C (vQ a b c d + k.toNat)))) := by
 obtain ⟨s0, hs0⟩ : ∃ z, adS a k 0 = z := ⟨_, rfl⟩
 obtain ⟨c0, hc0⟩ : ∃ z, adC a k 0 = z := ⟨_, rfl⟩
 have lc0 : c0.toNat ≤ 1 := by rw [← hc0]; exact ad_le (by first | assumption | decide)
 obtain ⟨s1, hs1⟩ : ∃ z, adS b 0 c0 = z := ⟨_, rfl⟩
 obtain ⟨c1, hc1⟩ : ∃ z, adC b 0 c0 = z := ⟨_, rfl⟩
 have lc1 : c1.toNat ≤ 1 := by rw [← hc1]; exact ad_le (by first | assumption | decide)
 obtain ⟨s2, hs2⟩ : ∃ z, adS c 0 c1 = z := ⟨_, rfl⟩
 obtain ⟨c2, hc2⟩ : ∃ z, adC c 0 c1 = z := ⟨_, rfl⟩
 have lc2 : c2.toNat ≤ 1 := by rw [← hc2]; exact ad_le (by first | assumption | decide)
 obtain ⟨s3, hs3⟩ : ∃ z, adS d 0 c2 = z := ⟨_, rfl⟩
 obtain ⟨c3, hc3⟩ : ∃ z, adC d 0 c2 = z := ⟨_, rfl⟩
 have lc3 : c3.toNat ≤ 1 := by rw [← hc3]; exact ad_le (by first | assumption | decide)
 have hv : vQ s0 s1 s2 s3 + m4 * c3.toNat = vQ a b c d + vQ k 0 0 0 ∧ c3.toNat ≤ 1 := by
  have h := add4_val a b c d k 0 0 0
  simp only [ak1, ak2, ak3, ak4, hs0, hc0, hs1, hc1, hs2, hc2, hs3, hc3] at h
  exact h
 rw [vQ_one] at hv
 have hlt := vQ_lt s0 s1 s2 s3
 have hm := m4_is
 have hc : c3 = 0 := UInt64.toNat_inj.mp (by show c3.toNat = 0; obtain ⟨h1, h2⟩ := hv; rw [hm] at h1 hn; omega)
 subst hc
 have hz : (38 : UInt64) * 0 = 0 := rfl
 have he : vQ s0 s1 s2 s3 = vQ a b c d + k.toNat := by have := hv.1; rw [show (0 : UInt64).toNat = 0 from rfl] at this; omega
 have F0 := And.intro hs0 <| And.intro hc0 <| And.intro hs1 <| And.intro hc1 <| And.intro hs2 <| And.intro hc2 <| And.intro hs3 <| And.intro hc3 <| And.intro hk <| hz
 refine Ct.k Tryd.func41 rfl Tryd.ntmps41 (congrArg Array.toList Tryd.results41) (by simp) fun w0 ro => ?_
 refine sr_k fun K1 hK1 => ?_
 simp only [go_sem, F0]
 repeat' (first | apply And.intro | intro _)
 refine hK1 _ ?_
 refine seq_k fun N2 M2 hN2 hM2 => ?_
 refine block_k fun B3 bn3 bx3 br3 bi3 => ?_
 refine rounds_k 2 ?_
 refine rnd_k fun N5 M5 hN5 hM5 => ?_
 refine seq_k fun N6 M6 hN6 hM6 => ?_
 refine sr_k fun K7 hK7 => ?_
 simp only [go_sem, F0]
 repeat' (first | apply And.intro | intro _)
 refine hK7 _ ?_
 refine condT_k (by first | rfl | (simp [go_sem, F0]; done)) ?_
 refine skip_k ?_
 refine hN6 _ ?_
 refine block_k fun B8 bn8 bx8 br8 bi8 => ?_
 refine sr_k fun K9 hK9 => ?_
 simp only [go_sem, F0]
 repeat' (first | apply And.intro | intro _)
 refine hK9 _ ?_
 refine sr_k fun K10 hK10 => ?_
 simp only [go_sem, F0]
 repeat' (first | apply And.intro | intro _)
 all_goals refine call_now (by first | rfl | (simp only [go_sem, F0] <;> rfl)) (now_add64 _ _ _ (by repeat' (first | assumption | decide | apply ad_le))) ?_
 all_goals simp only [go_sem, F0]
 all_goals repeat' (first | apply And.intro | intro _)
 refine hK10 _ ?_
 refine seq_k fun N11 M11 hN11 hM11 => ?_
 refine sr_k fun K12 hK12 => ?_
 simp only [go_sem, F0]
 repeat' (first | apply And.intro | intro _)
 refine hK12 _ ?_
 refine block_k fun B13 bn13 bx13 br13 bi13 => ?_
 refine rounds_k 4 ?_
 refine rnd_k fun N15 M15 hN15 hM15 => ?_
 refine seq_k fun N16 M16 hN16 hM16 => ?_
 refine sr_k fun K17 hK17 => ?_
 simp only [go_sem, F0]
 repeat' (first | apply And.intro | intro _)
 refine hK17 _ ?_
 refine condT_k (by first | rfl | (simp [go_sem, F0]; done)) ?_
 refine skip_k ?_
 refine hN16 _ ?_
 refine seq_k fun N18 M18 hN18 hM18 => ?_
 refine block_k fun B19 bn19 bx19 br19 bi19 => ?_
 refine region_k fun K20 hK20 => ?_
 simp only [go_sem, F0]
 repeat' (first | apply And.intro | intro _)
 all_goals refine call_now (by first | rfl | (simp only [go_sem, F0] <;> rfl)) (now_add64 _ _ _ (by repeat' (first | assumption | decide | apply ad_le))) ?_
 all_goals simp only [go_sem, F0]
 all_goals repeat' (first | apply And.intro | intro _)
 refine hK20 _ ?_
 refine bn19 _ ?_
 refine hN18 _ ?_
 refine region_k fun K21 hK21 => ?_
 simp only [go_sem, F0]
 repeat' (first | apply And.intro | intro _)
 refine hK21 _ ?_
 refine hN15 _ ?_
 refine rnd_forget [17, 18, 19, 20, 21, 22, 23, 24, 25, 26, 27, 28, 29, 30] ?_
 simp only [go_sem, St.forget, fgt]
 refine rnd_k fun N22 M22 hN22 hM22 => ?_
 refine seq_k fun N23 M23 hN23 hM23 => ?_
 refine sr_k fun K24 hK24 => ?_
 simp only [go_sem, F0]
 repeat' (first | apply And.intro | intro _)
 refine hK24 _ ?_
 refine condT_k (by first | rfl | (simp [go_sem, F0]; done)) ?_
 refine skip_k ?_
 refine hN23 _ ?_
 refine seq_k fun N25 M25 hN25 hM25 => ?_
 refine block_k fun B26 bn26 bx26 br26 bi26 => ?_
 refine region_k fun K27 hK27 => ?_
 simp only [go_sem, F0]
 repeat' (first | apply And.intro | intro _)
 all_goals refine call_now (by first | rfl | (simp only [go_sem, F0] <;> rfl)) (now_add64 _ _ _ (by repeat' (first | assumption | decide | apply ad_le))) ?_
 all_goals simp only [go_sem, F0]
 all_goals repeat' (first | apply And.intro | intro _)
 refine hK27 _ ?_
 refine bn26 _ ?_
 refine hN25 _ ?_
 refine region_k fun K28 hK28 => ?_
 simp only [go_sem, F0]
 repeat' (first | apply And.intro | intro _)
 refine hK28 _ ?_
 refine hN22 _ ?_
 refine rnd_forget [17, 18, 19, 20, 21, 22, 23, 24, 25, 26, 27, 28, 29, 30] ?_
 simp only [go_sem, St.forget, fgt]
 refine rnd_k fun N29 M29 hN29 hM29 => ?_
 refine seq_k fun N30 M30 hN30 hM30 => ?_
 refine sr_k fun K31 hK31 => ?_
 simp only [go_sem, F0]
 repeat' (first | apply And.intro | intro _)
 refine hK31 _ ?_
 refine condT_k (by first | rfl | (simp [go_sem, F0]; done)) ?_
 refine skip_k ?_
 refine hN30 _ ?_
 refine seq_k fun N32 M32 hN32 hM32 => ?_
 refine block_k fun B33 bn33 bx33 br33 bi33 => ?_
 refine region_k fun K34 hK34 => ?_
 simp only [go_sem, F0]
 repeat' (first | apply And.intro | intro _)
 all_goals refine call_now (by first | rfl | (simp only [go_sem, F0] <;> rfl)) (now_add64 _ _ _ (by repeat' (first | assumption | decide | apply ad_le))) ?_
 all_goals simp only [go_sem, F0]
 all_goals repeat' (first | apply And.intro | intro _)
 refine hK34 _ ?_
 refine bn33 _ ?_
 refine hN32 _ ?_
 refine region_k fun K35 hK35 => ?_
 simp only [go_sem, F0]
 repeat' (first | apply And.intro | intro _)
 refine hK35 _ ?_
 refine hN29 _ ?_
 refine rnd_forget [17, 18, 19, 20, 21, 22, 23, 24, 25, 26, 27, 28, 29, 30] ?_
 simp only [go_sem, St.forget, fgt]
 refine rnd_k fun N36 M36 hN36 hM36 => ?_
 refine seq_k fun N37 M37 hN37 hM37 => ?_
 refine sr_k fun K38 hK38 => ?_
 simp only [go_sem, F0]
 repeat' (first | apply And.intro | intro _)
 refine hK38 _ ?_
 refine condF_k (by first | rfl | (simp [go_sem, F0]; done)) ?_
 refine exit_k ?_
 refine hM37 _ _ ?_
 refine hM36 _ _ ?_
 refine bx13 _ ?_
 refine hN11 _ ?_
 refine region_k fun K39 hK39 => ?_
 simp only [go_sem, F0]
 repeat' (first | apply And.intro | intro _)
 refine hK39 _ ?_
 refine bn8 _ ?_
 refine hN5 _ ?_
 refine rnd_forget [5, 6, 7, 8, 9, 10, 11, 12, 13, 14, 15, 16, 17, 18, 19, 20, 21, 22, 23, 24, 25, 26, 27, 28, 29, 30, 31, 32] ?_
 simp only [go_sem, St.forget, fgt]
 refine rnd_k fun N40 M40 hN40 hM40 => ?_
 refine seq_k fun N41 M41 hN41 hM41 => ?_
 refine sr_k fun K42 hK42 => ?_
 simp only [go_sem, F0]
 repeat' (first | apply And.intro | intro _)
 refine hK42 _ ?_
 refine condF_k (by first | rfl | (simp [go_sem, F0]; done)) ?_
 refine exit_k ?_
 refine hM41 _ _ ?_
 refine hM40 _ _ ?_
 refine bx3 _ ?_
 refine hN2 _ ?_
 refine sr_k fun K43 hK43 => ?_
 simp only [go_sem, F0]
 repeat' (first | apply And.intro | intro _)
 refine hK43 _ ?_
 refine ret_k ?_
 simp only [go_sem, F0]
 all_goals (rw [w4C, ← he, ← w4_of]; rfl)
set_option maxHeartbeats 1600000 in
theorem plus_o (a b c d k : UInt64) (hk : ¬ k = 0) (hn : ¬ vQ a b c d + k.toNat < m4) :
 Ct Tryd.prog 41 [.w (.agg [.pl (.u64 a), .pl (.u64 b), .pl (.u64 c), .pl (.u64 d)]), .w (.one (.pl (.u64 k)))] (fun v m => v = .w (.agg (w4C (vQ a b c d + k.toNat - m4 + 38)))) := by
 obtain ⟨s0, hs0⟩ : ∃ z, adS a k 0 = z := ⟨_, rfl⟩
 obtain ⟨c0, hc0⟩ : ∃ z, adC a k 0 = z := ⟨_, rfl⟩
 have lc0 : c0.toNat ≤ 1 := by rw [← hc0]; exact ad_le (by first | assumption | decide)
 obtain ⟨s1, hs1⟩ : ∃ z, adS b 0 c0 = z := ⟨_, rfl⟩
 obtain ⟨c1, hc1⟩ : ∃ z, adC b 0 c0 = z := ⟨_, rfl⟩
 have lc1 : c1.toNat ≤ 1 := by rw [← hc1]; exact ad_le (by first | assumption | decide)
 obtain ⟨s2, hs2⟩ : ∃ z, adS c 0 c1 = z := ⟨_, rfl⟩
 obtain ⟨c2, hc2⟩ : ∃ z, adC c 0 c1 = z := ⟨_, rfl⟩
 have lc2 : c2.toNat ≤ 1 := by rw [← hc2]; exact ad_le (by first | assumption | decide)
 obtain ⟨s3, hs3⟩ : ∃ z, adS d 0 c2 = z := ⟨_, rfl⟩
 obtain ⟨c3, hc3⟩ : ∃ z, adC d 0 c2 = z := ⟨_, rfl⟩
 have lc3 : c3.toNat ≤ 1 := by rw [← hc3]; exact ad_le (by first | assumption | decide)
 have hv : vQ s0 s1 s2 s3 + m4 * c3.toNat = vQ a b c d + vQ k 0 0 0 ∧ c3.toNat ≤ 1 := by
  have h := add4_val a b c d k 0 0 0
  simp only [ak1, ak2, ak3, ak4, hs0, hc0, hs1, hc1, hs2, hc2, hs3, hc3] at h
  exact h
 rw [vQ_one] at hv
 have hlt := vQ_lt s0 s1 s2 s3
 have hm := m4_is
 have hkl := k.toNat_lt
 have hal := vQ_lt a b c d
 have hc : c3 = 1 := UInt64.toNat_inj.mp (by show c3.toNat = 1; obtain ⟨h1, h2⟩ := hv; rw [hm] at h1 hn; omega)
 subst hc
 have hz : (38 : UInt64) * 1 = 38 := rfl
 obtain ⟨r0, hr0⟩ : ∃ z, adS s0 38 0 = z := ⟨_, rfl⟩
 obtain ⟨d0, hd0⟩ : ∃ z, adC s0 38 0 = z := ⟨_, rfl⟩
 have ld0 : d0.toNat ≤ 1 := by rw [← hd0]; exact ad_le (by first | assumption | decide)
 obtain ⟨r1, hr1⟩ : ∃ z, adS s1 0 d0 = z := ⟨_, rfl⟩
 obtain ⟨d1, hd1⟩ : ∃ z, adC s1 0 d0 = z := ⟨_, rfl⟩
 have ld1 : d1.toNat ≤ 1 := by rw [← hd1]; exact ad_le (by first | assumption | decide)
 obtain ⟨r2, hr2⟩ : ∃ z, adS s2 0 d1 = z := ⟨_, rfl⟩
 obtain ⟨d2, hd2⟩ : ∃ z, adC s2 0 d1 = z := ⟨_, rfl⟩
 have ld2 : d2.toNat ≤ 1 := by rw [← hd2]; exact ad_le (by first | assumption | decide)
 obtain ⟨r3, hr3⟩ : ∃ z, adS s3 0 d2 = z := ⟨_, rfl⟩
 obtain ⟨d3, hd3⟩ : ∃ z, adC s3 0 d2 = z := ⟨_, rfl⟩
 have ld3 : d3.toNat ≤ 1 := by rw [← hd3]; exact ad_le (by first | assumption | decide)
 have hw : vQ r0 r1 r2 r3 + m4 * d3.toNat = vQ s0 s1 s2 s3 + vQ 38 0 0 0 ∧ d3.toNat ≤ 1 := by
  have h := add4_val s0 s1 s2 s3 38 0 0 0
  simp only [ak1, ak2, ak3, ak4, hr0, hd0, hr1, hd1, hr2, hd2, hr3, hd3] at h
  exact h
 rw [vQ_one] at hw
 have h38 : (38 : UInt64).toNat = 38 := rfl
 have h1 : (1 : UInt64).toNat = 1 := rfl
 have hd : d3 = 0 := UInt64.toNat_inj.mp (by show d3.toNat = 0; obtain ⟨e1, e2⟩ := hv; obtain ⟨e3, e4⟩ := hw; rw [h38] at e3; rw [h1] at e1; rw [hm] at e1 e3 hn; omega)
 subst hd
 have hz2 : (38 : UInt64) * 0 = 0 := rfl
 have he : vQ r0 r1 r2 r3 = vQ a b c d + k.toNat - m4 + 38 := by
  obtain ⟨e1, e2⟩ := hv; obtain ⟨e3, e4⟩ := hw; rw [h38, show (0 : UInt64).toNat = 0 from rfl] at e3; rw [h1] at e1; rw [hm] at *; omega
 have F0 := And.intro hs0 <| And.intro hc0 <| And.intro hs1 <| And.intro hc1 <| And.intro hs2 <| And.intro hc2 <| And.intro hs3 <| And.intro hc3 <| And.intro hr0 <| And.intro hd0 <| And.intro hr1 <| And.intro hd1 <| And.intro hr2 <| And.intro hd2 <| And.intro hr3 <| And.intro hd3 <| And.intro hk <| And.intro hz <| hz2
 refine Ct.k Tryd.func41 rfl Tryd.ntmps41 (congrArg Array.toList Tryd.results41) (by simp) fun w0 ro => ?_
 refine sr_k fun K1 hK1 => ?_
 simp only [go_sem, F0]
 repeat' (first | apply And.intro | intro _)
 refine hK1 _ ?_
 refine seq_k fun N2 M2 hN2 hM2 => ?_
 refine block_k fun B3 bn3 bx3 br3 bi3 => ?_
 refine rounds_k 3 ?_
 refine rnd_k fun N5 M5 hN5 hM5 => ?_
 refine seq_k fun N6 M6 hN6 hM6 => ?_
 refine sr_k fun K7 hK7 => ?_
 simp only [go_sem, F0]
 repeat' (first | apply And.intro | intro _)
 refine hK7 _ ?_
 refine condT_k (by first | rfl | (simp [go_sem, F0]; done)) ?_
 refine skip_k ?_
 refine hN6 _ ?_
 refine block_k fun B8 bn8 bx8 br8 bi8 => ?_
 refine sr_k fun K9 hK9 => ?_
 simp only [go_sem, F0]
 repeat' (first | apply And.intro | intro _)
 refine hK9 _ ?_
 refine sr_k fun K10 hK10 => ?_
 simp only [go_sem, F0]
 repeat' (first | apply And.intro | intro _)
 all_goals refine call_now (by first | rfl | (simp only [go_sem, F0] <;> rfl)) (now_add64 _ _ _ (by repeat' (first | assumption | decide | apply ad_le))) ?_
 all_goals simp only [go_sem, F0]
 all_goals repeat' (first | apply And.intro | intro _)
 refine hK10 _ ?_
 refine seq_k fun N11 M11 hN11 hM11 => ?_
 refine sr_k fun K12 hK12 => ?_
 simp only [go_sem, F0]
 repeat' (first | apply And.intro | intro _)
 refine hK12 _ ?_
 refine block_k fun B13 bn13 bx13 br13 bi13 => ?_
 refine rounds_k 4 ?_
 refine rnd_k fun N15 M15 hN15 hM15 => ?_
 refine seq_k fun N16 M16 hN16 hM16 => ?_
 refine sr_k fun K17 hK17 => ?_
 simp only [go_sem, F0]
 repeat' (first | apply And.intro | intro _)
 refine hK17 _ ?_
 refine condT_k (by first | rfl | (simp [go_sem, F0]; done)) ?_
 refine skip_k ?_
 refine hN16 _ ?_
 refine seq_k fun N18 M18 hN18 hM18 => ?_
 refine block_k fun B19 bn19 bx19 br19 bi19 => ?_
 refine region_k fun K20 hK20 => ?_
 simp only [go_sem, F0]
 repeat' (first | apply And.intro | intro _)
 all_goals refine call_now (by first | rfl | (simp only [go_sem, F0] <;> rfl)) (now_add64 _ _ _ (by repeat' (first | assumption | decide | apply ad_le))) ?_
 all_goals simp only [go_sem, F0]
 all_goals repeat' (first | apply And.intro | intro _)
 refine hK20 _ ?_
 refine bn19 _ ?_
 refine hN18 _ ?_
 refine region_k fun K21 hK21 => ?_
 simp only [go_sem, F0]
 repeat' (first | apply And.intro | intro _)
 refine hK21 _ ?_
 refine hN15 _ ?_
 refine rnd_forget [17, 18, 19, 20, 21, 22, 23, 24, 25, 26, 27, 28, 29, 30] ?_
 simp only [go_sem, St.forget, fgt]
 refine rnd_k fun N22 M22 hN22 hM22 => ?_
 refine seq_k fun N23 M23 hN23 hM23 => ?_
 refine sr_k fun K24 hK24 => ?_
 simp only [go_sem, F0]
 repeat' (first | apply And.intro | intro _)
 refine hK24 _ ?_
 refine condT_k (by first | rfl | (simp [go_sem, F0]; done)) ?_
 refine skip_k ?_
 refine hN23 _ ?_
 refine seq_k fun N25 M25 hN25 hM25 => ?_
 refine block_k fun B26 bn26 bx26 br26 bi26 => ?_
 refine region_k fun K27 hK27 => ?_
 simp only [go_sem, F0]
 repeat' (first | apply And.intro | intro _)
 all_goals refine call_now (by first | rfl | (simp only [go_sem, F0] <;> rfl)) (now_add64 _ _ _ (by repeat' (first | assumption | decide | apply ad_le))) ?_
 all_goals simp only [go_sem, F0]
 all_goals repeat' (first | apply And.intro | intro _)
 refine hK27 _ ?_
 refine bn26 _ ?_
 refine hN25 _ ?_
 refine region_k fun K28 hK28 => ?_
 simp only [go_sem, F0]
 repeat' (first | apply And.intro | intro _)
 refine hK28 _ ?_
 refine hN22 _ ?_
 refine rnd_forget [17, 18, 19, 20, 21, 22, 23, 24, 25, 26, 27, 28, 29, 30] ?_
 simp only [go_sem, St.forget, fgt]
 refine rnd_k fun N29 M29 hN29 hM29 => ?_
 refine seq_k fun N30 M30 hN30 hM30 => ?_
 refine sr_k fun K31 hK31 => ?_
 simp only [go_sem, F0]
 repeat' (first | apply And.intro | intro _)
 refine hK31 _ ?_
 refine condT_k (by first | rfl | (simp [go_sem, F0]; done)) ?_
 refine skip_k ?_
 refine hN30 _ ?_
 refine seq_k fun N32 M32 hN32 hM32 => ?_
 refine block_k fun B33 bn33 bx33 br33 bi33 => ?_
 refine region_k fun K34 hK34 => ?_
 simp only [go_sem, F0]
 repeat' (first | apply And.intro | intro _)
 all_goals refine call_now (by first | rfl | (simp only [go_sem, F0] <;> rfl)) (now_add64 _ _ _ (by repeat' (first | assumption | decide | apply ad_le))) ?_
 all_goals simp only [go_sem, F0]
 all_goals repeat' (first | apply And.intro | intro _)
 refine hK34 _ ?_
 refine bn33 _ ?_
 refine hN32 _ ?_
 refine region_k fun K35 hK35 => ?_
 simp only [go_sem, F0]
 repeat' (first | apply And.intro | intro _)
 refine hK35 _ ?_
 refine hN29 _ ?_
 refine rnd_forget [17, 18, 19, 20, 21, 22, 23, 24, 25, 26, 27, 28, 29, 30] ?_
 simp only [go_sem, St.forget, fgt]
 refine rnd_k fun N36 M36 hN36 hM36 => ?_
 refine seq_k fun N37 M37 hN37 hM37 => ?_
 refine sr_k fun K38 hK38 => ?_
 simp only [go_sem, F0]
 repeat' (first | apply And.intro | intro _)
 refine hK38 _ ?_
 refine condF_k (by first | rfl | (simp [go_sem, F0]; done)) ?_
 refine exit_k ?_
 refine hM37 _ _ ?_
 refine hM36 _ _ ?_
 refine bx13 _ ?_
 refine hN11 _ ?_
 refine region_k fun K39 hK39 => ?_
 simp only [go_sem, F0]
 repeat' (first | apply And.intro | intro _)
 refine hK39 _ ?_
 refine bn8 _ ?_
 refine hN5 _ ?_
 refine rnd_forget [5, 6, 7, 8, 9, 10, 11, 12, 13, 14, 15, 16, 17, 18, 19, 20, 21, 22, 23, 24, 25, 26, 27, 28, 29, 30, 31, 32] ?_
 simp only [go_sem, St.forget, fgt]
 refine rnd_k fun N40 M40 hN40 hM40 => ?_
 refine seq_k fun N41 M41 hN41 hM41 => ?_
 refine sr_k fun K42 hK42 => ?_
 simp only [go_sem, F0]
 repeat' (first | apply And.intro | intro _)
 refine hK42 _ ?_
 refine condT_k (by first | rfl | (simp [go_sem, F0]; done)) ?_
 refine skip_k ?_
 refine hN41 _ ?_
 refine block_k fun B43 bn43 bx43 br43 bi43 => ?_
 refine sr_k fun K44 hK44 => ?_
 simp only [go_sem, F0]
 repeat' (first | apply And.intro | intro _)
 refine hK44 _ ?_
 refine sr_k fun K45 hK45 => ?_
 simp only [go_sem, F0]
 repeat' (first | apply And.intro | intro _)
 all_goals refine call_now (by first | rfl | (simp only [go_sem, F0] <;> rfl)) (now_add64 _ _ _ (by repeat' (first | assumption | decide | apply ad_le))) ?_
 all_goals simp only [go_sem, F0]
 all_goals repeat' (first | apply And.intro | intro _)
 refine hK45 _ ?_
 refine seq_k fun N46 M46 hN46 hM46 => ?_
 refine sr_k fun K47 hK47 => ?_
 simp only [go_sem, F0]
 repeat' (first | apply And.intro | intro _)
 refine hK47 _ ?_
 refine block_k fun B48 bn48 bx48 br48 bi48 => ?_
 refine rounds_k 4 ?_
 refine rnd_k fun N50 M50 hN50 hM50 => ?_
 refine seq_k fun N51 M51 hN51 hM51 => ?_
 refine sr_k fun K52 hK52 => ?_
 simp only [go_sem, F0]
 repeat' (first | apply And.intro | intro _)
 refine hK52 _ ?_
 refine condT_k (by first | rfl | (simp [go_sem, F0]; done)) ?_
 refine skip_k ?_
 refine hN51 _ ?_
 refine seq_k fun N53 M53 hN53 hM53 => ?_
 refine block_k fun B54 bn54 bx54 br54 bi54 => ?_
 refine region_k fun K55 hK55 => ?_
 simp only [go_sem, F0]
 repeat' (first | apply And.intro | intro _)
 all_goals refine call_now (by first | rfl | (simp only [go_sem, F0] <;> rfl)) (now_add64 _ _ _ (by repeat' (first | assumption | decide | apply ad_le))) ?_
 all_goals simp only [go_sem, F0]
 all_goals repeat' (first | apply And.intro | intro _)
 refine hK55 _ ?_
 refine bn54 _ ?_
 refine hN53 _ ?_
 refine region_k fun K56 hK56 => ?_
 simp only [go_sem, F0]
 repeat' (first | apply And.intro | intro _)
 refine hK56 _ ?_
 refine hN50 _ ?_
 refine rnd_forget [17, 18, 19, 20, 21, 22, 23, 24, 25, 26, 27, 28, 29, 30] ?_
 simp only [go_sem, St.forget, fgt]
 refine rnd_k fun N57 M57 hN57 hM57 => ?_
 refine seq_k fun N58 M58 hN58 hM58 => ?_
 refine sr_k fun K59 hK59 => ?_
 simp only [go_sem, F0]
 repeat' (first | apply And.intro | intro _)
 refine hK59 _ ?_
 refine condT_k (by first | rfl | (simp [go_sem, F0]; done)) ?_
 refine skip_k ?_
 refine hN58 _ ?_
 refine seq_k fun N60 M60 hN60 hM60 => ?_
 refine block_k fun B61 bn61 bx61 br61 bi61 => ?_
 refine region_k fun K62 hK62 => ?_
 simp only [go_sem, F0]
 repeat' (first | apply And.intro | intro _)
 all_goals refine call_now (by first | rfl | (simp only [go_sem, F0] <;> rfl)) (now_add64 _ _ _ (by repeat' (first | assumption | decide | apply ad_le))) ?_
 all_goals simp only [go_sem, F0]
 all_goals repeat' (first | apply And.intro | intro _)
 refine hK62 _ ?_
 refine bn61 _ ?_
 refine hN60 _ ?_
 refine region_k fun K63 hK63 => ?_
 simp only [go_sem, F0]
 repeat' (first | apply And.intro | intro _)
 refine hK63 _ ?_
 refine hN57 _ ?_
 refine rnd_forget [17, 18, 19, 20, 21, 22, 23, 24, 25, 26, 27, 28, 29, 30] ?_
 simp only [go_sem, St.forget, fgt]
 refine rnd_k fun N64 M64 hN64 hM64 => ?_
 refine seq_k fun N65 M65 hN65 hM65 => ?_
 refine sr_k fun K66 hK66 => ?_
 simp only [go_sem, F0]
 repeat' (first | apply And.intro | intro _)
 refine hK66 _ ?_
 refine condT_k (by first | rfl | (simp [go_sem, F0]; done)) ?_
 refine skip_k ?_
 refine hN65 _ ?_
 refine seq_k fun N67 M67 hN67 hM67 => ?_
 refine block_k fun B68 bn68 bx68 br68 bi68 => ?_
 refine region_k fun K69 hK69 => ?_
 simp only [go_sem, F0]
 repeat' (first | apply And.intro | intro _)
 all_goals refine call_now (by first | rfl | (simp only [go_sem, F0] <;> rfl)) (now_add64 _ _ _ (by repeat' (first | assumption | decide | apply ad_le))) ?_
 all_goals simp only [go_sem, F0]
 all_goals repeat' (first | apply And.intro | intro _)
 refine hK69 _ ?_
 refine bn68 _ ?_
 refine hN67 _ ?_
 refine region_k fun K70 hK70 => ?_
 simp only [go_sem, F0]
 repeat' (first | apply And.intro | intro _)
 refine hK70 _ ?_
 refine hN64 _ ?_
 refine rnd_forget [17, 18, 19, 20, 21, 22, 23, 24, 25, 26, 27, 28, 29, 30] ?_
 simp only [go_sem, St.forget, fgt]
 refine rnd_k fun N71 M71 hN71 hM71 => ?_
 refine seq_k fun N72 M72 hN72 hM72 => ?_
 refine sr_k fun K73 hK73 => ?_
 simp only [go_sem, F0]
 repeat' (first | apply And.intro | intro _)
 refine hK73 _ ?_
 refine condF_k (by first | rfl | (simp [go_sem, F0]; done)) ?_
 refine exit_k ?_
 refine hM72 _ _ ?_
 refine hM71 _ _ ?_
 refine bx48 _ ?_
 refine hN46 _ ?_
 refine region_k fun K74 hK74 => ?_
 simp only [go_sem, F0]
 repeat' (first | apply And.intro | intro _)
 refine hK74 _ ?_
 refine bn43 _ ?_
 refine hN40 _ ?_
 refine rnd_forget [5, 6, 7, 8, 9, 10, 11, 12, 13, 14, 15, 16, 17, 18, 19, 20, 21, 22, 23, 24, 25, 26, 27, 28, 29, 30, 31, 32] ?_
 simp only [go_sem, St.forget, fgt]
 refine rnd_k fun N75 M75 hN75 hM75 => ?_
 refine seq_k fun N76 M76 hN76 hM76 => ?_
 refine sr_k fun K77 hK77 => ?_
 simp only [go_sem, F0]
 repeat' (first | apply And.intro | intro _)
 refine hK77 _ ?_
 refine condF_k (by first | rfl | (simp [go_sem, F0]; done)) ?_
 refine exit_k ?_
 refine hM76 _ _ ?_
 refine hM75 _ _ ?_
 refine bx3 _ ?_
 refine hN2 _ ?_
 refine sr_k fun K78 hK78 => ?_
 simp only [go_sem, F0]
 repeat' (first | apply And.intro | intro _)
 refine hK78 _ ?_
 refine ret_k ?_
 simp only [go_sem, F0]
 all_goals (rw [w4C, ← he, ← w4_of]; rfl)
theorem plus_ (a b c d k : UInt64) : Ct Tryd.prog 41 [.w (.agg [.pl (.u64 a), .pl (.u64 b), .pl (.u64 c), .pl (.u64 d)]), .w (.one (.pl (.u64 k)))] (fun v m => v = .w (.agg (w4C (plusN (vQ a b c d) k.toNat)))) := by
 unfold plusN
 by_cases hk : k = 0
 · subst hk
   have h0 : (0 : UInt64).toNat = 0 := rfl
   rw [if_pos (by rw [h0, m4_is]; exact vQ_lt a b c d), h0]
   exact plus_z a b c d
 · by_cases hn : vQ a b c d + k.toNat < m4
   · rw [if_pos hn]; exact plus_n a b c d k hk hn
   · rw [if_neg hn]; exact plus_o a b c d k hk hn
end Go.Sy

