/- Walks: a block taken in, as the document tells it. -/
import Derived.Test.YthcpkdhojokhdaaveE12
set_option linter.unusedVariables false
set_option linter.unusedSimpArgs false
namespace Go.Sy
open Go.Proofs
attribute [local irreducible] atCall HT runOps runD onC onE onO onG goV goA goS onSt onGuard
theorem leN_one (n : Nat) : leN (1 :: List.replicate n 0) = 1 := by simp only [leN, leN_zeros]; rfl
theorem blk_val {l b : List UInt8} {y : Nat} (h : l ++ 1 :: List.replicate y 0 = b) (hl : b.length = 24) : val3 (lev (b.take 8)) (lev ((b.drop 8).take 8)) (lev ((b.drop 16).take 8)) = leN l + 256 ^ l.length := by
 rw [pieces24 hl, ← h, leN_append, leN_one, Nat.mul_one]
set_option maxHeartbeats 3200000 in
set_option maxRecDepth 100000 in
theorem psoaked_ (r0 r1 p0 p1 a0 a1 a2 : UInt64) (held : List UInt8) (hh : held.length = 16) (n : Int) (ha : a2.toNat < 4) (l : List UInt8) (hl : l.length ≤ 16) :
 Ct Try.prog 45 [.w (.agg (polyC r0 r1 p0 p1 a0 a1 a2 held n)), .w (.one (.pl (.str l)))] (fun v m => v = .w (.agg (polyC r0 r1 p0 p1 (sp0 (soakV a0 a1 a2 r0 r1 l)) (sp1 (soakV a0 a1 a2 r0 r1 l)) (sp2 (soakV a0 a1 a2 r0 r1 l)) (List.replicate 16 0) 0))) := by
 have hm1 : l.length + 1 ≤ 9223372036854775807 := by omega
 refine Ct.k Try.func45 rfl Try.ntmps45 (congrArg Array.toList Try.results45) (by simp) fun w0 ro => ?_
 refine sr_k fun K1 hK1 => ?_
 simp only [go_sem, polyC, W3, P5.ls, hh, hm1, Int.toNat_one]
 all_goals repeat' (first | apply And.intro | intro _)
 refine hK1 _ ?_
 refine sr_k fun K2 hK2 => ?_
 simp only [go_sem, polyC, W3, P5.ls, hh, hm1, Int.toNat_one]
 all_goals repeat' (first | apply And.intro | intro _)
 refine hK2 _ ?_
 refine seq_k fun N3 M3 hN3 hM3 => ?_
 refine block_k fun B4 bn4 bx4 br4 bi4 => ?_
 refine ht_dropE [0, 1, 9, 10] ?_
 simp only [dropE_mk, fgt_nil, fgt_cons, List.contains_cons, List.contains_nil, Nat.reduceBEq, beq_self_eq_true, Bool.or_false, Bool.or_true, Bool.true_or, Bool.false_or, Bool.false_eq_true, reduceIte]
 refine loop_k (fun y => [(5, .w (.one (.pl (.str (l ++ 1 :: List.replicate y.1 0)))))]) (fun _ => []) (fun y => 23 - l.length - y.1) (⟨0, Nat.zero_le _⟩ : {y : Nat // y ≤ 23 - l.length}) ?_ ?_ ?_
 · (simp only [go_sem, leX, List.cons_append, List.nil_append, List.replicate_zero]; try simp)
 · (simp only [go_sem, leX, List.cons_append, List.nil_append]; try simp)
 intro yy N5 M5 hN5 hM5
 simp only [List.cons_append, List.nil_append]
 obtain ⟨y, hy⟩ := yy
 obtain ⟨b, hb⟩ : ∃ b, l ++ 1 :: List.replicate y 0 = b := ⟨_, rfl⟩
 have hbl : b.length = l.length + 1 + y := by rw [← hb]; simp; omega
 simp only [hb]
 rcases Nat.lt_or_ge y (23 - l.length) with hlt | hge
 · have hcq : ((b.length : Nat) : Int) < 24 := by omega
   have hml : b.length + 1 ≤ 9223372036854775807 := by omega
   have hnx : b ++ [0] = l ++ 1 :: List.replicate (y + 1) 0 := by rw [← hb, List.append_assoc, List.cons_append, ← List.replicate_succ']
   refine seq_k fun N6 M6 hN6 hM6 => ?_
   refine sr_k fun K7 hK7 => ?_
   simp only [go_sem, polyC, W3, P5.ls, hh, hm1, Int.toNat_one, hcq, hml]
   all_goals repeat' (first | apply And.intro | intro _)
   refine hK7 _ ?_
   refine condT_k (by first | rfl | (simp [go_sem, polyC, W3, P5.ls, hh, hm1, Int.toNat_one, hcq, hml]; done)) ?_
   refine skip_k ?_
   refine hN6 _ ?_
   refine block_k fun B8 bn8 bx8 br8 bi8 => ?_
   refine region_k fun K9 hK9 => ?_
   simp only [go_sem, polyC, W3, P5.ls, hh, hm1, Int.toNat_one, hcq, hml]
   all_goals repeat' (first | apply And.intro | intro _)
   refine hK9 _ ?_
   refine bn8 _ ?_
   refine hN5 ⟨y + 1, hlt⟩ _ ?_ ?_ ?_
   · (show 23 - l.length - (y + 1) < 23 - l.length - y; omega)
   · (simp only [hnx, go_sem, leX, List.cons_append, List.nil_append]; try simp [hnx])
   · (simp only [go_sem, leX, List.cons_append, List.nil_append]; try simp)
 · have hbl : b.length = 24 := by omega
   have hn := blk_val hb hbl
   have hcq : ¬ ((24 : Nat) : Int) < 24 := by omega
   obtain ⟨ps0, ps1, ps2⟩ := psoak_of (r0 := r0) (r1 := r1) (a0 := a0) (a1 := a1) hn hl ha
   refine seq_k fun N10 M10 hN10 hM10 => ?_
   refine sr_k fun K11 hK11 => ?_
   simp only [go_sem, polyC, W3, P5.ls, hh, hm1, Int.toNat_one, hcq, hbl]
   all_goals repeat' (first | apply And.intro | intro _)
   refine hK11 _ ?_
   refine condF_k (by first | rfl | (simp [go_sem, polyC, W3, P5.ls, hh, hm1, Int.toNat_one, hcq, hbl]; done)) ?_
   refine exit_k ?_
   refine hM10 _ _ ?_
   refine hM5 _ _ ?_
   refine bx4 _ ?_
   refine hN3 _ ?_
   refine sd_k [16, 17, 18, 19, 20, 21, 22, 23, 24, 25, 26, 6] [0, 1, 3, 0, 8, 31, 0, 64, 255, 511, 1023, 0, 4095] [] mixed (by kernel_rfl) (by simp only [go_sem]) fun K12 hK12 => ?_
   simp only [go_sem, polyC, W3, P5.ls, hh, hm1, Int.toNat_one, hcq, hbl]
   all_goals repeat' (first | apply And.intro | intro _)
   all_goals refine call_draw (fun k => k) _ [] (fun _ _ => rfl) (by first | rfl | (simp only [go_sem, polyC, W3, P5.ls, hh, hm1, Int.toNat_one, hcq, hbl]; rfl) | simp only [go_sem, polyC, W3, P5.ls, hh, hm1, Int.toNat_one, hcq, hbl]) ((number_ _ (by first | (simp [List.length_take, List.length_drop]; done) | (simp [List.length_take, List.length_drop]; omega))).plain fun _ _ h => h) ?_ ?_
   all_goals try (refine And.intro ?_ (And.intro ?_ (And.intro ?_ ?_)) <;> first | rfl | simp only [go_sem])
   all_goals simp only [go_sem, polyC, W3, P5.ls, hh, hm1, Int.toNat_one, hcq, hbl]
   all_goals repeat' (first | apply And.intro | intro _)
   all_goals refine call_draw (fun k => k) _ [] (fun _ _ => rfl) (by first | rfl | (simp only [go_sem, polyC, W3, P5.ls, hh, hm1, Int.toNat_one, hcq, hbl]; rfl) | simp only [go_sem, polyC, W3, P5.ls, hh, hm1, Int.toNat_one, hcq, hbl]) ((number_ _ (by first | (simp [List.length_take, List.length_drop]; done) | (simp [List.length_take, List.length_drop]; omega))).plain fun _ _ h => h) ?_ ?_
   all_goals try (refine And.intro ?_ (And.intro ?_ (And.intro ?_ ?_)) <;> first | rfl | simp only [go_sem])
   all_goals simp only [go_sem, polyC, W3, P5.ls, hh, hm1, Int.toNat_one, hcq, hbl]
   all_goals repeat' (first | apply And.intro | intro _)
   all_goals refine call_draw (fun k => k) _ [] (fun _ _ => rfl) (by first | rfl | (simp only [go_sem, polyC, W3, P5.ls, hh, hm1, Int.toNat_one, hcq, hbl]; rfl) | simp only [go_sem, polyC, W3, P5.ls, hh, hm1, Int.toNat_one, hcq, hbl]) ((number_ _ (by first | (simp [List.length_take, List.length_drop]; done) | (simp [List.length_take, List.length_drop]; omega))).plain fun _ _ h => h) ?_ ?_
   all_goals try (refine And.intro ?_ (And.intro ?_ (And.intro ?_ ?_)) <;> first | rfl | simp only [go_sem])
   all_goals simp only [go_sem, polyC, W3, P5.ls, hh, hm1, Int.toNat_one, hcq, hbl]
   all_goals repeat' (first | apply And.intro | intro _)
   all_goals refine call_draw (fun k => k) _ [] (fun _ _ => rfl) (by first | rfl | (simp only [go_sem, polyC, W3, P5.ls, hh, hm1, Int.toNat_one, hcq, hbl]; rfl) | simp only [go_sem, polyC, W3, P5.ls, hh, hm1, Int.toNat_one, hcq, hbl]) ((parts_of (lev (b.take 8)) (lev ((b.drop 8).take 8)) (lev ((b.drop 16).take 8))).plain fun _ _ h => h) ?_ ?_
   all_goals try (refine And.intro ?_ (And.intro ?_ (And.intro ?_ ?_)) <;> first | rfl | simp only [go_sem])
   all_goals simp only [go_sem, polyC, W3, P5.ls, hh, hm1, Int.toNat_one, hcq, hbl]
   all_goals repeat' (first | apply And.intro | intro _)
   refine hK12 _ _ ?_ ?_
   · first | trivial | (simp only [go_sem]; done) | (simp only [go_sem]; simp; done) | (simp only [go_sem]; simp; simp only [go_sem])
   refine sr_k fun K13 hK13 => ?_
   simp only [go_sem, polyC, W3, P5.ls, hh, hm1, Int.toNat_one, hcq, hbl]
   all_goals repeat' (first | apply And.intro | intro _)
   all_goals refine call_view (fun k => k) (fun _ _ => rfl) (by first | rfl | (simp only [go_sem, polyC, W3, P5.ls, hh, hm1, Int.toNat_one, hcq, hbl]; rfl) | simp only [go_sem, polyC, W3, P5.ls, hh, hm1, Int.toNat_one, hcq, hbl]) ((parts_of a0 a1 a2).plain fun _ _ h => h) ?_
   all_goals (rintro v m ⟨hR, hm⟩; subst hR; subst hm)
   all_goals refine And.intro (by first | rfl | simp only [go_sem, polyC, W3, P5.ls, hh, hm1, Int.toNat_one, hcq, hbl]) (And.intro (by first | rfl | simp only [go_sem, polyC, W3, P5.ls, hh, hm1, Int.toNat_one, hcq, hbl]) ?_)
   all_goals simp only [go_sem, polyC, W3, P5.ls, hh, hm1, Int.toNat_one, hcq, hbl]
   all_goals repeat' (first | apply And.intro | intro _)
   refine hK13 _ ?_
   refine seq_k fun N14 M14 hN14 hM14 => ?_
   refine sr_k fun K15 hK15 => ?_
   simp only [go_sem, polyC, W3, P5.ls, hh, hm1, Int.toNat_one, hcq, hbl]
   all_goals repeat' (first | apply And.intro | intro _)
   refine hK15 _ ?_
   refine block_k fun B16 bn16 bx16 br16 bi16 => ?_
   refine rounds_k 6 ?_
   refine rnd_k fun N18 M18 hN18 hM18 => ?_
   refine sr_k fun K19 hK19 => ?_
   simp only [go_sem, polyC, W3, P5.ls, hh, hm1, Int.toNat_one, hcq, hbl]
   all_goals repeat' (first | apply And.intro | intro _)
   refine hK19 _ ?_
   refine seq_k fun N20 M20 hN20 hM20 => ?_
   refine condT_k (by first | rfl | (simp [go_sem, polyC, W3, P5.ls, hh, hm1, Int.toNat_one, hcq, hbl]; done)) ?_
   refine skip_k ?_
   refine hN20 _ ?_
   refine seq_k fun N21 M21 hN21 hM21 => ?_
   refine block_k fun B22 bn22 bx22 br22 bi22 => ?_
   refine sr_k fun K23 hK23 => ?_
   simp only [go_sem, polyC, W3, P5.ls, hh, hm1, Int.toNat_one, hcq, hbl]
   all_goals repeat' (first | apply And.intro | intro _)
   refine hK23 _ ?_
   refine draw_k [33, 34, 35, 36, 37, 38, 39, 40] [0, 1, 3, 0, 8, 24, 63, 127, 255] [] mixed (by kernel_rfl) (by simp only [go_sem]) fun K24 hK24 => ?_
   simp only [go_sem, polyC, W3, P5.ls, hh, hm1, Int.toNat_one, hcq, hbl]
   all_goals repeat' (first | apply And.intro | intro _)
   refine hK24 _ _ ?_ ?_
   · first | trivial | (simp only [go_sem]; done) | (simp only [go_sem]; simp; done) | (simp only [go_sem]; simp; simp only [go_sem])
   refine bn22 _ ?_
   refine hN21 _ ?_
   refine region_k fun K25 hK25 => ?_
   simp only [go_sem, polyC, W3, P5.ls, hh, hm1, Int.toNat_one, hcq, hbl]
   all_goals repeat' (first | apply And.intro | intro _)
   refine hK25 _ ?_
   refine hN18 _ ?_
   refine rnd_forget [8, 31, 32, 33, 34, 35, 36, 37, 38, 39, 40, 41] ?_
   simp only [go_sem, St.forget, fgt]
   refine rnd_k fun N26 M26 hN26 hM26 => ?_
   refine sr_k fun K27 hK27 => ?_
   simp only [go_sem, polyC, W3, P5.ls, hh, hm1, Int.toNat_one, hcq, hbl]
   all_goals repeat' (first | apply And.intro | intro _)
   refine hK27 _ ?_
   refine seq_k fun N28 M28 hN28 hM28 => ?_
   refine condT_k (by first | rfl | (simp [go_sem, polyC, W3, P5.ls, hh, hm1, Int.toNat_one, hcq, hbl]; done)) ?_
   refine skip_k ?_
   refine hN28 _ ?_
   refine seq_k fun N29 M29 hN29 hM29 => ?_
   refine block_k fun B30 bn30 bx30 br30 bi30 => ?_
   refine sr_k fun K31 hK31 => ?_
   simp only [go_sem, polyC, W3, P5.ls, hh, hm1, Int.toNat_one, hcq, hbl]
   all_goals repeat' (first | apply And.intro | intro _)
   refine hK31 _ ?_
   refine draw_k [33, 34, 35, 36, 37, 38, 39, 40] [0, 1, 3, 0, 8, 24, 63, 127, 255] [] mixed (by kernel_rfl) (by simp only [go_sem]) fun K32 hK32 => ?_
   simp only [go_sem, polyC, W3, P5.ls, hh, hm1, Int.toNat_one, hcq, hbl]
   all_goals repeat' (first | apply And.intro | intro _)
   refine hK32 _ _ ?_ ?_
   · first | trivial | (simp only [go_sem]; done) | (simp only [go_sem]; simp; done) | (simp only [go_sem]; simp; simp only [go_sem])
   refine bn30 _ ?_
   refine hN29 _ ?_
   refine region_k fun K33 hK33 => ?_
   simp only [go_sem, polyC, W3, P5.ls, hh, hm1, Int.toNat_one, hcq, hbl]
   all_goals repeat' (first | apply And.intro | intro _)
   refine hK33 _ ?_
   refine hN26 _ ?_
   refine rnd_forget [8, 31, 32, 33, 34, 35, 36, 37, 38, 39, 40, 41] ?_
   simp only [go_sem, St.forget, fgt]
   refine rnd_k fun N34 M34 hN34 hM34 => ?_
   refine sr_k fun K35 hK35 => ?_
   simp only [go_sem, polyC, W3, P5.ls, hh, hm1, Int.toNat_one, hcq, hbl]
   all_goals repeat' (first | apply And.intro | intro _)
   refine hK35 _ ?_
   refine seq_k fun N36 M36 hN36 hM36 => ?_
   refine condT_k (by first | rfl | (simp [go_sem, polyC, W3, P5.ls, hh, hm1, Int.toNat_one, hcq, hbl]; done)) ?_
   refine skip_k ?_
   refine hN36 _ ?_
   refine seq_k fun N37 M37 hN37 hM37 => ?_
   refine block_k fun B38 bn38 bx38 br38 bi38 => ?_
   refine sr_k fun K39 hK39 => ?_
   simp only [go_sem, polyC, W3, P5.ls, hh, hm1, Int.toNat_one, hcq, hbl]
   all_goals repeat' (first | apply And.intro | intro _)
   refine hK39 _ ?_
   refine draw_k [33, 34, 35, 36, 37, 38, 39, 40] [0, 1, 3, 0, 8, 24, 63, 127, 255] [] mixed (by kernel_rfl) (by simp only [go_sem]) fun K40 hK40 => ?_
   simp only [go_sem, polyC, W3, P5.ls, hh, hm1, Int.toNat_one, hcq, hbl]
   all_goals repeat' (first | apply And.intro | intro _)
   refine hK40 _ _ ?_ ?_
   · first | trivial | (simp only [go_sem]; done) | (simp only [go_sem]; simp; done) | (simp only [go_sem]; simp; simp only [go_sem])
   refine bn38 _ ?_
   refine hN37 _ ?_
   refine region_k fun K41 hK41 => ?_
   simp only [go_sem, polyC, W3, P5.ls, hh, hm1, Int.toNat_one, hcq, hbl]
   all_goals repeat' (first | apply And.intro | intro _)
   refine hK41 _ ?_
   refine hN34 _ ?_
   refine rnd_forget [8, 31, 32, 33, 34, 35, 36, 37, 38, 39, 40, 41] ?_
   simp only [go_sem, St.forget, fgt]
   refine rnd_k fun N42 M42 hN42 hM42 => ?_
   refine sr_k fun K43 hK43 => ?_
   simp only [go_sem, polyC, W3, P5.ls, hh, hm1, Int.toNat_one, hcq, hbl]
   all_goals repeat' (first | apply And.intro | intro _)
   refine hK43 _ ?_
   refine seq_k fun N44 M44 hN44 hM44 => ?_
   refine condT_k (by first | rfl | (simp [go_sem, polyC, W3, P5.ls, hh, hm1, Int.toNat_one, hcq, hbl]; done)) ?_
   refine skip_k ?_
   refine hN44 _ ?_
   refine seq_k fun N45 M45 hN45 hM45 => ?_
   refine block_k fun B46 bn46 bx46 br46 bi46 => ?_
   refine sr_k fun K47 hK47 => ?_
   simp only [go_sem, polyC, W3, P5.ls, hh, hm1, Int.toNat_one, hcq, hbl]
   all_goals repeat' (first | apply And.intro | intro _)
   refine hK47 _ ?_
   refine draw_k [33, 34, 35, 36, 37, 38, 39, 40] [0, 1, 3, 0, 8, 24, 63, 127, 255] [] mixed (by kernel_rfl) (by simp only [go_sem]) fun K48 hK48 => ?_
   simp only [go_sem, polyC, W3, P5.ls, hh, hm1, Int.toNat_one, hcq, hbl]
   all_goals repeat' (first | apply And.intro | intro _)
   refine hK48 _ _ ?_ ?_
   · first | trivial | (simp only [go_sem]; done) | (simp only [go_sem]; simp; done) | (simp only [go_sem]; simp; simp only [go_sem])
   refine bn46 _ ?_
   refine hN45 _ ?_
   refine region_k fun K49 hK49 => ?_
   simp only [go_sem, polyC, W3, P5.ls, hh, hm1, Int.toNat_one, hcq, hbl]
   all_goals repeat' (first | apply And.intro | intro _)
   refine hK49 _ ?_
   refine hN42 _ ?_
   refine rnd_forget [8, 31, 32, 33, 34, 35, 36, 37, 38, 39, 40, 41] ?_
   simp only [go_sem, St.forget, fgt]
   refine rnd_k fun N50 M50 hN50 hM50 => ?_
   refine sr_k fun K51 hK51 => ?_
   simp only [go_sem, polyC, W3, P5.ls, hh, hm1, Int.toNat_one, hcq, hbl]
   all_goals repeat' (first | apply And.intro | intro _)
   refine hK51 _ ?_
   refine seq_k fun N52 M52 hN52 hM52 => ?_
   refine condT_k (by first | rfl | (simp [go_sem, polyC, W3, P5.ls, hh, hm1, Int.toNat_one, hcq, hbl]; done)) ?_
   refine skip_k ?_
   refine hN52 _ ?_
   refine seq_k fun N53 M53 hN53 hM53 => ?_
   refine block_k fun B54 bn54 bx54 br54 bi54 => ?_
   refine sr_k fun K55 hK55 => ?_
   simp only [go_sem, polyC, W3, P5.ls, hh, hm1, Int.toNat_one, hcq, hbl]
   all_goals repeat' (first | apply And.intro | intro _)
   refine hK55 _ ?_
   refine draw_k [33, 34, 35, 36, 37, 38, 39, 40] [0, 1, 3, 0, 8, 24, 63, 127, 255] [] mixed (by kernel_rfl) (by simp only [go_sem]) fun K56 hK56 => ?_
   simp only [go_sem, polyC, W3, P5.ls, hh, hm1, Int.toNat_one, hcq, hbl]
   all_goals repeat' (first | apply And.intro | intro _)
   refine hK56 _ _ ?_ ?_
   · first | trivial | (simp only [go_sem]; done) | (simp only [go_sem]; simp; done) | (simp only [go_sem]; simp; simp only [go_sem])
   refine bn54 _ ?_
   refine hN53 _ ?_
   refine region_k fun K57 hK57 => ?_
   simp only [go_sem, polyC, W3, P5.ls, hh, hm1, Int.toNat_one, hcq, hbl]
   all_goals repeat' (first | apply And.intro | intro _)
   refine hK57 _ ?_
   refine hN50 _ ?_
   refine rnd_forget [8, 31, 32, 33, 34, 35, 36, 37, 38, 39, 40, 41] ?_
   simp only [go_sem, St.forget, fgt]
   refine rnd_k fun N58 M58 hN58 hM58 => ?_
   refine sr_k fun K59 hK59 => ?_
   simp only [go_sem, polyC, W3, P5.ls, hh, hm1, Int.toNat_one, hcq, hbl]
   all_goals repeat' (first | apply And.intro | intro _)
   refine hK59 _ ?_
   refine seq_k fun N60 M60 hN60 hM60 => ?_
   refine condF_k (by first | rfl | (simp [go_sem, polyC, W3, P5.ls, hh, hm1, Int.toNat_one, hcq, hbl]; done)) ?_
   refine exit_k ?_
   refine hM60 _ _ ?_
   refine hM58 _ _ ?_
   refine bx16 _ ?_
   refine hN14 _ ?_
   refine sd_k [42, 43, 44, 45, 46, 47, 48, 49, 50, 51, 52, 53, 54] [0, 1, 0, 4, 12, 0, 32, 96, 252, 511, 1023, 2047, 4095, 8191] [] mixed (by kernel_rfl) (by simp only [go_sem]) fun K61 hK61 => ?_
   simp only [go_sem, polyC, W3, P5.ls, hh, hm1, Int.toNat_one, hcq, hbl]
   all_goals repeat' (first | apply And.intro | intro _)
   all_goals refine call_draw (fun k => k) _ [] (fun _ _ => rfl) (by first | rfl | (simp only [go_sem, polyC, W3, P5.ls, hh, hm1, Int.toNat_one, hcq, hbl]; rfl) | simp only [go_sem, polyC, W3, P5.ls, hh, hm1, Int.toNat_one, hcq, hbl]) ((carried_of ((parts3 a0 a1 a2).addP (parts3 (lev (b.take 8)) (lev ((b.drop 8).take 8)) (lev ((b.drop 16).take 8))))).plain fun _ _ h => h) ?_ ?_
   all_goals try (refine And.intro ?_ (And.intro ?_ (And.intro ?_ ?_)) <;> first | rfl | simp only [go_sem])
   all_goals simp only [go_sem, polyC, W3, P5.ls, hh, hm1, Int.toNat_one, hcq, hbl]
   all_goals repeat' (first | apply And.intro | intro _)
   all_goals refine call_draw (fun k => k) _ [] (fun _ _ => rfl) (by first | rfl | (simp only [go_sem, polyC, W3, P5.ls, hh, hm1, Int.toNat_one, hcq, hbl]; rfl) | simp only [go_sem, polyC, W3, P5.ls, hh, hm1, Int.toNat_one, hcq, hbl]) ((parts_of r0 r1 0).plain fun _ _ h => h) ?_ ?_
   all_goals try (refine And.intro ?_ (And.intro ?_ (And.intro ?_ ?_)) <;> first | rfl | simp only [go_sem])
   all_goals simp only [go_sem, polyC, W3, P5.ls, hh, hm1, Int.toNat_one, hcq, hbl]
   all_goals repeat' (first | apply And.intro | intro _)
   all_goals refine call_draw (fun k => k) _ [] (fun _ _ => rfl) (by first | rfl | (simp only [go_sem, polyC, W3, P5.ls, hh, hm1, Int.toNat_one, hcq, hbl]; rfl) | simp only [go_sem, polyC, W3, P5.ls, hh, hm1, Int.toNat_one, hcq, hbl]) ((ptimes_ ((parts3 a0 a1 a2).addP (parts3 (lev (b.take 8)) (lev ((b.drop 8).take 8)) (lev ((b.drop 16).take 8)))).carried (parts3 r0 r1 0)).plain fun _ _ h => h) ?_ ?_
   all_goals try (refine And.intro ?_ (And.intro ?_ (And.intro ?_ ?_)) <;> first | rfl | simp only [go_sem])
   all_goals simp only [go_sem, polyC, W3, P5.ls, hh, hm1, Int.toNat_one, hcq, hbl]
   all_goals repeat' (first | apply And.intro | intro _)
   all_goals refine call_draw (fun k => k) _ [] (fun _ _ => rfl) (by first | rfl | (simp only [go_sem, polyC, W3, P5.ls, hh, hm1, Int.toNat_one, hcq, hbl]; rfl) | simp only [go_sem, polyC, W3, P5.ls, hh, hm1, Int.toNat_one, hcq, hbl]) ((whole_of (mul5 ((parts3 a0 a1 a2).addP (parts3 (lev (b.take 8)) (lev ((b.drop 8).take 8)) (lev ((b.drop 16).take 8)))).carried (parts3 r0 r1 0)).carried).plain fun _ _ h => h) ?_ ?_
   all_goals try (refine And.intro ?_ (And.intro ?_ (And.intro ?_ ?_)) <;> first | rfl | simp only [go_sem])
   all_goals simp only [go_sem, polyC, W3, P5.ls, hh, hm1, Int.toNat_one, hcq, hbl]
   all_goals repeat' (first | apply And.intro | intro _)
   refine hK61 _ _ ?_ ?_
   · first | trivial | (simp only [go_sem]; done) | (simp only [go_sem]; simp; done) | (simp only [go_sem]; simp; simp only [go_sem])
   refine sr_k fun K62 hK62 => ?_
   simp only [go_sem, polyC, W3, P5.ls, hh, hm1, Int.toNat_one, hcq, hbl]
   all_goals repeat' (first | apply And.intro | intro _)
   refine hK62 _ ?_
   refine sr_k fun K63 hK63 => ?_
   simp only [go_sem, polyC, W3, P5.ls, hh, hm1, Int.toNat_one, hcq, hbl]
   all_goals repeat' (first | apply And.intro | intro _)
   refine hK63 _ ?_
   refine ret_k ?_
   simp only [go_sem, polyC, W3, P5.ls, hh, hm1, Int.toNat_one, hcq, hbl]
   all_goals (rw [ps0, ps1, ps2])
end Go.Sy
