/- Walks: a block squeezed in. -/
import Derived.Test.YtojdgfocpmlpfaaDoorvgB3
set_option linter.unusedVariables false
set_option linter.unusedSimpArgs false
namespace Go.Sy
open Go.Proofs
attribute [local irreducible] atCall HT runOps runD onC onE onO onG goV goA goS onSt onGuard
set_option maxHeartbeats 3200000 in
set_option maxRecDepth 100000 in
theorem squeeze_ (h0 h1 h2 h3 h4 h5 h6 h7 : UInt32) (held : List UInt8) (hh : held.length = 64) (n : Int) (len : Nat) (hl : len ≤ 1073741824) (last : Bool) :
 CtM Tryd.prog 34 [.w (.agg ([.pl (.u32 h0), .pl (.u32 h1), .pl (.u32 h2), .pl (.u32 h3), .pl (.u32 h4), .pl (.u32 h5), .pl (.u32 h6), .pl (.u32 h7)] ++ (bytesC held ++ [.pl (.i n), .pl (.i ((len : Nat) : Int))]))), .w (.one (.pl (.b last)))] [(1000000, ⟨false, [.pl (.u32 1779033703), .pl (.u32 3144134277), .pl (.u32 1013904242), .pl (.u32 2773480762), .pl (.u32 1359893119), .pl (.u32 2600822924), .pl (.u32 528734635), .pl (.u32 1541459225)]⟩), (1000002, ⟨false, ordC⟩)] (Told (fun v m => v = .w (.agg (soakB ⟨h0, h1, h2, h3, h4, h5, h6, h7⟩ held len last).ls) ∧ m = [])) := by
 have hcv : UInt32.ofNat (((len : Nat) : Int) % 4294967296).toNat = UInt32.ofNat len := by
  rw [show (((len : Nat) : Int) % 4294967296).toNat = len from by omega]
 have his : ishr ((len : Nat) : Int) 32 = 0 := by
  rw [ishr, show (min 32 64 : Nat) = 32 from rfl, Int.fdiv_eq_ediv_of_nonneg _ (by decide)]
  have : ((2 : Int) ^ 32) = 4294967296 := rfl
  rw [this]; omega
 have hz0 : UInt32.ofNat ((0 : Int) % 4294967296).toNat = 0 := rfl
 have hx0 : (2600822924 : UInt32) ^^^ 0 = 2600822924 := rfl
 have F0 := And.intro hh <| And.intro hcv <| And.intro his <| And.intro hz0 <| hx0
 refine CtM.k Tryd.func34 rfl Tryd.ntmps34 (congrArg Array.toList Tryd.results34) (by simp) fun w0 ro may fx => ?_
 refine sr_k fun K1 hK1 => ?_
 simp only [go_sem, ordC_length, Int.toNat_one, Int.reduceTMod, F0]
 repeat' (first | apply And.intro | intro _)
 refine hK1 _ ?_
 refine sr_k fun K2 hK2 => ?_
 simp only [go_sem, ordC_length, Int.toNat_one, Int.reduceTMod, F0]
 repeat' (first | apply And.intro | intro _)
 refine hK2 _ ?_
 refine seq_k fun N3 M3 hN3 hM3 => ?_
 refine sr_k fun K4 hK4 => ?_
 simp only [go_sem, ordC_length, Int.toNat_one, Int.reduceTMod, F0]
 repeat' (first | apply And.intro | intro _)
 refine hK4 _ ?_
 refine block_k fun B5 bn5 bx5 br5 bi5 => ?_
 refine ht_dropE [0] ?_
 simp only [dropE_mk, fgt_nil, fgt_cons, List.contains_cons, List.contains_nil, Nat.reduceBEq, beq_self_eq_true, Bool.or_false, Bool.or_true, Bool.true_or, Bool.false_or, Bool.false_eq_true, reduceIte]
 refine loop_k (fun y => [(17, .w (.one (.pl (.i ((y.1.1 : Nat) : Int)))))]) (fun y => [(5, ⟨false, u32C y.1.2⟩)]) (fun y => 16 - y.1.1) (⟨(0, List.replicate 16 0), Nat.zero_le _, by simp, fun j h => (by omega), fun j _ => getD_rep32 16 j⟩ : {y : Nat × List UInt32 // y.1 ≤ 16 ∧ y.2.length = 16 ∧ (∀ j, j < y.1 → y.2.getD j 0 = wordAt held j) ∧ (∀ j, y.1 ≤ j → y.2.getD j 0 = 0)}) ?_ ?_ ?_
 · (simp only [go_sem, leX, List.cons_append, List.nil_append]; try simp)
 · (simp only [go_sem, leX, List.cons_append, List.nil_append]; first | done | rfl | (simp [u32C, leX, look]; done))
 intro yy N6 M6 hN6 hM6
 simp only [List.cons_append, List.nil_append]
 obtain ⟨⟨i, q⟩, hi, hq, hz, hy⟩ := yy
 simp only at hi hq hz hy
 rcases Nat.lt_or_ge i 16 with hlt | hge
 · have hq0 := hy i (Nat.le_refl _)
   have hl0 := u32_one (l := q) (i := i) (by omega)
   rw [hq0] at hl0
   obtain ⟨b0, hb0⟩ : ∃ b, held.getD (4 * i) 0 = b := ⟨_, rfl⟩
   have g0 := u8_one (q := held) (i := 4 * i) (by omega)
   rw [hb0] at g0
   obtain ⟨b1, hb1⟩ : ∃ b, held.getD (4 * i + 1) 0 = b := ⟨_, rfl⟩
   have g1 := u8_one (q := held) (i := 4 * i + 1) (by omega)
   rw [hb1] at g1
   obtain ⟨b2, hb2⟩ : ∃ b, held.getD (4 * i + 2) 0 = b := ⟨_, rfl⟩
   have g2 := u8_one (q := held) (i := 4 * i + 2) (by omega)
   rw [hb2] at g2
   obtain ⟨b3, hb3⟩ : ∃ b, held.getD (4 * i + 3) 0 = b := ⟨_, rfl⟩
   have g3 := u8_one (q := held) (i := 4 * i + 3) (by omega)
   rw [hb3] at g3
   have hacc := word_acc (b0 := b0) (b1 := b1) (b2 := b2) (b3 := b3)
   have ht4 := take4 (l := held) (j := 4 * i) (by omega)
   rw [hb0, hb1, hb2, hb3] at ht4
   rw [← ht4] at hacc
   have hacc2 : _ = wordAt held i := hacc
   obtain ⟨x1, hx1⟩ : ∃ x, shl32 0 8 ||| b3.toUInt32 = x := ⟨_, rfl⟩
   rw [hx1] at hacc2
   obtain ⟨x2, hx2⟩ : ∃ x, shl32 x1 8 ||| b2.toUInt32 = x := ⟨_, rfl⟩
   rw [hx2] at hacc2
   obtain ⟨x3, hx3⟩ : ∃ x, shl32 x2 8 ||| b1.toUInt32 = x := ⟨_, rfl⟩
   rw [hx3] at hacc2
   obtain ⟨x4, hx4⟩ : ∃ x, shl32 x3 8 ||| b0.toUInt32 = x := ⟨_, rfl⟩
   rw [hx4] at hacc2
   obtain ⟨q1, hq1⟩ : ∃ r, q.set i x1 = r := ⟨_, rfl⟩
   obtain ⟨q2, hq2⟩ : ∃ r, q1.set i x2 = r := ⟨_, rfl⟩
   obtain ⟨q3, hq3⟩ : ∃ r, q2.set i x3 = r := ⟨_, rfl⟩
   obtain ⟨q4, hq4⟩ : ∃ r, q3.set i x4 = r := ⟨_, rfl⟩
   have e1 : q1.length = 16 := by rw [← hq1]; simp [hq]
   have e2 : q2.length = 16 := by rw [← hq2]; simp [e1]
   have e3 : q3.length = 16 := by rw [← hq3]; simp [e2]
   have e4 : q4.length = 16 := by rw [← hq4]; simp [e3]
   have p0 := put_set32 (q := q) (j := i) x1 (by omega)
   have p1 := put_set32 (q := q1) (j := i) x2 (by omega)
   have p2 := put_set32 (q := q2) (j := i) x3 (by omega)
   have p3 := put_set32 (q := q3) (j := i) x4 (by omega)
   rw [hq1] at p0
   rw [hq2] at p1
   rw [hq3] at p2
   rw [hq4] at p3
   have l1 := u32_one (l := q1) (i := i) (by omega)
   have l2 := u32_one (l := q2) (i := i) (by omega)
   have l3 := u32_one (l := q3) (i := i) (by omega)
   have i1 : q1.getD i 0 = x1 := by rw [← hq1, getD_set32 (by omega), if_pos rfl]
   have i2 : q2.getD i 0 = x2 := by rw [← hq2, getD_set32 (by omega), if_pos rfl]
   have i3 : q3.getD i 0 = x3 := by rw [← hq3, getD_set32 (by omega), if_pos rfl]
   rw [i1] at l1
   rw [i2] at l2
   rw [i3] at l3
   have k1 : ∀ j, j < i + 1 → q4.getD j 0 = wordAt held j := fun j hj => by
    by_cases e : i = j
    · subst e; rw [← hq4, getD_set32 (by omega), if_pos rfl, hacc2]
    · rw [← hq4, getD_set32 (by omega), if_neg e, ← hq3, getD_set32 (by omega), if_neg e, ← hq2, getD_set32 (by omega), if_neg e, ← hq1, getD_set32 (by omega), if_neg e]; exact hz j (by omega)
   have k2 : ∀ j, i + 1 ≤ j → q4.getD j 0 = 0 := fun j hj => by
    have e : ¬ i = j := by omega
    rw [← hq4, getD_set32 (by omega), if_neg e, ← hq3, getD_set32 (by omega), if_neg e, ← hq2, getD_set32 (by omega), if_neg e, ← hq1, getD_set32 (by omega), if_neg e]; exact hy j (by omega)
   have n0 := u32_len q
   have n1 := u32_len q1
   have n2 := u32_len q2
   have n3 := u32_len q3
   rw [hq] at n0
   rw [e1] at n1
   rw [e2] at n2
   rw [e3] at n3
   have hcq : ((i : Nat) : Int) < 16 := by omega
   have hc0 : (0 : Int) ≤ ((i : Nat) : Int) := by omega
   have hk2 : i + 1 ≤ 16 := by omega
   have d0 : (0 : Int) ≤ ((4 * i : Nat) : Int) ∧ ((4 * i : Nat) : Int) < 64 ∧ (0 : Int) ≤ ((4 * i + 1 : Nat) : Int) ∧ ((4 * i + 1 : Nat) : Int) < 64 ∧ (0 : Int) ≤ ((4 * i + 2 : Nat) : Int) ∧ ((4 * i + 2 : Nat) : Int) < 64 ∧ (0 : Int) ≤ ((4 * i + 3 : Nat) : Int) ∧ ((4 * i + 3 : Nat) : Int) < 64 := by omega
   have d1 : 4 * i + 1 ≤ 64 ∧ 4 * i + 1 + 1 ≤ 64 ∧ 4 * i + 2 + 1 ≤ 64 ∧ 4 * i + 3 + 1 ≤ 64 := by omega
   obtain ⟨hs1, hw8, hw4, hw5, hw6, hw7⟩ : Go.RowKit.wrap64 (((i : Nat) : Int) + 1) = ((i + 1 : Nat) : Int) ∧ Go.RowKit.wrap64 (((4 * i : Nat) : Int) + 0) = ((4 * i : Nat) : Int) ∧ Go.RowKit.wrap64 (4 * ((i : Nat) : Int)) = ((4 * i : Nat) : Int) ∧ Go.RowKit.wrap64 (((4 * i : Nat) : Int) + 1) = ((4 * i + 1 : Nat) : Int) ∧ Go.RowKit.wrap64 (((4 * i : Nat) : Int) + 2) = ((4 * i + 2 : Nat) : Int) ∧ Go.RowKit.wrap64 (((4 * i : Nat) : Int) + 3) = ((4 * i + 3 : Nat) : Int) := ⟨wnat (by omega) (by omega), wnat (by omega) (by omega), wnat (by omega) (by omega), wnat (by omega) (by omega), wnat (by omega) (by omega), wnat (by omega) (by omega)⟩
   have F6 := And.intro hl0 <| And.intro l1 <| And.intro l2 <| And.intro l3 <| And.intro g0 <| And.intro g1 <| And.intro g2 <| And.intro g3 <| And.intro n0 <| And.intro n1 <| And.intro n2 <| And.intro n3 <| And.intro hx1 <| And.intro hx2 <| And.intro hx3 <| And.intro hx4 <| And.intro p0 <| And.intro p1 <| And.intro p2 <| And.intro p3 <| And.intro hcq <| And.intro hc0 <| And.intro hk2 <| And.intro d0 <| And.intro d1 <| And.intro hs1 <| And.intro hw4 <| And.intro hw5 <| And.intro hw6 <| And.intro hw7 <| hw8
   refine sr_k fun K7 hK7 => ?_
   simp only [go_sem, ordC_length, Int.toNat_one, Int.reduceTMod, F0, bytesC_1, F6]
   repeat' (first | apply And.intro | intro _)
   refine hK7 _ ?_
   refine seq_k fun N8 M8 hN8 hM8 => ?_
   refine condT_k (by first | rfl | (simp [go_sem, ordC_length, Int.toNat_one, Int.reduceTMod, F0, bytesC_1, F6]; done)) ?_
   refine skip_k ?_
   refine hN8 _ ?_
   refine seq_k fun N9 M9 hN9 hM9 => ?_
   refine block_k fun B10 bn10 bx10 br10 bi10 => ?_
   refine sr_k fun K11 hK11 => ?_
   simp only [go_sem, ordC_length, Int.toNat_one, Int.reduceTMod, F0, bytesC_1, F6]
   repeat' (first | apply And.intro | intro _)
   refine hK11 _ ?_
   refine sr_k fun K12 hK12 => ?_
   simp only [go_sem, ordC_length, Int.toNat_one, Int.reduceTMod, F0, bytesC_1, F6]
   repeat' (first | apply And.intro | intro _)
   refine hK12 _ ?_
   refine block_k fun B13 bn13 bx13 br13 bi13 => ?_
   refine rounds_k 5 ?_
   refine rnd_k fun N15 M15 hN15 hM15 => ?_
   refine seq_k fun N16 M16 hN16 hM16 => ?_
   refine sr_k fun K17 hK17 => ?_
   simp only [go_sem, ordC_length, Int.toNat_one, Int.reduceTMod, F0, bytesC_1, F6]
   repeat' (first | apply And.intro | intro _)
   refine hK17 _ ?_
   refine condT_k (by first | rfl | (simp [go_sem, ordC_length, Int.toNat_one, Int.reduceTMod, F0, bytesC_1, F6]; done)) ?_
   refine skip_k ?_
   refine hN16 _ ?_
   refine seq_k fun N18 M18 hN18 hM18 => ?_
   refine block_k fun B19 bn19 bx19 br19 bi19 => ?_
   refine draw_k [24, 25, 26, 27, 28, 29, 30, 31, 32, 33, 34, 35, 36, 37, 38] [0, 0, 2, 6, 14, 0, 32, 0, 224, 0, 992, 2016, 4064, 8190, 16383, 32767] [] mixed (by kernel_rfl) (by simp only [go_sem]) fun K20 hK20 => ?_
   simp only [go_sem, ordC_length, Int.toNat_one, Int.reduceTMod, F0, bytesC_1, F6]
   repeat' (first | apply And.intro | intro _)
   refine hK20 _ _ trivial ?_
   refine bn19 _ ?_
   refine hN18 _ ?_
   refine region_k fun K21 hK21 => ?_
   simp only [go_sem, ordC_length, Int.toNat_one, Int.reduceTMod, F0, bytesC_1, F6]
   repeat' (first | apply And.intro | intro _)
   refine hK21 _ ?_
   refine hN15 _ ?_
   refine rnd_forget [20, 21, 22, 23, 24, 25, 26, 27, 28, 29, 30, 31, 32, 33, 34, 35, 36, 37, 38] ?_
   simp only [go_sem, St.forget, fgt]
   refine rnd_k fun N22 M22 hN22 hM22 => ?_
   refine seq_k fun N23 M23 hN23 hM23 => ?_
   refine sr_k fun K24 hK24 => ?_
   simp only [go_sem, ordC_length, Int.toNat_one, Int.reduceTMod, F0, bytesC_1, F6]
   repeat' (first | apply And.intro | intro _)
   refine hK24 _ ?_
   refine condT_k (by first | rfl | (simp [go_sem, ordC_length, Int.toNat_one, Int.reduceTMod, F0, bytesC_1, F6]; done)) ?_
   refine skip_k ?_
   refine hN23 _ ?_
   refine seq_k fun N25 M25 hN25 hM25 => ?_
   refine block_k fun B26 bn26 bx26 br26 bi26 => ?_
   refine draw_k [24, 25, 26, 27, 28, 29, 30, 31, 32, 33, 34, 35, 36, 37, 38] [0, 0, 2, 6, 14, 0, 32, 0, 224, 0, 992, 2016, 4064, 8190, 16383, 32767] [] mixed (by kernel_rfl) (by simp only [go_sem]) fun K27 hK27 => ?_
   simp only [go_sem, ordC_length, Int.toNat_one, Int.reduceTMod, F0, bytesC_1, F6]
   repeat' (first | apply And.intro | intro _)
   refine hK27 _ _ trivial ?_
   refine bn26 _ ?_
   refine hN25 _ ?_
   refine region_k fun K28 hK28 => ?_
   simp only [go_sem, ordC_length, Int.toNat_one, Int.reduceTMod, F0, bytesC_1, F6]
   repeat' (first | apply And.intro | intro _)
   refine hK28 _ ?_
   refine hN22 _ ?_
   refine rnd_forget [20, 21, 22, 23, 24, 25, 26, 27, 28, 29, 30, 31, 32, 33, 34, 35, 36, 37, 38] ?_
   simp only [go_sem, St.forget, fgt]
   refine rnd_k fun N29 M29 hN29 hM29 => ?_
   refine seq_k fun N30 M30 hN30 hM30 => ?_
   refine sr_k fun K31 hK31 => ?_
   simp only [go_sem, ordC_length, Int.toNat_one, Int.reduceTMod, F0, bytesC_1, F6]
   repeat' (first | apply And.intro | intro _)
   refine hK31 _ ?_
   refine condT_k (by first | rfl | (simp [go_sem, ordC_length, Int.toNat_one, Int.reduceTMod, F0, bytesC_1, F6]; done)) ?_
   refine skip_k ?_
   refine hN30 _ ?_
   refine seq_k fun N32 M32 hN32 hM32 => ?_
   refine block_k fun B33 bn33 bx33 br33 bi33 => ?_
   refine draw_k [24, 25, 26, 27, 28, 29, 30, 31, 32, 33, 34, 35, 36, 37, 38] [0, 0, 2, 6, 14, 0, 32, 0, 224, 0, 992, 2016, 4064, 8190, 16383, 32767] [] mixed (by kernel_rfl) (by simp only [go_sem]) fun K34 hK34 => ?_
   simp only [go_sem, ordC_length, Int.toNat_one, Int.reduceTMod, F0, bytesC_1, F6]
   repeat' (first | apply And.intro | intro _)
   refine hK34 _ _ trivial ?_
   refine bn33 _ ?_
   refine hN32 _ ?_
   refine region_k fun K35 hK35 => ?_
   simp only [go_sem, ordC_length, Int.toNat_one, Int.reduceTMod, F0, bytesC_1, F6]
   repeat' (first | apply And.intro | intro _)
   refine hK35 _ ?_
   refine hN29 _ ?_
   refine rnd_forget [20, 21, 22, 23, 24, 25, 26, 27, 28, 29, 30, 31, 32, 33, 34, 35, 36, 37, 38] ?_
   simp only [go_sem, St.forget, fgt]
   refine rnd_k fun N36 M36 hN36 hM36 => ?_
   refine seq_k fun N37 M37 hN37 hM37 => ?_
   refine sr_k fun K38 hK38 => ?_
   simp only [go_sem, ordC_length, Int.toNat_one, Int.reduceTMod, F0, bytesC_1, F6]
   repeat' (first | apply And.intro | intro _)
   refine hK38 _ ?_
   refine condT_k (by first | rfl | (simp [go_sem, ordC_length, Int.toNat_one, Int.reduceTMod, F0, bytesC_1, F6]; done)) ?_
   refine skip_k ?_
   refine hN37 _ ?_
   refine seq_k fun N39 M39 hN39 hM39 => ?_
   refine block_k fun B40 bn40 bx40 br40 bi40 => ?_
   refine draw_k [24, 25, 26, 27, 28, 29, 30, 31, 32, 33, 34, 35, 36, 37, 38] [0, 0, 2, 6, 14, 0, 32, 0, 224, 0, 992, 2016, 4064, 8190, 16383, 32767] [] mixed (by kernel_rfl) (by simp only [go_sem]) fun K41 hK41 => ?_
   simp only [go_sem, ordC_length, Int.toNat_one, Int.reduceTMod, F0, bytesC_1, F6]
   repeat' (first | apply And.intro | intro _)
   refine hK41 _ _ trivial ?_
   refine bn40 _ ?_
   refine hN39 _ ?_
   refine region_k fun K42 hK42 => ?_
   simp only [go_sem, ordC_length, Int.toNat_one, Int.reduceTMod, F0, bytesC_1, F6]
   repeat' (first | apply And.intro | intro _)
   refine hK42 _ ?_
   refine hN36 _ ?_
   refine rnd_forget [20, 21, 22, 23, 24, 25, 26, 27, 28, 29, 30, 31, 32, 33, 34, 35, 36, 37, 38] ?_
   simp only [go_sem, St.forget, fgt]
   refine rnd_k fun N43 M43 hN43 hM43 => ?_
   refine seq_k fun N44 M44 hN44 hM44 => ?_
   refine sr_k fun K45 hK45 => ?_
   simp only [go_sem, ordC_length, Int.toNat_one, Int.reduceTMod, F0, bytesC_1, F6]
   repeat' (first | apply And.intro | intro _)
   refine hK45 _ ?_
   refine condF_k (by first | rfl | (simp [go_sem, ordC_length, Int.toNat_one, Int.reduceTMod, F0, bytesC_1, F6]; done)) ?_
   refine exit_k ?_
   refine hM44 _ _ ?_
   refine hM43 _ _ ?_
   refine bx13 _ ?_
   refine bn10 _ ?_
   refine hN9 _ ?_
   refine region_k fun K46 hK46 => ?_
   simp only [go_sem, ordC_length, Int.toNat_one, Int.reduceTMod, F0, bytesC_1, F6]
   repeat' (first | apply And.intro | intro _)
   refine hK46 _ ?_
   refine hN6 ⟨(i + 1, q4), hlt, e4, k1, k2⟩ _ ?_ ?_ ?_
   · (exact Nat.sub_lt_sub_left hlt (Nat.lt_succ_self i))
   · (simp only [go_sem, leX, List.cons_append, List.nil_append]; try simp)
   · (simp only [go_sem, leX, List.cons_append, List.nil_append]; try simp)
 · obtain rfl : i = 16 := by omega
   have hcq : ¬ ((16 : Nat) : Int) < 16 := by omega
   have hql := u32_len q
   rw [hq] at hql
   refine sr_k fun K47 hK47 => ?_
   simp only [go_sem, ordC_length, Int.toNat_one, Int.reduceTMod, F0, hcq, hql]
   repeat' (first | apply And.intro | intro _)
   refine hK47 _ ?_
   refine seq_k fun N48 M48 hN48 hM48 => ?_
   refine condF_k (by first | rfl | (simp [go_sem, ordC_length, Int.toNat_one, Int.reduceTMod, F0, hcq, hql]; done)) ?_
   refine exit_k ?_
   refine hM48 _ _ ?_
   refine hM6 _ _ ?_
   refine bx5 _ ?_
   refine hN3 _ ?_
   refine sr_k fun K49 hK49 => ?_
   simp only [go_sem, ordC_length, Int.toNat_one, Int.reduceTMod, F0, hcq, hql]
   repeat' (first | apply And.intro | intro _)
   refine hK49 _ ?_
   refine seq_k fun N50 M50 hN50 hM50 => ?_
   refine sr_k fun K51 hK51 => ?_
   simp only [go_sem, ordC_length, Int.toNat_one, Int.reduceTMod, F0, hcq, hql]
   repeat' (first | apply And.intro | intro _)
   refine hK51 _ ?_
   refine block_k fun B52 bn52 bx52 br52 bi52 => ?_
   refine rounds_k 9 ?_
   refine rnd_k fun N54 M54 hN54 hM54 => ?_
   refine sr_k fun K55 hK55 => ?_
   simp only [go_sem, ordC_length, Int.toNat_one, Int.reduceTMod, F0, hcq, hql]
   repeat' (first | apply And.intro | intro _)
   refine hK55 _ ?_
   refine seq_k fun N56 M56 hN56 hM56 => ?_
   refine condT_k (by first | rfl | (simp [go_sem, ordC_length, Int.toNat_one, Int.reduceTMod, F0, hcq, hql]; done)) ?_
   refine skip_k ?_
   refine hN56 _ ?_
   refine seq_k fun N57 M57 hN57 hM57 => ?_
   refine block_k fun B58 bn58 bx58 br58 bi58 => ?_
   refine sr_k fun K59 hK59 => ?_
   simp only [go_sem, ordC_length, Int.toNat_one, Int.reduceTMod, F0, hcq, hql]
   repeat' (first | apply And.intro | intro _)
   refine hK59 _ ?_
   refine draw_k [43, 44, 45, 46, 47, 48, 49, 50, 51, 52, 53, 54] [0, 0, 2, 0, 0, 24, 56, 0, 128, 384, 121, 1145, 4095, 8191] [(1, 11), (2, 11), (7, 11), (8, 11), (9, 11)] mixed (by kernel_rfl) (by simp only [go_sem]) fun K60 hK60 => ?_
   simp only [go_sem, ordC_length, Int.toNat_one, Int.reduceTMod, F0, hcq, hql]
   repeat' (first | apply And.intro | intro _)
   refine hK60 _ _ ?_ ?_
   · first | trivial | (simp only [go_sem]; done) | (simp only [go_sem]; simp; done) | (simp only [go_sem]; simp; simp only [go_sem])
   refine bn58 _ ?_
   refine hN57 _ ?_
   refine region_k fun K61 hK61 => ?_
   simp only [go_sem, ordC_length, Int.toNat_one, Int.reduceTMod, F0, hcq, hql]
   repeat' (first | apply And.intro | intro _)
   refine hK61 _ ?_
   refine hN54 _ ?_
   refine rnd_forget [9, 41, 42, 43, 44, 45, 46, 47, 48, 49, 50, 51, 52, 53, 54, 55] ?_
   simp only [go_sem, St.forget, fgt]
   refine rnd_k fun N62 M62 hN62 hM62 => ?_
   refine sr_k fun K63 hK63 => ?_
   simp only [go_sem, ordC_length, Int.toNat_one, Int.reduceTMod, F0, hcq, hql]
   repeat' (first | apply And.intro | intro _)
   refine hK63 _ ?_
   refine seq_k fun N64 M64 hN64 hM64 => ?_
   refine condT_k (by first | rfl | (simp [go_sem, ordC_length, Int.toNat_one, Int.reduceTMod, F0, hcq, hql]; done)) ?_
   refine skip_k ?_
   refine hN64 _ ?_
   refine seq_k fun N65 M65 hN65 hM65 => ?_
   refine block_k fun B66 bn66 bx66 br66 bi66 => ?_
   refine sr_k fun K67 hK67 => ?_
   simp only [go_sem, ordC_length, Int.toNat_one, Int.reduceTMod, F0, hcq, hql]
   repeat' (first | apply And.intro | intro _)
   refine hK67 _ ?_
   refine draw_k [43, 44, 45, 46, 47, 48, 49, 50, 51, 52, 53, 54] [0, 0, 2, 0, 0, 24, 56, 0, 128, 384, 121, 1145, 4095, 8191] [(1, 11), (2, 11), (7, 11), (8, 11), (9, 11)] mixed (by kernel_rfl) (by simp only [go_sem]) fun K68 hK68 => ?_
   simp only [go_sem, ordC_length, Int.toNat_one, Int.reduceTMod, F0, hcq, hql]
   repeat' (first | apply And.intro | intro _)
   refine hK68 _ _ ?_ ?_
   · first | trivial | (simp only [go_sem]; done) | (simp only [go_sem]; simp; done) | (simp only [go_sem]; simp; simp only [go_sem])
   refine bn66 _ ?_
   refine hN65 _ ?_
   refine region_k fun K69 hK69 => ?_
   simp only [go_sem, ordC_length, Int.toNat_one, Int.reduceTMod, F0, hcq, hql]
   repeat' (first | apply And.intro | intro _)
   refine hK69 _ ?_
   refine hN62 _ ?_
   refine rnd_forget [9, 41, 42, 43, 44, 45, 46, 47, 48, 49, 50, 51, 52, 53, 54, 55] ?_
   simp only [go_sem, St.forget, fgt]
   refine rnd_k fun N70 M70 hN70 hM70 => ?_
   refine sr_k fun K71 hK71 => ?_
   simp only [go_sem, ordC_length, Int.toNat_one, Int.reduceTMod, F0, hcq, hql]
   repeat' (first | apply And.intro | intro _)
   refine hK71 _ ?_
   refine seq_k fun N72 M72 hN72 hM72 => ?_
   refine condT_k (by first | rfl | (simp [go_sem, ordC_length, Int.toNat_one, Int.reduceTMod, F0, hcq, hql]; done)) ?_
   refine skip_k ?_
   refine hN72 _ ?_
   refine seq_k fun N73 M73 hN73 hM73 => ?_
   refine block_k fun B74 bn74 bx74 br74 bi74 => ?_
   refine sr_k fun K75 hK75 => ?_
   simp only [go_sem, ordC_length, Int.toNat_one, Int.reduceTMod, F0, hcq, hql]
   repeat' (first | apply And.intro | intro _)
   refine hK75 _ ?_
   refine draw_k [43, 44, 45, 46, 47, 48, 49, 50, 51, 52, 53, 54] [0, 0, 2, 0, 0, 24, 56, 0, 128, 384, 121, 1145, 4095, 8191] [(1, 11), (2, 11), (7, 11), (8, 11), (9, 11)] mixed (by kernel_rfl) (by simp only [go_sem]) fun K76 hK76 => ?_
   simp only [go_sem, ordC_length, Int.toNat_one, Int.reduceTMod, F0, hcq, hql]
   repeat' (first | apply And.intro | intro _)
   refine hK76 _ _ ?_ ?_
   · first | trivial | (simp only [go_sem]; done) | (simp only [go_sem]; simp; done) | (simp only [go_sem]; simp; simp only [go_sem])
   refine bn74 _ ?_
   refine hN73 _ ?_
   refine region_k fun K77 hK77 => ?_
   simp only [go_sem, ordC_length, Int.toNat_one, Int.reduceTMod, F0, hcq, hql]
   repeat' (first | apply And.intro | intro _)
   refine hK77 _ ?_
   refine hN70 _ ?_
   refine rnd_forget [9, 41, 42, 43, 44, 45, 46, 47, 48, 49, 50, 51, 52, 53, 54, 55] ?_
   simp only [go_sem, St.forget, fgt]
   refine rnd_k fun N78 M78 hN78 hM78 => ?_
   refine sr_k fun K79 hK79 => ?_
   simp only [go_sem, ordC_length, Int.toNat_one, Int.reduceTMod, F0, hcq, hql]
   repeat' (first | apply And.intro | intro _)
   refine hK79 _ ?_
   refine seq_k fun N80 M80 hN80 hM80 => ?_
   refine condT_k (by first | rfl | (simp [go_sem, ordC_length, Int.toNat_one, Int.reduceTMod, F0, hcq, hql]; done)) ?_
   refine skip_k ?_
   refine hN80 _ ?_
   refine seq_k fun N81 M81 hN81 hM81 => ?_
   refine block_k fun B82 bn82 bx82 br82 bi82 => ?_
   refine sr_k fun K83 hK83 => ?_
   simp only [go_sem, ordC_length, Int.toNat_one, Int.reduceTMod, F0, hcq, hql]
   repeat' (first | apply And.intro | intro _)
   refine hK83 _ ?_
   refine draw_k [43, 44, 45, 46, 47, 48, 49, 50, 51, 52, 53, 54] [0, 0, 2, 0, 0, 24, 56, 0, 128, 384, 121, 1145, 4095, 8191] [(1, 11), (2, 11), (7, 11), (8, 11), (9, 11)] mixed (by kernel_rfl) (by simp only [go_sem]) fun K84 hK84 => ?_
   simp only [go_sem, ordC_length, Int.toNat_one, Int.reduceTMod, F0, hcq, hql]
   repeat' (first | apply And.intro | intro _)
   refine hK84 _ _ ?_ ?_
   · first | trivial | (simp only [go_sem]; done) | (simp only [go_sem]; simp; done) | (simp only [go_sem]; simp; simp only [go_sem])
   refine bn82 _ ?_
   refine hN81 _ ?_
   refine region_k fun K85 hK85 => ?_
   simp only [go_sem, ordC_length, Int.toNat_one, Int.reduceTMod, F0, hcq, hql]
   repeat' (first | apply And.intro | intro _)
   refine hK85 _ ?_
   refine hN78 _ ?_
   refine rnd_forget [9, 41, 42, 43, 44, 45, 46, 47, 48, 49, 50, 51, 52, 53, 54, 55] ?_
   simp only [go_sem, St.forget, fgt]
   refine rnd_k fun N86 M86 hN86 hM86 => ?_
   refine sr_k fun K87 hK87 => ?_
   simp only [go_sem, ordC_length, Int.toNat_one, Int.reduceTMod, F0, hcq, hql]
   repeat' (first | apply And.intro | intro _)
   refine hK87 _ ?_
   refine seq_k fun N88 M88 hN88 hM88 => ?_
   refine condT_k (by first | rfl | (simp [go_sem, ordC_length, Int.toNat_one, Int.reduceTMod, F0, hcq, hql]; done)) ?_
   refine skip_k ?_
   refine hN88 _ ?_
   refine seq_k fun N89 M89 hN89 hM89 => ?_
   refine block_k fun B90 bn90 bx90 br90 bi90 => ?_
   refine sr_k fun K91 hK91 => ?_
   simp only [go_sem, ordC_length, Int.toNat_one, Int.reduceTMod, F0, hcq, hql]
   repeat' (first | apply And.intro | intro _)
   refine hK91 _ ?_
   refine draw_k [43, 44, 45, 46, 47, 48, 49, 50, 51, 52, 53, 54] [0, 0, 2, 0, 0, 24, 56, 0, 128, 384, 121, 1145, 4095, 8191] [(1, 11), (2, 11), (7, 11), (8, 11), (9, 11)] mixed (by kernel_rfl) (by simp only [go_sem]) fun K92 hK92 => ?_
   simp only [go_sem, ordC_length, Int.toNat_one, Int.reduceTMod, F0, hcq, hql]
   repeat' (first | apply And.intro | intro _)
   refine hK92 _ _ ?_ ?_
   · first | trivial | (simp only [go_sem]; done) | (simp only [go_sem]; simp; done) | (simp only [go_sem]; simp; simp only [go_sem])
   refine bn90 _ ?_
   refine hN89 _ ?_
   refine region_k fun K93 hK93 => ?_
   simp only [go_sem, ordC_length, Int.toNat_one, Int.reduceTMod, F0, hcq, hql]
   repeat' (first | apply And.intro | intro _)
   refine hK93 _ ?_
   refine hN86 _ ?_
   refine rnd_forget [9, 41, 42, 43, 44, 45, 46, 47, 48, 49, 50, 51, 52, 53, 54, 55] ?_
   simp only [go_sem, St.forget, fgt]
   refine rnd_k fun N94 M94 hN94 hM94 => ?_
   refine sr_k fun K95 hK95 => ?_
   simp only [go_sem, ordC_length, Int.toNat_one, Int.reduceTMod, F0, hcq, hql]
   repeat' (first | apply And.intro | intro _)
   refine hK95 _ ?_
   refine seq_k fun N96 M96 hN96 hM96 => ?_
   refine condT_k (by first | rfl | (simp [go_sem, ordC_length, Int.toNat_one, Int.reduceTMod, F0, hcq, hql]; done)) ?_
   refine skip_k ?_
   refine hN96 _ ?_
   refine seq_k fun N97 M97 hN97 hM97 => ?_
   refine block_k fun B98 bn98 bx98 br98 bi98 => ?_
   refine sr_k fun K99 hK99 => ?_
   simp only [go_sem, ordC_length, Int.toNat_one, Int.reduceTMod, F0, hcq, hql]
   repeat' (first | apply And.intro | intro _)
   refine hK99 _ ?_
   refine draw_k [43, 44, 45, 46, 47, 48, 49, 50, 51, 52, 53, 54] [0, 0, 2, 0, 0, 24, 56, 0, 128, 384, 121, 1145, 4095, 8191] [(1, 11), (2, 11), (7, 11), (8, 11), (9, 11)] mixed (by kernel_rfl) (by simp only [go_sem]) fun K100 hK100 => ?_
   simp only [go_sem, ordC_length, Int.toNat_one, Int.reduceTMod, F0, hcq, hql]
   repeat' (first | apply And.intro | intro _)
   refine hK100 _ _ ?_ ?_
   · first | trivial | (simp only [go_sem]; done) | (simp only [go_sem]; simp; done) | (simp only [go_sem]; simp; simp only [go_sem])
   refine bn98 _ ?_
   refine hN97 _ ?_
   refine region_k fun K101 hK101 => ?_
   simp only [go_sem, ordC_length, Int.toNat_one, Int.reduceTMod, F0, hcq, hql]
   repeat' (first | apply And.intro | intro _)
   refine hK101 _ ?_
   refine hN94 _ ?_
   refine rnd_forget [9, 41, 42, 43, 44, 45, 46, 47, 48, 49, 50, 51, 52, 53, 54, 55] ?_
   simp only [go_sem, St.forget, fgt]
   refine rnd_k fun N102 M102 hN102 hM102 => ?_
   refine sr_k fun K103 hK103 => ?_
   simp only [go_sem, ordC_length, Int.toNat_one, Int.reduceTMod, F0, hcq, hql]
   repeat' (first | apply And.intro | intro _)
   refine hK103 _ ?_
   refine seq_k fun N104 M104 hN104 hM104 => ?_
   refine condT_k (by first | rfl | (simp [go_sem, ordC_length, Int.toNat_one, Int.reduceTMod, F0, hcq, hql]; done)) ?_
   refine skip_k ?_
   refine hN104 _ ?_
   refine seq_k fun N105 M105 hN105 hM105 => ?_
   refine block_k fun B106 bn106 bx106 br106 bi106 => ?_
   refine sr_k fun K107 hK107 => ?_
   simp only [go_sem, ordC_length, Int.toNat_one, Int.reduceTMod, F0, hcq, hql]
   repeat' (first | apply And.intro | intro _)
   refine hK107 _ ?_
   refine draw_k [43, 44, 45, 46, 47, 48, 49, 50, 51, 52, 53, 54] [0, 0, 2, 0, 0, 24, 56, 0, 128, 384, 121, 1145, 4095, 8191] [(1, 11), (2, 11), (7, 11), (8, 11), (9, 11)] mixed (by kernel_rfl) (by simp only [go_sem]) fun K108 hK108 => ?_
   simp only [go_sem, ordC_length, Int.toNat_one, Int.reduceTMod, F0, hcq, hql]
   repeat' (first | apply And.intro | intro _)
   refine hK108 _ _ ?_ ?_
   · first | trivial | (simp only [go_sem]; done) | (simp only [go_sem]; simp; done) | (simp only [go_sem]; simp; simp only [go_sem])
   refine bn106 _ ?_
   refine hN105 _ ?_
   refine region_k fun K109 hK109 => ?_
   simp only [go_sem, ordC_length, Int.toNat_one, Int.reduceTMod, F0, hcq, hql]
   repeat' (first | apply And.intro | intro _)
   refine hK109 _ ?_
   refine hN102 _ ?_
   refine rnd_forget [9, 41, 42, 43, 44, 45, 46, 47, 48, 49, 50, 51, 52, 53, 54, 55] ?_
   simp only [go_sem, St.forget, fgt]
   refine rnd_k fun N110 M110 hN110 hM110 => ?_
   refine sr_k fun K111 hK111 => ?_
   simp only [go_sem, ordC_length, Int.toNat_one, Int.reduceTMod, F0, hcq, hql]
   repeat' (first | apply And.intro | intro _)
   refine hK111 _ ?_
   refine seq_k fun N112 M112 hN112 hM112 => ?_
   refine condT_k (by first | rfl | (simp [go_sem, ordC_length, Int.toNat_one, Int.reduceTMod, F0, hcq, hql]; done)) ?_
   refine skip_k ?_
   refine hN112 _ ?_
   refine seq_k fun N113 M113 hN113 hM113 => ?_
   refine block_k fun B114 bn114 bx114 br114 bi114 => ?_
   refine sr_k fun K115 hK115 => ?_
   simp only [go_sem, ordC_length, Int.toNat_one, Int.reduceTMod, F0, hcq, hql]
   repeat' (first | apply And.intro | intro _)
   refine hK115 _ ?_
   refine draw_k [43, 44, 45, 46, 47, 48, 49, 50, 51, 52, 53, 54] [0, 0, 2, 0, 0, 24, 56, 0, 128, 384, 121, 1145, 4095, 8191] [(1, 11), (2, 11), (7, 11), (8, 11), (9, 11)] mixed (by kernel_rfl) (by simp only [go_sem]) fun K116 hK116 => ?_
   simp only [go_sem, ordC_length, Int.toNat_one, Int.reduceTMod, F0, hcq, hql]
   repeat' (first | apply And.intro | intro _)
   refine hK116 _ _ ?_ ?_
   · first | trivial | (simp only [go_sem]; done) | (simp only [go_sem]; simp; done) | (simp only [go_sem]; simp; simp only [go_sem])
   refine bn114 _ ?_
   refine hN113 _ ?_
   refine region_k fun K117 hK117 => ?_
   simp only [go_sem, ordC_length, Int.toNat_one, Int.reduceTMod, F0, hcq, hql]
   repeat' (first | apply And.intro | intro _)
   refine hK117 _ ?_
   refine hN110 _ ?_
   refine rnd_forget [9, 41, 42, 43, 44, 45, 46, 47, 48, 49, 50, 51, 52, 53, 54, 55] ?_
   simp only [go_sem, St.forget, fgt]
   refine rnd_k fun N118 M118 hN118 hM118 => ?_
   refine sr_k fun K119 hK119 => ?_
   simp only [go_sem, ordC_length, Int.toNat_one, Int.reduceTMod, F0, hcq, hql]
   repeat' (first | apply And.intro | intro _)
   refine hK119 _ ?_
   refine seq_k fun N120 M120 hN120 hM120 => ?_
   refine condF_k (by first | rfl | (simp [go_sem, ordC_length, Int.toNat_one, Int.reduceTMod, F0, hcq, hql]; done)) ?_
   refine exit_k ?_
   refine hM120 _ _ ?_
   refine hM118 _ _ ?_
   refine bx52 _ ?_
   refine hN50 _ ?_
   refine sr_k fun K121 hK121 => ?_
   simp only [go_sem, ordC_length, Int.toNat_one, Int.reduceTMod, F0, hcq, hql]
   repeat' (first | apply And.intro | intro _)
   refine hK121 _ ?_
   refine sr_k fun K122 hK122 => ?_
   simp only [go_sem, ordC_length, Int.toNat_one, Int.reduceTMod, F0, hcq, hql]
   repeat' (first | apply And.intro | intro _)
   refine hK122 _ ?_
   refine join_k [8, 5, 4, 2] (fun w => ⟨[(8, .w (.one (.p 8 []))), (5, .w (.one (.p 5 []))), (4, .w (.one (.p 4 []))), (2, .w (.one (.p 2 [])))], [(8, ⟨false, w.ls⟩), (5, ⟨false, u32C q⟩), (5, ⟨false, [.pl (.u32 0), .pl (.u32 0), .pl (.u32 0), .pl (.u32 0), .pl (.u32 0), .pl (.u32 0), .pl (.u32 0), .pl (.u32 0), .pl (.u32 0), .pl (.u32 0), .pl (.u32 0), .pl (.u32 0), .pl (.u32 0), .pl (.u32 0), .pl (.u32 0), .pl (.u32 0)]⟩), (4, ⟨false, [.pl (.u32 0), .pl (.u32 0), .pl (.u32 0), .pl (.u32 0), .pl (.u32 0), .pl (.u32 0), .pl (.u32 0), .pl (.u32 0)]⟩), (2, ⟨false, [.pl (.u32 h0), .pl (.u32 h1), .pl (.u32 h2), .pl (.u32 h3), .pl (.u32 h4), .pl (.u32 h5), .pl (.u32 h6), .pl (.u32 h7)] ++ (bytesC held ++ [.pl (.i n), .pl (.i ((len : Nat) : Int))])⟩), (1000000, ⟨false, [.pl (.u32 1779033703), .pl (.u32 3144134277), .pl (.u32 1013904242), .pl (.u32 2773480762), .pl (.u32 1359893119), .pl (.u32 2600822924), .pl (.u32 528734635), .pl (.u32 1541459225)]⟩), (1000002, ⟨false, ordC⟩)]⟩) (fun w => iniW ⟨h0, h1, h2, h3, h4, h5, h6, h7⟩ len last = w) (fun N123 M123 hN123 hM123 => ?_) (fun Wi hW => ?_)
   · skip
     refine sr_k fun K124 hK124 => ?_
     simp only [go_sem, ordC_length, Int.toNat_one, Int.reduceTMod, F0, hcq, hql]
     repeat' (first | apply And.intro | intro _)
     refine hK124 _ ?_
     refine cond_k rfl (fun hc => ?_) (fun hc => ?_)
     · try simp only [go_sem, ordC_length, Int.toNat_one, Int.reduceTMod, F0, hcq, hql] at hc
       subst hc
       all_goals
        refine region_k fun K125 hK125 => ?_
        simp only [go_sem, ordC_length, Int.toNat_one, Int.reduceTMod, F0, hcq, hql]
        repeat' (first | apply And.intro | intro _)
        refine hK125 _ ?_
        refine hN123 _ rfl _ ?_
        (simp only [keepE_mk, kept_nil, kept_cons, List.contains_cons, List.contains_nil, Nat.reduceBEq, beq_self_eq_true, Bool.or_false, Bool.or_true, Bool.true_or, Bool.false_or, Bool.false_eq_true, reduceIte]; rfl)
     · try simp only [go_sem, ordC_length, Int.toNat_one, Int.reduceTMod, F0, hcq, hql] at hc
       subst hc
       all_goals
        refine skip_k ?_
        refine hN123 _ rfl _ ?_
        (simp only [keepE_mk, kept_nil, kept_cons, List.contains_cons, List.contains_nil, Nat.reduceBEq, beq_self_eq_true, Bool.or_false, Bool.or_true, Bool.true_or, Bool.false_or, Bool.false_eq_true, reduceIte]; rfl)
   · skip
     refine sr_k fun K126 hK126 => ?_
     simp only [go_sem, ordC_length, Int.toNat_one, Int.reduceTMod, F0, hcq, hql]
     repeat' (first | apply And.intro | intro _)
     refine hK126 _ ?_
     refine seq_k fun N127 M127 hN127 hM127 => ?_
     refine sr_k fun K128 hK128 => ?_
     simp only [go_sem, ordC_length, Int.toNat_one, Int.reduceTMod, F0, hcq, hql]
     repeat' (first | apply And.intro | intro _)
     refine hK128 _ ?_
     refine block_k fun B129 bn129 bx129 br129 bi129 => ?_
     refine ht_dropE [0, 1, 6, 7, 9, 17, 18, 19, 20, 21, 22, 23, 24, 25, 26, 27, 28, 29, 30, 31, 32, 33, 34, 35, 36, 37, 38, 39, 40, 41, 42, 43, 44, 45, 46, 47, 48, 49, 50, 51, 52, 53, 54, 55, 56, 57, 58, 59, 60, 61, 62, 63, 64, 65, 66, 67, 68, 69, 70, 71, 72, 73, 74, 75, 76] ?_
     simp only [dropE_mk, fgt_nil, fgt_cons, List.contains_cons, List.contains_nil, Nat.reduceBEq, beq_self_eq_true, Bool.or_false, Bool.or_true, Bool.true_or, Bool.false_or, Bool.false_eq_true, reduceIte]
     refine loop_k (fun y => [(78, .w (.one (.pl (.i ((y.1 : Nat) : Int)))))]) (fun y => [(8, ⟨false, (roundB held y.1 Wi).ls⟩)]) (fun y => 10 - y.1) (⟨0, Nat.zero_le _⟩ : {y : Nat // y ≤ 10}) ?_ ?_ ?_
     · (simp only [go_sem, leX, List.cons_append, List.nil_append]; try simp)
     · (simp only [roundB, go_sem, leX, List.cons_append, List.nil_append]; first | done | rfl | (rw [← hW]; simp [roundB, iniW, W16.ls, leX, look]; done))
     intro ⟨k, hk9⟩ N130 M130 hN130 hM130
     simp only [List.cons_append, List.nil_append]
     rcases Nat.lt_or_ge k 10 with hlt | hge
     · have hcq : ((k : Nat) : Int) < 10 := by omega
       have hc0 : (0 : Int) ≤ ((k : Nat) : Int) := by omega
       have hk2 : k * 16 + 16 ≤ 160 := by omega
       have hs1 : Go.RowKit.wrap64 (((k : Nat) : Int) + 1) = ((k + 1 : Nat) : Int) := wnat (by omega) (by omega)
       have hrow := ord_row hlt
       have hoc := ordC_length
       obtain ⟨o0, ho0⟩ : ∃ o, ordN k 0 = o := ⟨_, rfl⟩
       have hol0 := ord_lt hlt (i := 0) (by decide)
       rw [ho0] at hol0
       obtain ⟨y0, hy0⟩ : ∃ y, q.getD o0 0 = y := ⟨_, rfl⟩
       have hu0 := u32_one (l := q) (i := o0) (by omega)
       rw [hy0] at hu0
       have hm0 : mixW held k 0 = y0 := by rw [mixW, ho0, ← hy0, hz o0 hol0]
       have hi0 : (0 : Int) ≤ ((o0 : Nat) : Int) ∧ ((o0 : Nat) : Int) < 16 ∧ o0 + 1 ≤ 16 := by omega
       obtain ⟨o1, ho1⟩ : ∃ o, ordN k 1 = o := ⟨_, rfl⟩
       have hol1 := ord_lt hlt (i := 1) (by decide)
       rw [ho1] at hol1
       obtain ⟨y1, hy1⟩ : ∃ y, q.getD o1 0 = y := ⟨_, rfl⟩
       have hu1 := u32_one (l := q) (i := o1) (by omega)
       rw [hy1] at hu1
       have hm1 : mixW held k 1 = y1 := by rw [mixW, ho1, ← hy1, hz o1 hol1]
       have hi1 : (0 : Int) ≤ ((o1 : Nat) : Int) ∧ ((o1 : Nat) : Int) < 16 ∧ o1 + 1 ≤ 16 := by omega
       obtain ⟨o2, ho2⟩ : ∃ o, ordN k 2 = o := ⟨_, rfl⟩
       have hol2 := ord_lt hlt (i := 2) (by decide)
       rw [ho2] at hol2
       obtain ⟨y2, hy2⟩ : ∃ y, q.getD o2 0 = y := ⟨_, rfl⟩
       have hu2 := u32_one (l := q) (i := o2) (by omega)
       rw [hy2] at hu2
       have hm2 : mixW held k 2 = y2 := by rw [mixW, ho2, ← hy2, hz o2 hol2]
       have hi2 : (0 : Int) ≤ ((o2 : Nat) : Int) ∧ ((o2 : Nat) : Int) < 16 ∧ o2 + 1 ≤ 16 := by omega
       obtain ⟨o3, ho3⟩ : ∃ o, ordN k 3 = o := ⟨_, rfl⟩
       have hol3 := ord_lt hlt (i := 3) (by decide)
       rw [ho3] at hol3
       obtain ⟨y3, hy3⟩ : ∃ y, q.getD o3 0 = y := ⟨_, rfl⟩
       have hu3 := u32_one (l := q) (i := o3) (by omega)
       rw [hy3] at hu3
       have hm3 : mixW held k 3 = y3 := by rw [mixW, ho3, ← hy3, hz o3 hol3]
       have hi3 : (0 : Int) ≤ ((o3 : Nat) : Int) ∧ ((o3 : Nat) : Int) < 16 ∧ o3 + 1 ≤ 16 := by omega
       obtain ⟨o4, ho4⟩ : ∃ o, ordN k 4 = o := ⟨_, rfl⟩
       have hol4 := ord_lt hlt (i := 4) (by decide)
       rw [ho4] at hol4
       obtain ⟨y4, hy4⟩ : ∃ y, q.getD o4 0 = y := ⟨_, rfl⟩
       have hu4 := u32_one (l := q) (i := o4) (by omega)
       rw [hy4] at hu4
       have hm4 : mixW held k 4 = y4 := by rw [mixW, ho4, ← hy4, hz o4 hol4]
       have hi4 : (0 : Int) ≤ ((o4 : Nat) : Int) ∧ ((o4 : Nat) : Int) < 16 ∧ o4 + 1 ≤ 16 := by omega
       obtain ⟨o5, ho5⟩ : ∃ o, ordN k 5 = o := ⟨_, rfl⟩
       have hol5 := ord_lt hlt (i := 5) (by decide)
       rw [ho5] at hol5
       obtain ⟨y5, hy5⟩ : ∃ y, q.getD o5 0 = y := ⟨_, rfl⟩
       have hu5 := u32_one (l := q) (i := o5) (by omega)
       rw [hy5] at hu5
       have hm5 : mixW held k 5 = y5 := by rw [mixW, ho5, ← hy5, hz o5 hol5]
       have hi5 : (0 : Int) ≤ ((o5 : Nat) : Int) ∧ ((o5 : Nat) : Int) < 16 ∧ o5 + 1 ≤ 16 := by omega
       obtain ⟨o6, ho6⟩ : ∃ o, ordN k 6 = o := ⟨_, rfl⟩
       have hol6 := ord_lt hlt (i := 6) (by decide)
       rw [ho6] at hol6
       obtain ⟨y6, hy6⟩ : ∃ y, q.getD o6 0 = y := ⟨_, rfl⟩
       have hu6 := u32_one (l := q) (i := o6) (by omega)
       rw [hy6] at hu6
       have hm6 : mixW held k 6 = y6 := by rw [mixW, ho6, ← hy6, hz o6 hol6]
       have hi6 : (0 : Int) ≤ ((o6 : Nat) : Int) ∧ ((o6 : Nat) : Int) < 16 ∧ o6 + 1 ≤ 16 := by omega
       obtain ⟨o7, ho7⟩ : ∃ o, ordN k 7 = o := ⟨_, rfl⟩
       have hol7 := ord_lt hlt (i := 7) (by decide)
       rw [ho7] at hol7
       obtain ⟨y7, hy7⟩ : ∃ y, q.getD o7 0 = y := ⟨_, rfl⟩
       have hu7 := u32_one (l := q) (i := o7) (by omega)
       rw [hy7] at hu7
       have hm7 : mixW held k 7 = y7 := by rw [mixW, ho7, ← hy7, hz o7 hol7]
       have hi7 : (0 : Int) ≤ ((o7 : Nat) : Int) ∧ ((o7 : Nat) : Int) < 16 ∧ o7 + 1 ≤ 16 := by omega
       obtain ⟨o8, ho8⟩ : ∃ o, ordN k 8 = o := ⟨_, rfl⟩
       have hol8 := ord_lt hlt (i := 8) (by decide)
       rw [ho8] at hol8
       obtain ⟨y8, hy8⟩ : ∃ y, q.getD o8 0 = y := ⟨_, rfl⟩
       have hu8 := u32_one (l := q) (i := o8) (by omega)
       rw [hy8] at hu8
       have hm8 : mixW held k 8 = y8 := by rw [mixW, ho8, ← hy8, hz o8 hol8]
       have hi8 : (0 : Int) ≤ ((o8 : Nat) : Int) ∧ ((o8 : Nat) : Int) < 16 ∧ o8 + 1 ≤ 16 := by omega
       obtain ⟨o9, ho9⟩ : ∃ o, ordN k 9 = o := ⟨_, rfl⟩
       have hol9 := ord_lt hlt (i := 9) (by decide)
       rw [ho9] at hol9
       obtain ⟨y9, hy9⟩ : ∃ y, q.getD o9 0 = y := ⟨_, rfl⟩
       have hu9 := u32_one (l := q) (i := o9) (by omega)
       rw [hy9] at hu9
       have hm9 : mixW held k 9 = y9 := by rw [mixW, ho9, ← hy9, hz o9 hol9]
       have hi9 : (0 : Int) ≤ ((o9 : Nat) : Int) ∧ ((o9 : Nat) : Int) < 16 ∧ o9 + 1 ≤ 16 := by omega
       obtain ⟨o10, ho10⟩ : ∃ o, ordN k 10 = o := ⟨_, rfl⟩
       have hol10 := ord_lt hlt (i := 10) (by decide)
       rw [ho10] at hol10
       obtain ⟨y10, hy10⟩ : ∃ y, q.getD o10 0 = y := ⟨_, rfl⟩
       have hu10 := u32_one (l := q) (i := o10) (by omega)
       rw [hy10] at hu10
       have hm10 : mixW held k 10 = y10 := by rw [mixW, ho10, ← hy10, hz o10 hol10]
       have hi10 : (0 : Int) ≤ ((o10 : Nat) : Int) ∧ ((o10 : Nat) : Int) < 16 ∧ o10 + 1 ≤ 16 := by omega
       obtain ⟨o11, ho11⟩ : ∃ o, ordN k 11 = o := ⟨_, rfl⟩
       have hol11 := ord_lt hlt (i := 11) (by decide)
       rw [ho11] at hol11
       obtain ⟨y11, hy11⟩ : ∃ y, q.getD o11 0 = y := ⟨_, rfl⟩
       have hu11 := u32_one (l := q) (i := o11) (by omega)
       rw [hy11] at hu11
       have hm11 : mixW held k 11 = y11 := by rw [mixW, ho11, ← hy11, hz o11 hol11]
       have hi11 : (0 : Int) ≤ ((o11 : Nat) : Int) ∧ ((o11 : Nat) : Int) < 16 ∧ o11 + 1 ≤ 16 := by omega
       obtain ⟨o12, ho12⟩ : ∃ o, ordN k 12 = o := ⟨_, rfl⟩
       have hol12 := ord_lt hlt (i := 12) (by decide)
       rw [ho12] at hol12
       obtain ⟨y12, hy12⟩ : ∃ y, q.getD o12 0 = y := ⟨_, rfl⟩
       have hu12 := u32_one (l := q) (i := o12) (by omega)
       rw [hy12] at hu12
       have hm12 : mixW held k 12 = y12 := by rw [mixW, ho12, ← hy12, hz o12 hol12]
       have hi12 : (0 : Int) ≤ ((o12 : Nat) : Int) ∧ ((o12 : Nat) : Int) < 16 ∧ o12 + 1 ≤ 16 := by omega
       obtain ⟨o13, ho13⟩ : ∃ o, ordN k 13 = o := ⟨_, rfl⟩
       have hol13 := ord_lt hlt (i := 13) (by decide)
       rw [ho13] at hol13
       obtain ⟨y13, hy13⟩ : ∃ y, q.getD o13 0 = y := ⟨_, rfl⟩
       have hu13 := u32_one (l := q) (i := o13) (by omega)
       rw [hy13] at hu13
       have hm13 : mixW held k 13 = y13 := by rw [mixW, ho13, ← hy13, hz o13 hol13]
       have hi13 : (0 : Int) ≤ ((o13 : Nat) : Int) ∧ ((o13 : Nat) : Int) < 16 ∧ o13 + 1 ≤ 16 := by omega
       obtain ⟨o14, ho14⟩ : ∃ o, ordN k 14 = o := ⟨_, rfl⟩
       have hol14 := ord_lt hlt (i := 14) (by decide)
       rw [ho14] at hol14
       obtain ⟨y14, hy14⟩ : ∃ y, q.getD o14 0 = y := ⟨_, rfl⟩
       have hu14 := u32_one (l := q) (i := o14) (by omega)
       rw [hy14] at hu14
       have hm14 : mixW held k 14 = y14 := by rw [mixW, ho14, ← hy14, hz o14 hol14]
       have hi14 : (0 : Int) ≤ ((o14 : Nat) : Int) ∧ ((o14 : Nat) : Int) < 16 ∧ o14 + 1 ≤ 16 := by omega
       obtain ⟨o15, ho15⟩ : ∃ o, ordN k 15 = o := ⟨_, rfl⟩
       have hol15 := ord_lt hlt (i := 15) (by decide)
       rw [ho15] at hol15
       obtain ⟨y15, hy15⟩ : ∃ y, q.getD o15 0 = y := ⟨_, rfl⟩
       have hu15 := u32_one (l := q) (i := o15) (by omega)
       rw [hy15] at hu15
       have hm15 : mixW held k 15 = y15 := by rw [mixW, ho15, ← hy15, hz o15 hol15]
       have hi15 : (0 : Int) ≤ ((o15 : Nat) : Int) ∧ ((o15 : Nat) : Int) < 16 ∧ o15 + 1 ≤ 16 := by omega
       rw [ho0, ho1, ho2, ho3, ho4, ho5, ho6, ho7, ho8, ho9, ho10, ho11, ho12, ho13, ho14, ho15] at hrow
       obtain ⟨w, hw⟩ : ∃ w, roundB held k Wi = w := ⟨_, rfl⟩
       obtain ⟨x0, x1, x2, x3, x4, x5, x6, x7, x8, x9, x10, x11, x12, x13, x14, x15⟩ := w
       simp only [hw, W16.ls]
       have F130 := And.intro hcq <| And.intro hc0 <| And.intro hk2 <| And.intro hs1 <| And.intro hrow <| And.intro hoc <| And.intro hu0 <| And.intro hi0 <| And.intro hu1 <| And.intro hi1 <| And.intro hu2 <| And.intro hi2 <| And.intro hu3 <| And.intro hi3 <| And.intro hu4 <| And.intro hi4 <| And.intro hu5 <| And.intro hi5 <| And.intro hu6 <| And.intro hi6 <| And.intro hu7 <| And.intro hi7 <| And.intro hu8 <| And.intro hi8 <| And.intro hu9 <| And.intro hi9 <| And.intro hu10 <| And.intro hi10 <| And.intro hu11 <| And.intro hi11 <| And.intro hu12 <| And.intro hi12 <| And.intro hu13 <| And.intro hi13 <| And.intro hu14 <| And.intro hi14 <| And.intro hu15 <| hi15
       refine sr_k fun K131 hK131 => ?_
       simp only [go_sem, ordC_length, Int.toNat_one, Int.reduceTMod, F0, hcq, hql, F130]
       repeat' (first | apply And.intro | intro _)
       refine hK131 _ ?_
       refine seq_k fun N132 M132 hN132 hM132 => ?_
       refine condT_k (by first | rfl | (simp [go_sem, ordC_length, Int.toNat_one, Int.reduceTMod, F0, hcq, hql, F130]; done)) ?_
       refine skip_k ?_
       refine hN132 _ ?_
       refine seq_k fun N133 M133 hN133 hM133 => ?_
       refine block_k fun B134 bn134 bx134 br134 bi134 => ?_
       refine sr_k fun K135 hK135 => ?_
       simp only [go_sem, ordC_length, Int.toNat_one, Int.reduceTMod, F0, hcq, hql, F130]
       repeat' (first | apply And.intro | intro _)
       refine hK135 _ ?_
       refine seq_k fun N136 M136 hN136 hM136 => ?_
       refine sr_k fun K137 hK137 => ?_
       simp only [go_sem, ordC_length, Int.toNat_one, Int.reduceTMod, F0, hcq, hql, F130]
       repeat' (first | apply And.intro | intro _)
       refine hK137 _ ?_
       refine block_k fun B138 bn138 bx138 br138 bi138 => ?_
       refine rounds_k 5 ?_
       refine rnd_k fun N140 M140 hN140 hM140 => ?_
       refine sr_k fun K141 hK141 => ?_
       simp only [go_sem, ordC_length, Int.toNat_one, Int.reduceTMod, F0, hcq, hql, F130]
       repeat' (first | apply And.intro | intro _)
       refine hK141 _ ?_
       refine seq_k fun N142 M142 hN142 hM142 => ?_
       refine condT_k (by first | rfl | (simp [go_sem, ordC_length, Int.toNat_one, Int.reduceTMod, F0, hcq, hql, F130]; done)) ?_
       refine skip_k ?_
       refine hN142 _ ?_
       refine seq_k fun N143 M143 hN143 hM143 => ?_
       refine block_k fun B144 bn144 bx144 br144 bi144 => ?_
       refine sr_k fun K145 hK145 => ?_
       simp only [go_sem, ordC_length, Int.toNat_one, Int.reduceTMod, F0, hcq, hql, F130]
       repeat' (first | apply And.intro | intro _)
       refine hK145 _ ?_
       refine dr_k mixed fun K146 hK146 => ?_
       refine dr_piece_k 21 [84, 85, 86, 87, 88, 89, 90, 91, 92, 93, 94, 95, 96, 97, 98, 99, 100, 101, 102, 103, 104] [0, 0, 0, 4, 0, 16, 0, 64, 0, 256, 768, 1792, 3840, 7936, 0, 16384, 49152, 114688, 245760, 507904, 1032192, 2097151] [] rfl (by kernel_rfl) rfl (by simp only [go_sem]) fun N147 K147 hN147 hK147 => ?_
       simp only [go_sem, ordC_length, Int.toNat_one, Int.reduceTMod, F0, hcq, hql, F130]
       repeat' (first | apply And.intro | intro _)
       all_goals
        refine hK147 _ _ trivial (hN147 _ ?_)
        refine dr_runs_k 1 22 rfl (by kernel_rfl) rfl rfl fun N148 hN148 => ?_
        simp only [go_sem, ordC_length, Int.toNat_one, Int.reduceTMod, F0, hcq, hql, F130]
        repeat' (first | apply And.intro | intro _)
        all_goals (refine call_fn (caps := [8]) false [(500000, 8)] (fun k => k) ?_ ?_ (fun _ _ => rfl) ?_ (by decide) ?_ (mix_0 x0 x1 x2 x3 x4 x5 x6 x7 x8 x9 x10 x11 x12 x13 x14 x15 y0 y1) ?_; iterate 4 (focus (first | rfl | (simp only [go_sem, ordC_length, Int.toNat_one, Int.reduceTMod, F0, hcq, hql, F130] <;> first | done | rfl | simp))))
        all_goals (rintro v m ⟨hR, hm⟩; subst hR; subst hm)
        all_goals (refine And.intro ?_ (And.intro ?_ (And.intro ?_ ?_)); iterate 3 (focus (first | rfl | (simp only [go_sem, ordC_length, Int.toNat_one, Int.reduceTMod, F0, hcq, hql, F130]; done) | (simp [go_sem, look, ordC_length, Int.toNat_one, Int.reduceTMod, F0, hcq, hql, F130]; done))))
        all_goals (try simp only [go_sem, ordC_length, Int.toNat_one, Int.reduceTMod, F0, hcq, hql, F130])
        all_goals (try simp only [go_sem, ordC_length, Int.toNat_one, Int.reduceTMod, F0, hcq, hql, F130])
        all_goals repeat' (first | apply And.intro | intro _)
        all_goals
         refine hN148 _ ?_
         refine dr_end rfl (hK146 _ ?_)
         refine bn144 _ ?_
         refine hN143 _ ?_
         refine region_k fun K149 hK149 => ?_
         simp only [go_sem, ordC_length, Int.toNat_one, Int.reduceTMod, F0, hcq, hql, F130]
         repeat' (first | apply And.intro | intro _)
         refine hK149 _ ?_
         refine hN140 _ ?_
         refine rnd_forget [13, 82, 83, 84, 85, 86, 87, 88, 89, 90, 91, 92, 93, 94, 95, 96, 97, 98, 99, 100, 101, 102, 103, 104, 105, 106] ?_
         simp only [go_sem, St.forget, fgt]
         refine rnd_k fun N150 M150 hN150 hM150 => ?_
         refine sr_k fun K151 hK151 => ?_
         simp only [go_sem, ordC_length, Int.toNat_one, Int.reduceTMod, F0, hcq, hql, F130]
         repeat' (first | apply And.intro | intro _)
         refine hK151 _ ?_
         refine seq_k fun N152 M152 hN152 hM152 => ?_
         refine condT_k (by first | rfl | (simp [go_sem, ordC_length, Int.toNat_one, Int.reduceTMod, F0, hcq, hql, F130]; done)) ?_
         refine skip_k ?_
         refine hN152 _ ?_
         refine seq_k fun N153 M153 hN153 hM153 => ?_
         refine block_k fun B154 bn154 bx154 br154 bi154 => ?_
         refine sr_k fun K155 hK155 => ?_
         simp only [go_sem, ordC_length, Int.toNat_one, Int.reduceTMod, F0, hcq, hql, F130]
         repeat' (first | apply And.intro | intro _)
         refine hK155 _ ?_
         refine dr_k mixed fun K156 hK156 => ?_
         refine dr_piece_k 21 [84, 85, 86, 87, 88, 89, 90, 91, 92, 93, 94, 95, 96, 97, 98, 99, 100, 101, 102, 103, 104] [0, 0, 0, 4, 0, 16, 0, 64, 0, 256, 768, 1792, 3840, 7936, 0, 16384, 49152, 114688, 245760, 507904, 1032192, 2097151] [] rfl (by kernel_rfl) rfl (by simp only [go_sem]) fun N157 K157 hN157 hK157 => ?_
         simp only [go_sem, ordC_length, Int.toNat_one, Int.reduceTMod, F0, hcq, hql, F130]
         repeat' (first | apply And.intro | intro _)
         all_goals
          refine hK157 _ _ trivial (hN157 _ ?_)
          refine dr_runs_k 1 22 rfl (by kernel_rfl) rfl rfl fun N158 hN158 => ?_
          simp only [go_sem, ordC_length, Int.toNat_one, Int.reduceTMod, F0, hcq, hql, F130]
          repeat' (first | apply And.intro | intro _)
          all_goals (refine call_fn (caps := [8]) false [(500000, 8)] (fun k => k) ?_ ?_ (fun _ _ => rfl) ?_ (by decide) ?_ (mix_1 (mA x0 x4 x8 x12 y0 y1) x1 x2 x3 (mB x0 x4 x8 x12 y0 y1) x5 x6 x7 (mC x0 x4 x8 x12 y0 y1) x9 x10 x11 (mD x0 x4 x8 x12 y0 y1) x13 x14 x15 y2 y3) ?_; iterate 4 (focus (first | rfl | (simp only [go_sem, ordC_length, Int.toNat_one, Int.reduceTMod, F0, hcq, hql, F130] <;> first | done | rfl | simp))))
          all_goals (rintro v m ⟨hR, hm⟩; subst hR; subst hm)
          all_goals (refine And.intro ?_ (And.intro ?_ (And.intro ?_ ?_)); iterate 3 (focus (first | rfl | (simp only [go_sem, ordC_length, Int.toNat_one, Int.reduceTMod, F0, hcq, hql, F130]; done) | (simp [go_sem, look, ordC_length, Int.toNat_one, Int.reduceTMod, F0, hcq, hql, F130]; done))))
          all_goals (try simp only [go_sem, ordC_length, Int.toNat_one, Int.reduceTMod, F0, hcq, hql, F130])
          all_goals (try simp only [go_sem, ordC_length, Int.toNat_one, Int.reduceTMod, F0, hcq, hql, F130])
          all_goals repeat' (first | apply And.intro | intro _)
          all_goals
           refine hN158 _ ?_
           refine dr_end rfl (hK156 _ ?_)
           refine bn154 _ ?_
           refine hN153 _ ?_
           refine region_k fun K159 hK159 => ?_
           simp only [go_sem, ordC_length, Int.toNat_one, Int.reduceTMod, F0, hcq, hql, F130]
           repeat' (first | apply And.intro | intro _)
           refine hK159 _ ?_
           refine hN150 _ ?_
           refine rnd_forget [13, 82, 83, 84, 85, 86, 87, 88, 89, 90, 91, 92, 93, 94, 95, 96, 97, 98, 99, 100, 101, 102, 103, 104, 105, 106] ?_
           simp only [go_sem, St.forget, fgt]
           refine rnd_k fun N160 M160 hN160 hM160 => ?_
           refine sr_k fun K161 hK161 => ?_
           simp only [go_sem, ordC_length, Int.toNat_one, Int.reduceTMod, F0, hcq, hql, F130]
           repeat' (first | apply And.intro | intro _)
           refine hK161 _ ?_
           refine seq_k fun N162 M162 hN162 hM162 => ?_
           refine condT_k (by first | rfl | (simp [go_sem, ordC_length, Int.toNat_one, Int.reduceTMod, F0, hcq, hql, F130]; done)) ?_
           refine skip_k ?_
           refine hN162 _ ?_
           refine seq_k fun N163 M163 hN163 hM163 => ?_
           refine block_k fun B164 bn164 bx164 br164 bi164 => ?_
           refine sr_k fun K165 hK165 => ?_
           simp only [go_sem, ordC_length, Int.toNat_one, Int.reduceTMod, F0, hcq, hql, F130]
           repeat' (first | apply And.intro | intro _)
           refine hK165 _ ?_
           refine dr_k mixed fun K166 hK166 => ?_
           refine dr_piece_k 21 [84, 85, 86, 87, 88, 89, 90, 91, 92, 93, 94, 95, 96, 97, 98, 99, 100, 101, 102, 103, 104] [0, 0, 0, 4, 0, 16, 0, 64, 0, 256, 768, 1792, 3840, 7936, 0, 16384, 49152, 114688, 245760, 507904, 1032192, 2097151] [] rfl (by kernel_rfl) rfl (by simp only [go_sem]) fun N167 K167 hN167 hK167 => ?_
           simp only [go_sem, ordC_length, Int.toNat_one, Int.reduceTMod, F0, hcq, hql, F130]
           repeat' (first | apply And.intro | intro _)
           all_goals
            refine hK167 _ _ trivial (hN167 _ ?_)
            refine dr_runs_k 1 22 rfl (by kernel_rfl) rfl rfl fun N168 hN168 => ?_
            simp only [go_sem, ordC_length, Int.toNat_one, Int.reduceTMod, F0, hcq, hql, F130]
            repeat' (first | apply And.intro | intro _)
            all_goals (refine call_fn (caps := [8]) false [(500000, 8)] (fun k => k) ?_ ?_ (fun _ _ => rfl) ?_ (by decide) ?_ (mix_2 (mA x0 x4 x8 x12 y0 y1) (mA x1 x5 x9 x13 y2 y3) x2 x3 (mB x0 x4 x8 x12 y0 y1) (mB x1 x5 x9 x13 y2 y3) x6 x7 (mC x0 x4 x8 x12 y0 y1) (mC x1 x5 x9 x13 y2 y3) x10 x11 (mD x0 x4 x8 x12 y0 y1) (mD x1 x5 x9 x13 y2 y3) x14 x15 y4 y5) ?_; iterate 4 (focus (first | rfl | (simp only [go_sem, ordC_length, Int.toNat_one, Int.reduceTMod, F0, hcq, hql, F130] <;> first | done | rfl | simp))))
            all_goals (rintro v m ⟨hR, hm⟩; subst hR; subst hm)
            all_goals (refine And.intro ?_ (And.intro ?_ (And.intro ?_ ?_)); iterate 3 (focus (first | rfl | (simp only [go_sem, ordC_length, Int.toNat_one, Int.reduceTMod, F0, hcq, hql, F130]; done) | (simp [go_sem, look, ordC_length, Int.toNat_one, Int.reduceTMod, F0, hcq, hql, F130]; done))))
            all_goals (try simp only [go_sem, ordC_length, Int.toNat_one, Int.reduceTMod, F0, hcq, hql, F130])
            all_goals (try simp only [go_sem, ordC_length, Int.toNat_one, Int.reduceTMod, F0, hcq, hql, F130])
            all_goals repeat' (first | apply And.intro | intro _)
            all_goals
             refine hN168 _ ?_
             refine dr_end rfl (hK166 _ ?_)
             refine bn164 _ ?_
             refine hN163 _ ?_
             refine region_k fun K169 hK169 => ?_
             simp only [go_sem, ordC_length, Int.toNat_one, Int.reduceTMod, F0, hcq, hql, F130]
             repeat' (first | apply And.intro | intro _)
             refine hK169 _ ?_
             refine hN160 _ ?_
             refine rnd_forget [13, 82, 83, 84, 85, 86, 87, 88, 89, 90, 91, 92, 93, 94, 95, 96, 97, 98, 99, 100, 101, 102, 103, 104, 105, 106] ?_
             simp only [go_sem, St.forget, fgt]
             refine rnd_k fun N170 M170 hN170 hM170 => ?_
             refine sr_k fun K171 hK171 => ?_
             simp only [go_sem, ordC_length, Int.toNat_one, Int.reduceTMod, F0, hcq, hql, F130]
             repeat' (first | apply And.intro | intro _)
             refine hK171 _ ?_
             refine seq_k fun N172 M172 hN172 hM172 => ?_
             refine condT_k (by first | rfl | (simp [go_sem, ordC_length, Int.toNat_one, Int.reduceTMod, F0, hcq, hql, F130]; done)) ?_
             refine skip_k ?_
             refine hN172 _ ?_
             refine seq_k fun N173 M173 hN173 hM173 => ?_
             refine block_k fun B174 bn174 bx174 br174 bi174 => ?_
             refine sr_k fun K175 hK175 => ?_
             simp only [go_sem, ordC_length, Int.toNat_one, Int.reduceTMod, F0, hcq, hql, F130]
             repeat' (first | apply And.intro | intro _)
             refine hK175 _ ?_
             refine dr_k mixed fun K176 hK176 => ?_
             refine dr_piece_k 21 [84, 85, 86, 87, 88, 89, 90, 91, 92, 93, 94, 95, 96, 97, 98, 99, 100, 101, 102, 103, 104] [0, 0, 0, 4, 0, 16, 0, 64, 0, 256, 768, 1792, 3840, 7936, 0, 16384, 49152, 114688, 245760, 507904, 1032192, 2097151] [] rfl (by kernel_rfl) rfl (by simp only [go_sem]) fun N177 K177 hN177 hK177 => ?_
             simp only [go_sem, ordC_length, Int.toNat_one, Int.reduceTMod, F0, hcq, hql, F130]
             repeat' (first | apply And.intro | intro _)
             all_goals
              refine hK177 _ _ trivial (hN177 _ ?_)
              refine dr_runs_k 1 22 rfl (by kernel_rfl) rfl rfl fun N178 hN178 => ?_
              simp only [go_sem, ordC_length, Int.toNat_one, Int.reduceTMod, F0, hcq, hql, F130]
              repeat' (first | apply And.intro | intro _)
              all_goals (refine call_fn (caps := [8]) false [(500000, 8)] (fun k => k) ?_ ?_ (fun _ _ => rfl) ?_ (by decide) ?_ (mix_3 (mA x0 x4 x8 x12 y0 y1) (mA x1 x5 x9 x13 y2 y3) (mA x2 x6 x10 x14 y4 y5) x3 (mB x0 x4 x8 x12 y0 y1) (mB x1 x5 x9 x13 y2 y3) (mB x2 x6 x10 x14 y4 y5) x7 (mC x0 x4 x8 x12 y0 y1) (mC x1 x5 x9 x13 y2 y3) (mC x2 x6 x10 x14 y4 y5) x11 (mD x0 x4 x8 x12 y0 y1) (mD x1 x5 x9 x13 y2 y3) (mD x2 x6 x10 x14 y4 y5) x15 y6 y7) ?_; iterate 4 (focus (first | rfl | (simp only [go_sem, ordC_length, Int.toNat_one, Int.reduceTMod, F0, hcq, hql, F130] <;> first | done | rfl | simp))))
              all_goals (rintro v m ⟨hR, hm⟩; subst hR; subst hm)
              all_goals (refine And.intro ?_ (And.intro ?_ (And.intro ?_ ?_)); iterate 3 (focus (first | rfl | (simp only [go_sem, ordC_length, Int.toNat_one, Int.reduceTMod, F0, hcq, hql, F130]; done) | (simp [go_sem, look, ordC_length, Int.toNat_one, Int.reduceTMod, F0, hcq, hql, F130]; done))))
              all_goals (try simp only [go_sem, ordC_length, Int.toNat_one, Int.reduceTMod, F0, hcq, hql, F130])
              all_goals (try simp only [go_sem, ordC_length, Int.toNat_one, Int.reduceTMod, F0, hcq, hql, F130])
              all_goals repeat' (first | apply And.intro | intro _)
              all_goals
               refine hN178 _ ?_
               refine dr_end rfl (hK176 _ ?_)
               refine bn174 _ ?_
               refine hN173 _ ?_
               refine region_k fun K179 hK179 => ?_
               simp only [go_sem, ordC_length, Int.toNat_one, Int.reduceTMod, F0, hcq, hql, F130]
               repeat' (first | apply And.intro | intro _)
               refine hK179 _ ?_
               refine hN170 _ ?_
               refine rnd_forget [13, 82, 83, 84, 85, 86, 87, 88, 89, 90, 91, 92, 93, 94, 95, 96, 97, 98, 99, 100, 101, 102, 103, 104, 105, 106] ?_
               simp only [go_sem, St.forget, fgt]
               refine rnd_k fun N180 M180 hN180 hM180 => ?_
               refine sr_k fun K181 hK181 => ?_
               simp only [go_sem, ordC_length, Int.toNat_one, Int.reduceTMod, F0, hcq, hql, F130]
               repeat' (first | apply And.intro | intro _)
               refine hK181 _ ?_
               refine seq_k fun N182 M182 hN182 hM182 => ?_
               refine condF_k (by first | rfl | (simp [go_sem, ordC_length, Int.toNat_one, Int.reduceTMod, F0, hcq, hql, F130]; done)) ?_
               refine exit_k ?_
               refine hM182 _ _ ?_
               refine hM180 _ _ ?_
               refine bx138 _ ?_
               refine hN136 _ ?_
               refine sr_k fun K183 hK183 => ?_
               simp only [go_sem, ordC_length, Int.toNat_one, Int.reduceTMod, F0, hcq, hql, F130]
               repeat' (first | apply And.intro | intro _)
               refine hK183 _ ?_
               refine block_k fun B184 bn184 bx184 br184 bi184 => ?_
               refine rounds_k 5 ?_
               refine rnd_k fun N186 M186 hN186 hM186 => ?_
               refine sr_k fun K187 hK187 => ?_
               simp only [go_sem, ordC_length, Int.toNat_one, Int.reduceTMod, F0, hcq, hql, F130]
               repeat' (first | apply And.intro | intro _)
               refine hK187 _ ?_
               refine seq_k fun N188 M188 hN188 hM188 => ?_
               refine condT_k (by first | rfl | (simp [go_sem, ordC_length, Int.toNat_one, Int.reduceTMod, F0, hcq, hql, F130]; done)) ?_
               refine skip_k ?_
               refine hN188 _ ?_
               refine seq_k fun N189 M189 hN189 hM189 => ?_
               refine block_k fun B190 bn190 bx190 br190 bi190 => ?_
               refine sr_k fun K191 hK191 => ?_
               simp only [go_sem, ordC_length, Int.toNat_one, Int.reduceTMod, F0, hcq, hql, F130]
               repeat' (first | apply And.intro | intro _)
               refine hK191 _ ?_
               refine dr_k mixed fun K192 hK192 => ?_
               refine dr_piece_k 28 [110, 111, 112, 113, 114, 115, 116, 117, 118, 119, 120, 121, 122, 123, 124, 125, 126, 127, 128, 129, 130, 131, 132, 133, 134, 135, 136, 137] [0, 0, 0, 4, 12, 28, 0, 64, 192, 448, 0, 1024, 3072, 7168, 0, 16384, 49152, 114688, 245760, 507904, 1032192, 0, 2097152, 6291456, 14680064, 31457280, 65011712, 132120576, 268435455] [] rfl (by kernel_rfl) rfl (by simp only [go_sem]) fun N193 K193 hN193 hK193 => ?_
               simp only [go_sem, ordC_length, Int.toNat_one, Int.reduceTMod, F0, hcq, hql, F130]
               repeat' (first | apply And.intro | intro _)
               all_goals
                refine hK193 _ _ trivial (hN193 _ ?_)
                refine dr_runs_k 1 29 rfl (by kernel_rfl) rfl rfl fun N194 hN194 => ?_
                simp only [go_sem, ordC_length, Int.toNat_one, Int.reduceTMod, F0, hcq, hql, F130]
                repeat' (first | apply And.intro | intro _)
                all_goals (refine call_fn (caps := [8]) false [(500000, 8)] (fun k => k) ?_ ?_ (fun _ _ => rfl) ?_ (by decide) ?_ (mix_4 (mA x0 x4 x8 x12 y0 y1) (mA x1 x5 x9 x13 y2 y3) (mA x2 x6 x10 x14 y4 y5) (mA x3 x7 x11 x15 y6 y7) (mB x0 x4 x8 x12 y0 y1) (mB x1 x5 x9 x13 y2 y3) (mB x2 x6 x10 x14 y4 y5) (mB x3 x7 x11 x15 y6 y7) (mC x0 x4 x8 x12 y0 y1) (mC x1 x5 x9 x13 y2 y3) (mC x2 x6 x10 x14 y4 y5) (mC x3 x7 x11 x15 y6 y7) (mD x0 x4 x8 x12 y0 y1) (mD x1 x5 x9 x13 y2 y3) (mD x2 x6 x10 x14 y4 y5) (mD x3 x7 x11 x15 y6 y7) y8 y9) ?_; iterate 4 (focus (first | rfl | (simp only [go_sem, ordC_length, Int.toNat_one, Int.reduceTMod, F0, hcq, hql, F130] <;> first | done | rfl | simp))))
                all_goals (rintro v m ⟨hR, hm⟩; subst hR; subst hm)
                all_goals (refine And.intro ?_ (And.intro ?_ (And.intro ?_ ?_)); iterate 3 (focus (first | rfl | (simp only [go_sem, ordC_length, Int.toNat_one, Int.reduceTMod, F0, hcq, hql, F130]; done) | (simp [go_sem, look, ordC_length, Int.toNat_one, Int.reduceTMod, F0, hcq, hql, F130]; done))))
                all_goals (try simp only [go_sem, ordC_length, Int.toNat_one, Int.reduceTMod, F0, hcq, hql, F130])
                all_goals (try simp only [go_sem, ordC_length, Int.toNat_one, Int.reduceTMod, F0, hcq, hql, F130])
                all_goals repeat' (first | apply And.intro | intro _)
                all_goals
                 refine hN194 _ ?_
                 refine dr_end rfl (hK192 _ ?_)
                 refine bn190 _ ?_
                 refine hN189 _ ?_
                 refine region_k fun K195 hK195 => ?_
                 simp only [go_sem, ordC_length, Int.toNat_one, Int.reduceTMod, F0, hcq, hql, F130]
                 repeat' (first | apply And.intro | intro _)
                 refine hK195 _ ?_
                 refine hN186 _ ?_
                 refine rnd_forget [14, 108, 109, 110, 111, 112, 113, 114, 115, 116, 117, 118, 119, 120, 121, 122, 123, 124, 125, 126, 127, 128, 129, 130, 131, 132, 133, 134, 135, 136, 137, 138, 139] ?_
                 simp only [go_sem, St.forget, fgt]
                 refine rnd_k fun N196 M196 hN196 hM196 => ?_
                 refine sr_k fun K197 hK197 => ?_
                 simp only [go_sem, ordC_length, Int.toNat_one, Int.reduceTMod, F0, hcq, hql, F130]
                 repeat' (first | apply And.intro | intro _)
                 refine hK197 _ ?_
                 refine seq_k fun N198 M198 hN198 hM198 => ?_
                 refine condT_k (by first | rfl | (simp [go_sem, ordC_length, Int.toNat_one, Int.reduceTMod, F0, hcq, hql, F130]; done)) ?_
                 refine skip_k ?_
                 refine hN198 _ ?_
                 refine seq_k fun N199 M199 hN199 hM199 => ?_
                 refine block_k fun B200 bn200 bx200 br200 bi200 => ?_
                 refine sr_k fun K201 hK201 => ?_
                 simp only [go_sem, ordC_length, Int.toNat_one, Int.reduceTMod, F0, hcq, hql, F130]
                 repeat' (first | apply And.intro | intro _)
                 refine hK201 _ ?_
                 refine dr_k mixed fun K202 hK202 => ?_
                 refine dr_piece_k 28 [110, 111, 112, 113, 114, 115, 116, 117, 118, 119, 120, 121, 122, 123, 124, 125, 126, 127, 128, 129, 130, 131, 132, 133, 134, 135, 136, 137] [0, 0, 0, 4, 12, 28, 0, 64, 192, 448, 0, 1024, 3072, 7168, 0, 16384, 49152, 114688, 245760, 507904, 1032192, 0, 2097152, 6291456, 14680064, 31457280, 65011712, 132120576, 268435455] [] rfl (by kernel_rfl) rfl (by simp only [go_sem]) fun N203 K203 hN203 hK203 => ?_
                 simp only [go_sem, ordC_length, Int.toNat_one, Int.reduceTMod, F0, hcq, hql, F130]
                 repeat' (first | apply And.intro | intro _)
                 all_goals
                  refine hK203 _ _ trivial (hN203 _ ?_)
                  refine dr_runs_k 1 29 rfl (by kernel_rfl) rfl rfl fun N204 hN204 => ?_
                  simp only [go_sem, ordC_length, Int.toNat_one, Int.reduceTMod, F0, hcq, hql, F130]
                  repeat' (first | apply And.intro | intro _)
                  all_goals (refine call_fn (caps := [8]) false [(500000, 8)] (fun k => k) ?_ ?_ (fun _ _ => rfl) ?_ (by decide) ?_ (mix_5 (mA (mA x0 x4 x8 x12 y0 y1) (mB x1 x5 x9 x13 y2 y3) (mC x2 x6 x10 x14 y4 y5) (mD x3 x7 x11 x15 y6 y7) y8 y9) (mA x1 x5 x9 x13 y2 y3) (mA x2 x6 x10 x14 y4 y5) (mA x3 x7 x11 x15 y6 y7) (mB x0 x4 x8 x12 y0 y1) (mB (mA x0 x4 x8 x12 y0 y1) (mB x1 x5 x9 x13 y2 y3) (mC x2 x6 x10 x14 y4 y5) (mD x3 x7 x11 x15 y6 y7) y8 y9) (mB x2 x6 x10 x14 y4 y5) (mB x3 x7 x11 x15 y6 y7) (mC x0 x4 x8 x12 y0 y1) (mC x1 x5 x9 x13 y2 y3) (mC (mA x0 x4 x8 x12 y0 y1) (mB x1 x5 x9 x13 y2 y3) (mC x2 x6 x10 x14 y4 y5) (mD x3 x7 x11 x15 y6 y7) y8 y9) (mC x3 x7 x11 x15 y6 y7) (mD x0 x4 x8 x12 y0 y1) (mD x1 x5 x9 x13 y2 y3) (mD x2 x6 x10 x14 y4 y5) (mD (mA x0 x4 x8 x12 y0 y1) (mB x1 x5 x9 x13 y2 y3) (mC x2 x6 x10 x14 y4 y5) (mD x3 x7 x11 x15 y6 y7) y8 y9) y10 y11) ?_; iterate 4 (focus (first | rfl | (simp only [go_sem, ordC_length, Int.toNat_one, Int.reduceTMod, F0, hcq, hql, F130] <;> first | done | rfl | simp))))
                  all_goals (rintro v m ⟨hR, hm⟩; subst hR; subst hm)
                  all_goals (refine And.intro ?_ (And.intro ?_ (And.intro ?_ ?_)); iterate 3 (focus (first | rfl | (simp only [go_sem, ordC_length, Int.toNat_one, Int.reduceTMod, F0, hcq, hql, F130]; done) | (simp [go_sem, look, ordC_length, Int.toNat_one, Int.reduceTMod, F0, hcq, hql, F130]; done))))
                  all_goals (try simp only [go_sem, ordC_length, Int.toNat_one, Int.reduceTMod, F0, hcq, hql, F130])
                  all_goals (try simp only [go_sem, ordC_length, Int.toNat_one, Int.reduceTMod, F0, hcq, hql, F130])
                  all_goals repeat' (first | apply And.intro | intro _)
                  all_goals
                   refine hN204 _ ?_
                   refine dr_end rfl (hK202 _ ?_)
                   refine bn200 _ ?_
                   refine hN199 _ ?_
                   refine region_k fun K205 hK205 => ?_
                   simp only [go_sem, ordC_length, Int.toNat_one, Int.reduceTMod, F0, hcq, hql, F130]
                   repeat' (first | apply And.intro | intro _)
                   refine hK205 _ ?_
                   refine hN196 _ ?_
                   refine rnd_forget [14, 108, 109, 110, 111, 112, 113, 114, 115, 116, 117, 118, 119, 120, 121, 122, 123, 124, 125, 126, 127, 128, 129, 130, 131, 132, 133, 134, 135, 136, 137, 138, 139] ?_
                   simp only [go_sem, St.forget, fgt]
                   refine rnd_k fun N206 M206 hN206 hM206 => ?_
                   refine sr_k fun K207 hK207 => ?_
                   simp only [go_sem, ordC_length, Int.toNat_one, Int.reduceTMod, F0, hcq, hql, F130]
                   repeat' (first | apply And.intro | intro _)
                   refine hK207 _ ?_
                   refine seq_k fun N208 M208 hN208 hM208 => ?_
                   refine condT_k (by first | rfl | (simp [go_sem, ordC_length, Int.toNat_one, Int.reduceTMod, F0, hcq, hql, F130]; done)) ?_
                   refine skip_k ?_
                   refine hN208 _ ?_
                   refine seq_k fun N209 M209 hN209 hM209 => ?_
                   refine block_k fun B210 bn210 bx210 br210 bi210 => ?_
                   refine sr_k fun K211 hK211 => ?_
                   simp only [go_sem, ordC_length, Int.toNat_one, Int.reduceTMod, F0, hcq, hql, F130]
                   repeat' (first | apply And.intro | intro _)
                   refine hK211 _ ?_
                   refine dr_k mixed fun K212 hK212 => ?_
                   refine dr_piece_k 28 [110, 111, 112, 113, 114, 115, 116, 117, 118, 119, 120, 121, 122, 123, 124, 125, 126, 127, 128, 129, 130, 131, 132, 133, 134, 135, 136, 137] [0, 0, 0, 4, 12, 28, 0, 64, 192, 448, 0, 1024, 3072, 7168, 0, 16384, 49152, 114688, 245760, 507904, 1032192, 0, 2097152, 6291456, 14680064, 31457280, 65011712, 132120576, 268435455] [] rfl (by kernel_rfl) rfl (by simp only [go_sem]) fun N213 K213 hN213 hK213 => ?_
                   simp only [go_sem, ordC_length, Int.toNat_one, Int.reduceTMod, F0, hcq, hql, F130]
                   repeat' (first | apply And.intro | intro _)
                   all_goals
                    refine hK213 _ _ trivial (hN213 _ ?_)
                    refine dr_runs_k 1 29 rfl (by kernel_rfl) rfl rfl fun N214 hN214 => ?_
                    simp only [go_sem, ordC_length, Int.toNat_one, Int.reduceTMod, F0, hcq, hql, F130]
                    repeat' (first | apply And.intro | intro _)
                    all_goals (refine call_fn (caps := [8]) false [(500000, 8)] (fun k => k) ?_ ?_ (fun _ _ => rfl) ?_ (by decide) ?_ (mix_6 (mA (mA x0 x4 x8 x12 y0 y1) (mB x1 x5 x9 x13 y2 y3) (mC x2 x6 x10 x14 y4 y5) (mD x3 x7 x11 x15 y6 y7) y8 y9) (mA (mA x1 x5 x9 x13 y2 y3) (mB x2 x6 x10 x14 y4 y5) (mC x3 x7 x11 x15 y6 y7) (mD x0 x4 x8 x12 y0 y1) y10 y11) (mA x2 x6 x10 x14 y4 y5) (mA x3 x7 x11 x15 y6 y7) (mB x0 x4 x8 x12 y0 y1) (mB (mA x0 x4 x8 x12 y0 y1) (mB x1 x5 x9 x13 y2 y3) (mC x2 x6 x10 x14 y4 y5) (mD x3 x7 x11 x15 y6 y7) y8 y9) (mB (mA x1 x5 x9 x13 y2 y3) (mB x2 x6 x10 x14 y4 y5) (mC x3 x7 x11 x15 y6 y7) (mD x0 x4 x8 x12 y0 y1) y10 y11) (mB x3 x7 x11 x15 y6 y7) (mC x0 x4 x8 x12 y0 y1) (mC x1 x5 x9 x13 y2 y3) (mC (mA x0 x4 x8 x12 y0 y1) (mB x1 x5 x9 x13 y2 y3) (mC x2 x6 x10 x14 y4 y5) (mD x3 x7 x11 x15 y6 y7) y8 y9) (mC (mA x1 x5 x9 x13 y2 y3) (mB x2 x6 x10 x14 y4 y5) (mC x3 x7 x11 x15 y6 y7) (mD x0 x4 x8 x12 y0 y1) y10 y11) (mD (mA x1 x5 x9 x13 y2 y3) (mB x2 x6 x10 x14 y4 y5) (mC x3 x7 x11 x15 y6 y7) (mD x0 x4 x8 x12 y0 y1) y10 y11) (mD x1 x5 x9 x13 y2 y3) (mD x2 x6 x10 x14 y4 y5) (mD (mA x0 x4 x8 x12 y0 y1) (mB x1 x5 x9 x13 y2 y3) (mC x2 x6 x10 x14 y4 y5) (mD x3 x7 x11 x15 y6 y7) y8 y9) y12 y13) ?_; iterate 4 (focus (first | rfl | (simp only [go_sem, ordC_length, Int.toNat_one, Int.reduceTMod, F0, hcq, hql, F130] <;> first | done | rfl | simp))))
                    all_goals (rintro v m ⟨hR, hm⟩; subst hR; subst hm)
                    all_goals (refine And.intro ?_ (And.intro ?_ (And.intro ?_ ?_)); iterate 3 (focus (first | rfl | (simp only [go_sem, ordC_length, Int.toNat_one, Int.reduceTMod, F0, hcq, hql, F130]; done) | (simp [go_sem, look, ordC_length, Int.toNat_one, Int.reduceTMod, F0, hcq, hql, F130]; done))))
                    all_goals (try simp only [go_sem, ordC_length, Int.toNat_one, Int.reduceTMod, F0, hcq, hql, F130])
                    all_goals (try simp only [go_sem, ordC_length, Int.toNat_one, Int.reduceTMod, F0, hcq, hql, F130])
                    all_goals repeat' (first | apply And.intro | intro _)
                    all_goals
                     refine hN214 _ ?_
                     refine dr_end rfl (hK212 _ ?_)
                     refine bn210 _ ?_
                     refine hN209 _ ?_
                     refine region_k fun K215 hK215 => ?_
                     simp only [go_sem, ordC_length, Int.toNat_one, Int.reduceTMod, F0, hcq, hql, F130]
                     repeat' (first | apply And.intro | intro _)
                     refine hK215 _ ?_
                     refine hN206 _ ?_
                     refine rnd_forget [14, 108, 109, 110, 111, 112, 113, 114, 115, 116, 117, 118, 119, 120, 121, 122, 123, 124, 125, 126, 127, 128, 129, 130, 131, 132, 133, 134, 135, 136, 137, 138, 139] ?_
                     simp only [go_sem, St.forget, fgt]
                     refine rnd_k fun N216 M216 hN216 hM216 => ?_
                     refine sr_k fun K217 hK217 => ?_
                     simp only [go_sem, ordC_length, Int.toNat_one, Int.reduceTMod, F0, hcq, hql, F130]
                     repeat' (first | apply And.intro | intro _)
                     refine hK217 _ ?_
                     refine seq_k fun N218 M218 hN218 hM218 => ?_
                     refine condT_k (by first | rfl | (simp [go_sem, ordC_length, Int.toNat_one, Int.reduceTMod, F0, hcq, hql, F130]; done)) ?_
                     refine skip_k ?_
                     refine hN218 _ ?_
                     refine seq_k fun N219 M219 hN219 hM219 => ?_
                     refine block_k fun B220 bn220 bx220 br220 bi220 => ?_
                     refine sr_k fun K221 hK221 => ?_
                     simp only [go_sem, ordC_length, Int.toNat_one, Int.reduceTMod, F0, hcq, hql, F130]
                     repeat' (first | apply And.intro | intro _)
                     refine hK221 _ ?_
                     refine dr_k mixed fun K222 hK222 => ?_
                     refine dr_piece_k 28 [110, 111, 112, 113, 114, 115, 116, 117, 118, 119, 120, 121, 122, 123, 124, 125, 126, 127, 128, 129, 130, 131, 132, 133, 134, 135, 136, 137] [0, 0, 0, 4, 12, 28, 0, 64, 192, 448, 0, 1024, 3072, 7168, 0, 16384, 49152, 114688, 245760, 507904, 1032192, 0, 2097152, 6291456, 14680064, 31457280, 65011712, 132120576, 268435455] [] rfl (by kernel_rfl) rfl (by simp only [go_sem]) fun N223 K223 hN223 hK223 => ?_
                     simp only [go_sem, ordC_length, Int.toNat_one, Int.reduceTMod, F0, hcq, hql, F130]
                     repeat' (first | apply And.intro | intro _)
                     all_goals
                      refine hK223 _ _ trivial (hN223 _ ?_)
                      refine dr_runs_k 1 29 rfl (by kernel_rfl) rfl rfl fun N224 hN224 => ?_
                      simp only [go_sem, ordC_length, Int.toNat_one, Int.reduceTMod, F0, hcq, hql, F130]
                      repeat' (first | apply And.intro | intro _)
                      all_goals (refine call_fn (caps := [8]) false [(500000, 8)] (fun k => k) ?_ ?_ (fun _ _ => rfl) ?_ (by decide) ?_ (mix_7 (mA (mA x0 x4 x8 x12 y0 y1) (mB x1 x5 x9 x13 y2 y3) (mC x2 x6 x10 x14 y4 y5) (mD x3 x7 x11 x15 y6 y7) y8 y9) (mA (mA x1 x5 x9 x13 y2 y3) (mB x2 x6 x10 x14 y4 y5) (mC x3 x7 x11 x15 y6 y7) (mD x0 x4 x8 x12 y0 y1) y10 y11) (mA (mA x2 x6 x10 x14 y4 y5) (mB x3 x7 x11 x15 y6 y7) (mC x0 x4 x8 x12 y0 y1) (mD x1 x5 x9 x13 y2 y3) y12 y13) (mA x3 x7 x11 x15 y6 y7) (mB x0 x4 x8 x12 y0 y1) (mB (mA x0 x4 x8 x12 y0 y1) (mB x1 x5 x9 x13 y2 y3) (mC x2 x6 x10 x14 y4 y5) (mD x3 x7 x11 x15 y6 y7) y8 y9) (mB (mA x1 x5 x9 x13 y2 y3) (mB x2 x6 x10 x14 y4 y5) (mC x3 x7 x11 x15 y6 y7) (mD x0 x4 x8 x12 y0 y1) y10 y11) (mB (mA x2 x6 x10 x14 y4 y5) (mB x3 x7 x11 x15 y6 y7) (mC x0 x4 x8 x12 y0 y1) (mD x1 x5 x9 x13 y2 y3) y12 y13) (mC (mA x2 x6 x10 x14 y4 y5) (mB x3 x7 x11 x15 y6 y7) (mC x0 x4 x8 x12 y0 y1) (mD x1 x5 x9 x13 y2 y3) y12 y13) (mC x1 x5 x9 x13 y2 y3) (mC (mA x0 x4 x8 x12 y0 y1) (mB x1 x5 x9 x13 y2 y3) (mC x2 x6 x10 x14 y4 y5) (mD x3 x7 x11 x15 y6 y7) y8 y9) (mC (mA x1 x5 x9 x13 y2 y3) (mB x2 x6 x10 x14 y4 y5) (mC x3 x7 x11 x15 y6 y7) (mD x0 x4 x8 x12 y0 y1) y10 y11) (mD (mA x1 x5 x9 x13 y2 y3) (mB x2 x6 x10 x14 y4 y5) (mC x3 x7 x11 x15 y6 y7) (mD x0 x4 x8 x12 y0 y1) y10 y11) (mD (mA x2 x6 x10 x14 y4 y5) (mB x3 x7 x11 x15 y6 y7) (mC x0 x4 x8 x12 y0 y1) (mD x1 x5 x9 x13 y2 y3) y12 y13) (mD x2 x6 x10 x14 y4 y5) (mD (mA x0 x4 x8 x12 y0 y1) (mB x1 x5 x9 x13 y2 y3) (mC x2 x6 x10 x14 y4 y5) (mD x3 x7 x11 x15 y6 y7) y8 y9) y14 y15) ?_; iterate 4 (focus (first | rfl | (simp only [go_sem, ordC_length, Int.toNat_one, Int.reduceTMod, F0, hcq, hql, F130] <;> first | done | rfl | simp))))
                      all_goals (rintro v m ⟨hR, hm⟩; subst hR; subst hm)
                      all_goals (refine And.intro ?_ (And.intro ?_ (And.intro ?_ ?_)); iterate 3 (focus (first | rfl | (simp only [go_sem, ordC_length, Int.toNat_one, Int.reduceTMod, F0, hcq, hql, F130]; done) | (simp [go_sem, look, ordC_length, Int.toNat_one, Int.reduceTMod, F0, hcq, hql, F130]; done))))
                      all_goals (try simp only [go_sem, ordC_length, Int.toNat_one, Int.reduceTMod, F0, hcq, hql, F130])
                      all_goals (try simp only [go_sem, ordC_length, Int.toNat_one, Int.reduceTMod, F0, hcq, hql, F130])
                      all_goals repeat' (first | apply And.intro | intro _)
                      all_goals
                       refine hN224 _ ?_
                       refine dr_end rfl (hK222 _ ?_)
                       refine bn220 _ ?_
                       refine hN219 _ ?_
                       refine region_k fun K225 hK225 => ?_
                       simp only [go_sem, ordC_length, Int.toNat_one, Int.reduceTMod, F0, hcq, hql, F130]
                       repeat' (first | apply And.intro | intro _)
                       refine hK225 _ ?_
                       refine hN216 _ ?_
                       refine rnd_forget [14, 108, 109, 110, 111, 112, 113, 114, 115, 116, 117, 118, 119, 120, 121, 122, 123, 124, 125, 126, 127, 128, 129, 130, 131, 132, 133, 134, 135, 136, 137, 138, 139] ?_
                       simp only [go_sem, St.forget, fgt]
                       refine rnd_k fun N226 M226 hN226 hM226 => ?_
                       refine sr_k fun K227 hK227 => ?_
                       simp only [go_sem, ordC_length, Int.toNat_one, Int.reduceTMod, F0, hcq, hql, F130]
                       repeat' (first | apply And.intro | intro _)
                       refine hK227 _ ?_
                       refine seq_k fun N228 M228 hN228 hM228 => ?_
                       refine condF_k (by first | rfl | (simp [go_sem, ordC_length, Int.toNat_one, Int.reduceTMod, F0, hcq, hql, F130]; done)) ?_
                       refine exit_k ?_
                       refine hM228 _ _ ?_
                       refine hM226 _ _ ?_
                       refine bx184 _ ?_
                       refine bn134 _ ?_
                       refine hN133 _ ?_
                       refine region_k fun K229 hK229 => ?_
                       simp only [go_sem, ordC_length, Int.toNat_one, Int.reduceTMod, F0, hcq, hql, F130]
                       repeat' (first | apply And.intro | intro _)
                       refine hK229 _ ?_
                       refine hN130 ⟨k + 1, hlt⟩ _ ?_ ?_ ?_
                       · (exact Nat.sub_lt_sub_left hlt (Nat.lt_succ_self k))
                       · (simp only [go_sem, leX, List.cons_append, List.nil_append]; try simp)
                       · (simp only [roundB, hw, go_sem, leX, List.cons_append, List.nil_append]; first | done | rfl | (simp only [W16.ls, W16.col, W16.diag, hm0, hm1, hm2, hm3, hm4, hm5, hm6, hm7, hm8, hm9, hm10, hm11, hm12, hm13, hm14, hm15]; (try simp [leX, look]); done))
     · obtain rfl : k = 10 := by omega
       have hcq : ¬ ((10 : Nat) : Int) < 10 := by omega
       obtain ⟨w, hw⟩ : ∃ w, roundB held 10 Wi = w := ⟨_, rfl⟩
       have hsk : soakB ⟨h0, h1, h2, h3, h4, h5, h6, h7⟩ held len last = outW ⟨h0, h1, h2, h3, h4, h5, h6, h7⟩ w := by rw [soakB, hW, hw]
       simp only [hw]
       obtain ⟨x0, x1, x2, x3, x4, x5, x6, x7, x8, x9, x10, x11, x12, x13, x14, x15⟩ := w
       simp only [W16.ls]
       refine sr_k fun K230 hK230 => ?_
       simp only [go_sem, ordC_length, Int.toNat_one, Int.reduceTMod, F0, hcq, hql]
       repeat' (first | apply And.intro | intro _)
       refine hK230 _ ?_
       refine seq_k fun N231 M231 hN231 hM231 => ?_
       refine condF_k (by first | rfl | (simp [go_sem, ordC_length, Int.toNat_one, Int.reduceTMod, F0, hcq, hql]; done)) ?_
       refine exit_k ?_
       refine hM231 _ _ ?_
       refine hM130 _ _ ?_
       refine bx129 _ ?_
       refine hN127 _ ?_
       refine sr_k fun K232 hK232 => ?_
       simp only [go_sem, ordC_length, Int.toNat_one, Int.reduceTMod, F0, hcq, hql]
       repeat' (first | apply And.intro | intro _)
       refine hK232 _ ?_
       refine seq_k fun N233 M233 hN233 hM233 => ?_
       refine sr_k fun K234 hK234 => ?_
       simp only [go_sem, ordC_length, Int.toNat_one, Int.reduceTMod, F0, hcq, hql]
       repeat' (first | apply And.intro | intro _)
       refine hK234 _ ?_
       refine block_k fun B235 bn235 bx235 br235 bi235 => ?_
       refine rounds_k 9 ?_
       refine rnd_k fun N237 M237 hN237 hM237 => ?_
       refine sr_k fun K238 hK238 => ?_
       simp only [go_sem, ordC_length, Int.toNat_one, Int.reduceTMod, F0, hcq, hql]
       repeat' (first | apply And.intro | intro _)
       refine hK238 _ ?_
       refine seq_k fun N239 M239 hN239 hM239 => ?_
       refine condT_k (by first | rfl | (simp [go_sem, ordC_length, Int.toNat_one, Int.reduceTMod, F0, hcq, hql]; done)) ?_
       refine skip_k ?_
       refine hN239 _ ?_
       refine seq_k fun N240 M240 hN240 hM240 => ?_
       refine block_k fun B241 bn241 bx241 br241 bi241 => ?_
       refine sr_k fun K242 hK242 => ?_
       simp only [go_sem, ordC_length, Int.toNat_one, Int.reduceTMod, F0, hcq, hql]
       repeat' (first | apply And.intro | intro _)
       refine hK242 _ ?_
       refine draw_k [146, 147, 148, 149, 150, 151, 152, 153, 154, 155, 156, 157, 158] [0, 1, 3, 0, 8, 24, 0, 64, 192, 448, 1016, 2047, 4095, 8191] [] mixed (by kernel_rfl) (by simp only [go_sem]) fun K243 hK243 => ?_
       simp only [go_sem, ordC_length, Int.toNat_one, Int.reduceTMod, F0, hcq, hql]
       repeat' (first | apply And.intro | intro _)
       refine hK243 _ _ trivial ?_
       refine bn241 _ ?_
       refine hN240 _ ?_
       refine region_k fun K244 hK244 => ?_
       simp only [go_sem, ordC_length, Int.toNat_one, Int.reduceTMod, F0, hcq, hql]
       repeat' (first | apply And.intro | intro _)
       refine hK244 _ ?_
       refine hN237 _ ?_
       refine rnd_forget [16, 144, 145, 146, 147, 148, 149, 150, 151, 152, 153, 154, 155, 156, 157, 158, 159] ?_
       simp only [go_sem, St.forget, fgt]
       refine rnd_k fun N245 M245 hN245 hM245 => ?_
       refine sr_k fun K246 hK246 => ?_
       simp only [go_sem, ordC_length, Int.toNat_one, Int.reduceTMod, F0, hcq, hql]
       repeat' (first | apply And.intro | intro _)
       refine hK246 _ ?_
       refine seq_k fun N247 M247 hN247 hM247 => ?_
       refine condT_k (by first | rfl | (simp [go_sem, ordC_length, Int.toNat_one, Int.reduceTMod, F0, hcq, hql]; done)) ?_
       refine skip_k ?_
       refine hN247 _ ?_
       refine seq_k fun N248 M248 hN248 hM248 => ?_
       refine block_k fun B249 bn249 bx249 br249 bi249 => ?_
       refine sr_k fun K250 hK250 => ?_
       simp only [go_sem, ordC_length, Int.toNat_one, Int.reduceTMod, F0, hcq, hql]
       repeat' (first | apply And.intro | intro _)
       refine hK250 _ ?_
       refine draw_k [146, 147, 148, 149, 150, 151, 152, 153, 154, 155, 156, 157, 158] [0, 1, 3, 0, 8, 24, 0, 64, 192, 448, 1016, 2047, 4095, 8191] [] mixed (by kernel_rfl) (by simp only [go_sem]) fun K251 hK251 => ?_
       simp only [go_sem, ordC_length, Int.toNat_one, Int.reduceTMod, F0, hcq, hql]
       repeat' (first | apply And.intro | intro _)
       refine hK251 _ _ trivial ?_
       refine bn249 _ ?_
       refine hN248 _ ?_
       refine region_k fun K252 hK252 => ?_
       simp only [go_sem, ordC_length, Int.toNat_one, Int.reduceTMod, F0, hcq, hql]
       repeat' (first | apply And.intro | intro _)
       refine hK252 _ ?_
       refine hN245 _ ?_
       refine rnd_forget [16, 144, 145, 146, 147, 148, 149, 150, 151, 152, 153, 154, 155, 156, 157, 158, 159] ?_
       simp only [go_sem, St.forget, fgt]
       refine rnd_k fun N253 M253 hN253 hM253 => ?_
       refine sr_k fun K254 hK254 => ?_
       simp only [go_sem, ordC_length, Int.toNat_one, Int.reduceTMod, F0, hcq, hql]
       repeat' (first | apply And.intro | intro _)
       refine hK254 _ ?_
       refine seq_k fun N255 M255 hN255 hM255 => ?_
       refine condT_k (by first | rfl | (simp [go_sem, ordC_length, Int.toNat_one, Int.reduceTMod, F0, hcq, hql]; done)) ?_
       refine skip_k ?_
       refine hN255 _ ?_
       refine seq_k fun N256 M256 hN256 hM256 => ?_
       refine block_k fun B257 bn257 bx257 br257 bi257 => ?_
       refine sr_k fun K258 hK258 => ?_
       simp only [go_sem, ordC_length, Int.toNat_one, Int.reduceTMod, F0, hcq, hql]
       repeat' (first | apply And.intro | intro _)
       refine hK258 _ ?_
       refine draw_k [146, 147, 148, 149, 150, 151, 152, 153, 154, 155, 156, 157, 158] [0, 1, 3, 0, 8, 24, 0, 64, 192, 448, 1016, 2047, 4095, 8191] [] mixed (by kernel_rfl) (by simp only [go_sem]) fun K259 hK259 => ?_
       simp only [go_sem, ordC_length, Int.toNat_one, Int.reduceTMod, F0, hcq, hql]
       repeat' (first | apply And.intro | intro _)
       refine hK259 _ _ trivial ?_
       refine bn257 _ ?_
       refine hN256 _ ?_
       refine region_k fun K260 hK260 => ?_
       simp only [go_sem, ordC_length, Int.toNat_one, Int.reduceTMod, F0, hcq, hql]
       repeat' (first | apply And.intro | intro _)
       refine hK260 _ ?_
       refine hN253 _ ?_
       refine rnd_forget [16, 144, 145, 146, 147, 148, 149, 150, 151, 152, 153, 154, 155, 156, 157, 158, 159] ?_
       simp only [go_sem, St.forget, fgt]
       refine rnd_k fun N261 M261 hN261 hM261 => ?_
       refine sr_k fun K262 hK262 => ?_
       simp only [go_sem, ordC_length, Int.toNat_one, Int.reduceTMod, F0, hcq, hql]
       repeat' (first | apply And.intro | intro _)
       refine hK262 _ ?_
       refine seq_k fun N263 M263 hN263 hM263 => ?_
       refine condT_k (by first | rfl | (simp [go_sem, ordC_length, Int.toNat_one, Int.reduceTMod, F0, hcq, hql]; done)) ?_
       refine skip_k ?_
       refine hN263 _ ?_
       refine seq_k fun N264 M264 hN264 hM264 => ?_
       refine block_k fun B265 bn265 bx265 br265 bi265 => ?_
       refine sr_k fun K266 hK266 => ?_
       simp only [go_sem, ordC_length, Int.toNat_one, Int.reduceTMod, F0, hcq, hql]
       repeat' (first | apply And.intro | intro _)
       refine hK266 _ ?_
       refine draw_k [146, 147, 148, 149, 150, 151, 152, 153, 154, 155, 156, 157, 158] [0, 1, 3, 0, 8, 24, 0, 64, 192, 448, 1016, 2047, 4095, 8191] [] mixed (by kernel_rfl) (by simp only [go_sem]) fun K267 hK267 => ?_
       simp only [go_sem, ordC_length, Int.toNat_one, Int.reduceTMod, F0, hcq, hql]
       repeat' (first | apply And.intro | intro _)
       refine hK267 _ _ trivial ?_
       refine bn265 _ ?_
       refine hN264 _ ?_
       refine region_k fun K268 hK268 => ?_
       simp only [go_sem, ordC_length, Int.toNat_one, Int.reduceTMod, F0, hcq, hql]
       repeat' (first | apply And.intro | intro _)
       refine hK268 _ ?_
       refine hN261 _ ?_
       refine rnd_forget [16, 144, 145, 146, 147, 148, 149, 150, 151, 152, 153, 154, 155, 156, 157, 158, 159] ?_
       simp only [go_sem, St.forget, fgt]
       refine rnd_k fun N269 M269 hN269 hM269 => ?_
       refine sr_k fun K270 hK270 => ?_
       simp only [go_sem, ordC_length, Int.toNat_one, Int.reduceTMod, F0, hcq, hql]
       repeat' (first | apply And.intro | intro _)
       refine hK270 _ ?_
       refine seq_k fun N271 M271 hN271 hM271 => ?_
       refine condT_k (by first | rfl | (simp [go_sem, ordC_length, Int.toNat_one, Int.reduceTMod, F0, hcq, hql]; done)) ?_
       refine skip_k ?_
       refine hN271 _ ?_
       refine seq_k fun N272 M272 hN272 hM272 => ?_
       refine block_k fun B273 bn273 bx273 br273 bi273 => ?_
       refine sr_k fun K274 hK274 => ?_
       simp only [go_sem, ordC_length, Int.toNat_one, Int.reduceTMod, F0, hcq, hql]
       repeat' (first | apply And.intro | intro _)
       refine hK274 _ ?_
       refine draw_k [146, 147, 148, 149, 150, 151, 152, 153, 154, 155, 156, 157, 158] [0, 1, 3, 0, 8, 24, 0, 64, 192, 448, 1016, 2047, 4095, 8191] [] mixed (by kernel_rfl) (by simp only [go_sem]) fun K275 hK275 => ?_
       simp only [go_sem, ordC_length, Int.toNat_one, Int.reduceTMod, F0, hcq, hql]
       repeat' (first | apply And.intro | intro _)
       refine hK275 _ _ trivial ?_
       refine bn273 _ ?_
       refine hN272 _ ?_
       refine region_k fun K276 hK276 => ?_
       simp only [go_sem, ordC_length, Int.toNat_one, Int.reduceTMod, F0, hcq, hql]
       repeat' (first | apply And.intro | intro _)
       refine hK276 _ ?_
       refine hN269 _ ?_
       refine rnd_forget [16, 144, 145, 146, 147, 148, 149, 150, 151, 152, 153, 154, 155, 156, 157, 158, 159] ?_
       simp only [go_sem, St.forget, fgt]
       refine rnd_k fun N277 M277 hN277 hM277 => ?_
       refine sr_k fun K278 hK278 => ?_
       simp only [go_sem, ordC_length, Int.toNat_one, Int.reduceTMod, F0, hcq, hql]
       repeat' (first | apply And.intro | intro _)
       refine hK278 _ ?_
       refine seq_k fun N279 M279 hN279 hM279 => ?_
       refine condT_k (by first | rfl | (simp [go_sem, ordC_length, Int.toNat_one, Int.reduceTMod, F0, hcq, hql]; done)) ?_
       refine skip_k ?_
       refine hN279 _ ?_
       refine seq_k fun N280 M280 hN280 hM280 => ?_
       refine block_k fun B281 bn281 bx281 br281 bi281 => ?_
       refine sr_k fun K282 hK282 => ?_
       simp only [go_sem, ordC_length, Int.toNat_one, Int.reduceTMod, F0, hcq, hql]
       repeat' (first | apply And.intro | intro _)
       refine hK282 _ ?_
       refine draw_k [146, 147, 148, 149, 150, 151, 152, 153, 154, 155, 156, 157, 158] [0, 1, 3, 0, 8, 24, 0, 64, 192, 448, 1016, 2047, 4095, 8191] [] mixed (by kernel_rfl) (by simp only [go_sem]) fun K283 hK283 => ?_
       simp only [go_sem, ordC_length, Int.toNat_one, Int.reduceTMod, F0, hcq, hql]
       repeat' (first | apply And.intro | intro _)
       refine hK283 _ _ trivial ?_
       refine bn281 _ ?_
       refine hN280 _ ?_
       refine region_k fun K284 hK284 => ?_
       simp only [go_sem, ordC_length, Int.toNat_one, Int.reduceTMod, F0, hcq, hql]
       repeat' (first | apply And.intro | intro _)
       refine hK284 _ ?_
       refine hN277 _ ?_
       refine rnd_forget [16, 144, 145, 146, 147, 148, 149, 150, 151, 152, 153, 154, 155, 156, 157, 158, 159] ?_
       simp only [go_sem, St.forget, fgt]
       refine rnd_k fun N285 M285 hN285 hM285 => ?_
       refine sr_k fun K286 hK286 => ?_
       simp only [go_sem, ordC_length, Int.toNat_one, Int.reduceTMod, F0, hcq, hql]
       repeat' (first | apply And.intro | intro _)
       refine hK286 _ ?_
       refine seq_k fun N287 M287 hN287 hM287 => ?_
       refine condT_k (by first | rfl | (simp [go_sem, ordC_length, Int.toNat_one, Int.reduceTMod, F0, hcq, hql]; done)) ?_
       refine skip_k ?_
       refine hN287 _ ?_
       refine seq_k fun N288 M288 hN288 hM288 => ?_
       refine block_k fun B289 bn289 bx289 br289 bi289 => ?_
       refine sr_k fun K290 hK290 => ?_
       simp only [go_sem, ordC_length, Int.toNat_one, Int.reduceTMod, F0, hcq, hql]
       repeat' (first | apply And.intro | intro _)
       refine hK290 _ ?_
       refine draw_k [146, 147, 148, 149, 150, 151, 152, 153, 154, 155, 156, 157, 158] [0, 1, 3, 0, 8, 24, 0, 64, 192, 448, 1016, 2047, 4095, 8191] [] mixed (by kernel_rfl) (by simp only [go_sem]) fun K291 hK291 => ?_
       simp only [go_sem, ordC_length, Int.toNat_one, Int.reduceTMod, F0, hcq, hql]
       repeat' (first | apply And.intro | intro _)
       refine hK291 _ _ trivial ?_
       refine bn289 _ ?_
       refine hN288 _ ?_
       refine region_k fun K292 hK292 => ?_
       simp only [go_sem, ordC_length, Int.toNat_one, Int.reduceTMod, F0, hcq, hql]
       repeat' (first | apply And.intro | intro _)
       refine hK292 _ ?_
       refine hN285 _ ?_
       refine rnd_forget [16, 144, 145, 146, 147, 148, 149, 150, 151, 152, 153, 154, 155, 156, 157, 158, 159] ?_
       simp only [go_sem, St.forget, fgt]
       refine rnd_k fun N293 M293 hN293 hM293 => ?_
       refine sr_k fun K294 hK294 => ?_
       simp only [go_sem, ordC_length, Int.toNat_one, Int.reduceTMod, F0, hcq, hql]
       repeat' (first | apply And.intro | intro _)
       refine hK294 _ ?_
       refine seq_k fun N295 M295 hN295 hM295 => ?_
       refine condT_k (by first | rfl | (simp [go_sem, ordC_length, Int.toNat_one, Int.reduceTMod, F0, hcq, hql]; done)) ?_
       refine skip_k ?_
       refine hN295 _ ?_
       refine seq_k fun N296 M296 hN296 hM296 => ?_
       refine block_k fun B297 bn297 bx297 br297 bi297 => ?_
       refine sr_k fun K298 hK298 => ?_
       simp only [go_sem, ordC_length, Int.toNat_one, Int.reduceTMod, F0, hcq, hql]
       repeat' (first | apply And.intro | intro _)
       refine hK298 _ ?_
       refine draw_k [146, 147, 148, 149, 150, 151, 152, 153, 154, 155, 156, 157, 158] [0, 1, 3, 0, 8, 24, 0, 64, 192, 448, 1016, 2047, 4095, 8191] [] mixed (by kernel_rfl) (by simp only [go_sem]) fun K299 hK299 => ?_
       simp only [go_sem, ordC_length, Int.toNat_one, Int.reduceTMod, F0, hcq, hql]
       repeat' (first | apply And.intro | intro _)
       refine hK299 _ _ trivial ?_
       refine bn297 _ ?_
       refine hN296 _ ?_
       refine region_k fun K300 hK300 => ?_
       simp only [go_sem, ordC_length, Int.toNat_one, Int.reduceTMod, F0, hcq, hql]
       repeat' (first | apply And.intro | intro _)
       refine hK300 _ ?_
       refine hN293 _ ?_
       refine rnd_forget [16, 144, 145, 146, 147, 148, 149, 150, 151, 152, 153, 154, 155, 156, 157, 158, 159] ?_
       simp only [go_sem, St.forget, fgt]
       refine rnd_k fun N301 M301 hN301 hM301 => ?_
       refine sr_k fun K302 hK302 => ?_
       simp only [go_sem, ordC_length, Int.toNat_one, Int.reduceTMod, F0, hcq, hql]
       repeat' (first | apply And.intro | intro _)
       refine hK302 _ ?_
       refine seq_k fun N303 M303 hN303 hM303 => ?_
       refine condF_k (by first | rfl | (simp [go_sem, ordC_length, Int.toNat_one, Int.reduceTMod, F0, hcq, hql]; done)) ?_
       refine exit_k ?_
       refine hM303 _ _ ?_
       refine hM301 _ _ ?_
       refine bx235 _ ?_
       refine hN233 _ ?_
       refine sr_k fun K304 hK304 => ?_
       simp only [go_sem, ordC_length, Int.toNat_one, Int.reduceTMod, F0, hcq, hql]
       repeat' (first | apply And.intro | intro _)
       refine hK304 _ ?_
       refine ret_k ?_
       simp only [go_sem, ordC_length, Int.toNat_one, Int.reduceTMod, F0, hcq, hql]
       all_goals (exact told_plain rfl ⟨by rw [hsk]; rfl, rfl⟩)
end Go.Sy

