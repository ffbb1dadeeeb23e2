/- Walks: a block squeezed in. -/
import Derived.Test.YtcmcnfjdfcianaaDoorvqgB3
set_option linter.unusedVariables false
set_option linter.unusedSimpArgs false
namespace Go.Sy
namespace Bk
open Go.Proofs
attribute [local irreducible] atCall HT runOps runD onC onE onO onG goV goA goS onSt onGuard
set_option maxHeartbeats 3200000 in
set_option maxRecDepth 100000 in
theorem squeeze_ (h0 h1 h2 h3 h4 h5 h6 h7 : UInt32) (held : List UInt8) (hh : held.length = 64) (n : Int) (len : Nat) (hl : len ≤ 1073741824) (last : Bool) :
 CtM Tryd.prog 53 [.w (.agg ([.pl (.u32 h0), .pl (.u32 h1), .pl (.u32 h2), .pl (.u32 h3), .pl (.u32 h4), .pl (.u32 h5), .pl (.u32 h6), .pl (.u32 h7)] ++ (bytesC held ++ [.pl (.i n), .pl (.i ((len : Nat) : Int))]))), .w (.one (.pl (.b last)))] [(1000000, ⟨false, [.pl (.u32 1779033703), .pl (.u32 3144134277), .pl (.u32 1013904242), .pl (.u32 2773480762), .pl (.u32 1359893119), .pl (.u32 2600822924), .pl (.u32 528734635), .pl (.u32 1541459225)]⟩), (1000002, ⟨false, ordC⟩)] (Told (fun v m => v = .w (.agg (soakB ⟨h0, h1, h2, h3, h4, h5, h6, h7⟩ held len last).ls) ∧ m = [])) := by
 have hcv : UInt32.ofNat (((len : Nat) : Int) % 4294967296).toNat = UInt32.ofNat len := by
  rw [show (((len : Nat) : Int) % 4294967296).toNat = len from by omega]
 have his : ishr ((len : Nat) : Int) 32 = 0 := by
  rw [ishr, show (min 32 64 : Nat) = 32 from rfl, Int.fdiv_eq_ediv_of_nonneg _ (by decide)]
  have : ((2 : Int) ^ 32) = 4294967296 := rfl
  rw [this]; omega
 have hz0 : UInt32.ofNat ((0 : Int) % 4294967296).toNat = 0 := rfl
 have hx0 : (2600822924 : UInt32) ^^^ 0 = 2600822924 := rfl
 have F0 := And.intro hh <| And.intro hcv <| And.intro his <| And.intro hz0 <| hx0
 refine CtM.k Tryd.func53 rfl Tryd.ntmps53 (congrArg Array.toList Tryd.results53) (by simp) fun w0 ro may fx => ?_
 refine top_k fun zZ zhZ => ?_
 iterate 8 first
  | (refine sr_k fun zK zhK => ?_; simp only [go_sem, ordC_length, Int.toNat_one, Int.reduceTMod, F0]; (repeat' (first | apply And.intro | intro _)))
  | refine zhK _ ?_
  | refine block_k fun zB zbn zbx zbr zbi => ?_
  | refine seq_k fun zN zM zhN zhM => ?_
 refine ht_dropE [0] ?_
 simp only [dropE_mk, fgt_nil, fgt_cons, List.contains_cons, List.contains_nil, Nat.reduceBEq, beq_self_eq_true, Bool.or_false, Bool.or_true, Bool.true_or, Bool.false_or, Bool.false_eq_true, reduceIte]
 refine loop_k (fun y => [(17, .w (.one (.pl (.i ((y.1.1 : Nat) : Int)))))]) (fun y => [(5, ⟨false, u32C y.1.2⟩)]) (fun y => 16 - y.1.1) (⟨(0, List.replicate 16 0), Nat.zero_le _, by simp, fun j h => (by omega), fun j _ => getD_rep32 16 j⟩ : {y : Nat × List UInt32 // y.1 ≤ 16 ∧ y.2.length = 16 ∧ (∀ j, j < y.1 → y.2.getD j 0 = wordAt held j) ∧ (∀ j, y.1 ≤ j → y.2.getD j 0 = 0)}) ?_ ?_ ?_
 · (simp only [go_sem, leX, List.cons_append, List.nil_append]; try simp)
 · (simp only [go_sem, leX, List.cons_append, List.nil_append]; first | done | rfl | (simp [u32C, leX, look]; done))
 intro yy zN zM zhN zhM
 simp only [List.cons_append, List.nil_append]
 obtain ⟨⟨i, q⟩, hi, hq, hz, hy⟩ := yy
 simp only at hi hq hz hy
 rcases Nat.lt_or_ge i 16 with hlt | hge
 · have hq0 := hy i (Nat.le_refl _)
   have hl0 := u32_one (l := q) (i := i) (by omega)
   rw [hq0] at hl0
   obtain ⟨b0, hb0⟩ : ∃ b, held.getD (4 * i) 0 = b := ⟨_, rfl⟩
   have g0 := u8_one (q := held) (i := 4 * i) (by omega)
   rw [hb0] at g0
   obtain ⟨b1, hb1⟩ : ∃ b, held.getD (4 * i + 1) 0 = b := ⟨_, rfl⟩
   have g1 := u8_one (q := held) (i := 4 * i + 1) (by omega)
   rw [hb1] at g1
   obtain ⟨b2, hb2⟩ : ∃ b, held.getD (4 * i + 2) 0 = b := ⟨_, rfl⟩
   have g2 := u8_one (q := held) (i := 4 * i + 2) (by omega)
   rw [hb2] at g2
   obtain ⟨b3, hb3⟩ : ∃ b, held.getD (4 * i + 3) 0 = b := ⟨_, rfl⟩
   have g3 := u8_one (q := held) (i := 4 * i + 3) (by omega)
   rw [hb3] at g3
   have hacc := word_acc (b0 := b0) (b1 := b1) (b2 := b2) (b3 := b3)
   have ht4 := take4 (l := held) (j := 4 * i) (by omega)
   rw [hb0, hb1, hb2, hb3] at ht4
   rw [← ht4] at hacc
   have hacc2 : _ = wordAt held i := hacc
   obtain ⟨x1, hx1⟩ : ∃ x, shl32 0 8 ||| b3.toUInt32 = x := ⟨_, rfl⟩
   rw [hx1] at hacc2
   obtain ⟨x2, hx2⟩ : ∃ x, shl32 x1 8 ||| b2.toUInt32 = x := ⟨_, rfl⟩
   rw [hx2] at hacc2
   obtain ⟨x3, hx3⟩ : ∃ x, shl32 x2 8 ||| b1.toUInt32 = x := ⟨_, rfl⟩
   rw [hx3] at hacc2
   obtain ⟨x4, hx4⟩ : ∃ x, shl32 x3 8 ||| b0.toUInt32 = x := ⟨_, rfl⟩
   rw [hx4] at hacc2
   obtain ⟨q1, hq1⟩ : ∃ r, q.set i x1 = r := ⟨_, rfl⟩
   obtain ⟨q2, hq2⟩ : ∃ r, q1.set i x2 = r := ⟨_, rfl⟩
   obtain ⟨q3, hq3⟩ : ∃ r, q2.set i x3 = r := ⟨_, rfl⟩
   obtain ⟨q4, hq4⟩ : ∃ r, q3.set i x4 = r := ⟨_, rfl⟩
   have e1 : q1.length = 16 := by rw [← hq1]; simp [hq]
   have e2 : q2.length = 16 := by rw [← hq2]; simp [e1]
   have e3 : q3.length = 16 := by rw [← hq3]; simp [e2]
   have e4 : q4.length = 16 := by rw [← hq4]; simp [e3]
   have p0 := put_set32 (q := q) (j := i) x1 (by omega)
   have p1 := put_set32 (q := q1) (j := i) x2 (by omega)
   have p2 := put_set32 (q := q2) (j := i) x3 (by omega)
   have p3 := put_set32 (q := q3) (j := i) x4 (by omega)
   rw [hq1] at p0
   rw [hq2] at p1
   rw [hq3] at p2
   rw [hq4] at p3
   have l1 := u32_one (l := q1) (i := i) (by omega)
   have l2 := u32_one (l := q2) (i := i) (by omega)
   have l3 := u32_one (l := q3) (i := i) (by omega)
   have i1 : q1.getD i 0 = x1 := by rw [← hq1, getD_set32 (by omega), if_pos rfl]
   have i2 : q2.getD i 0 = x2 := by rw [← hq2, getD_set32 (by omega), if_pos rfl]
   have i3 : q3.getD i 0 = x3 := by rw [← hq3, getD_set32 (by omega), if_pos rfl]
   rw [i1] at l1
   rw [i2] at l2
   rw [i3] at l3
   have k1 : ∀ j, j < i + 1 → q4.getD j 0 = wordAt held j := fun j hj => by
    by_cases e : i = j
    · subst e; rw [← hq4, getD_set32 (by omega), if_pos rfl, hacc2]
    · rw [← hq4, getD_set32 (by omega), if_neg e, ← hq3, getD_set32 (by omega), if_neg e, ← hq2, getD_set32 (by omega), if_neg e, ← hq1, getD_set32 (by omega), if_neg e]; exact hz j (by omega)
   have k2 : ∀ j, i + 1 ≤ j → q4.getD j 0 = 0 := fun j hj => by
    have e : ¬ i = j := by omega
    rw [← hq4, getD_set32 (by omega), if_neg e, ← hq3, getD_set32 (by omega), if_neg e, ← hq2, getD_set32 (by omega), if_neg e, ← hq1, getD_set32 (by omega), if_neg e]; exact hy j (by omega)
   have n0 := u32_len q
   have n1 := u32_len q1
   have n2 := u32_len q2
   have n3 := u32_len q3
   rw [hq] at n0
   rw [e1] at n1
   rw [e2] at n2
   rw [e3] at n3
   have hcq : ((i : Nat) : Int) < 16 := by omega
   have hc0 : (0 : Int) ≤ ((i : Nat) : Int) := by omega
   have hk2 : i + 1 ≤ 16 := by omega
   have d0 : (0 : Int) ≤ ((4 * i : Nat) : Int) ∧ ((4 * i : Nat) : Int) < 64 ∧ (0 : Int) ≤ ((4 * i + 1 : Nat) : Int) ∧ ((4 * i + 1 : Nat) : Int) < 64 ∧ (0 : Int) ≤ ((4 * i + 2 : Nat) : Int) ∧ ((4 * i + 2 : Nat) : Int) < 64 ∧ (0 : Int) ≤ ((4 * i + 3 : Nat) : Int) ∧ ((4 * i + 3 : Nat) : Int) < 64 := by omega
   have d1 : 4 * i + 1 ≤ 64 ∧ 4 * i + 1 + 1 ≤ 64 ∧ 4 * i + 2 + 1 ≤ 64 ∧ 4 * i + 3 + 1 ≤ 64 := by omega
   obtain ⟨hs1, hw8, hw4, hw5, hw6, hw7⟩ : Go.RowKit.wrap64 (((i : Nat) : Int) + 1) = ((i + 1 : Nat) : Int) ∧ Go.RowKit.wrap64 (((4 * i : Nat) : Int) + 0) = ((4 * i : Nat) : Int) ∧ Go.RowKit.wrap64 (4 * ((i : Nat) : Int)) = ((4 * i : Nat) : Int) ∧ Go.RowKit.wrap64 (((4 * i : Nat) : Int) + 1) = ((4 * i + 1 : Nat) : Int) ∧ Go.RowKit.wrap64 (((4 * i : Nat) : Int) + 2) = ((4 * i + 2 : Nat) : Int) ∧ Go.RowKit.wrap64 (((4 * i : Nat) : Int) + 3) = ((4 * i + 3 : Nat) : Int) := ⟨wnat (by omega) (by omega), wnat (by omega) (by omega), wnat (by omega) (by omega), wnat (by omega) (by omega), wnat (by omega) (by omega), wnat (by omega) (by omega)⟩
   have F6 := And.intro hl0 <| And.intro l1 <| And.intro l2 <| And.intro l3 <| And.intro g0 <| And.intro g1 <| And.intro g2 <| And.intro g3 <| And.intro n0 <| And.intro n1 <| And.intro n2 <| And.intro n3 <| And.intro hx1 <| And.intro hx2 <| And.intro hx3 <| And.intro hx4 <| And.intro p0 <| And.intro p1 <| And.intro p2 <| And.intro p3 <| And.intro hcq <| And.intro hc0 <| And.intro hk2 <| And.intro d0 <| And.intro d1 <| And.intro hs1 <| And.intro hw4 <| And.intro hw5 <| And.intro hw6 <| And.intro hw7 <| hw8
   iterate 91 first
    | (refine rnd_forget [20, 21, 22, 23, 24, 25, 26, 27, 28, 29, 30, 31, 32, 33, 34, 35, 36, 37, 38] ?_; simp only [go_sem, St.forget, fgt]; refine rnd_k fun zN zM zhN zhM => ?_)
    | refine rnd_k fun zN zM zhN zhM => ?_
    | (refine zhN _ ?_; clear zhN zhM)
    | refine zhK _ ?_
    | (refine sr_k fun zK zhK => ?_; simp only [go_sem, ordC_length, Int.toNat_one, Int.reduceTMod, F0, bytesC_1, F6]; (repeat' (first | apply And.intro | intro _)))
    | refine block_k fun zB zbn zbx zbr zbi => ?_
    | refine skip_k ?_
    | (refine zbn _ ?_; clear zbn zbx zbr zbi)
    | (refine region_k fun zK zhK => ?_; simp only [go_sem, ordC_length, Int.toNat_one, Int.reduceTMod, F0, bytesC_1, F6]; (repeat' (first | apply And.intro | intro _)))
    | (refine draw_k (id := 8) [24, 25, 26, 27, 28, 29, 30, 31, 32, 33, 34, 35, 36, 37, 38] [0, 0, 2, 6, 14, 0, 32, 0, 224, 0, 992, 2016, 4064, 8190, 16383, 32767] [] mixed (by kernel_rfl) (by simp only [go_sem]) fun zK zhK => ?_; simp only [go_sem, ordC_length, Int.toNat_one, Int.reduceTMod, F0, bytesC_1, F6]; (repeat' (first | apply And.intro | intro _)))
    | refine zhK _ _ trivial ?_
    | (refine zhM _ _ ?_; clear zhN zhM)
    | refine rounds_k 5 ?_
    | refine exit_k ?_
    | (refine zbx _ ?_; clear zbn zbx zbr zbi)
    | refine seq_k fun zN zM zhN zhM => ?_
    | (refine condT_k ?_ ?_; focus (first | rfl | (simp [go_sem, ordC_length, Int.toNat_one, Int.reduceTMod, F0, bytesC_1, F6]; done)))
    | (refine condF_k ?_ ?_; focus (first | rfl | (simp [go_sem, ordC_length, Int.toNat_one, Int.reduceTMod, F0, bytesC_1, F6]; done)))
   refine zhN ⟨(i + 1, q4), hlt, e4, k1, k2⟩ _ ?_ ?_ ?_
   · (exact Nat.sub_lt_sub_left hlt (Nat.lt_succ_self i))
   · (simp only [go_sem, leX, List.cons_append, List.nil_append]; try simp)
   · (simp only [go_sem, leX, List.cons_append, List.nil_append]; try simp)
 · obtain rfl : i = 16 := by omega
   have hcq : ¬ ((16 : Nat) : Int) < 16 := by omega
   have hql := u32_len q
   rw [hq] at hql
   iterate 174 first
    | (refine rnd_forget (x := .seq (.region 12 _ _) _) [9, 41, 42, 43, 44, 45, 46, 47, 48, 49, 50, 51, 52, 53, 54, 55] ?_; simp only [go_sem, St.forget, fgt]; refine rnd_k fun zN zM zhN zhM => ?_)
    | refine rnd_k fun zN zM zhN zhM => ?_
    | refine zhK _ ?_
    | (refine zhN _ ?_; clear zhN zhM)
    | (refine sr_k fun zK zhK => ?_; simp only [go_sem, ordC_length, Int.toNat_one, Int.reduceTMod, F0, hcq, hql]; (repeat' (first | apply And.intro | intro _)))
    | refine block_k fun zB zbn zbx zbr zbi => ?_
    | refine skip_k ?_
    | (refine draw_k (id := 14) [43, 44, 45, 46, 47, 48, 49, 50, 51, 52, 53, 54] [0, 0, 2, 0, 0, 24, 56, 0, 128, 384, 121, 1145, 4095, 8191] [(1, 11), (2, 11), (7, 11), (8, 11), (9, 11)] mixed (by kernel_rfl) (by simp only [go_sem]) fun zK zhK => ?_; simp only [go_sem, ordC_length, Int.toNat_one, Int.reduceTMod, F0, hcq, hql]; (repeat' (first | apply And.intro | intro _)))
    | (refine zhK _ _ ?_ ?_; (focus (first | trivial | (simp only [go_sem]; done) | (simp only [go_sem]; simp; done) | (simp only [go_sem]; simp; simp only [go_sem]))))
    | (refine zbn _ ?_; clear zbn zbx zbr zbi)
    | (refine region_k fun zK zhK => ?_; simp only [go_sem, ordC_length, Int.toNat_one, Int.reduceTMod, F0, hcq, hql]; (repeat' (first | apply And.intro | intro _)))
    | (refine zhM _ _ ?_; clear zhN zhM)
    | refine exit_k ?_
    | (refine zbx _ ?_; clear zbn zbx zbr zbi)
    | refine rounds_k (x := .seq (.region 12 _ _) _) 9 ?_
    | refine seq_k fun zN zM zhN zhM => ?_
    | (refine condT_k ?_ ?_; focus (first | rfl | (simp [go_sem, ordC_length, Int.toNat_one, Int.reduceTMod, F0, hcq, hql]; done)))
    | (refine condF_k ?_ ?_; focus (first | rfl | (simp [go_sem, ordC_length, Int.toNat_one, Int.reduceTMod, F0, hcq, hql]; done)))
   refine join_k [8, 5, 4, 2] (fun w => ⟨[(8, .w (.one (.p 8 []))), (5, .w (.one (.p 5 []))), (4, .w (.one (.p 4 []))), (2, .w (.one (.p 2 [])))], [(8, ⟨false, w.ls⟩), (5, ⟨false, u32C q⟩), (5, ⟨false, [.pl (.u32 0), .pl (.u32 0), .pl (.u32 0), .pl (.u32 0), .pl (.u32 0), .pl (.u32 0), .pl (.u32 0), .pl (.u32 0), .pl (.u32 0), .pl (.u32 0), .pl (.u32 0), .pl (.u32 0), .pl (.u32 0), .pl (.u32 0), .pl (.u32 0), .pl (.u32 0)]⟩), (4, ⟨false, [.pl (.u32 0), .pl (.u32 0), .pl (.u32 0), .pl (.u32 0), .pl (.u32 0), .pl (.u32 0), .pl (.u32 0), .pl (.u32 0)]⟩), (2, ⟨false, [.pl (.u32 h0), .pl (.u32 h1), .pl (.u32 h2), .pl (.u32 h3), .pl (.u32 h4), .pl (.u32 h5), .pl (.u32 h6), .pl (.u32 h7)] ++ (bytesC held ++ [.pl (.i n), .pl (.i ((len : Nat) : Int))])⟩), (1000000, ⟨false, [.pl (.u32 1779033703), .pl (.u32 3144134277), .pl (.u32 1013904242), .pl (.u32 2773480762), .pl (.u32 1359893119), .pl (.u32 2600822924), .pl (.u32 528734635), .pl (.u32 1541459225)]⟩), (1000002, ⟨false, ordC⟩)]⟩) (fun w => iniW ⟨h0, h1, h2, h3, h4, h5, h6, h7⟩ len last = w) (fun zN zM zhN zhM => ?_) (fun Wi hW => ?_)
   · skip
     refine sr_k fun zK zhK => ?_
     simp only [go_sem, ordC_length, Int.toNat_one, Int.reduceTMod, F0, hcq, hql]
     repeat' (first | apply And.intro | intro _)
     refine zhK _ ?_
     refine cond_k rfl (fun hc => ?_) (fun hc => ?_)
     · try simp only [go_sem, ordC_length, Int.toNat_one, Int.reduceTMod, F0, hcq, hql] at hc
       subst hc
       all_goals
        refine region_k fun zK zhK => ?_
        simp only [go_sem, ordC_length, Int.toNat_one, Int.reduceTMod, F0, hcq, hql]
        repeat' (first | apply And.intro | intro _)
        refine zhK _ ?_
        refine zhN _ rfl _ ?_
        (simp only [keepE_mk, kept_nil, kept_cons, List.contains_cons, List.contains_nil, Nat.reduceBEq, beq_self_eq_true, Bool.or_false, Bool.or_true, Bool.true_or, Bool.false_or, Bool.false_eq_true, reduceIte]; rfl)
     · try simp only [go_sem, ordC_length, Int.toNat_one, Int.reduceTMod, F0, hcq, hql] at hc
       subst hc
       all_goals
        refine skip_k ?_
        refine zhN _ rfl _ ?_
        (simp only [keepE_mk, kept_nil, kept_cons, List.contains_cons, List.contains_nil, Nat.reduceBEq, beq_self_eq_true, Bool.or_false, Bool.or_true, Bool.true_or, Bool.false_or, Bool.false_eq_true, reduceIte]; rfl)
   · skip
     iterate 6 first
      | (refine sr_k fun zK zhK => ?_; simp only [go_sem, ordC_length, Int.toNat_one, Int.reduceTMod, F0, hcq, hql]; (repeat' (first | apply And.intro | intro _)))
      | refine zhK _ ?_
      | refine block_k fun zB zbn zbx zbr zbi => ?_
      | refine seq_k fun zN zM zhN zhM => ?_
     refine ht_dropE [0, 1, 6, 7, 9, 17, 18, 19, 20, 21, 22, 23, 24, 25, 26, 27, 28, 29, 30, 31, 32, 33, 34, 35, 36, 37, 38, 39, 40, 41, 42, 43, 44, 45, 46, 47, 48, 49, 50, 51, 52, 53, 54, 55, 56, 57, 58, 59, 60, 61, 62, 63, 64, 65, 66, 67, 68, 69, 70, 71, 72, 73, 74, 75, 76] ?_
     simp only [dropE_mk, fgt_nil, fgt_cons, List.contains_cons, List.contains_nil, Nat.reduceBEq, beq_self_eq_true, Bool.or_false, Bool.or_true, Bool.true_or, Bool.false_or, Bool.false_eq_true, reduceIte]
     refine loop_k (fun y => [(78, .w (.one (.pl (.i ((y.1 : Nat) : Int)))))]) (fun y => [(8, ⟨false, (roundB held y.1 Wi).ls⟩)]) (fun y => 10 - y.1) (⟨0, Nat.zero_le _⟩ : {y : Nat // y ≤ 10}) ?_ ?_ ?_
     · (simp only [go_sem, leX, List.cons_append, List.nil_append]; try simp)
     · (simp only [roundB, go_sem, leX, List.cons_append, List.nil_append]; first | done | rfl | (rw [← hW]; simp [roundB, iniW, W16.ls, leX, look]; done))
     intro ⟨k, hk9⟩ zN zM zhN zhM
     simp only [List.cons_append, List.nil_append]
     rcases Nat.lt_or_ge k 10 with hlt | hge
     · have hcq : ((k : Nat) : Int) < 10 := by omega
       have hc0 : (0 : Int) ≤ ((k : Nat) : Int) := by omega
       have hk2 : k * 16 + 16 ≤ 160 := by omega
       have hs1 : Go.RowKit.wrap64 (((k : Nat) : Int) + 1) = ((k + 1 : Nat) : Int) := wnat (by omega) (by omega)
       have hrow := ord_row hlt
       have hoc := ordC_length
       obtain ⟨o0, ho0⟩ : ∃ o, ordN k 0 = o := ⟨_, rfl⟩
       have hol0 := ord_lt hlt (i := 0) (by decide)
       rw [ho0] at hol0
       obtain ⟨y0, hy0⟩ : ∃ y, q.getD o0 0 = y := ⟨_, rfl⟩
       have hu0 := u32_one (l := q) (i := o0) (by omega)
       rw [hy0] at hu0
       have hm0 : mixW held k 0 = y0 := by rw [mixW, ho0, ← hy0, hz o0 hol0]
       have hi0 : (0 : Int) ≤ ((o0 : Nat) : Int) ∧ ((o0 : Nat) : Int) < 16 ∧ o0 + 1 ≤ 16 := by omega
       obtain ⟨o1, ho1⟩ : ∃ o, ordN k 1 = o := ⟨_, rfl⟩
       have hol1 := ord_lt hlt (i := 1) (by decide)
       rw [ho1] at hol1
       obtain ⟨y1, hy1⟩ : ∃ y, q.getD o1 0 = y := ⟨_, rfl⟩
       have hu1 := u32_one (l := q) (i := o1) (by omega)
       rw [hy1] at hu1
       have hm1 : mixW held k 1 = y1 := by rw [mixW, ho1, ← hy1, hz o1 hol1]
       have hi1 : (0 : Int) ≤ ((o1 : Nat) : Int) ∧ ((o1 : Nat) : Int) < 16 ∧ o1 + 1 ≤ 16 := by omega
       obtain ⟨o2, ho2⟩ : ∃ o, ordN k 2 = o := ⟨_, rfl⟩
       have hol2 := ord_lt hlt (i := 2) (by decide)
       rw [ho2] at hol2
       obtain ⟨y2, hy2⟩ : ∃ y, q.getD o2 0 = y := ⟨_, rfl⟩
       have hu2 := u32_one (l := q) (i := o2) (by omega)
       rw [hy2] at hu2
       have hm2 : mixW held k 2 = y2 := by rw [mixW, ho2, ← hy2, hz o2 hol2]
       have hi2 : (0 : Int) ≤ ((o2 : Nat) : Int) ∧ ((o2 : Nat) : Int) < 16 ∧ o2 + 1 ≤ 16 := by omega
       obtain ⟨o3, ho3⟩ : ∃ o, ordN k 3 = o := ⟨_, rfl⟩
       have hol3 := ord_lt hlt (i := 3) (by decide)
       rw [ho3] at hol3
       obtain ⟨y3, hy3⟩ : ∃ y, q.getD o3 0 = y := ⟨_, rfl⟩
       have hu3 := u32_one (l := q) (i := o3) (by omega)
       rw [hy3] at hu3
       have hm3 : mixW held k 3 = y3 := by rw [mixW, ho3, ← hy3, hz o3 hol3]
       have hi3 : (0 : Int) ≤ ((o3 : Nat) : Int) ∧ ((o3 : Nat) : Int) < 16 ∧ o3 + 1 ≤ 16 := by omega
       obtain ⟨o4, ho4⟩ : ∃ o, ordN k 4 = o := ⟨_, rfl⟩
       have hol4 := ord_lt hlt (i := 4) (by decide)
       rw [ho4] at hol4
       obtain ⟨y4, hy4⟩ : ∃ y, q.getD o4 0 = y := ⟨_, rfl⟩
       have hu4 := u32_one (l := q) (i := o4) (by omega)
       rw [hy4] at hu4
       have hm4 : mixW held k 4 = y4 := by rw [mixW, ho4, ← hy4, hz o4 hol4]
       have hi4 : (0 : Int) ≤ ((o4 : Nat) : Int) ∧ ((o4 : Nat) : Int) < 16 ∧ o4 + 1 ≤ 16 := by omega
       obtain ⟨o5, ho5⟩ : ∃ o, ordN k 5 = o := ⟨_, rfl⟩
       have hol5 := ord_lt hlt (i := 5) (by decide)
       rw [ho5] at hol5
       obtain ⟨y5, hy5⟩ : ∃ y, q.getD o5 0 = y := ⟨_, rfl⟩
       have hu5 := u32_one (l := q) (i := o5) (by omega)
       rw [hy5] at hu5
       have hm5 : mixW held k 5 = y5 := by rw [mixW, ho5, ← hy5, hz o5 hol5]
       have hi5 : (0 : Int) ≤ ((o5 : Nat) : Int) ∧ ((o5 : Nat) : Int) < 16 ∧ o5 + 1 ≤ 16 := by omega
       obtain ⟨o6, ho6⟩ : ∃ o, ordN k 6 = o := ⟨_, rfl⟩
       have hol6 := ord_lt hlt (i := 6) (by decide)
       rw [ho6] at hol6
       obtain ⟨y6, hy6⟩ : ∃ y, q.getD o6 0 = y := ⟨_, rfl⟩
       have hu6 := u32_one (l := q) (i := o6) (by omega)
       rw [hy6] at hu6
       have hm6 : mixW held k 6 = y6 := by rw [mixW, ho6, ← hy6, hz o6 hol6]
       have hi6 : (0 : Int) ≤ ((o6 : Nat) : Int) ∧ ((o6 : Nat) : Int) < 16 ∧ o6 + 1 ≤ 16 := by omega
       obtain ⟨o7, ho7⟩ : ∃ o, ordN k 7 = o := ⟨_, rfl⟩
       have hol7 := ord_lt hlt (i := 7) (by decide)
       rw [ho7] at hol7
       obtain ⟨y7, hy7⟩ : ∃ y, q.getD o7 0 = y := ⟨_, rfl⟩
       have hu7 := u32_one (l := q) (i := o7) (by omega)
       rw [hy7] at hu7
       have hm7 : mixW held k 7 = y7 := by rw [mixW, ho7, ← hy7, hz o7 hol7]
       have hi7 : (0 : Int) ≤ ((o7 : Nat) : Int) ∧ ((o7 : Nat) : Int) < 16 ∧ o7 + 1 ≤ 16 := by omega
       obtain ⟨o8, ho8⟩ : ∃ o, ordN k 8 = o := ⟨_, rfl⟩
       have hol8 := ord_lt hlt (i := 8) (by decide)
       rw [ho8] at hol8
       obtain ⟨y8, hy8⟩ : ∃ y, q.getD o8 0 = y := ⟨_, rfl⟩
       have hu8 := u32_one (l := q) (i := o8) (by omega)
       rw [hy8] at hu8
       have hm8 : mixW held k 8 = y8 := by rw [mixW, ho8, ← hy8, hz o8 hol8]
       have hi8 : (0 : Int) ≤ ((o8 : Nat) : Int) ∧ ((o8 : Nat) : Int) < 16 ∧ o8 + 1 ≤ 16 := by omega
       obtain ⟨o9, ho9⟩ : ∃ o, ordN k 9 = o := ⟨_, rfl⟩
       have hol9 := ord_lt hlt (i := 9) (by decide)
       rw [ho9] at hol9
       obtain ⟨y9, hy9⟩ : ∃ y, q.getD o9 0 = y := ⟨_, rfl⟩
       have hu9 := u32_one (l := q) (i := o9) (by omega)
       rw [hy9] at hu9
       have hm9 : mixW held k 9 = y9 := by rw [mixW, ho9, ← hy9, hz o9 hol9]
       have hi9 : (0 : Int) ≤ ((o9 : Nat) : Int) ∧ ((o9 : Nat) : Int) < 16 ∧ o9 + 1 ≤ 16 := by omega
       obtain ⟨o10, ho10⟩ : ∃ o, ordN k 10 = o := ⟨_, rfl⟩
       have hol10 := ord_lt hlt (i := 10) (by decide)
       rw [ho10] at hol10
       obtain ⟨y10, hy10⟩ : ∃ y, q.getD o10 0 = y := ⟨_, rfl⟩
       have hu10 := u32_one (l := q) (i := o10) (by omega)
       rw [hy10] at hu10
       have hm10 : mixW held k 10 = y10 := by rw [mixW, ho10, ← hy10, hz o10 hol10]
       have hi10 : (0 : Int) ≤ ((o10 : Nat) : Int) ∧ ((o10 : Nat) : Int) < 16 ∧ o10 + 1 ≤ 16 := by omega
       obtain ⟨o11, ho11⟩ : ∃ o, ordN k 11 = o := ⟨_, rfl⟩
       have hol11 := ord_lt hlt (i := 11) (by decide)
       rw [ho11] at hol11
       obtain ⟨y11, hy11⟩ : ∃ y, q.getD o11 0 = y := ⟨_, rfl⟩
       have hu11 := u32_one (l := q) (i := o11) (by omega)
       rw [hy11] at hu11
       have hm11 : mixW held k 11 = y11 := by rw [mixW, ho11, ← hy11, hz o11 hol11]
       have hi11 : (0 : Int) ≤ ((o11 : Nat) : Int) ∧ ((o11 : Nat) : Int) < 16 ∧ o11 + 1 ≤ 16 := by omega
       obtain ⟨o12, ho12⟩ : ∃ o, ordN k 12 = o := ⟨_, rfl⟩
       have hol12 := ord_lt hlt (i := 12) (by decide)
       rw [ho12] at hol12
       obtain ⟨y12, hy12⟩ : ∃ y, q.getD o12 0 = y := ⟨_, rfl⟩
       have hu12 := u32_one (l := q) (i := o12) (by omega)
       rw [hy12] at hu12
       have hm12 : mixW held k 12 = y12 := by rw [mixW, ho12, ← hy12, hz o12 hol12]
       have hi12 : (0 : Int) ≤ ((o12 : Nat) : Int) ∧ ((o12 : Nat) : Int) < 16 ∧ o12 + 1 ≤ 16 := by omega
       obtain ⟨o13, ho13⟩ : ∃ o, ordN k 13 = o := ⟨_, rfl⟩
       have hol13 := ord_lt hlt (i := 13) (by decide)
       rw [ho13] at hol13
       obtain ⟨y13, hy13⟩ : ∃ y, q.getD o13 0 = y := ⟨_, rfl⟩
       have hu13 := u32_one (l := q) (i := o13) (by omega)
       rw [hy13] at hu13
       have hm13 : mixW held k 13 = y13 := by rw [mixW, ho13, ← hy13, hz o13 hol13]
       have hi13 : (0 : Int) ≤ ((o13 : Nat) : Int) ∧ ((o13 : Nat) : Int) < 16 ∧ o13 + 1 ≤ 16 := by omega
       obtain ⟨o14, ho14⟩ : ∃ o, ordN k 14 = o := ⟨_, rfl⟩
       have hol14 := ord_lt hlt (i := 14) (by decide)
       rw [ho14] at hol14
       obtain ⟨y14, hy14⟩ : ∃ y, q.getD o14 0 = y := ⟨_, rfl⟩
       have hu14 := u32_one (l := q) (i := o14) (by omega)
       rw [hy14] at hu14
       have hm14 : mixW held k 14 = y14 := by rw [mixW, ho14, ← hy14, hz o14 hol14]
       have hi14 : (0 : Int) ≤ ((o14 : Nat) : Int) ∧ ((o14 : Nat) : Int) < 16 ∧ o14 + 1 ≤ 16 := by omega
       obtain ⟨o15, ho15⟩ : ∃ o, ordN k 15 = o := ⟨_, rfl⟩
       have hol15 := ord_lt hlt (i := 15) (by decide)
       rw [ho15] at hol15
       obtain ⟨y15, hy15⟩ : ∃ y, q.getD o15 0 = y := ⟨_, rfl⟩
       have hu15 := u32_one (l := q) (i := o15) (by omega)
       rw [hy15] at hu15
       have hm15 : mixW held k 15 = y15 := by rw [mixW, ho15, ← hy15, hz o15 hol15]
       have hi15 : (0 : Int) ≤ ((o15 : Nat) : Int) ∧ ((o15 : Nat) : Int) < 16 ∧ o15 + 1 ≤ 16 := by omega
       rw [ho0, ho1, ho2, ho3, ho4, ho5, ho6, ho7, ho8, ho9, ho10, ho11, ho12, ho13, ho14, ho15] at hrow
       obtain ⟨w, hw⟩ : ∃ w, roundB held k Wi = w := ⟨_, rfl⟩
       obtain ⟨x0, x1, x2, x3, x4, x5, x6, x7, x8, x9, x10, x11, x12, x13, x14, x15⟩ := w
       simp only [hw, W16.ls]
       have F130 := And.intro hcq <| And.intro hc0 <| And.intro hk2 <| And.intro hs1 <| And.intro hrow <| And.intro hoc <| And.intro hu0 <| And.intro hi0 <| And.intro hu1 <| And.intro hi1 <| And.intro hu2 <| And.intro hi2 <| And.intro hu3 <| And.intro hi3 <| And.intro hu4 <| And.intro hi4 <| And.intro hu5 <| And.intro hi5 <| And.intro hu6 <| And.intro hi6 <| And.intro hu7 <| And.intro hi7 <| And.intro hu8 <| And.intro hi8 <| And.intro hu9 <| And.intro hi9 <| And.intro hu10 <| And.intro hi10 <| And.intro hu11 <| And.intro hi11 <| And.intro hu12 <| And.intro hi12 <| And.intro hu13 <| And.intro hi13 <| And.intro hu14 <| And.intro hi14 <| And.intro hu15 <| hi15
       iterate 26 first
        | refine rnd_k fun zN zM zhN zhM => ?_
        | (refine sr_k fun zK zhK => ?_; simp only [go_sem, ordC_length, Int.toNat_one, Int.reduceTMod, F0, hcq, hql, F130]; (repeat' (first | apply And.intro | intro _)))
        | refine zhK _ ?_
        | refine block_k fun zB zbn zbx zbr zbi => ?_
        | refine skip_k ?_
        | (refine zhN _ ?_; clear zhN zhM)
        | refine rounds_k (x := .seq (.region 25 _ _) _) 5 ?_
        | refine seq_k fun zN zM zhN zhM => ?_
        | (refine condT_k ?_ ?_; focus (first | rfl | (simp [go_sem, ordC_length, Int.toNat_one, Int.reduceTMod, F0, hcq, hql, F130]; done)))
       refine dr_k (id := 27) mixed fun zE zhE => ?_
       refine dr_piece_k (p := 0) 21 [84, 85, 86, 87, 88, 89, 90, 91, 92, 93, 94, 95, 96, 97, 98, 99, 100, 101, 102, 103, 104] [0, 0, 0, 4, 0, 16, 0, 64, 0, 256, 768, 1792, 3840, 7936, 0, 16384, 49152, 114688, 245760, 507904, 1032192, 2097151] [] rfl (by kernel_rfl) rfl (by simp only [go_sem]) fun zR zK zhR zhK => ?_
       simp only [go_sem, ordC_length, Int.toNat_one, Int.reduceTMod, F0, hcq, hql, F130]
       repeat' (first | apply And.intro | intro _)
       refine zhK _ _ trivial (zhR _ ?_)
       refine dr_runs_k 1 22 rfl (by kernel_rfl) rfl rfl fun zR zhR => ?_
       simp only [go_sem, ordC_length, Int.toNat_one, Int.reduceTMod, F0, hcq, hql, F130]
       repeat' (first | apply And.intro | intro _)
       all_goals (refine call_fn (caps := [8]) false [(500000, 8)] (fun k => k) ?_ ?_ (fun _ _ => rfl) ?_ (by decide) ?_ (mix_0 x0 x1 x2 x3 x4 x5 x6 x7 x8 x9 x10 x11 x12 x13 x14 x15 y0 y1) ?_; iterate 4 (focus (first | rfl | (simp only [go_sem, ordC_length, Int.toNat_one, Int.reduceTMod, F0, hcq, hql, F130] <;> first | done | rfl | simp))))
       all_goals (rintro v m ⟨hR, hm⟩; subst hR; subst hm)
       all_goals (refine And.intro ?_ (And.intro ?_ (And.intro ?_ ?_)); iterate 3 (focus (first | rfl | (simp only [go_sem, ordC_length, Int.toNat_one, Int.reduceTMod, F0, hcq, hql, F130]; done) | (simp [go_sem, look, ordC_length, Int.toNat_one, Int.reduceTMod, F0, hcq, hql, F130]; done))))
       all_goals (try simp only [go_sem, ordC_length, Int.toNat_one, Int.reduceTMod, F0, hcq, hql, F130])
       all_goals (try simp only [go_sem, ordC_length, Int.toNat_one, Int.reduceTMod, F0, hcq, hql, F130])
       all_goals repeat' (first | apply And.intro | intro _)
       refine zhR _ ?_
       refine dr_end rfl (zhE _ ?_)
       iterate 16 first
        | (refine rnd_forget (x := .seq (.region 25 _ _) _) [13, 82, 83, 84, 85, 86, 87, 88, 89, 90, 91, 92, 93, 94, 95, 96, 97, 98, 99, 100, 101, 102, 103, 104, 105, 106] ?_; simp only [go_sem, St.forget, fgt]; refine rnd_k fun zN zM zhN zhM => ?_)
        | (refine zhN _ ?_; clear zhN zhM)
        | refine zhK _ ?_
        | (refine sr_k fun zK zhK => ?_; simp only [go_sem, ordC_length, Int.toNat_one, Int.reduceTMod, F0, hcq, hql, F130]; (repeat' (first | apply And.intro | intro _)))
        | (refine zbn _ ?_; clear zbn zbx zbr zbi)
        | (refine region_k fun zK zhK => ?_; simp only [go_sem, ordC_length, Int.toNat_one, Int.reduceTMod, F0, hcq, hql, F130]; (repeat' (first | apply And.intro | intro _)))
        | refine skip_k ?_
        | refine block_k fun zB zbn zbx zbr zbi => ?_
        | refine seq_k fun zN zM zhN zhM => ?_
        | (refine condT_k ?_ ?_; focus (first | rfl | (simp [go_sem, ordC_length, Int.toNat_one, Int.reduceTMod, F0, hcq, hql, F130]; done)))
       refine dr_k (id := 27) mixed fun zE zhE => ?_
       refine dr_piece_k (p := 0) 21 [84, 85, 86, 87, 88, 89, 90, 91, 92, 93, 94, 95, 96, 97, 98, 99, 100, 101, 102, 103, 104] [0, 0, 0, 4, 0, 16, 0, 64, 0, 256, 768, 1792, 3840, 7936, 0, 16384, 49152, 114688, 245760, 507904, 1032192, 2097151] [] rfl (by kernel_rfl) rfl (by simp only [go_sem]) fun zR zK zhR zhK => ?_
       simp only [go_sem, ordC_length, Int.toNat_one, Int.reduceTMod, F0, hcq, hql, F130]
       repeat' (first | apply And.intro | intro _)
       refine zhK _ _ trivial (zhR _ ?_)
       refine dr_runs_k 1 22 rfl (by kernel_rfl) rfl rfl fun zR zhR => ?_
       simp only [go_sem, ordC_length, Int.toNat_one, Int.reduceTMod, F0, hcq, hql, F130]
       repeat' (first | apply And.intro | intro _)
       all_goals (refine call_fn (caps := [8]) false [(500000, 8)] (fun k => k) ?_ ?_ (fun _ _ => rfl) ?_ (by decide) ?_ (mix_1 (mA x0 x4 x8 x12 y0 y1) x1 x2 x3 (mB x0 x4 x8 x12 y0 y1) x5 x6 x7 (mC x0 x4 x8 x12 y0 y1) x9 x10 x11 (mD x0 x4 x8 x12 y0 y1) x13 x14 x15 y2 y3) ?_; iterate 4 (focus (first | rfl | (simp only [go_sem, ordC_length, Int.toNat_one, Int.reduceTMod, F0, hcq, hql, F130] <;> first | done | rfl | simp))))
       all_goals (rintro v m ⟨hR, hm⟩; subst hR; subst hm)
       all_goals (refine And.intro ?_ (And.intro ?_ (And.intro ?_ ?_)); iterate 3 (focus (first | rfl | (simp only [go_sem, ordC_length, Int.toNat_one, Int.reduceTMod, F0, hcq, hql, F130]; done) | (simp [go_sem, look, ordC_length, Int.toNat_one, Int.reduceTMod, F0, hcq, hql, F130]; done))))
       all_goals (try simp only [go_sem, ordC_length, Int.toNat_one, Int.reduceTMod, F0, hcq, hql, F130])
       all_goals (try simp only [go_sem, ordC_length, Int.toNat_one, Int.reduceTMod, F0, hcq, hql, F130])
       all_goals repeat' (first | apply And.intro | intro _)
       refine zhR _ ?_
       refine dr_end rfl (zhE _ ?_)
       iterate 16 first
        | (refine rnd_forget (x := .seq (.region 25 _ _) _) [13, 82, 83, 84, 85, 86, 87, 88, 89, 90, 91, 92, 93, 94, 95, 96, 97, 98, 99, 100, 101, 102, 103, 104, 105, 106] ?_; simp only [go_sem, St.forget, fgt]; refine rnd_k fun zN zM zhN zhM => ?_)
        | (refine zhN _ ?_; clear zhN zhM)
        | refine zhK _ ?_
        | (refine sr_k fun zK zhK => ?_; simp only [go_sem, ordC_length, Int.toNat_one, Int.reduceTMod, F0, hcq, hql, F130]; (repeat' (first | apply And.intro | intro _)))
        | (refine zbn _ ?_; clear zbn zbx zbr zbi)
        | (refine region_k fun zK zhK => ?_; simp only [go_sem, ordC_length, Int.toNat_one, Int.reduceTMod, F0, hcq, hql, F130]; (repeat' (first | apply And.intro | intro _)))
        | refine skip_k ?_
        | refine block_k fun zB zbn zbx zbr zbi => ?_
        | refine seq_k fun zN zM zhN zhM => ?_
        | (refine condT_k ?_ ?_; focus (first | rfl | (simp [go_sem, ordC_length, Int.toNat_one, Int.reduceTMod, F0, hcq, hql, F130]; done)))
       refine dr_k (id := 27) mixed fun zE zhE => ?_
       refine dr_piece_k (p := 0) 21 [84, 85, 86, 87, 88, 89, 90, 91, 92, 93, 94, 95, 96, 97, 98, 99, 100, 101, 102, 103, 104] [0, 0, 0, 4, 0, 16, 0, 64, 0, 256, 768, 1792, 3840, 7936, 0, 16384, 49152, 114688, 245760, 507904, 1032192, 2097151] [] rfl (by kernel_rfl) rfl (by simp only [go_sem]) fun zR zK zhR zhK => ?_
       simp only [go_sem, ordC_length, Int.toNat_one, Int.reduceTMod, F0, hcq, hql, F130]
       repeat' (first | apply And.intro | intro _)
       refine zhK _ _ trivial (zhR _ ?_)
       refine dr_runs_k 1 22 rfl (by kernel_rfl) rfl rfl fun zR zhR => ?_
       simp only [go_sem, ordC_length, Int.toNat_one, Int.reduceTMod, F0, hcq, hql, F130]
       repeat' (first | apply And.intro | intro _)
       all_goals (refine call_fn (caps := [8]) false [(500000, 8)] (fun k => k) ?_ ?_ (fun _ _ => rfl) ?_ (by decide) ?_ (mix_2 (mA x0 x4 x8 x12 y0 y1) (mA x1 x5 x9 x13 y2 y3) x2 x3 (mB x0 x4 x8 x12 y0 y1) (mB x1 x5 x9 x13 y2 y3) x6 x7 (mC x0 x4 x8 x12 y0 y1) (mC x1 x5 x9 x13 y2 y3) x10 x11 (mD x0 x4 x8 x12 y0 y1) (mD x1 x5 x9 x13 y2 y3) x14 x15 y4 y5) ?_; iterate 4 (focus (first | rfl | (simp only [go_sem, ordC_length, Int.toNat_one, Int.reduceTMod, F0, hcq, hql, F130] <;> first | done | rfl | simp))))
       all_goals (rintro v m ⟨hR, hm⟩; subst hR; subst hm)
       all_goals (refine And.intro ?_ (And.intro ?_ (And.intro ?_ ?_)); iterate 3 (focus (first | rfl | (simp only [go_sem, ordC_length, Int.toNat_one, Int.reduceTMod, F0, hcq, hql, F130]; done) | (simp [go_sem, look, ordC_length, Int.toNat_one, Int.reduceTMod, F0, hcq, hql, F130]; done))))
       all_goals (try simp only [go_sem, ordC_length, Int.toNat_one, Int.reduceTMod, F0, hcq, hql, F130])
       all_goals (try simp only [go_sem, ordC_length, Int.toNat_one, Int.reduceTMod, F0, hcq, hql, F130])
       all_goals repeat' (first | apply And.intro | intro _)
       refine zhR _ ?_
       refine dr_end rfl (zhE _ ?_)
       iterate 16 first
        | (refine rnd_forget (x := .seq (.region 25 _ _) _) [13, 82, 83, 84, 85, 86, 87, 88, 89, 90, 91, 92, 93, 94, 95, 96, 97, 98, 99, 100, 101, 102, 103, 104, 105, 106] ?_; simp only [go_sem, St.forget, fgt]; refine rnd_k fun zN zM zhN zhM => ?_)
        | (refine zhN _ ?_; clear zhN zhM)
        | refine zhK _ ?_
        | (refine sr_k fun zK zhK => ?_; simp only [go_sem, ordC_length, Int.toNat_one, Int.reduceTMod, F0, hcq, hql, F130]; (repeat' (first | apply And.intro | intro _)))
        | (refine zbn _ ?_; clear zbn zbx zbr zbi)
        | (refine region_k fun zK zhK => ?_; simp only [go_sem, ordC_length, Int.toNat_one, Int.reduceTMod, F0, hcq, hql, F130]; (repeat' (first | apply And.intro | intro _)))
        | refine skip_k ?_
        | refine block_k fun zB zbn zbx zbr zbi => ?_
        | refine seq_k fun zN zM zhN zhM => ?_
        | (refine condT_k ?_ ?_; focus (first | rfl | (simp [go_sem, ordC_length, Int.toNat_one, Int.reduceTMod, F0, hcq, hql, F130]; done)))
       refine dr_k (id := 27) mixed fun zE zhE => ?_
       refine dr_piece_k (p := 0) 21 [84, 85, 86, 87, 88, 89, 90, 91, 92, 93, 94, 95, 96, 97, 98, 99, 100, 101, 102, 103, 104] [0, 0, 0, 4, 0, 16, 0, 64, 0, 256, 768, 1792, 3840, 7936, 0, 16384, 49152, 114688, 245760, 507904, 1032192, 2097151] [] rfl (by kernel_rfl) rfl (by simp only [go_sem]) fun zR zK zhR zhK => ?_
       simp only [go_sem, ordC_length, Int.toNat_one, Int.reduceTMod, F0, hcq, hql, F130]
       repeat' (first | apply And.intro | intro _)
       refine zhK _ _ trivial (zhR _ ?_)
       refine dr_runs_k 1 22 rfl (by kernel_rfl) rfl rfl fun zR zhR => ?_
       simp only [go_sem, ordC_length, Int.toNat_one, Int.reduceTMod, F0, hcq, hql, F130]
       repeat' (first | apply And.intro | intro _)
       all_goals (refine call_fn (caps := [8]) false [(500000, 8)] (fun k => k) ?_ ?_ (fun _ _ => rfl) ?_ (by decide) ?_ (mix_3 (mA x0 x4 x8 x12 y0 y1) (mA x1 x5 x9 x13 y2 y3) (mA x2 x6 x10 x14 y4 y5) x3 (mB x0 x4 x8 x12 y0 y1) (mB x1 x5 x9 x13 y2 y3) (mB x2 x6 x10 x14 y4 y5) x7 (mC x0 x4 x8 x12 y0 y1) (mC x1 x5 x9 x13 y2 y3) (mC x2 x6 x10 x14 y4 y5) x11 (mD x0 x4 x8 x12 y0 y1) (mD x1 x5 x9 x13 y2 y3) (mD x2 x6 x10 x14 y4 y5) x15 y6 y7) ?_; iterate 4 (focus (first | rfl | (simp only [go_sem, ordC_length, Int.toNat_one, Int.reduceTMod, F0, hcq, hql, F130] <;> first | done | rfl | simp))))
       all_goals (rintro v m ⟨hR, hm⟩; subst hR; subst hm)
       all_goals (refine And.intro ?_ (And.intro ?_ (And.intro ?_ ?_)); iterate 3 (focus (first | rfl | (simp only [go_sem, ordC_length, Int.toNat_one, Int.reduceTMod, F0, hcq, hql, F130]; done) | (simp [go_sem, look, ordC_length, Int.toNat_one, Int.reduceTMod, F0, hcq, hql, F130]; done))))
       all_goals (try simp only [go_sem, ordC_length, Int.toNat_one, Int.reduceTMod, F0, hcq, hql, F130])
       all_goals (try simp only [go_sem, ordC_length, Int.toNat_one, Int.reduceTMod, F0, hcq, hql, F130])
       all_goals repeat' (first | apply And.intro | intro _)
       refine zhR _ ?_
       refine dr_end rfl (zhE _ ?_)
       iterate 30 first
        | (refine rnd_forget (x := .seq (.region 25 _ _) _) [13, 82, 83, 84, 85, 86, 87, 88, 89, 90, 91, 92, 93, 94, 95, 96, 97, 98, 99, 100, 101, 102, 103, 104, 105, 106] ?_; simp only [go_sem, St.forget, fgt]; refine rnd_k fun zN zM zhN zhM => ?_)
        | refine rnd_k fun zN zM zhN zhM => ?_
        | refine zhK _ ?_
        | (refine zhN _ ?_; clear zhN zhM)
        | (refine sr_k fun zK zhK => ?_; simp only [go_sem, ordC_length, Int.toNat_one, Int.reduceTMod, F0, hcq, hql, F130]; (repeat' (first | apply And.intro | intro _)))
        | (refine zhM _ _ ?_; clear zhN zhM)
        | refine block_k fun zB zbn zbx zbr zbi => ?_
        | (refine zbn _ ?_; clear zbn zbx zbr zbi)
        | (refine region_k fun zK zhK => ?_; simp only [go_sem, ordC_length, Int.toNat_one, Int.reduceTMod, F0, hcq, hql, F130]; (repeat' (first | apply And.intro | intro _)))
        | refine exit_k ?_
        | (refine zbx _ ?_; clear zbn zbx zbr zbi)
        | refine rounds_k (x := .seq (.region 30 _ _) _) 5 ?_
        | refine skip_k ?_
        | refine seq_k fun zN zM zhN zhM => ?_
        | (refine condF_k ?_ ?_; focus (first | rfl | (simp [go_sem, ordC_length, Int.toNat_one, Int.reduceTMod, F0, hcq, hql, F130]; done)))
        | (refine condT_k ?_ ?_; focus (first | rfl | (simp [go_sem, ordC_length, Int.toNat_one, Int.reduceTMod, F0, hcq, hql, F130]; done)))
       refine dr_k (id := 32) mixed fun zE zhE => ?_
       refine dr_piece_k (p := 0) 28 [110, 111, 112, 113, 114, 115, 116, 117, 118, 119, 120, 121, 122, 123, 124, 125, 126, 127, 128, 129, 130, 131, 132, 133, 134, 135, 136, 137] [0, 0, 0, 4, 12, 28, 0, 64, 192, 448, 0, 1024, 3072, 7168, 0, 16384, 49152, 114688, 245760, 507904, 1032192, 0, 2097152, 6291456, 14680064, 31457280, 65011712, 132120576, 268435455] [] rfl (by kernel_rfl) rfl (by simp only [go_sem]) fun zR zK zhR zhK => ?_
       simp only [go_sem, ordC_length, Int.toNat_one, Int.reduceTMod, F0, hcq, hql, F130]
       repeat' (first | apply And.intro | intro _)
       refine zhK _ _ trivial (zhR _ ?_)
       refine dr_runs_k 1 29 rfl (by kernel_rfl) rfl rfl fun zR zhR => ?_
       simp only [go_sem, ordC_length, Int.toNat_one, Int.reduceTMod, F0, hcq, hql, F130]
       repeat' (first | apply And.intro | intro _)
       all_goals (refine call_fn (caps := [8]) false [(500000, 8)] (fun k => k) ?_ ?_ (fun _ _ => rfl) ?_ (by decide) ?_ (mix_4 (mA x0 x4 x8 x12 y0 y1) (mA x1 x5 x9 x13 y2 y3) (mA x2 x6 x10 x14 y4 y5) (mA x3 x7 x11 x15 y6 y7) (mB x0 x4 x8 x12 y0 y1) (mB x1 x5 x9 x13 y2 y3) (mB x2 x6 x10 x14 y4 y5) (mB x3 x7 x11 x15 y6 y7) (mC x0 x4 x8 x12 y0 y1) (mC x1 x5 x9 x13 y2 y3) (mC x2 x6 x10 x14 y4 y5) (mC x3 x7 x11 x15 y6 y7) (mD x0 x4 x8 x12 y0 y1) (mD x1 x5 x9 x13 y2 y3) (mD x2 x6 x10 x14 y4 y5) (mD x3 x7 x11 x15 y6 y7) y8 y9) ?_; iterate 4 (focus (first | rfl | (simp only [go_sem, ordC_length, Int.toNat_one, Int.reduceTMod, F0, hcq, hql, F130] <;> first | done | rfl | simp))))
       all_goals (rintro v m ⟨hR, hm⟩; subst hR; subst hm)
       all_goals (refine And.intro ?_ (And.intro ?_ (And.intro ?_ ?_)); iterate 3 (focus (first | rfl | (simp only [go_sem, ordC_length, Int.toNat_one, Int.reduceTMod, F0, hcq, hql, F130]; done) | (simp [go_sem, look, ordC_length, Int.toNat_one, Int.reduceTMod, F0, hcq, hql, F130]; done))))
       all_goals (try simp only [go_sem, ordC_length, Int.toNat_one, Int.reduceTMod, F0, hcq, hql, F130])
       all_goals (try simp only [go_sem, ordC_length, Int.toNat_one, Int.reduceTMod, F0, hcq, hql, F130])
       all_goals repeat' (first | apply And.intro | intro _)
       refine zhR _ ?_
       refine dr_end rfl (zhE _ ?_)
       iterate 16 first
        | (refine rnd_forget (x := .seq (.region 30 _ _) _) [14, 108, 109, 110, 111, 112, 113, 114, 115, 116, 117, 118, 119, 120, 121, 122, 123, 124, 125, 126, 127, 128, 129, 130, 131, 132, 133, 134, 135, 136, 137, 138, 139] ?_; simp only [go_sem, St.forget, fgt]; refine rnd_k fun zN zM zhN zhM => ?_)
        | (refine zhN _ ?_; clear zhN zhM)
        | refine zhK _ ?_
        | (refine sr_k fun zK zhK => ?_; simp only [go_sem, ordC_length, Int.toNat_one, Int.reduceTMod, F0, hcq, hql, F130]; (repeat' (first | apply And.intro | intro _)))
        | (refine zbn _ ?_; clear zbn zbx zbr zbi)
        | (refine region_k fun zK zhK => ?_; simp only [go_sem, ordC_length, Int.toNat_one, Int.reduceTMod, F0, hcq, hql, F130]; (repeat' (first | apply And.intro | intro _)))
        | refine skip_k ?_
        | refine block_k fun zB zbn zbx zbr zbi => ?_
        | refine seq_k fun zN zM zhN zhM => ?_
        | (refine condT_k ?_ ?_; focus (first | rfl | (simp [go_sem, ordC_length, Int.toNat_one, Int.reduceTMod, F0, hcq, hql, F130]; done)))
       refine dr_k (id := 32) mixed fun zE zhE => ?_
       refine dr_piece_k (p := 0) 28 [110, 111, 112, 113, 114, 115, 116, 117, 118, 119, 120, 121, 122, 123, 124, 125, 126, 127, 128, 129, 130, 131, 132, 133, 134, 135, 136, 137] [0, 0, 0, 4, 12, 28, 0, 64, 192, 448, 0, 1024, 3072, 7168, 0, 16384, 49152, 114688, 245760, 507904, 1032192, 0, 2097152, 6291456, 14680064, 31457280, 65011712, 132120576, 268435455] [] rfl (by kernel_rfl) rfl (by simp only [go_sem]) fun zR zK zhR zhK => ?_
       simp only [go_sem, ordC_length, Int.toNat_one, Int.reduceTMod, F0, hcq, hql, F130]
       repeat' (first | apply And.intro | intro _)
       refine zhK _ _ trivial (zhR _ ?_)
       refine dr_runs_k 1 29 rfl (by kernel_rfl) rfl rfl fun zR zhR => ?_
       simp only [go_sem, ordC_length, Int.toNat_one, Int.reduceTMod, F0, hcq, hql, F130]
       repeat' (first | apply And.intro | intro _)
       all_goals (refine call_fn (caps := [8]) false [(500000, 8)] (fun k => k) ?_ ?_ (fun _ _ => rfl) ?_ (by decide) ?_ (mix_5 (mA (mA x0 x4 x8 x12 y0 y1) (mB x1 x5 x9 x13 y2 y3) (mC x2 x6 x10 x14 y4 y5) (mD x3 x7 x11 x15 y6 y7) y8 y9) (mA x1 x5 x9 x13 y2 y3) (mA x2 x6 x10 x14 y4 y5) (mA x3 x7 x11 x15 y6 y7) (mB x0 x4 x8 x12 y0 y1) (mB (mA x0 x4 x8 x12 y0 y1) (mB x1 x5 x9 x13 y2 y3) (mC x2 x6 x10 x14 y4 y5) (mD x3 x7 x11 x15 y6 y7) y8 y9) (mB x2 x6 x10 x14 y4 y5) (mB x3 x7 x11 x15 y6 y7) (mC x0 x4 x8 x12 y0 y1) (mC x1 x5 x9 x13 y2 y3) (mC (mA x0 x4 x8 x12 y0 y1) (mB x1 x5 x9 x13 y2 y3) (mC x2 x6 x10 x14 y4 y5) (mD x3 x7 x11 x15 y6 y7) y8 y9) (mC x3 x7 x11 x15 y6 y7) (mD x0 x4 x8 x12 y0 y1) (mD x1 x5 x9 x13 y2 y3) (mD x2 x6 x10 x14 y4 y5) (mD (mA x0 x4 x8 x12 y0 y1) (mB x1 x5 x9 x13 y2 y3) (mC x2 x6 x10 x14 y4 y5) (mD x3 x7 x11 x15 y6 y7) y8 y9) y10 y11) ?_; iterate 4 (focus (first | rfl | (simp only [go_sem, ordC_length, Int.toNat_one, Int.reduceTMod, F0, hcq, hql, F130] <;> first | done | rfl | simp))))
       all_goals (rintro v m ⟨hR, hm⟩; subst hR; subst hm)
       all_goals (refine And.intro ?_ (And.intro ?_ (And.intro ?_ ?_)); iterate 3 (focus (first | rfl | (simp only [go_sem, ordC_length, Int.toNat_one, Int.reduceTMod, F0, hcq, hql, F130]; done) | (simp [go_sem, look, ordC_length, Int.toNat_one, Int.reduceTMod, F0, hcq, hql, F130]; done))))
       all_goals (try simp only [go_sem, ordC_length, Int.toNat_one, Int.reduceTMod, F0, hcq, hql, F130])
       all_goals (try simp only [go_sem, ordC_length, Int.toNat_one, Int.reduceTMod, F0, hcq, hql, F130])
       all_goals repeat' (first | apply And.intro | intro _)
       refine zhR _ ?_
       refine dr_end rfl (zhE _ ?_)
       iterate 16 first
        | (refine rnd_forget (x := .seq (.region 30 _ _) _) [14, 108, 109, 110, 111, 112, 113, 114, 115, 116, 117, 118, 119, 120, 121, 122, 123, 124, 125, 126, 127, 128, 129, 130, 131, 132, 133, 134, 135, 136, 137, 138, 139] ?_; simp only [go_sem, St.forget, fgt]; refine rnd_k fun zN zM zhN zhM => ?_)
        | (refine zhN _ ?_; clear zhN zhM)
        | refine zhK _ ?_
        | (refine sr_k fun zK zhK => ?_; simp only [go_sem, ordC_length, Int.toNat_one, Int.reduceTMod, F0, hcq, hql, F130]; (repeat' (first | apply And.intro | intro _)))
        | (refine zbn _ ?_; clear zbn zbx zbr zbi)
        | (refine region_k fun zK zhK => ?_; simp only [go_sem, ordC_length, Int.toNat_one, Int.reduceTMod, F0, hcq, hql, F130]; (repeat' (first | apply And.intro | intro _)))
        | refine skip_k ?_
        | refine block_k fun zB zbn zbx zbr zbi => ?_
        | refine seq_k fun zN zM zhN zhM => ?_
        | (refine condT_k ?_ ?_; focus (first | rfl | (simp [go_sem, ordC_length, Int.toNat_one, Int.reduceTMod, F0, hcq, hql, F130]; done)))
       refine dr_k (id := 32) mixed fun zE zhE => ?_
       refine dr_piece_k (p := 0) 28 [110, 111, 112, 113, 114, 115, 116, 117, 118, 119, 120, 121, 122, 123, 124, 125, 126, 127, 128, 129, 130, 131, 132, 133, 134, 135, 136, 137] [0, 0, 0, 4, 12, 28, 0, 64, 192, 448, 0, 1024, 3072, 7168, 0, 16384, 49152, 114688, 245760, 507904, 1032192, 0, 2097152, 6291456, 14680064, 31457280, 65011712, 132120576, 268435455] [] rfl (by kernel_rfl) rfl (by simp only [go_sem]) fun zR zK zhR zhK => ?_
       simp only [go_sem, ordC_length, Int.toNat_one, Int.reduceTMod, F0, hcq, hql, F130]
       repeat' (first | apply And.intro | intro _)
       refine zhK _ _ trivial (zhR _ ?_)
       refine dr_runs_k 1 29 rfl (by kernel_rfl) rfl rfl fun zR zhR => ?_
       simp only [go_sem, ordC_length, Int.toNat_one, Int.reduceTMod, F0, hcq, hql, F130]
       repeat' (first | apply And.intro | intro _)
       all_goals (refine call_fn (caps := [8]) false [(500000, 8)] (fun k => k) ?_ ?_ (fun _ _ => rfl) ?_ (by decide) ?_ (mix_6 (mA (mA x0 x4 x8 x12 y0 y1) (mB x1 x5 x9 x13 y2 y3) (mC x2 x6 x10 x14 y4 y5) (mD x3 x7 x11 x15 y6 y7) y8 y9) (mA (mA x1 x5 x9 x13 y2 y3) (mB x2 x6 x10 x14 y4 y5) (mC x3 x7 x11 x15 y6 y7) (mD x0 x4 x8 x12 y0 y1) y10 y11) (mA x2 x6 x10 x14 y4 y5) (mA x3 x7 x11 x15 y6 y7) (mB x0 x4 x8 x12 y0 y1) (mB (mA x0 x4 x8 x12 y0 y1) (mB x1 x5 x9 x13 y2 y3) (mC x2 x6 x10 x14 y4 y5) (mD x3 x7 x11 x15 y6 y7) y8 y9) (mB (mA x1 x5 x9 x13 y2 y3) (mB x2 x6 x10 x14 y4 y5) (mC x3 x7 x11 x15 y6 y7) (mD x0 x4 x8 x12 y0 y1) y10 y11) (mB x3 x7 x11 x15 y6 y7) (mC x0 x4 x8 x12 y0 y1) (mC x1 x5 x9 x13 y2 y3) (mC (mA x0 x4 x8 x12 y0 y1) (mB x1 x5 x9 x13 y2 y3) (mC x2 x6 x10 x14 y4 y5) (mD x3 x7 x11 x15 y6 y7) y8 y9) (mC (mA x1 x5 x9 x13 y2 y3) (mB x2 x6 x10 x14 y4 y5) (mC x3 x7 x11 x15 y6 y7) (mD x0 x4 x8 x12 y0 y1) y10 y11) (mD (mA x1 x5 x9 x13 y2 y3) (mB x2 x6 x10 x14 y4 y5) (mC x3 x7 x11 x15 y6 y7) (mD x0 x4 x8 x12 y0 y1) y10 y11) (mD x1 x5 x9 x13 y2 y3) (mD x2 x6 x10 x14 y4 y5) (mD (mA x0 x4 x8 x12 y0 y1) (mB x1 x5 x9 x13 y2 y3) (mC x2 x6 x10 x14 y4 y5) (mD x3 x7 x11 x15 y6 y7) y8 y9) y12 y13) ?_; iterate 4 (focus (first | rfl | (simp only [go_sem, ordC_length, Int.toNat_one, Int.reduceTMod, F0, hcq, hql, F130] <;> first | done | rfl | simp))))
       all_goals (rintro v m ⟨hR, hm⟩; subst hR; subst hm)
       all_goals (refine And.intro ?_ (And.intro ?_ (And.intro ?_ ?_)); iterate 3 (focus (first | rfl | (simp only [go_sem, ordC_length, Int.toNat_one, Int.reduceTMod, F0, hcq, hql, F130]; done) | (simp [go_sem, look, ordC_length, Int.toNat_one, Int.reduceTMod, F0, hcq, hql, F130]; done))))
       all_goals (try simp only [go_sem, ordC_length, Int.toNat_one, Int.reduceTMod, F0, hcq, hql, F130])
       all_goals (try simp only [go_sem, ordC_length, Int.toNat_one, Int.reduceTMod, F0, hcq, hql, F130])
       all_goals repeat' (first | apply And.intro | intro _)
       refine zhR _ ?_
       refine dr_end rfl (zhE _ ?_)
       iterate 16 first
        | (refine rnd_forget (x := .seq (.region 30 _ _) _) [14, 108, 109, 110, 111, 112, 113, 114, 115, 116, 117, 118, 119, 120, 121, 122, 123, 124, 125, 126, 127, 128, 129, 130, 131, 132, 133, 134, 135, 136, 137, 138, 139] ?_; simp only [go_sem, St.forget, fgt]; refine rnd_k fun zN zM zhN zhM => ?_)
        | (refine zhN _ ?_; clear zhN zhM)
        | refine zhK _ ?_
        | (refine sr_k fun zK zhK => ?_; simp only [go_sem, ordC_length, Int.toNat_one, Int.reduceTMod, F0, hcq, hql, F130]; (repeat' (first | apply And.intro | intro _)))
        | (refine zbn _ ?_; clear zbn zbx zbr zbi)
        | (refine region_k fun zK zhK => ?_; simp only [go_sem, ordC_length, Int.toNat_one, Int.reduceTMod, F0, hcq, hql, F130]; (repeat' (first | apply And.intro | intro _)))
        | refine skip_k ?_
        | refine block_k fun zB zbn zbx zbr zbi => ?_
        | refine seq_k fun zN zM zhN zhM => ?_
        | (refine condT_k ?_ ?_; focus (first | rfl | (simp [go_sem, ordC_length, Int.toNat_one, Int.reduceTMod, F0, hcq, hql, F130]; done)))
       refine dr_k (id := 32) mixed fun zE zhE => ?_
       refine dr_piece_k (p := 0) 28 [110, 111, 112, 113, 114, 115, 116, 117, 118, 119, 120, 121, 122, 123, 124, 125, 126, 127, 128, 129, 130, 131, 132, 133, 134, 135, 136, 137] [0, 0, 0, 4, 12, 28, 0, 64, 192, 448, 0, 1024, 3072, 7168, 0, 16384, 49152, 114688, 245760, 507904, 1032192, 0, 2097152, 6291456, 14680064, 31457280, 65011712, 132120576, 268435455] [] rfl (by kernel_rfl) rfl (by simp only [go_sem]) fun zR zK zhR zhK => ?_
       simp only [go_sem, ordC_length, Int.toNat_one, Int.reduceTMod, F0, hcq, hql, F130]
       repeat' (first | apply And.intro | intro _)
       refine zhK _ _ trivial (zhR _ ?_)
       refine dr_runs_k 1 29 rfl (by kernel_rfl) rfl rfl fun zR zhR => ?_
       simp only [go_sem, ordC_length, Int.toNat_one, Int.reduceTMod, F0, hcq, hql, F130]
       repeat' (first | apply And.intro | intro _)
       all_goals (refine call_fn (caps := [8]) false [(500000, 8)] (fun k => k) ?_ ?_ (fun _ _ => rfl) ?_ (by decide) ?_ (mix_7 (mA (mA x0 x4 x8 x12 y0 y1) (mB x1 x5 x9 x13 y2 y3) (mC x2 x6 x10 x14 y4 y5) (mD x3 x7 x11 x15 y6 y7) y8 y9) (mA (mA x1 x5 x9 x13 y2 y3) (mB x2 x6 x10 x14 y4 y5) (mC x3 x7 x11 x15 y6 y7) (mD x0 x4 x8 x12 y0 y1) y10 y11) (mA (mA x2 x6 x10 x14 y4 y5) (mB x3 x7 x11 x15 y6 y7) (mC x0 x4 x8 x12 y0 y1) (mD x1 x5 x9 x13 y2 y3) y12 y13) (mA x3 x7 x11 x15 y6 y7) (mB x0 x4 x8 x12 y0 y1) (mB (mA x0 x4 x8 x12 y0 y1) (mB x1 x5 x9 x13 y2 y3) (mC x2 x6 x10 x14 y4 y5) (mD x3 x7 x11 x15 y6 y7) y8 y9) (mB (mA x1 x5 x9 x13 y2 y3) (mB x2 x6 x10 x14 y4 y5) (mC x3 x7 x11 x15 y6 y7) (mD x0 x4 x8 x12 y0 y1) y10 y11) (mB (mA x2 x6 x10 x14 y4 y5) (mB x3 x7 x11 x15 y6 y7) (mC x0 x4 x8 x12 y0 y1) (mD x1 x5 x9 x13 y2 y3) y12 y13) (mC (mA x2 x6 x10 x14 y4 y5) (mB x3 x7 x11 x15 y6 y7) (mC x0 x4 x8 x12 y0 y1) (mD x1 x5 x9 x13 y2 y3) y12 y13) (mC x1 x5 x9 x13 y2 y3) (mC (mA x0 x4 x8 x12 y0 y1) (mB x1 x5 x9 x13 y2 y3) (mC x2 x6 x10 x14 y4 y5) (mD x3 x7 x11 x15 y6 y7) y8 y9) (mC (mA x1 x5 x9 x13 y2 y3) (mB x2 x6 x10 x14 y4 y5) (mC x3 x7 x11 x15 y6 y7) (mD x0 x4 x8 x12 y0 y1) y10 y11) (mD (mA x1 x5 x9 x13 y2 y3) (mB x2 x6 x10 x14 y4 y5) (mC x3 x7 x11 x15 y6 y7) (mD x0 x4 x8 x12 y0 y1) y10 y11) (mD (mA x2 x6 x10 x14 y4 y5) (mB x3 x7 x11 x15 y6 y7) (mC x0 x4 x8 x12 y0 y1) (mD x1 x5 x9 x13 y2 y3) y12 y13) (mD x2 x6 x10 x14 y4 y5) (mD (mA x0 x4 x8 x12 y0 y1) (mB x1 x5 x9 x13 y2 y3) (mC x2 x6 x10 x14 y4 y5) (mD x3 x7 x11 x15 y6 y7) y8 y9) y14 y15) ?_; iterate 4 (focus (first | rfl | (simp only [go_sem, ordC_length, Int.toNat_one, Int.reduceTMod, F0, hcq, hql, F130] <;> first | done | rfl | simp))))
       all_goals (rintro v m ⟨hR, hm⟩; subst hR; subst hm)
       all_goals (refine And.intro ?_ (And.intro ?_ (And.intro ?_ ?_)); iterate 3 (focus (first | rfl | (simp only [go_sem, ordC_length, Int.toNat_one, Int.reduceTMod, F0, hcq, hql, F130]; done) | (simp [go_sem, look, ordC_length, Int.toNat_one, Int.reduceTMod, F0, hcq, hql, F130]; done))))
       all_goals (try simp only [go_sem, ordC_length, Int.toNat_one, Int.reduceTMod, F0, hcq, hql, F130])
       all_goals (try simp only [go_sem, ordC_length, Int.toNat_one, Int.reduceTMod, F0, hcq, hql, F130])
       all_goals repeat' (first | apply And.intro | intro _)
       refine zhR _ ?_
       refine dr_end rfl (zhE _ ?_)
       iterate 18 first
        | (refine rnd_forget (x := .seq (.region 30 _ _) _) [14, 108, 109, 110, 111, 112, 113, 114, 115, 116, 117, 118, 119, 120, 121, 122, 123, 124, 125, 126, 127, 128, 129, 130, 131, 132, 133, 134, 135, 136, 137, 138, 139] ?_; simp only [go_sem, St.forget, fgt]; refine rnd_k fun zN zM zhN zhM => ?_)
        | (refine zhN _ ?_; clear zhN zhM)
        | refine zhK _ ?_
        | (refine zbn _ ?_; clear zbn zbx zbr zbi)
        | (refine region_k fun zK zhK => ?_; simp only [go_sem, ordC_length, Int.toNat_one, Int.reduceTMod, F0, hcq, hql, F130]; (repeat' (first | apply And.intro | intro _)))
        | (refine zhM _ _ ?_; clear zhN zhM)
        | (refine sr_k fun zK zhK => ?_; simp only [go_sem, ordC_length, Int.toNat_one, Int.reduceTMod, F0, hcq, hql, F130]; (repeat' (first | apply And.intro | intro _)))
        | refine exit_k ?_
        | (refine zbx _ ?_; clear zbn zbx zbr zbi)
        | refine seq_k fun zN zM zhN zhM => ?_
        | (refine condF_k ?_ ?_; focus (first | rfl | (simp [go_sem, ordC_length, Int.toNat_one, Int.reduceTMod, F0, hcq, hql, F130]; done)))
       refine zhN ⟨k + 1, hlt⟩ _ ?_ ?_ ?_
       · (exact Nat.sub_lt_sub_left hlt (Nat.lt_succ_self k))
       · (simp only [go_sem, leX, List.cons_append, List.nil_append]; try simp)
       · (simp only [roundB, hw, go_sem, leX, List.cons_append, List.nil_append]; first | done | rfl | (simp only [W16.ls, W16.col, W16.diag, hm0, hm1, hm2, hm3, hm4, hm5, hm6, hm7, hm8, hm9, hm10, hm11, hm12, hm13, hm14, hm15]; (try simp [leX, look]); done))
     · obtain rfl : k = 10 := by omega
       have hcq : ¬ ((10 : Nat) : Int) < 10 := by omega
       obtain ⟨w, hw⟩ : ∃ w, roundB held 10 Wi = w := ⟨_, rfl⟩
       have hsk : soakB ⟨h0, h1, h2, h3, h4, h5, h6, h7⟩ held len last = outW ⟨h0, h1, h2, h3, h4, h5, h6, h7⟩ w := by rw [soakB, hW, hw]
       simp only [hw]
       obtain ⟨x0, x1, x2, x3, x4, x5, x6, x7, x8, x9, x10, x11, x12, x13, x14, x15⟩ := w
       simp only [W16.ls]
       iterate 174 first
        | (refine rnd_forget (x := .seq (.region 37 _ _) _) [16, 144, 145, 146, 147, 148, 149, 150, 151, 152, 153, 154, 155, 156, 157, 158, 159] ?_; simp only [go_sem, St.forget, fgt]; refine rnd_k fun zN zM zhN zhM => ?_)
        | refine rnd_k fun zN zM zhN zhM => ?_
        | refine zhK _ ?_
        | (refine zhN _ ?_; clear zhN zhM)
        | (refine sr_k fun zK zhK => ?_; simp only [go_sem, ordC_length, Int.toNat_one, Int.reduceTMod, F0, hcq, hql]; (repeat' (first | apply And.intro | intro _)))
        | refine block_k fun zB zbn zbx zbr zbi => ?_
        | refine skip_k ?_
        | (refine draw_k (id := 39) [146, 147, 148, 149, 150, 151, 152, 153, 154, 155, 156, 157, 158] [0, 1, 3, 0, 8, 24, 0, 64, 192, 448, 1016, 2047, 4095, 8191] [] mixed (by kernel_rfl) (by simp only [go_sem]) fun zK zhK => ?_; simp only [go_sem, ordC_length, Int.toNat_one, Int.reduceTMod, F0, hcq, hql]; (repeat' (first | apply And.intro | intro _)))
        | refine zhK _ _ trivial ?_
        | (refine zbn _ ?_; clear zbn zbx zbr zbi)
        | (refine region_k fun zK zhK => ?_; simp only [go_sem, ordC_length, Int.toNat_one, Int.reduceTMod, F0, hcq, hql]; (repeat' (first | apply And.intro | intro _)))
        | (refine zhM _ _ ?_; clear zhN zhM)
        | refine exit_k ?_
        | (refine zbx _ ?_; clear zbn zbx zbr zbi)
        | refine rounds_k (x := .seq (.region 37 _ _) _) 9 ?_
        | refine ret_k ?_
        | (refine zhZ _ _ ?_; simp only [go_sem, ordC_length, Int.toNat_one, Int.reduceTMod, F0, hcq, hql]; (all_goals (exact told_plain rfl ⟨by rw [hsk]; rfl, rfl⟩)))
        | refine seq_k fun zN zM zhN zhM => ?_
        | (refine condT_k ?_ ?_; focus (first | rfl | (simp [go_sem, ordC_length, Int.toNat_one, Int.reduceTMod, F0, hcq, hql]; done)))
        | (refine condF_k ?_ ?_; focus (first | rfl | (simp [go_sem, ordC_length, Int.toNat_one, Int.reduceTMod, F0, hcq, hql]; done)))
end Bk
end Go.Sy
