/- Walks: three words by two, below the prime. -/
import Derived.Test.YthcpkdhojokhdaaveE9
set_option linter.unusedVariables false
set_option linter.unusedSimpArgs false
namespace Go.Sy
open Go.Proofs
attribute [local irreducible] atCall HT runOps runD onC onE onO onG goV goA goS onSt onGuard
theorem st_L (x y w k : UInt64) : adS (adS (x * y) w 0) k 0 = stL x y w k := rfl
theorem st_K (x y w k : UInt64) : mulH x y + adC (x * y) w 0 + adC (adS (x * y) w 0) k 0 = stK x y w k := rfl
def lowN (a : T3) (r0 r1 : UInt64) : Nat → T3
 | 0 => lowT a r0 r1
 | k + 1 => (lowN a r0 r1 k).plus (highT a r0 r1)
theorem lowN5 (a : T3) (r0 r1 : UInt64) : lowN a r0 r1 5 = low5 a r0 r1 := rfl
def cutN (t : T3) : Nat → T3
 | 0 => t
 | _ + 1 => cut3 t
set_option maxHeartbeats 3200000 in
set_option maxRecDepth 100000 in
theorem times_ (a : T3) (r0 r1 : UInt64) (ha : a.val < 2722258935367507707706996859454145691648) (hr : r1.toNat < 1152921504606846976) :
 Ct Try.prog 61 [.w (.agg (W3 a.a a.b a.c)), .w (.agg [.pl (.u64 r0), .pl (.u64 r1)])] (fun v m => v = .w (.agg (W3 (timesT a r0 r1).a (timesT a r0 r1).b (timesT a r0 r1).c))) := by
 have f0 : stK a.a r0 0 0 = k00 a r0 r1 := rfl
 have f1 : stL a.a r0 0 0 = q0 a r0 r1 := rfl
 have f2 : stK a.a r1 0 (k00 a r0 r1) = k01 a r0 r1 := rfl
 have f3 : stL a.a r1 0 (k00 a r0 r1) = w01 a r0 r1 := rfl
 have f4 : stL a.b r0 (w01 a r0 r1) 0 = q1 a r0 r1 := rfl
 have f5 : stK a.b r0 (w01 a r0 r1) 0 = k10 a r0 r1 := rfl
 have f6 : stL a.b r1 (k01 a r0 r1) (k10 a r0 r1) = w12 a r0 r1 := rfl
 have f7 : stK a.b r1 (k01 a r0 r1) (k10 a r0 r1) = k11 a r0 r1 := rfl
 have f8 : stL a.c r0 (w12 a r0 r1) 0 = q2 a r0 r1 := rfl
 have f9 : stK a.c r0 (w12 a r0 r1) 0 = k20 a r0 r1 := rfl
 have f10 : stL a.c r1 (k11 a r0 r1) (k20 a r0 r1) = q3 a r0 r1 := rfl
 have f11 : stK a.c r1 (k11 a r0 r1) (k20 a r0 r1) = q4 a r0 r1 := rfl
 have F0 := And.intro f0 <| And.intro f1 <| And.intro f2 <| And.intro f3 <| And.intro f4 <| And.intro f5 <| And.intro f6 <| And.intro f7 <| And.intro f8 <| And.intro f9 <| And.intro f10 <| f11
 refine Ct.k Try.func61 rfl Try.ntmps61 (congrArg Array.toList Try.results61) (by simp) fun w0 ro => ?_
 refine top_k fun zZ zhZ => ?_
 iterate 306 first
  | (refine rnd_forget (x := .seq (.region 7 _ _) _) [9, 10, 11, 12, 13, 25, 26, 27, 28, 29, 30, 31, 32, 33, 34, 35, 36, 37, 38, 39, 40, 41, 42, 43, 44, 45, 46, 47, 48, 49, 50, 51, 52, 53, 54, 55, 56, 57, 58, 59, 60, 61] ?_; simp only [go_sem, St.forget, fgt]; refine rnd_k fun zN zM zhN zhM => ?_)
  | (refine rnd_forget (x := .seq (.region 3 _ _) _) [6, 7, 8, 9, 10, 11, 12, 13, 20, 21, 22, 23, 24, 25, 26, 27, 28, 29, 30, 31, 32, 33, 34, 35, 36, 37, 38, 39, 40, 41, 42, 43, 44, 45, 46, 47, 48, 49, 50, 51, 52, 53, 54, 55, 56, 57, 58, 59, 60, 61, 62, 63, 64, 65, 66] ?_; simp only [go_sem, St.forget, fgt]; refine rnd_k fun zN zM zhN zhM => ?_)
  | refine zhK _ ?_
  | (refine sr_k fun zK zhK => ?_; simp only [go_sem, st_L, st_K, W3, Int.toNat_one, F0]; (repeat' (first | apply And.intro | intro _)))
  | (refine zhN _ ?_; clear zhN zhM)
  | (refine region_k fun zK zhK => ?_; simp only [go_sem, st_L, st_K, W3, Int.toNat_one, F0]; (repeat' (first | apply And.intro | intro _)))
  | refine block_k fun zB zbn zbx zbr zbi => ?_
  | refine skip_k ?_
  | (refine zbn _ ?_; clear zbn zbx zbr zbi)
  | (refine zhM _ _ ?_; clear zhN zhM)
  | refine rnd_k fun zN zM zhN zhM => ?_
  | refine exit_k ?_
  | (refine zbx _ ?_; clear zbn zbx zbr zbi)
  | refine rounds_k (x := .seq (.region 7 _ _) _) 3 ?_
  | refine rounds_k (x := .seq (.region 3 _ _) _) 4 ?_
  | ((all_goals refine call_now (by first | rfl | (simp only [go_sem, st_L, st_K, W3, Int.toNat_one, F0] <;> rfl)) (now_add64 _ _ _ (by first | decide | exact (ad_val _ _ (by decide)).2 | exact (ad_val _ _ ((ad_val _ _ (by decide)).2)).2)) ?_); (all_goals simp only [go_sem, st_L, st_K, W3, Int.toNat_one, F0]); (all_goals repeat' (first | apply And.intro | intro _)))
  | ((all_goals refine call_view (fun k => k) (fun _ _ => rfl) (by first | rfl | (simp only [go_sem, st_L, st_K, W3, Int.toNat_one, F0] <;> rfl)) ((mul64 _ _).plain fun _ _ h => h) ?_); (all_goals (rintro v m ⟨hR, hm⟩; subst hR; subst hm)); (all_goals refine And.intro (by first | rfl | simp only [go_sem, st_L, st_K, W3, Int.toNat_one, F0]) (And.intro (by first | rfl | simp only [go_sem, st_L, st_K, W3, Int.toNat_one, F0]) ?_)); (all_goals simp only [go_sem, st_L, st_K, W3, Int.toNat_one, F0]); (all_goals repeat' (first | apply And.intro | intro _)))
  | refine seq_k fun zN zM zhN zhM => ?_
  | (refine condT_k ?_ ?_; focus (first | rfl | (simp [go_sem, st_L, st_K, W3, Int.toNat_one, F0]; done)))
  | (refine condF_k ?_ ?_; focus (first | rfl | (simp [go_sem, st_L, st_K, W3, Int.toNat_one, F0]; done)))
 refine ht_dropE [0, 1, 2, 3, 5, 6, 7, 8, 9, 10, 11, 12, 13, 18, 19, 20, 21, 22, 23, 24, 25, 26, 27, 28, 29, 30, 31, 32, 33, 34, 35, 36, 37, 38, 39, 40, 41, 42, 43, 44, 45, 46, 47, 48, 49, 50, 51, 52, 53, 54, 55, 56, 57, 58, 59, 60, 61, 62, 63, 64, 65, 66, 67, 68, 69, 70, 71, 72, 73, 74, 75, 76, 77, 78, 79, 80, 81, 82, 83, 84, 85, 86, 87, 88, 89, 90, 91, 92] ?_
 simp only [dropE_mk, fgt_nil, fgt_cons, List.contains_cons, List.contains_nil, Nat.reduceBEq, beq_self_eq_true, Bool.or_false, Bool.or_true, Bool.true_or, Bool.false_or, Bool.false_eq_true, reduceIte]
 refine loop_k (fun y => [(93, .w (.one (.pl (.i ((y.1 : Nat) : Int)))))]) (fun y => [(14, ⟨false, (lowN a r0 r1 y.1).ls⟩)]) (fun y => 5 - y.1) (⟨0, by omega⟩ : {y : Nat // y ≤ 5}) ?_ ?_ ?_
 · (simp only [go_sem, leX, List.cons_append, List.nil_append]; try simp)
 · (simp only [lowN, lowT, T3.ls, W3, go_sem, leX, List.cons_append, List.nil_append]; try simp [lowN, lowT, T3.ls, W3, leX, look])
 intro yy zN zM zhN zhM
 simp only [List.cons_append, List.nil_append]
 obtain ⟨y, hy⟩ := yy
 rcases Nat.lt_or_ge y 5 with hlt | hge
 · obtain ⟨q, hq⟩ : ∃ q, lowN a r0 r1 y = q := ⟨_, rfl⟩
   obtain ⟨qa, qb, qc⟩ := q
   have hcq : ((y : Nat) : Int) < 5 := by omega
   have hs1 : Go.RowKit.wrap64 (((y : Nat) : Int) + 1) = ((y + 1 : Nat) : Int) := wnat (by omega) (by omega)
   simp only [hq, T3.ls, W3]
   refine sr_k fun zK zhK => ?_
   simp only [go_sem, st_L, st_K, W3, Int.toNat_one, F0, hcq, hs1]
   repeat' (first | apply And.intro | intro _)
   refine zhK _ ?_
   refine seq_k fun zN zM zhN zhM => ?_
   (refine condT_k ?_ ?_; focus (first | rfl | (simp [go_sem, st_L, st_K, W3, Int.toNat_one, F0, hcq, hs1]; done)))
   refine skip_k ?_
   refine zhN _ ?_; clear zhN zhM
   refine seq_k fun zN zM zhN zhM => ?_
   refine block_k fun zB zbn zbx zbr zbi => ?_
   refine region_k fun zK zhK => ?_
   simp only [go_sem, st_L, st_K, W3, Int.toNat_one, F0, hcq, hs1]
   repeat' (first | apply And.intro | intro _)
   all_goals refine call_view (fun k => k) (fun _ _ => rfl) (by first | rfl | (simp only [go_sem, st_L, st_K, W3, Int.toNat_one, F0, hcq, hs1] <;> rfl)) ((plus_ ⟨_, _, _⟩ ⟨_, _, _⟩).plain fun _ _ h => h) ?_
   all_goals (rintro v m ⟨hR, hm⟩; subst hR; subst hm)
   all_goals refine And.intro (by first | rfl | simp only [go_sem, st_L, st_K, W3, Int.toNat_one, F0, hcq, hs1]) (And.intro (by first | rfl | simp only [go_sem, st_L, st_K, W3, Int.toNat_one, F0, hcq, hs1]) ?_)
   all_goals simp only [go_sem, st_L, st_K, W3, Int.toNat_one, F0, hcq, hs1]
   all_goals repeat' (first | apply And.intro | intro _)
   refine zhK _ ?_
   refine zbn _ ?_; clear zbn zbx zbr zbi
   refine zhN _ ?_; clear zhN zhM
   refine region_k fun zK zhK => ?_
   simp only [go_sem, st_L, st_K, W3, Int.toNat_one, F0, hcq, hs1]
   repeat' (first | apply And.intro | intro _)
   refine zhK _ ?_
   refine zhN ⟨y + 1, by omega⟩ _ ?_ ?_ ?_
   · (show 5 - (y + 1) < 5 - y; clear hs1; omega)
   · (simp only [go_sem, leX, List.cons_append, List.nil_append]; try simp)
   · (simp only [lowN, hq, T3.ls, W3, go_sem, leX, List.cons_append, List.nil_append]; first | done | (simp [lowN, hq, highT, T3.ls, W3, leX, look]; done) | (simp [lowN, hq, highT, T3.ls, W3, leX, look]; exact ⟨rfl, rfl, rfl⟩))
 · obtain rfl : y = 5 := by omega
   have hl5 := lowN5 a r0 r1
   have hb5 := (low5_val a r0 r1 ha hr).2
   obtain ⟨q, hq⟩ : ∃ q, lowN a r0 r1 5 = q := ⟨_, rfl⟩
   obtain ⟨qa, qb, qc⟩ := q
   rw [hq] at hl5
   rw [← hl5] at hb5
   have hl5 := hl5.symm
   have hcut : 3 < qc → ¬ 3 < (cut3 ⟨qa, qb, qc⟩).c.toNat := fun h => (cut_val hb5 (three_lt.mp h)).2
   have hcq : ¬ ((5 : Nat) : Int) < 5 := by omega
   simp only [hq, T3.ls, W3]
   refine sr_k fun zK zhK => ?_
   simp only [go_sem, st_L, st_K, W3, Int.toNat_one, F0, hcq]
   repeat' (first | apply And.intro | intro _)
   refine zhK _ ?_
   refine seq_k fun zN zM zhN zhM => ?_
   (refine condF_k ?_ ?_; focus (first | rfl | (simp [go_sem, st_L, st_K, W3, Int.toNat_one, F0, hcq]; done)))
   refine exit_k ?_
   refine zhM _ _ ?_; clear zhN zhM
   refine zhM _ _ ?_; clear zhN zhM
   refine zbx _ ?_; clear zbn zbx zbr zbi
   refine zhN _ ?_; clear zhN zhM
   refine seq_k fun zN zM zhN zhM => ?_
   refine block_k fun zB zbn zbx zbr zbi => ?_
   refine ht_dropE [0, 1, 2, 3, 5, 6, 7, 8, 9, 10, 11, 12, 13, 15, 18, 19, 20, 21, 22, 23, 24, 25, 26, 27, 28, 29, 30, 31, 32, 33, 34, 35, 36, 37, 38, 39, 40, 41, 42, 43, 44, 45, 46, 47, 48, 49, 50, 51, 52, 53, 54, 55, 56, 57, 58, 59, 60, 61, 62, 63, 64, 65, 66, 67, 68, 69, 70, 71, 72, 73, 74, 75, 76, 77, 78, 79, 80, 81, 82, 83, 84, 85, 86, 87, 88, 89, 90, 91, 92, 93, 94, 95, 96, 97, 98] ?_
   simp only [dropE_mk, fgt_nil, fgt_cons, List.contains_cons, List.contains_nil, Nat.reduceBEq, beq_self_eq_true, Bool.or_false, Bool.or_true, Bool.true_or, Bool.false_or, Bool.false_eq_true, reduceIte]
   refine loop_k (fun y => []) (fun y => [(14, ⟨false, (cutN ⟨qa, qb, qc⟩ y.1).ls⟩)]) (fun y => 1 - y.1) (⟨0, by omega, fun h => by cases h⟩ : {y : Nat // y ≤ 1 ∧ (y = 1 → 3 < qc)}) ?_ ?_ ?_
   · (simp only [go_sem, leX, List.cons_append, List.nil_append]; try simp)
   · (simp only [cutN, T3.ls, W3, go_sem, leX, List.cons_append, List.nil_append]; try simp [cutN, T3.ls, W3, leX, look])
   intro yy zN zM zhN zhM
   simp only [List.cons_append, List.nil_append]
   obtain ⟨y, hy, hy2⟩ := yy
   have hd : (y = 0 ∧ 3 < qc) ∨ (y = 0 ∧ ¬ 3 < qc ∧ ¬ 3 < (cutN ⟨qa, qb, qc⟩ 0).c ∧ 3 < (up3 (cutN ⟨qa, qb, qc⟩ 0)).c) ∨ (y = 0 ∧ ¬ 3 < qc ∧ ¬ 3 < (cutN ⟨qa, qb, qc⟩ 0).c ∧ ¬ 3 < (up3 (cutN ⟨qa, qb, qc⟩ 0)).c) ∨ (y = 1 ∧ 3 < qc ∧ ¬ 3 < (cutN ⟨qa, qb, qc⟩ 1).c ∧ 3 < (up3 (cutN ⟨qa, qb, qc⟩ 1)).c) ∨ (y = 1 ∧ 3 < qc ∧ ¬ 3 < (cutN ⟨qa, qb, qc⟩ 1).c ∧ ¬ 3 < (up3 (cutN ⟨qa, qb, qc⟩ 1)).c) := by
    rcases Nat.lt_or_ge y 1 with h | h
    · have hy0 : y = 0 := by omega
      by_cases h3 : 3 < qc
      · exact .inl ⟨hy0, h3⟩
      · by_cases h4 : 3 < (up3 (cutN ⟨qa, qb, qc⟩ 0)).c
        · exact .inr (.inl ⟨hy0, h3, h3, h4⟩)
        · exact .inr (.inr (.inl ⟨hy0, h3, h3, h4⟩))
    · have hy1 : y = 1 := by omega
      have h3 := hy2 hy1
      have h5 : ¬ 3 < (cutN ⟨qa, qb, qc⟩ 1).c := fun h => hcut h3 (three_lt.mp h)
      by_cases h4 : 3 < (up3 (cutN ⟨qa, qb, qc⟩ 1)).c
      · exact .inr (.inr (.inr (.inl ⟨hy1, h3, h5, h4⟩)))
      · exact .inr (.inr (.inr (.inr ⟨hy1, h3, h5, h4⟩)))
   rcases hd with ⟨rfl, hc3⟩ | ⟨rfl, hc3, hcq, hup⟩ | ⟨rfl, hc3, hcq, hup⟩ | ⟨rfl, hc3, hcq, hup⟩ | ⟨rfl, hc3, hcq, hup⟩
   · simp only [cutN, hq, T3.ls, W3]
     have hcq := hc3
     iterate 15 first
      | refine zhK _ ?_
      | (refine sr_k fun zK zhK => ?_; simp only [go_sem, st_L, st_K, W3, Int.toNat_one, F0, hcq]; (repeat' (first | apply And.intro | intro _)))
      | refine skip_k ?_
      | (refine zhN _ ?_; clear zhN zhM)
      | refine block_k fun zB zbn zbx zbr zbi => ?_
      | (refine region_k fun zK zhK => ?_; simp only [go_sem, st_L, st_K, W3, Int.toNat_one, F0, hcq]; (repeat' (first | apply And.intro | intro _)))
      | (refine zbn _ ?_; clear zbn zbx zbr zbi)
      | ((all_goals refine call_view (fun k => k) (fun _ _ => rfl) (by first | rfl | (simp only [go_sem, st_L, st_K, W3, Int.toNat_one, F0, hcq] <;> rfl)) ((plus_ ⟨_, _, _⟩ ⟨_, _, _⟩).plain fun _ _ h => h) ?_); (all_goals (rintro v m ⟨hR, hm⟩; subst hR; subst hm)); (all_goals refine And.intro (by first | rfl | simp only [go_sem, st_L, st_K, W3, Int.toNat_one, F0, hcq]) (And.intro (by first | rfl | simp only [go_sem, st_L, st_K, W3, Int.toNat_one, F0, hcq]) ?_)); (all_goals simp only [go_sem, st_L, st_K, W3, Int.toNat_one, F0, hcq]); (all_goals repeat' (first | apply And.intro | intro _)))
      | refine seq_k fun zN zM zhN zhM => ?_
      | (refine condT_k ?_ ?_; focus (first | rfl | (simp [go_sem, st_L, st_K, W3, Int.toNat_one, F0, hcq]; done)))
     refine zhN ⟨1, by omega, fun _ => hc3⟩ _ ?_ ?_ ?_
     · (show 1 - 1 < 1 - 0; omega)
     · (simp only [go_sem, leX, List.cons_append, List.nil_append]; try simp)
     · (simp only [cutN, hq, T3.ls, W3, go_sem, leX, List.cons_append, List.nil_append]; first | done | (simp [cutN, cut3, hq, T3.ls, W3, leX, look]; done) | (simp [cutN, cut3, hq, T3.ls, W3, leX, look]; exact ⟨rfl, rfl, rfl⟩))
   · obtain ⟨⟨xa, xb, xc⟩, hx⟩ : ∃ x, cutN ⟨qa, qb, qc⟩ 0 = x := ⟨_, rfl⟩
     rw [hx] at hcq hup
     simp only [hx, T3.ls, W3]
     rw [up3] at hup
     simp only at hcq hup
     have hres : timesT a r0 r1 = fin3 ⟨xa, xb, xc⟩ := by rw [← hx, timesT, hl5, red3]; exact congrArg fin3 (if_neg hc3)
     rw [fin3, up3, if_pos hup] at hres

     iterate 23 first
      | (refine sr_k fun zK zhK => ?_; simp only [go_sem, st_L, st_K, W3, Int.toNat_one, F0, hcq, hup]; (repeat' (first | apply And.intro | intro _)))
      | refine zhK _ ?_
      | (refine zhM _ _ ?_; clear zhN zhM)
      | refine exit_k ?_
      | (refine zbx _ ?_; clear zbn zbx zbr zbi)
      | (refine zhN _ ?_; clear zhN zhM)
      | refine ret_k ?_
      | (refine zhZ _ _ ?_; simp only [go_sem, st_L, st_K, W3, Int.toNat_one, F0, hcq, hup]; (all_goals (first | (rw [hres]; done) | (rw [hres]; simp only [W3]; done))))
      | ((all_goals refine call_view (fun k => k) (fun _ _ => rfl) (by first | rfl | (simp only [go_sem, st_L, st_K, W3, Int.toNat_one, F0, hcq, hup] <;> rfl)) ((plus_ ⟨_, _, _⟩ ⟨_, _, _⟩).plain fun _ _ h => h) ?_); (all_goals (rintro v m ⟨hR, hm⟩; subst hR; subst hm)); (all_goals refine And.intro (by first | rfl | simp only [go_sem, st_L, st_K, W3, Int.toNat_one, F0, hcq, hup]) (And.intro (by first | rfl | simp only [go_sem, st_L, st_K, W3, Int.toNat_one, F0, hcq, hup]) ?_)); (all_goals simp only [go_sem, st_L, st_K, W3, Int.toNat_one, F0, hcq, hup]); (all_goals repeat' (first | apply And.intro | intro _)))
      | refine seq_k fun zN zM zhN zhM => ?_
      | (refine condF_k ?_ ?_; focus (first | rfl | (simp [go_sem, st_L, st_K, W3, Int.toNat_one, F0, hcq, hup]; done)))
      | (refine condT_k ?_ ?_; focus (first | rfl | (simp [go_sem, st_L, st_K, W3, Int.toNat_one, F0, hcq, hup]; done)))
   · obtain ⟨⟨xa, xb, xc⟩, hx⟩ : ∃ x, cutN ⟨qa, qb, qc⟩ 0 = x := ⟨_, rfl⟩
     rw [hx] at hcq hup
     simp only [hx, T3.ls, W3]
     rw [up3] at hup
     simp only at hcq hup
     have hres : timesT a r0 r1 = fin3 ⟨xa, xb, xc⟩ := by rw [← hx, timesT, hl5, red3]; exact congrArg fin3 (if_neg hc3)
     rw [fin3, up3, if_neg hup] at hres

     iterate 22 first
      | (refine sr_k fun zK zhK => ?_; simp only [go_sem, st_L, st_K, W3, Int.toNat_one, F0, hcq, hup]; (repeat' (first | apply And.intro | intro _)))
      | refine zhK _ ?_
      | (refine zhM _ _ ?_; clear zhN zhM)
      | (refine zhN _ ?_; clear zhN zhM)
      | refine exit_k ?_
      | (refine zbx _ ?_; clear zbn zbx zbr zbi)
      | refine skip_k ?_
      | refine ret_k ?_
      | (refine zhZ _ _ ?_; simp only [go_sem, st_L, st_K, W3, Int.toNat_one, F0, hcq, hup]; (all_goals (first | (rw [hres]; done) | (rw [hres]; simp only [W3]; done))))
      | ((all_goals refine call_view (fun k => k) (fun _ _ => rfl) (by first | rfl | (simp only [go_sem, st_L, st_K, W3, Int.toNat_one, F0, hcq, hup] <;> rfl)) ((plus_ ⟨_, _, _⟩ ⟨_, _, _⟩).plain fun _ _ h => h) ?_); (all_goals (rintro v m ⟨hR, hm⟩; subst hR; subst hm)); (all_goals refine And.intro (by first | rfl | simp only [go_sem, st_L, st_K, W3, Int.toNat_one, F0, hcq, hup]) (And.intro (by first | rfl | simp only [go_sem, st_L, st_K, W3, Int.toNat_one, F0, hcq, hup]) ?_)); (all_goals simp only [go_sem, st_L, st_K, W3, Int.toNat_one, F0, hcq, hup]); (all_goals repeat' (first | apply And.intro | intro _)))
      | refine seq_k fun zN zM zhN zhM => ?_
      | (refine condF_k ?_ ?_; focus (first | rfl | (simp [go_sem, st_L, st_K, W3, Int.toNat_one, F0, hcq, hup]; done)))
   · obtain ⟨⟨xa, xb, xc⟩, hx⟩ : ∃ x, cutN ⟨qa, qb, qc⟩ 1 = x := ⟨_, rfl⟩
     rw [hx] at hcq hup
     simp only [hx, T3.ls, W3]
     rw [up3] at hup
     simp only at hcq hup
     have hres : timesT a r0 r1 = fin3 ⟨xa, xb, xc⟩ := by rw [← hx, timesT, hl5, red3]; exact congrArg fin3 (if_pos hc3)
     rw [fin3, up3, if_pos hup] at hres

     iterate 23 first
      | (refine sr_k fun zK zhK => ?_; simp only [go_sem, st_L, st_K, W3, Int.toNat_one, F0, hcq, hup]; (repeat' (first | apply And.intro | intro _)))
      | refine zhK _ ?_
      | (refine zhM _ _ ?_; clear zhN zhM)
      | refine exit_k ?_
      | (refine zbx _ ?_; clear zbn zbx zbr zbi)
      | (refine zhN _ ?_; clear zhN zhM)
      | refine ret_k ?_
      | (refine zhZ _ _ ?_; simp only [go_sem, st_L, st_K, W3, Int.toNat_one, F0, hcq, hup]; (all_goals (first | (rw [hres]; done) | (rw [hres]; simp only [W3]; done))))
      | ((all_goals refine call_view (fun k => k) (fun _ _ => rfl) (by first | rfl | (simp only [go_sem, st_L, st_K, W3, Int.toNat_one, F0, hcq, hup] <;> rfl)) ((plus_ ⟨_, _, _⟩ ⟨_, _, _⟩).plain fun _ _ h => h) ?_); (all_goals (rintro v m ⟨hR, hm⟩; subst hR; subst hm)); (all_goals refine And.intro (by first | rfl | simp only [go_sem, st_L, st_K, W3, Int.toNat_one, F0, hcq, hup]) (And.intro (by first | rfl | simp only [go_sem, st_L, st_K, W3, Int.toNat_one, F0, hcq, hup]) ?_)); (all_goals simp only [go_sem, st_L, st_K, W3, Int.toNat_one, F0, hcq, hup]); (all_goals repeat' (first | apply And.intro | intro _)))
      | refine seq_k fun zN zM zhN zhM => ?_
      | (refine condF_k ?_ ?_; focus (first | rfl | (simp [go_sem, st_L, st_K, W3, Int.toNat_one, F0, hcq, hup]; done)))
      | (refine condT_k ?_ ?_; focus (first | rfl | (simp [go_sem, st_L, st_K, W3, Int.toNat_one, F0, hcq, hup]; done)))
   · obtain ⟨⟨xa, xb, xc⟩, hx⟩ : ∃ x, cutN ⟨qa, qb, qc⟩ 1 = x := ⟨_, rfl⟩
     rw [hx] at hcq hup
     simp only [hx, T3.ls, W3]
     rw [up3] at hup
     simp only at hcq hup
     have hres : timesT a r0 r1 = fin3 ⟨xa, xb, xc⟩ := by rw [← hx, timesT, hl5, red3]; exact congrArg fin3 (if_pos hc3)
     rw [fin3, up3, if_neg hup] at hres

     iterate 22 first
      | (refine sr_k fun zK zhK => ?_; simp only [go_sem, st_L, st_K, W3, Int.toNat_one, F0, hcq, hup]; (repeat' (first | apply And.intro | intro _)))
      | refine zhK _ ?_
      | (refine zhM _ _ ?_; clear zhN zhM)
      | (refine zhN _ ?_; clear zhN zhM)
      | refine exit_k ?_
      | (refine zbx _ ?_; clear zbn zbx zbr zbi)
      | refine skip_k ?_
      | refine ret_k ?_
      | (refine zhZ _ _ ?_; simp only [go_sem, st_L, st_K, W3, Int.toNat_one, F0, hcq, hup]; (all_goals (first | (rw [hres]; done) | (rw [hres]; simp only [W3]; done))))
      | ((all_goals refine call_view (fun k => k) (fun _ _ => rfl) (by first | rfl | (simp only [go_sem, st_L, st_K, W3, Int.toNat_one, F0, hcq, hup] <;> rfl)) ((plus_ ⟨_, _, _⟩ ⟨_, _, _⟩).plain fun _ _ h => h) ?_); (all_goals (rintro v m ⟨hR, hm⟩; subst hR; subst hm)); (all_goals refine And.intro (by first | rfl | simp only [go_sem, st_L, st_K, W3, Int.toNat_one, F0, hcq, hup]) (And.intro (by first | rfl | simp only [go_sem, st_L, st_K, W3, Int.toNat_one, F0, hcq, hup]) ?_)); (all_goals simp only [go_sem, st_L, st_K, W3, Int.toNat_one, F0, hcq, hup]); (all_goals repeat' (first | apply And.intro | intro _)))
      | refine seq_k fun zN zM zhN zhM => ?_
      | (refine condF_k ?_ ?_; focus (first | rfl | (simp [go_sem, st_L, st_K, W3, Int.toNat_one, F0, hcq, hup]; done)))
end Go.Sy

