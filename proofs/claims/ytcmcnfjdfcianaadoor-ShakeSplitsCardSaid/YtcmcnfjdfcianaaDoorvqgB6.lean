/- Walks: the document's words of a block; numbers read off bytes. -/
import Derived.Test.YtcmcnfjdfcianaaDoorvqgB3
set_option linter.unusedVariables false
set_option linter.unusedSimpArgs false
namespace Go.Sy
namespace Bk
open Go.Proofs
attribute [local irreducible] atCall HT runOps runD onC onE onO onG goV goA goS onSt onGuard
set_option maxHeartbeats 400000 in
set_option maxRecDepth 100000 in
theorem number_ (l : List UInt8) (hl : l.length ≤ 4096) :
 Ct Tryd.prog 71 [.w (.one (.pl (.str l)))] (fun v m => v = .w (.one (.pl (.u64 (lev l))))) := by
 have hw0 : Go.RowKit.wrap64 (((l.length : Nat) : Int) - 1) = ((l.length : Nat) : Int) - 1 := w64 (by omega)
 refine Ct.k Tryd.func71 rfl Tryd.ntmps71 (congrArg Array.toList Tryd.results71) (by simp) fun w0 ro => ?_
 refine top_k fun zZ zhZ => ?_
 iterate 8 first
  | (refine sr_k fun zK zhK => ?_; simp only [go_sem, hw0]; (repeat' (first | apply And.intro | intro _)))
  | refine zhK _ ?_
  | refine block_k fun zB zbn zbx zbr zbi => ?_
  | refine seq_k fun zN zM zhN zhM => ?_
 refine ht_dropE [5, 6, 7] ?_
 simp only [dropE_mk, fgt_nil, fgt_cons, List.contains_cons, List.contains_nil, Nat.reduceBEq, beq_self_eq_true, Bool.or_false, Bool.or_true, Bool.true_or, Bool.false_or, Bool.false_eq_true, reduceIte]
 refine loop_k (fun y => [(3, .w (.one (.pl (.u64 (lev (l.drop y.1)))))), (4, .w (.one (.pl (.i (((y.1 : Nat) : Int) - 1)))))]) (fun _ => []) (fun y => y.1) (⟨l.length, Nat.le_refl _⟩ : {y : Nat // y ≤ l.length}) ?_ ?_ ?_
 · (simp only [go_sem, List.drop_length, leX, List.cons_append, List.nil_append]; first | rfl | simp [lev, leN])
 · (simp only [go_sem, leX, List.cons_append, List.nil_append]; try simp)
 intro yy zN zM zhN zhM
 simp only [List.cons_append, List.nil_append]
 obtain ⟨j, hj⟩ := yy
 rcases j with _ | j
 · have hc : ¬ (0 : Int) ≤ ((0 : Nat) : Int) - 1 := by omega
   iterate 13 first
    | (refine sr_k fun zK zhK => ?_; simp only [go_sem, hw0, hc]; (repeat' (first | apply And.intro | intro _)))
    | refine zhK _ ?_
    | (refine zhM _ _ ?_; clear zhN zhM)
    | refine exit_k ?_
    | (refine zbx _ ?_; clear zbn zbx zbr zbi)
    | (refine zhN _ ?_; clear zhN zhM)
    | refine ret_k ?_
    | (refine zhZ _ _ ?_; simp only [go_sem, hw0, hc]; (all_goals (simp only [List.drop_zero])))
    | refine seq_k fun zN zM zhN zhM => ?_
    | (refine condF_k ?_ ?_; focus (first | rfl | (simp [go_sem, hw0, hc]; done)))
 · have hlt : j < l.length := by omega
   have hd := drop_cons hlt
   have hc : (0 : Int) ≤ ((j + 1 : Nat) : Int) - 1 := by omega
   have hij : ((j + 1 : Nat) : Int) - 1 = ((j : Nat) : Int) := by omega
   have hc1 : (0 : Int) ≤ ((j : Nat) : Int) := by omega
   have hc2 : ((j : Nat) : Int) < ((l.length : Nat) : Int) := by omega
   have hg0 := byteRows_get hlt
   have hw : Go.RowKit.wrap64 (((j : Nat) : Int) - 1) = ((j : Nat) : Int) - 1 := w64 (by omega)
   have hle : lev (l.drop j) = lev (l.drop (j + 1)) * 256 + UInt64.ofNat (l.getD j 0).toNat := by rw [hd]; exact (lev_mul (l.drop (j + 1)) _).symm
   have F9 := And.intro hc <| And.intro hij <| And.intro hc1 <| And.intro hc2 <| And.intro hg0 <| hw
   iterate 14 first
    | refine zhK _ ?_
    | (refine zhN _ ?_; clear zhN zhM)
    | (refine region_k fun zK zhK => ?_; simp only [go_sem, hw0, F9]; (repeat' (first | apply And.intro | intro _)))
    | (refine sr_k fun zK zhK => ?_; simp only [go_sem, hw0, F9]; (repeat' (first | apply And.intro | intro _)))
    | refine skip_k ?_
    | refine block_k fun zB zbn zbx zbr zbi => ?_
    | (refine zbn _ ?_; clear zbn zbx zbr zbi)
    | refine seq_k fun zN zM zhN zhM => ?_
    | (refine condT_k ?_ ?_; focus (first | rfl | (simp [go_sem, hw0, F9]; done)))
   refine zhN ⟨j, by omega⟩ _ ?_ ?_ ?_
   · (show j < j + 1; omega)
   · (rw [hle]; simp only [go_sem, leX, List.cons_append, List.nil_append]; try simp)
   · (simp only [go_sem, leX, List.cons_append, List.nil_append]; try simp)
set_option maxHeartbeats 800000 in
set_option maxRecDepth 100000 in
theorem low_ (n : UInt64) (k : Nat) (hk : k ≤ 4096) :
 Ct Tryd.prog 42 [.w (.one (.pl (.u64 n))), .w (.one (.pl (.i (k : Int))))] (fun v m => v = .w (.one (.pl (.str (lowB n k))))) := by
 refine Ct.k Tryd.func42 rfl Tryd.ntmps42 (congrArg Array.toList Tryd.results42) (by simp) fun w0 ro => ?_
 refine top_k fun zZ zhZ => ?_
 iterate 8 first
  | (refine sr_k fun zK zhK => ?_; simp only [go_sem]; (repeat' (first | apply And.intro | intro _)))
  | refine zhK _ ?_
  | refine block_k fun zB zbn zbx zbr zbi => ?_
  | refine seq_k fun zN zM zhN zhM => ?_
 refine ht_dropE [1] ?_
 simp only [dropE_mk, fgt_nil, fgt_cons, List.contains_cons, List.contains_nil, Nat.reduceBEq, beq_self_eq_true, Bool.or_false, Bool.or_true, Bool.true_or, Bool.false_or, Bool.false_eq_true, reduceIte]
 refine loop_k (fun y => [(0, .w (.one (.pl (.u64 y.1.2.2)))), (5, .w (.one (.pl (.str y.1.2.1)))), (7, .w (.one (.pl (.i ((y.1.1 : Nat) : Int)))))]) (fun _ => []) (fun y => k - y.1.1) (⟨(0, [], n), Nat.zero_le _, rfl, rfl⟩ : {y : Nat × List UInt8 × UInt64 // y.1 ≤ k ∧ y.2.1.length = y.1 ∧ y.2.1 ++ lowB y.2.2 (k - y.1) = lowB n k}) ?_ ?_ ?_
 · (simp only [go_sem, leX, List.cons_append, List.nil_append]; try simp)
 · (simp only [go_sem, leX, List.cons_append, List.nil_append]; try simp)
 intro yy zN zM zhN zhM
 simp only [List.cons_append, List.nil_append]
 obtain ⟨⟨i, s, x⟩, hi, hs, hx⟩ := yy
 rcases Nat.lt_or_ge i k with hlt | hge
 · simp only at hi hs hx
   have hc : ((i : Nat) : Int) < ((k : Nat) : Int) := by omega
   have hsl : s.length + 1 ≤ 9223372036854775807 := by omega
   have hz : ¬ (256 : UInt64) = 0 := by decide
   have hk1 : k - i = (k - (i + 1)) + 1 := by omega
   rw [hk1, lowB] at hx
   have hs1 : Go.RowKit.wrap64 (((i : Nat) : Int) + 1) = ((i + 1 : Nat) : Int) := wnat (by omega) (by omega)
   have F6 := And.intro hc <| And.intro hsl <| And.intro hz <| hs1
   iterate 16 first
    | refine zhK _ ?_
    | (refine sr_k fun zK zhK => ?_; simp only [go_sem, F6]; (repeat' (first | apply And.intro | intro _)))
    | (refine zhN _ ?_; clear zhN zhM)
    | (refine region_k fun zK zhK => ?_; simp only [go_sem, F6]; (repeat' (first | apply And.intro | intro _)))
    | refine skip_k ?_
    | refine block_k fun zB zbn zbx zbr zbi => ?_
    | (refine zbn _ ?_; clear zbn zbx zbr zbi)
    | refine seq_k fun zN zM zhN zhM => ?_
    | (refine condT_k ?_ ?_; focus (first | rfl | (simp [go_sem, F6]; done)))
   refine zhN ⟨(i + 1, s ++ [UInt8.ofNat x.toNat], x / 256), hlt, by simp [hs], by rw [← hx]; simp⟩ _ ?_ ?_ ?_
   · (clear hs1; show k - (i + 1) < k - i; omega)
   · (simp only [go_sem, leX, List.cons_append, List.nil_append]; try simp)
   · (simp only [go_sem, leX, List.cons_append, List.nil_append]; try simp)
 · simp only at hi hs hx
   have hik : i = k := by omega
   subst hik
   rw [Nat.sub_self, lowB, List.append_nil] at hx
   have hc : ¬ ((i : Nat) : Int) < ((i : Nat) : Int) := by omega
   iterate 13 first
    | (refine sr_k fun zK zhK => ?_; simp only [go_sem, hc]; (repeat' (first | apply And.intro | intro _)))
    | refine zhK _ ?_
    | (refine zhM _ _ ?_; clear zhN zhM)
    | refine exit_k ?_
    | (refine zbx _ ?_; clear zbn zbx zbr zbi)
    | (refine zhN _ ?_; clear zhN zhM)
    | refine ret_k ?_
    | (refine zhZ _ _ ?_; simp only [go_sem, hc]; (all_goals (rw [hx])))
    | refine seq_k fun zN zM zhN zhM => ?_
    | (refine condF_k ?_ ?_; focus (first | rfl | (simp [go_sem, hc]; done)))
set_option maxHeartbeats 800000 in
set_option maxRecDepth 100000 in
theorem word_m (b : List UInt8) (hb : b.length = 64) (r i : Nat) (hr : r < 10) (hi : i < 16) :
 CtM Tryd.prog 77 [.w (.one (.pl (.i (r : Int)))), .w (.one (.pl (.i (i : Int)))), .w (.one (.p 500000 []))] [(500000, ⟨false, [.pl (.str b)]⟩)] (fun v m => v = .w (.one (.pl (.u32 (mixW b r i)))) ∧ m = [(500000, ⟨false, [.pl (.str b)]⟩)]) := by
 obtain ⟨k, hk⟩ : ∃ k, ordN r i = k := ⟨_, rfl⟩
 have hkl := ord_lt hr hi
 rw [hk] at hkl
 have hu : mixW b r i = (lev ((b.drop (4 * k)).take 4)).toUInt32 := by rw [mixW, hk, wordAt]
 have hw : Go.RowKit.wrap64 (4 * ((k : Nat) : Int)) = ((4 * k : Nat) : Int) := wnat (by omega) (by omega)
 have hw2 : Go.RowKit.wrap64 (((4 * k : Nat) : Int) + 4) = ((4 * k + 4 : Nat) : Int) := wnat (by omega) (by omega)
 have d0 : (0 : Int) ≤ ((4 * k + 4 : Nat) : Int) ∧ (0 : Int) ≤ ((4 * k : Nat) : Int) ∧ ((4 * k : Nat) : Int) ≤ ((4 * k + 4 : Nat) : Int) ∧ ((4 * k + 4 : Nat) : Int) ≤ 64 := by omega
 have d1 : 4 * k ≤ 4 * k + 4 ∧ 4 * k + 4 ≤ 64 ∧ 4 * k + 4 - 4 * k = 4 := by omega
 have F0 := And.intro hb <| And.intro hk <| And.intro hw <| And.intro hw2 <| And.intro d0 <| d1
 refine CtM.k Tryd.func77 rfl Tryd.ntmps77 (congrArg Array.toList Tryd.results77) (by simp) fun w0 ro may fx => ?_
 refine top_k fun zZ zhZ => ?_
 refine sr_k fun zK zhK => ?_
 simp only [go_sem, F0]
 repeat' (first | apply And.intro | intro _)
 refine zhK _ ?_
 refine sr_k fun zK zhK => ?_
 simp only [go_sem, F0]
 repeat' (first | apply And.intro | intro _)
 all_goals (refine call_view (fun k => k) (fun _ _ => rfl) ?_ ((order_ r i hr hi).plain fun _ _ h => h) ?_; focus (first | rfl | (simp only [go_sem, F0] <;> rfl)))
 all_goals (rintro v m ⟨hR, hm⟩; subst hR; subst hm)
 all_goals refine And.intro (by first | rfl | simp only [go_sem, F0]) (And.intro (by first | rfl | simp only [go_sem, F0]) ?_)
 all_goals simp only [go_sem, F0]
 all_goals repeat' (first | apply And.intro | intro _)
 refine zhK _ ?_
 refine sr_k fun zK zhK => ?_
 simp only [go_sem, F0]
 repeat' (first | apply And.intro | intro _)
 all_goals refine call_view (fun k => k) (fun _ _ => rfl) (by first | rfl | (simp only [go_sem, F0] <;> rfl)) ((number_ _ (by first | (simp [List.length_take, List.length_drop]; done) | (simp only [List.length_take, List.length_drop]; omega))).plain fun _ _ h => h) ?_
 all_goals (rintro v m ⟨hR, hm⟩; subst hR; subst hm)
 all_goals refine And.intro (by first | rfl | simp only [go_sem, F0]) (And.intro (by first | rfl | simp only [go_sem, F0]) ?_)
 all_goals simp only [go_sem, F0]
 all_goals repeat' (first | apply And.intro | intro _)
 refine zhK _ ?_
 refine ret_k ?_
 refine zhZ _ _ ?_
 simp only [go_sem, F0]
 all_goals (first | exact ⟨by rw [hu], rfl⟩ | rw [hu] | (rw [hu]; rfl))
theorem word_c (b : List UInt8) (hb : b.length = 64) (r i : Nat) (hr : r < 10) (hi : i < 16) : CtM Tryd.prog 77 ([.w (.one (.pl (.i (r : Int)))), .w (.one (.pl (.i (i : Int))))] ++ [500000].map fun k => .w (.one (.p k []))) [(500000, ⟨false, [.pl (.str b)]⟩)] (fun v m => v = .w (.one (.pl (.u32 (mixW b r i)))) ∧ m = [(500000, ⟨false, [.pl (.str b)]⟩)]) := word_m b hb r i hr hi
def W16.sh (w : W16) : W16 := ⟨w.x0, w.x1, w.x2, w.x3, w.x5, w.x6, w.x7, w.x4, w.x10, w.x11, w.x8, w.x9, w.x15, w.x12, w.x13, w.x14⟩
def W16.unsh (w : W16) : W16 := ⟨w.x0, w.x1, w.x2, w.x3, w.x7, w.x4, w.x5, w.x6, w.x10, w.x11, w.x8, w.x9, w.x13, w.x14, w.x15, w.x12⟩
set_option maxHeartbeats 1600000 in
set_option maxRecDepth 100000 in
theorem shifted_0 (x0 x1 x2 x3 x4 x5 x6 x7 x8 x9 x10 x11 x12 x13 x14 x15 : UInt32) :
 Ct Tryd.prog 72 [.w (.agg [.pl (.u32 x0), .pl (.u32 x1), .pl (.u32 x2), .pl (.u32 x3), .pl (.u32 x4), .pl (.u32 x5), .pl (.u32 x6), .pl (.u32 x7), .pl (.u32 x8), .pl (.u32 x9), .pl (.u32 x10), .pl (.u32 x11), .pl (.u32 x12), .pl (.u32 x13), .pl (.u32 x14), .pl (.u32 x15)]), .w (.one (.pl (.i 0)))] (fun v m => v = .w (.agg (⟨x0, x1, x2, x3, x4, x5, x6, x7, x8, x9, x10, x11, x12, x13, x14, x15⟩ : W16).ls)) := by
 refine Ct.k Tryd.func72 rfl Tryd.ntmps72 (congrArg Array.toList Tryd.results72) (by simp) fun w0 ro => ?_
 refine top_k fun zZ zhZ => ?_
 iterate 427 first
  | (refine rnd_forget (x := .seq (.region 6 _ _) _) [7, 12, 13, 14, 15, 16, 17, 18, 19, 20, 21, 22, 23, 24, 25, 26, 27, 28, 29] ?_; simp only [go_sem, St.forget, fgt]; refine rnd_k fun zN zM zhN zhM => ?_)
  | (refine rnd_forget (x := .seq (.region 3 _ _) _) [6, 7, 9, 10, 11, 12, 13, 14, 15, 16, 17, 18, 19, 20, 21, 22, 23, 24, 25, 26, 27, 28, 29, 30] ?_; simp only [go_sem, St.forget, fgt]; refine rnd_k fun zN zM zhN zhM => ?_)
  | refine rnd_k fun zN zM zhN zhM => ?_
  | refine zhK _ ?_
  | (refine zhN _ ?_; clear zhN zhM)
  | (refine sr_k fun zK zhK => ?_; simp only [go_sem, Int.reduceTMod, Int.toNat_one, Int.mul_zero, Int.zero_mul]; (repeat' (first | apply And.intro | intro _)))
  | refine block_k fun zB zbn zbx zbr zbi => ?_
  | refine skip_k ?_
  | (refine zbn _ ?_; clear zbn zbx zbr zbi)
  | (refine region_k fun zK zhK => ?_; simp only [go_sem, Int.reduceTMod, Int.toNat_one, Int.mul_zero, Int.zero_mul]; (repeat' (first | apply And.intro | intro _)))
  | (refine draw_k (id := 8) [14, 15, 16, 17, 18, 19, 20, 21, 22, 23, 24, 25, 26, 27, 28] [0, 0, 0, 0, 8, 0, 0, 96, 248, 504, 4, 2044, 4092, 1, 16383, 32767] [] mixed (by kernel_rfl) (by simp only [go_sem]) fun zK zhK => ?_; simp only [go_sem, Int.reduceTMod, Int.toNat_one, Int.mul_zero, Int.zero_mul]; (repeat' (first | apply And.intro | intro _)))
  | refine zhK _ _ trivial ?_
  | (refine zhM _ _ ?_; clear zhN zhM)
  | refine exit_k ?_
  | (refine zbx _ ?_; clear zbn zbx zbr zbi)
  | refine rounds_k (x := .seq (.region 6 _ _) _) 5 ?_
  | refine rounds_k (x := .seq (.region 3 _ _) _) 5 ?_
  | refine ret_k ?_
  | (refine zhZ _ _ ?_; simp only [go_sem, Int.reduceTMod, Int.toNat_one, Int.mul_zero, Int.zero_mul]; (all_goals (rfl)))
  | refine seq_k fun zN zM zhN zhM => ?_
  | (refine condT_k ?_ ?_; focus (first | rfl | (simp [go_sem, Int.reduceTMod, Int.toNat_one, Int.mul_zero, Int.zero_mul]; done)))
  | (refine condF_k ?_ ?_; focus (first | rfl | (simp [go_sem, Int.reduceTMod, Int.toNat_one, Int.mul_zero, Int.zero_mul]; done)))
set_option maxHeartbeats 1600000 in
set_option maxRecDepth 100000 in
theorem shifted_1 (x0 x1 x2 x3 x4 x5 x6 x7 x8 x9 x10 x11 x12 x13 x14 x15 : UInt32) :
 Ct Tryd.prog 72 [.w (.agg [.pl (.u32 x0), .pl (.u32 x1), .pl (.u32 x2), .pl (.u32 x3), .pl (.u32 x4), .pl (.u32 x5), .pl (.u32 x6), .pl (.u32 x7), .pl (.u32 x8), .pl (.u32 x9), .pl (.u32 x10), .pl (.u32 x11), .pl (.u32 x12), .pl (.u32 x13), .pl (.u32 x14), .pl (.u32 x15)]), .w (.one (.pl (.i 1)))] (fun v m => v = .w (.agg (⟨x0, x1, x2, x3, x4, x5, x6, x7, x8, x9, x10, x11, x12, x13, x14, x15⟩ : W16).sh.ls)) := by
 refine Ct.k Tryd.func72 rfl Tryd.ntmps72 (congrArg Array.toList Tryd.results72) (by simp) fun w0 ro => ?_
 refine top_k fun zZ zhZ => ?_
 iterate 427 first
  | (refine rnd_forget (x := .seq (.region 6 _ _) _) [7, 12, 13, 14, 15, 16, 17, 18, 19, 20, 21, 22, 23, 24, 25, 26, 27, 28, 29] ?_; simp only [go_sem, St.forget, fgt]; refine rnd_k fun zN zM zhN zhM => ?_)
  | (refine rnd_forget (x := .seq (.region 3 _ _) _) [6, 7, 9, 10, 11, 12, 13, 14, 15, 16, 17, 18, 19, 20, 21, 22, 23, 24, 25, 26, 27, 28, 29, 30] ?_; simp only [go_sem, St.forget, fgt]; refine rnd_k fun zN zM zhN zhM => ?_)
  | refine rnd_k fun zN zM zhN zhM => ?_
  | refine zhK _ ?_
  | (refine zhN _ ?_; clear zhN zhM)
  | (refine sr_k fun zK zhK => ?_; simp only [go_sem, Int.reduceTMod, Int.toNat_one, Int.mul_zero, Int.zero_mul]; (repeat' (first | apply And.intro | intro _)))
  | refine block_k fun zB zbn zbx zbr zbi => ?_
  | refine skip_k ?_
  | (refine zbn _ ?_; clear zbn zbx zbr zbi)
  | (refine region_k fun zK zhK => ?_; simp only [go_sem, Int.reduceTMod, Int.toNat_one, Int.mul_zero, Int.zero_mul]; (repeat' (first | apply And.intro | intro _)))
  | (refine draw_k (id := 8) [14, 15, 16, 17, 18, 19, 20, 21, 22, 23, 24, 25, 26, 27, 28] [0, 0, 0, 0, 8, 0, 0, 96, 248, 504, 4, 2044, 4092, 1, 16383, 32767] [] mixed (by kernel_rfl) (by simp only [go_sem]) fun zK zhK => ?_; simp only [go_sem, Int.reduceTMod, Int.toNat_one, Int.mul_zero, Int.zero_mul]; (repeat' (first | apply And.intro | intro _)))
  | refine zhK _ _ trivial ?_
  | (refine zhM _ _ ?_; clear zhN zhM)
  | refine exit_k ?_
  | (refine zbx _ ?_; clear zbn zbx zbr zbi)
  | refine rounds_k (x := .seq (.region 6 _ _) _) 5 ?_
  | refine rounds_k (x := .seq (.region 3 _ _) _) 5 ?_
  | refine ret_k ?_
  | (refine zhZ _ _ ?_; simp only [go_sem, Int.reduceTMod, Int.toNat_one, Int.mul_zero, Int.zero_mul]; (all_goals (rfl)))
  | refine seq_k fun zN zM zhN zhM => ?_
  | (refine condT_k ?_ ?_; focus (first | rfl | (simp [go_sem, Int.reduceTMod, Int.toNat_one, Int.mul_zero, Int.zero_mul]; done)))
  | (refine condF_k ?_ ?_; focus (first | rfl | (simp [go_sem, Int.reduceTMod, Int.toNat_one, Int.mul_zero, Int.zero_mul]; done)))
set_option maxHeartbeats 1600000 in
set_option maxRecDepth 100000 in
theorem shifted_m (x0 x1 x2 x3 x4 x5 x6 x7 x8 x9 x10 x11 x12 x13 x14 x15 : UInt32) :
 Ct Tryd.prog 72 [.w (.agg [.pl (.u32 x0), .pl (.u32 x1), .pl (.u32 x2), .pl (.u32 x3), .pl (.u32 x4), .pl (.u32 x5), .pl (.u32 x6), .pl (.u32 x7), .pl (.u32 x8), .pl (.u32 x9), .pl (.u32 x10), .pl (.u32 x11), .pl (.u32 x12), .pl (.u32 x13), .pl (.u32 x14), .pl (.u32 x15)]), .w (.one (.pl (.i (-1))))] (fun v m => v = .w (.agg (⟨x0, x1, x2, x3, x4, x5, x6, x7, x8, x9, x10, x11, x12, x13, x14, x15⟩ : W16).unsh.ls)) := by
 refine Ct.k Tryd.func72 rfl Tryd.ntmps72 (congrArg Array.toList Tryd.results72) (by simp) fun w0 ro => ?_
 refine top_k fun zZ zhZ => ?_
 iterate 427 first
  | (refine rnd_forget (x := .seq (.region 6 _ _) _) [7, 12, 13, 14, 15, 16, 17, 18, 19, 20, 21, 22, 23, 24, 25, 26, 27, 28, 29] ?_; simp only [go_sem, St.forget, fgt]; refine rnd_k fun zN zM zhN zhM => ?_)
  | (refine rnd_forget (x := .seq (.region 3 _ _) _) [6, 7, 9, 10, 11, 12, 13, 14, 15, 16, 17, 18, 19, 20, 21, 22, 23, 24, 25, 26, 27, 28, 29, 30] ?_; simp only [go_sem, St.forget, fgt]; refine rnd_k fun zN zM zhN zhM => ?_)
  | refine rnd_k fun zN zM zhN zhM => ?_
  | refine zhK _ ?_
  | (refine zhN _ ?_; clear zhN zhM)
  | (refine sr_k fun zK zhK => ?_; simp only [go_sem, Int.reduceTMod, Int.toNat_one, Int.mul_zero, Int.zero_mul]; (repeat' (first | apply And.intro | intro _)))
  | refine block_k fun zB zbn zbx zbr zbi => ?_
  | refine skip_k ?_
  | (refine zbn _ ?_; clear zbn zbx zbr zbi)
  | (refine region_k fun zK zhK => ?_; simp only [go_sem, Int.reduceTMod, Int.toNat_one, Int.mul_zero, Int.zero_mul]; (repeat' (first | apply And.intro | intro _)))
  | (refine draw_k (id := 8) [14, 15, 16, 17, 18, 19, 20, 21, 22, 23, 24, 25, 26, 27, 28] [0, 0, 0, 0, 8, 0, 0, 96, 248, 504, 4, 2044, 4092, 1, 16383, 32767] [] mixed (by kernel_rfl) (by simp only [go_sem]) fun zK zhK => ?_; simp only [go_sem, Int.reduceTMod, Int.toNat_one, Int.mul_zero, Int.zero_mul]; (repeat' (first | apply And.intro | intro _)))
  | refine zhK _ _ trivial ?_
  | (refine zhM _ _ ?_; clear zhN zhM)
  | refine exit_k ?_
  | (refine zbx _ ?_; clear zbn zbx zbr zbi)
  | refine rounds_k (x := .seq (.region 6 _ _) _) 5 ?_
  | refine rounds_k (x := .seq (.region 3 _ _) _) 5 ?_
  | refine ret_k ?_
  | (refine zhZ _ _ ?_; simp only [go_sem, Int.reduceTMod, Int.toNat_one, Int.mul_zero, Int.zero_mul]; (all_goals (rfl)))
  | refine seq_k fun zN zM zhN zhM => ?_
  | (refine condT_k ?_ ?_; focus (first | rfl | (simp [go_sem, Int.reduceTMod, Int.toNat_one, Int.mul_zero, Int.zero_mul]; done)))
  | (refine condF_k ?_ ?_; focus (first | rfl | (simp [go_sem, Int.reduceTMod, Int.toNat_one, Int.mul_zero, Int.zero_mul]; done)))
end Bk
end Go.Sy
