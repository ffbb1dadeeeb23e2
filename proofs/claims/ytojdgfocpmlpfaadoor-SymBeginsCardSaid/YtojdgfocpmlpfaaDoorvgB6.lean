/- Walks: the document's words of a block; numbers read off bytes. -/
import Derived.Test.YtojdgfocpmlpfaaDoorvgB3
set_option linter.unusedVariables false
set_option linter.unusedSimpArgs false
namespace Go.Sy
open Go.Proofs
attribute [local irreducible] atCall HT runOps runD onC onE onO onG goV goA goS onSt onGuard
set_option maxHeartbeats 400000 in
theorem number_ (l : List UInt8) (hl : l.length ≤ 4096) :
 Ct Tryd.prog 48 [.w (.one (.pl (.str l)))] (fun v m => v = .w (.one (.pl (.u64 (lev l))))) := by
 have hw0 : Go.RowKit.wrap64 (((l.length : Nat) : Int) - 1) = ((l.length : Nat) : Int) - 1 := w64 (by omega)
 refine Ct.k Tryd.func48 rfl Tryd.ntmps48 (congrArg Array.toList Tryd.results48) (by simp) fun w0 ro => ?_
 refine sr_k fun K1 hK1 => ?_
 simp only [go_sem, hw0]
 repeat' (first | apply And.intro | intro _)
 refine hK1 _ ?_
 refine sr_k fun K2 hK2 => ?_
 simp only [go_sem, hw0]
 repeat' (first | apply And.intro | intro _)
 refine hK2 _ ?_
 refine seq_k fun N3 M3 hN3 hM3 => ?_
 refine sr_k fun K4 hK4 => ?_
 simp only [go_sem, hw0]
 repeat' (first | apply And.intro | intro _)
 refine hK4 _ ?_
 refine block_k fun B5 bn5 bx5 br5 bi5 => ?_
 refine ht_dropE [5, 6, 7] ?_
 simp only [dropE_mk, fgt_nil, fgt_cons, List.contains_cons, List.contains_nil, Nat.reduceBEq, beq_self_eq_true, Bool.or_false, Bool.or_true, Bool.true_or, Bool.false_or, Bool.false_eq_true, reduceIte]
 refine loop_k (fun y => [(3, .w (.one (.pl (.u64 (lev (l.drop y.1)))))), (4, .w (.one (.pl (.i (((y.1 : Nat) : Int) - 1)))))]) (fun _ => []) (fun y => y.1) (⟨l.length, Nat.le_refl _⟩ : {y : Nat // y ≤ l.length}) ?_ ?_ ?_
 · (simp only [go_sem, List.drop_length, leX, List.cons_append, List.nil_append]; first | rfl | simp [lev, leN])
 · (simp only [go_sem, leX, List.cons_append, List.nil_append]; try simp)
 intro yy N6 M6 hN6 hM6
 simp only [List.cons_append, List.nil_append]
 obtain ⟨j, hj⟩ := yy
 rcases j with _ | j
 · have hc : ¬ (0 : Int) ≤ ((0 : Nat) : Int) - 1 := by omega
   refine seq_k fun N7 M7 hN7 hM7 => ?_
   refine sr_k fun K8 hK8 => ?_
   simp only [go_sem, hw0, hc]
   repeat' (first | apply And.intro | intro _)
   refine hK8 _ ?_
   refine condF_k (by first | rfl | (simp [go_sem, hw0, hc]; done)) ?_
   refine exit_k ?_
   refine hM7 _ _ ?_
   refine hM6 _ _ ?_
   refine bx5 _ ?_
   refine hN3 _ ?_
   refine sr_k fun K9 hK9 => ?_
   simp only [go_sem, hw0, hc]
   repeat' (first | apply And.intro | intro _)
   refine hK9 _ ?_
   refine ret_k ?_
   simp only [go_sem, hw0, hc]
   all_goals (simp only [List.drop_zero])
 · have hlt : j < l.length := by omega
   have hd := drop_cons hlt
   have hc : (0 : Int) ≤ ((j + 1 : Nat) : Int) - 1 := by omega
   have hij : ((j + 1 : Nat) : Int) - 1 = ((j : Nat) : Int) := by omega
   have hc1 : (0 : Int) ≤ ((j : Nat) : Int) := by omega
   have hc2 : ((j : Nat) : Int) < ((l.length : Nat) : Int) := by omega
   have hg0 := byteRows_get hlt
   have hw : Go.RowKit.wrap64 (((j : Nat) : Int) - 1) = ((j : Nat) : Int) - 1 := w64 (by omega)
   have hle : lev (l.drop j) = lev (l.drop (j + 1)) * 256 + UInt64.ofNat (l.getD j 0).toNat := by rw [hd]; exact (lev_mul (l.drop (j + 1)) _).symm
   have F9 := And.intro hc <| And.intro hij <| And.intro hc1 <| And.intro hc2 <| And.intro hg0 <| hw
   refine seq_k fun N10 M10 hN10 hM10 => ?_
   refine sr_k fun K11 hK11 => ?_
   simp only [go_sem, hw0, F9]
   repeat' (first | apply And.intro | intro _)
   refine hK11 _ ?_
   refine condT_k (by first | rfl | (simp [go_sem, hw0, F9]; done)) ?_
   refine skip_k ?_
   refine hN10 _ ?_
   refine seq_k fun N12 M12 hN12 hM12 => ?_
   refine block_k fun B13 bn13 bx13 br13 bi13 => ?_
   refine region_k fun K14 hK14 => ?_
   simp only [go_sem, hw0, F9]
   repeat' (first | apply And.intro | intro _)
   refine hK14 _ ?_
   refine bn13 _ ?_
   refine hN12 _ ?_
   refine region_k fun K15 hK15 => ?_
   simp only [go_sem, hw0, F9]
   repeat' (first | apply And.intro | intro _)
   refine hK15 _ ?_
   refine hN6 ⟨j, by omega⟩ _ ?_ ?_ ?_
   · (show j < j + 1; omega)
   · (rw [hle]; simp only [go_sem, leX, List.cons_append, List.nil_append]; try simp)
   · (simp only [go_sem, leX, List.cons_append, List.nil_append]; try simp)
set_option maxHeartbeats 800000 in
theorem low_ (n : UInt64) (k : Nat) (hk : k ≤ 4096) :
 Ct Tryd.prog 37 [.w (.one (.pl (.u64 n))), .w (.one (.pl (.i (k : Int))))] (fun v m => v = .w (.one (.pl (.str (lowB n k))))) := by
 refine Ct.k Tryd.func37 rfl Tryd.ntmps37 (congrArg Array.toList Tryd.results37) (by simp) fun w0 ro => ?_
 refine sr_k fun K1 hK1 => ?_
 simp only [go_sem]
 repeat' (first | apply And.intro | intro _)
 refine hK1 _ ?_
 refine sr_k fun K2 hK2 => ?_
 simp only [go_sem]
 repeat' (first | apply And.intro | intro _)
 refine hK2 _ ?_
 refine seq_k fun N3 M3 hN3 hM3 => ?_
 refine sr_k fun K4 hK4 => ?_
 simp only [go_sem]
 repeat' (first | apply And.intro | intro _)
 refine hK4 _ ?_
 refine block_k fun B5 bn5 bx5 br5 bi5 => ?_
 refine ht_dropE [1] ?_
 simp only [dropE_mk, fgt_nil, fgt_cons, List.contains_cons, List.contains_nil, Nat.reduceBEq, beq_self_eq_true, Bool.or_false, Bool.or_true, Bool.true_or, Bool.false_or, Bool.false_eq_true, reduceIte]
 refine loop_k (fun y => [(0, .w (.one (.pl (.u64 y.1.2.2)))), (5, .w (.one (.pl (.str y.1.2.1)))), (7, .w (.one (.pl (.i ((y.1.1 : Nat) : Int)))))]) (fun _ => []) (fun y => k - y.1.1) (⟨(0, [], n), Nat.zero_le _, rfl, rfl⟩ : {y : Nat × List UInt8 × UInt64 // y.1 ≤ k ∧ y.2.1.length = y.1 ∧ y.2.1 ++ lowB y.2.2 (k - y.1) = lowB n k}) ?_ ?_ ?_
 · (simp only [go_sem, leX, List.cons_append, List.nil_append]; try simp)
 · (simp only [go_sem, leX, List.cons_append, List.nil_append]; try simp)
 intro yy N6 M6 hN6 hM6
 simp only [List.cons_append, List.nil_append]
 obtain ⟨⟨i, s, x⟩, hi, hs, hx⟩ := yy
 rcases Nat.lt_or_ge i k with hlt | hge
 · simp only at hi hs hx
   have hc : ((i : Nat) : Int) < ((k : Nat) : Int) := by omega
   have hsl : s.length + 1 ≤ 9223372036854775807 := by omega
   have hz : ¬ (256 : UInt64) = 0 := by decide
   have hk1 : k - i = (k - (i + 1)) + 1 := by omega
   rw [hk1, lowB] at hx
   have hs1 : Go.RowKit.wrap64 (((i : Nat) : Int) + 1) = ((i + 1 : Nat) : Int) := wnat (by omega) (by omega)
   have F6 := And.intro hc <| And.intro hsl <| And.intro hz <| hs1
   refine sr_k fun K7 hK7 => ?_
   simp only [go_sem, F6]
   repeat' (first | apply And.intro | intro _)
   refine hK7 _ ?_
   refine seq_k fun N8 M8 hN8 hM8 => ?_
   refine condT_k (by first | rfl | (simp [go_sem, F6]; done)) ?_
   refine skip_k ?_
   refine hN8 _ ?_
   refine seq_k fun N9 M9 hN9 hM9 => ?_
   refine block_k fun B10 bn10 bx10 br10 bi10 => ?_
   refine sr_k fun K11 hK11 => ?_
   simp only [go_sem, F6]
   repeat' (first | apply And.intro | intro _)
   refine hK11 _ ?_
   refine region_k fun K12 hK12 => ?_
   simp only [go_sem, F6]
   repeat' (first | apply And.intro | intro _)
   refine hK12 _ ?_
   refine bn10 _ ?_
   refine hN9 _ ?_
   refine region_k fun K13 hK13 => ?_
   simp only [go_sem, F6]
   repeat' (first | apply And.intro | intro _)
   refine hK13 _ ?_
   refine hN6 ⟨(i + 1, s ++ [UInt8.ofNat x.toNat], x / 256), hlt, by simp [hs], by rw [← hx]; simp⟩ _ ?_ ?_ ?_
   · (clear hs1; show k - (i + 1) < k - i; omega)
   · (simp only [go_sem, leX, List.cons_append, List.nil_append]; try simp)
   · (simp only [go_sem, leX, List.cons_append, List.nil_append]; try simp)
 · simp only at hi hs hx
   have hik : i = k := by omega
   subst hik
   rw [Nat.sub_self, lowB, List.append_nil] at hx
   have hc : ¬ ((i : Nat) : Int) < ((i : Nat) : Int) := by omega
   refine sr_k fun K14 hK14 => ?_
   simp only [go_sem, hc]
   repeat' (first | apply And.intro | intro _)
   refine hK14 _ ?_
   refine seq_k fun N15 M15 hN15 hM15 => ?_
   refine condF_k (by first | rfl | (simp [go_sem, hc]; done)) ?_
   refine exit_k ?_
   refine hM15 _ _ ?_
   refine hM6 _ _ ?_
   refine bx5 _ ?_
   refine hN3 _ ?_
   refine sr_k fun K16 hK16 => ?_
   simp only [go_sem, hc]
   repeat' (first | apply And.intro | intro _)
   refine hK16 _ ?_
   refine ret_k ?_
   simp only [go_sem, hc]
   all_goals (rw [hx])
set_option maxHeartbeats 800000 in
theorem word_m (b : List UInt8) (hb : b.length = 64) (r i : Nat) (hr : r < 10) (hi : i < 16) :
 CtM Tryd.prog 46 [.w (.one (.pl (.i (r : Int)))), .w (.one (.pl (.i (i : Int)))), .w (.one (.p 500000 []))] [(500000, ⟨false, [.pl (.str b)]⟩)] (fun v m => v = .w (.one (.pl (.u32 (mixW b r i)))) ∧ m = [(500000, ⟨false, [.pl (.str b)]⟩)]) := by
 obtain ⟨k, hk⟩ : ∃ k, ordN r i = k := ⟨_, rfl⟩
 have hkl := ord_lt hr hi
 rw [hk] at hkl
 have hu : mixW b r i = (lev ((b.drop (4 * k)).take 4)).toUInt32 := by rw [mixW, hk, wordAt]
 have hw : Go.RowKit.wrap64 (4 * ((k : Nat) : Int)) = ((4 * k : Nat) : Int) := wnat (by omega) (by omega)
 have hw2 : Go.RowKit.wrap64 (((4 * k : Nat) : Int) + 4) = ((4 * k + 4 : Nat) : Int) := wnat (by omega) (by omega)
 have d0 : (0 : Int) ≤ ((4 * k + 4 : Nat) : Int) ∧ (0 : Int) ≤ ((4 * k : Nat) : Int) ∧ ((4 * k : Nat) : Int) ≤ ((4 * k + 4 : Nat) : Int) ∧ ((4 * k + 4 : Nat) : Int) ≤ 64 := by omega
 have d1 : 4 * k ≤ 4 * k + 4 ∧ 4 * k + 4 ≤ 64 ∧ 4 * k + 4 - 4 * k = 4 := by omega
 have F0 := And.intro hb <| And.intro hk <| And.intro hw <| And.intro hw2 <| And.intro d0 <| d1
 refine CtM.k Tryd.func46 rfl Tryd.ntmps46 (congrArg Array.toList Tryd.results46) (by simp) fun w0 ro may fx => ?_
 refine sr_k fun K1 hK1 => ?_
 simp only [go_sem, F0]
 repeat' (first | apply And.intro | intro _)
 refine hK1 _ ?_
 refine sr_k fun K2 hK2 => ?_
 simp only [go_sem, F0]
 repeat' (first | apply And.intro | intro _)
 all_goals refine call_view (fun k => k) (fun _ _ => rfl) (by first | rfl | (simp only [go_sem, F0] <;> rfl)) ((order_ r i hr hi).plain fun _ _ h => h) ?_
 all_goals (rintro v m ⟨hR, hm⟩; subst hR; subst hm)
 all_goals refine And.intro (by first | rfl | simp only [go_sem, F0]) (And.intro (by first | rfl | simp only [go_sem, F0]) ?_)
 all_goals simp only [go_sem, F0]
 all_goals repeat' (first | apply And.intro | intro _)
 refine hK2 _ ?_
 refine sr_k fun K3 hK3 => ?_
 simp only [go_sem, F0]
 repeat' (first | apply And.intro | intro _)
 all_goals refine call_view (fun k => k) (fun _ _ => rfl) (by first | rfl | (simp only [go_sem, F0] <;> rfl)) ((number_ _ (by first | (simp [List.length_take, List.length_drop]; done) | (simp only [List.length_take, List.length_drop]; omega))).plain fun _ _ h => h) ?_
 all_goals (rintro v m ⟨hR, hm⟩; subst hR; subst hm)
 all_goals refine And.intro (by first | rfl | simp only [go_sem, F0]) (And.intro (by first | rfl | simp only [go_sem, F0]) ?_)
 all_goals simp only [go_sem, F0]
 all_goals repeat' (first | apply And.intro | intro _)
 refine hK3 _ ?_
 refine ret_k ?_
 simp only [go_sem, F0]
 all_goals (first | exact ⟨by rw [hu], rfl⟩ | rw [hu] | (rw [hu]; rfl))
theorem word_c (b : List UInt8) (hb : b.length = 64) (r i : Nat) (hr : r < 10) (hi : i < 16) : CtM Tryd.prog 46 ([.w (.one (.pl (.i (r : Int)))), .w (.one (.pl (.i (i : Int))))] ++ [500000].map fun k => .w (.one (.p k []))) [(500000, ⟨false, [.pl (.str b)]⟩)] (fun v m => v = .w (.one (.pl (.u32 (mixW b r i)))) ∧ m = [(500000, ⟨false, [.pl (.str b)]⟩)]) := word_m b hb r i hr hi
def W16.sh (w : W16) : W16 := ⟨w.x0, w.x1, w.x2, w.x3, w.x5, w.x6, w.x7, w.x4, w.x10, w.x11, w.x8, w.x9, w.x15, w.x12, w.x13, w.x14⟩
def W16.unsh (w : W16) : W16 := ⟨w.x0, w.x1, w.x2, w.x3, w.x7, w.x4, w.x5, w.x6, w.x10, w.x11, w.x8, w.x9, w.x13, w.x14, w.x15, w.x12⟩
set_option maxHeartbeats 1600000 in
set_option maxRecDepth 100000 in
theorem shifted_0 (x0 x1 x2 x3 x4 x5 x6 x7 x8 x9 x10 x11 x12 x13 x14 x15 : UInt32) :
 Ct Tryd.prog 49 [.w (.agg [.pl (.u32 x0), .pl (.u32 x1), .pl (.u32 x2), .pl (.u32 x3), .pl (.u32 x4), .pl (.u32 x5), .pl (.u32 x6), .pl (.u32 x7), .pl (.u32 x8), .pl (.u32 x9), .pl (.u32 x10), .pl (.u32 x11), .pl (.u32 x12), .pl (.u32 x13), .pl (.u32 x14), .pl (.u32 x15)]), .w (.one (.pl (.i 0)))] (fun v m => v = .w (.agg (⟨x0, x1, x2, x3, x4, x5, x6, x7, x8, x9, x10, x11, x12, x13, x14, x15⟩ : W16).ls)) := by
 refine Ct.k Tryd.func49 rfl Tryd.ntmps49 (congrArg Array.toList Tryd.results49) (by simp) fun w0 ro => ?_
 refine sr_k fun K1 hK1 => ?_
 simp only [go_sem, Int.reduceTMod, Int.toNat_one, Int.mul_zero, Int.zero_mul]
 repeat' (first | apply And.intro | intro _)
 refine hK1 _ ?_
 refine sr_k fun K2 hK2 => ?_
 simp only [go_sem, Int.reduceTMod, Int.toNat_one, Int.mul_zero, Int.zero_mul]
 repeat' (first | apply And.intro | intro _)
 refine hK2 _ ?_
 refine seq_k fun N3 M3 hN3 hM3 => ?_
 refine sr_k fun K4 hK4 => ?_
 simp only [go_sem, Int.reduceTMod, Int.toNat_one, Int.mul_zero, Int.zero_mul]
 repeat' (first | apply And.intro | intro _)
 refine hK4 _ ?_
 refine block_k fun B5 bn5 bx5 br5 bi5 => ?_
 refine rounds_k 5 ?_
 refine rnd_k fun N7 M7 hN7 hM7 => ?_
 refine sr_k fun K8 hK8 => ?_
 simp only [go_sem, Int.reduceTMod, Int.toNat_one, Int.mul_zero, Int.zero_mul]
 repeat' (first | apply And.intro | intro _)
 refine hK8 _ ?_
 refine seq_k fun N9 M9 hN9 hM9 => ?_
 refine condT_k (by first | rfl | (simp [go_sem, Int.reduceTMod, Int.toNat_one, Int.mul_zero, Int.zero_mul]; done)) ?_
 refine skip_k ?_
 refine hN9 _ ?_
 refine seq_k fun N10 M10 hN10 hM10 => ?_
 refine block_k fun B11 bn11 bx11 br11 bi11 => ?_
 refine sr_k fun K12 hK12 => ?_
 simp only [go_sem, Int.reduceTMod, Int.toNat_one, Int.mul_zero, Int.zero_mul]
 repeat' (first | apply And.intro | intro _)
 refine hK12 _ ?_
 refine sr_k fun K13 hK13 => ?_
 simp only [go_sem, Int.reduceTMod, Int.toNat_one, Int.mul_zero, Int.zero_mul]
 repeat' (first | apply And.intro | intro _)
 refine hK13 _ ?_
 refine block_k fun B14 bn14 bx14 br14 bi14 => ?_
 refine rounds_k 5 ?_
 refine rnd_k fun N16 M16 hN16 hM16 => ?_
 refine sr_k fun K17 hK17 => ?_
 simp only [go_sem, Int.reduceTMod, Int.toNat_one, Int.mul_zero, Int.zero_mul]
 repeat' (first | apply And.intro | intro _)
 refine hK17 _ ?_
 refine seq_k fun N18 M18 hN18 hM18 => ?_
 refine condT_k (by first | rfl | (simp [go_sem, Int.reduceTMod, Int.toNat_one, Int.mul_zero, Int.zero_mul]; done)) ?_
 refine skip_k ?_
 refine hN18 _ ?_
 refine seq_k fun N19 M19 hN19 hM19 => ?_
 refine block_k fun B20 bn20 bx20 br20 bi20 => ?_
 refine sr_k fun K21 hK21 => ?_
 simp only [go_sem, Int.reduceTMod, Int.toNat_one, Int.mul_zero, Int.zero_mul]
 repeat' (first | apply And.intro | intro _)
 refine hK21 _ ?_
 refine draw_k [14, 15, 16, 17, 18, 19, 20, 21, 22, 23, 24, 25, 26, 27, 28] [0, 0, 0, 0, 8, 0, 0, 96, 248, 504, 4, 2044, 4092, 1, 16383, 32767] [] mixed (by kernel_rfl) (by simp only [go_sem]) fun K22 hK22 => ?_
 simp only [go_sem, Int.reduceTMod, Int.toNat_one, Int.mul_zero, Int.zero_mul]
 repeat' (first | apply And.intro | intro _)
 refine hK22 _ _ trivial ?_
 refine bn20 _ ?_
 refine hN19 _ ?_
 refine region_k fun K23 hK23 => ?_
 simp only [go_sem, Int.reduceTMod, Int.toNat_one, Int.mul_zero, Int.zero_mul]
 repeat' (first | apply And.intro | intro _)
 refine hK23 _ ?_
 refine hN16 _ ?_
 refine rnd_forget [7, 12, 13, 14, 15, 16, 17, 18, 19, 20, 21, 22, 23, 24, 25, 26, 27, 28, 29] ?_
 simp only [go_sem, St.forget, fgt]
 refine rnd_k fun N24 M24 hN24 hM24 => ?_
 refine sr_k fun K25 hK25 => ?_
 simp only [go_sem, Int.reduceTMod, Int.toNat_one, Int.mul_zero, Int.zero_mul]
 repeat' (first | apply And.intro | intro _)
 refine hK25 _ ?_
 refine seq_k fun N26 M26 hN26 hM26 => ?_
 refine condT_k (by first | rfl | (simp [go_sem, Int.reduceTMod, Int.toNat_one, Int.mul_zero, Int.zero_mul]; done)) ?_
 refine skip_k ?_
 refine hN26 _ ?_
 refine seq_k fun N27 M27 hN27 hM27 => ?_
 refine block_k fun B28 bn28 bx28 br28 bi28 => ?_
 refine sr_k fun K29 hK29 => ?_
 simp only [go_sem, Int.reduceTMod, Int.toNat_one, Int.mul_zero, Int.zero_mul]
 repeat' (first | apply And.intro | intro _)
 refine hK29 _ ?_
 refine draw_k [14, 15, 16, 17, 18, 19, 20, 21, 22, 23, 24, 25, 26, 27, 28] [0, 0, 0, 0, 8, 0, 0, 96, 248, 504, 4, 2044, 4092, 1, 16383, 32767] [] mixed (by kernel_rfl) (by simp only [go_sem]) fun K30 hK30 => ?_
 simp only [go_sem, Int.reduceTMod, Int.toNat_one, Int.mul_zero, Int.zero_mul]
 repeat' (first | apply And.intro | intro _)
 refine hK30 _ _ trivial ?_
 refine bn28 _ ?_
 refine hN27 _ ?_
 refine region_k fun K31 hK31 => ?_
 simp only [go_sem, Int.reduceTMod, Int.toNat_one, Int.mul_zero, Int.zero_mul]
 repeat' (first | apply And.intro | intro _)
 refine hK31 _ ?_
 refine hN24 _ ?_
 refine rnd_forget [7, 12, 13, 14, 15, 16, 17, 18, 19, 20, 21, 22, 23, 24, 25, 26, 27, 28, 29] ?_
 simp only [go_sem, St.forget, fgt]
 refine rnd_k fun N32 M32 hN32 hM32 => ?_
 refine sr_k fun K33 hK33 => ?_
 simp only [go_sem, Int.reduceTMod, Int.toNat_one, Int.mul_zero, Int.zero_mul]
 repeat' (first | apply And.intro | intro _)
 refine hK33 _ ?_
 refine seq_k fun N34 M34 hN34 hM34 => ?_
 refine condT_k (by first | rfl | (simp [go_sem, Int.reduceTMod, Int.toNat_one, Int.mul_zero, Int.zero_mul]; done)) ?_
 refine skip_k ?_
 refine hN34 _ ?_
 refine seq_k fun N35 M35 hN35 hM35 => ?_
 refine block_k fun B36 bn36 bx36 br36 bi36 => ?_
 refine sr_k fun K37 hK37 => ?_
 simp only [go_sem, Int.reduceTMod, Int.toNat_one, Int.mul_zero, Int.zero_mul]
 repeat' (first | apply And.intro | intro _)
 refine hK37 _ ?_
 refine draw_k [14, 15, 16, 17, 18, 19, 20, 21, 22, 23, 24, 25, 26, 27, 28] [0, 0, 0, 0, 8, 0, 0, 96, 248, 504, 4, 2044, 4092, 1, 16383, 32767] [] mixed (by kernel_rfl) (by simp only [go_sem]) fun K38 hK38 => ?_
 simp only [go_sem, Int.reduceTMod, Int.toNat_one, Int.mul_zero, Int.zero_mul]
 repeat' (first | apply And.intro | intro _)
 refine hK38 _ _ trivial ?_
 refine bn36 _ ?_
 refine hN35 _ ?_
 refine region_k fun K39 hK39 => ?_
 simp only [go_sem, Int.reduceTMod, Int.toNat_one, Int.mul_zero, Int.zero_mul]
 repeat' (first | apply And.intro | intro _)
 refine hK39 _ ?_
 refine hN32 _ ?_
 refine rnd_forget [7, 12, 13, 14, 15, 16, 17, 18, 19, 20, 21, 22, 23, 24, 25, 26, 27, 28, 29] ?_
 simp only [go_sem, St.forget, fgt]
 refine rnd_k fun N40 M40 hN40 hM40 => ?_
 refine sr_k fun K41 hK41 => ?_
 simp only [go_sem, Int.reduceTMod, Int.toNat_one, Int.mul_zero, Int.zero_mul]
 repeat' (first | apply And.intro | intro _)
 refine hK41 _ ?_
 refine seq_k fun N42 M42 hN42 hM42 => ?_
 refine condT_k (by first | rfl | (simp [go_sem, Int.reduceTMod, Int.toNat_one, Int.mul_zero, Int.zero_mul]; done)) ?_
 refine skip_k ?_
 refine hN42 _ ?_
 refine seq_k fun N43 M43 hN43 hM43 => ?_
 refine block_k fun B44 bn44 bx44 br44 bi44 => ?_
 refine sr_k fun K45 hK45 => ?_
 simp only [go_sem, Int.reduceTMod, Int.toNat_one, Int.mul_zero, Int.zero_mul]
 repeat' (first | apply And.intro | intro _)
 refine hK45 _ ?_
 refine draw_k [14, 15, 16, 17, 18, 19, 20, 21, 22, 23, 24, 25, 26, 27, 28] [0, 0, 0, 0, 8, 0, 0, 96, 248, 504, 4, 2044, 4092, 1, 16383, 32767] [] mixed (by kernel_rfl) (by simp only [go_sem]) fun K46 hK46 => ?_
 simp only [go_sem, Int.reduceTMod, Int.toNat_one, Int.mul_zero, Int.zero_mul]
 repeat' (first | apply And.intro | intro _)
 refine hK46 _ _ trivial ?_
 refine bn44 _ ?_
 refine hN43 _ ?_
 refine region_k fun K47 hK47 => ?_
 simp only [go_sem, Int.reduceTMod, Int.toNat_one, Int.mul_zero, Int.zero_mul]
 repeat' (first | apply And.intro | intro _)
 refine hK47 _ ?_
 refine hN40 _ ?_
 refine rnd_forget [7, 12, 13, 14, 15, 16, 17, 18, 19, 20, 21, 22, 23, 24, 25, 26, 27, 28, 29] ?_
 simp only [go_sem, St.forget, fgt]
 refine rnd_k fun N48 M48 hN48 hM48 => ?_
 refine sr_k fun K49 hK49 => ?_
 simp only [go_sem, Int.reduceTMod, Int.toNat_one, Int.mul_zero, Int.zero_mul]
 repeat' (first | apply And.intro | intro _)
 refine hK49 _ ?_
 refine seq_k fun N50 M50 hN50 hM50 => ?_
 refine condF_k (by first | rfl | (simp [go_sem, Int.reduceTMod, Int.toNat_one, Int.mul_zero, Int.zero_mul]; done)) ?_
 refine exit_k ?_
 refine hM50 _ _ ?_
 refine hM48 _ _ ?_
 refine bx14 _ ?_
 refine bn11 _ ?_
 refine hN10 _ ?_
 refine region_k fun K51 hK51 => ?_
 simp only [go_sem, Int.reduceTMod, Int.toNat_one, Int.mul_zero, Int.zero_mul]
 repeat' (first | apply And.intro | intro _)
 refine hK51 _ ?_
 refine hN7 _ ?_
 refine rnd_forget [6, 7, 9, 10, 11, 12, 13, 14, 15, 16, 17, 18, 19, 20, 21, 22, 23, 24, 25, 26, 27, 28, 29, 30] ?_
 simp only [go_sem, St.forget, fgt]
 refine rnd_k fun N52 M52 hN52 hM52 => ?_
 refine sr_k fun K53 hK53 => ?_
 simp only [go_sem, Int.reduceTMod, Int.toNat_one, Int.mul_zero, Int.zero_mul]
 repeat' (first | apply And.intro | intro _)
 refine hK53 _ ?_
 refine seq_k fun N54 M54 hN54 hM54 => ?_
 refine condT_k (by first | rfl | (simp [go_sem, Int.reduceTMod, Int.toNat_one, Int.mul_zero, Int.zero_mul]; done)) ?_
 refine skip_k ?_
 refine hN54 _ ?_
 refine seq_k fun N55 M55 hN55 hM55 => ?_
 refine block_k fun B56 bn56 bx56 br56 bi56 => ?_
 refine sr_k fun K57 hK57 => ?_
 simp only [go_sem, Int.reduceTMod, Int.toNat_one, Int.mul_zero, Int.zero_mul]
 repeat' (first | apply And.intro | intro _)
 refine hK57 _ ?_
 refine sr_k fun K58 hK58 => ?_
 simp only [go_sem, Int.reduceTMod, Int.toNat_one, Int.mul_zero, Int.zero_mul]
 repeat' (first | apply And.intro | intro _)
 refine hK58 _ ?_
 refine block_k fun B59 bn59 bx59 br59 bi59 => ?_
 refine rounds_k 5 ?_
 refine rnd_k fun N61 M61 hN61 hM61 => ?_
 refine sr_k fun K62 hK62 => ?_
 simp only [go_sem, Int.reduceTMod, Int.toNat_one, Int.mul_zero, Int.zero_mul]
 repeat' (first | apply And.intro | intro _)
 refine hK62 _ ?_
 refine seq_k fun N63 M63 hN63 hM63 => ?_
 refine condT_k (by first | rfl | (simp [go_sem, Int.reduceTMod, Int.toNat_one, Int.mul_zero, Int.zero_mul]; done)) ?_
 refine skip_k ?_
 refine hN63 _ ?_
 refine seq_k fun N64 M64 hN64 hM64 => ?_
 refine block_k fun B65 bn65 bx65 br65 bi65 => ?_
 refine sr_k fun K66 hK66 => ?_
 simp only [go_sem, Int.reduceTMod, Int.toNat_one, Int.mul_zero, Int.zero_mul]
 repeat' (first | apply And.intro | intro _)
 refine hK66 _ ?_
 refine draw_k [14, 15, 16, 17, 18, 19, 20, 21, 22, 23, 24, 25, 26, 27, 28] [0, 0, 0, 0, 8, 0, 0, 96, 248, 504, 4, 2044, 4092, 1, 16383, 32767] [] mixed (by kernel_rfl) (by simp only [go_sem]) fun K67 hK67 => ?_
 simp only [go_sem, Int.reduceTMod, Int.toNat_one, Int.mul_zero, Int.zero_mul]
 repeat' (first | apply And.intro | intro _)
 refine hK67 _ _ trivial ?_
 refine bn65 _ ?_
 refine hN64 _ ?_
 refine region_k fun K68 hK68 => ?_
 simp only [go_sem, Int.reduceTMod, Int.toNat_one, Int.mul_zero, Int.zero_mul]
 repeat' (first | apply And.intro | intro _)
 refine hK68 _ ?_
 refine hN61 _ ?_
 refine rnd_forget [7, 12, 13, 14, 15, 16, 17, 18, 19, 20, 21, 22, 23, 24, 25, 26, 27, 28, 29] ?_
 simp only [go_sem, St.forget, fgt]
 refine rnd_k fun N69 M69 hN69 hM69 => ?_
 refine sr_k fun K70 hK70 => ?_
 simp only [go_sem, Int.reduceTMod, Int.toNat_one, Int.mul_zero, Int.zero_mul]
 repeat' (first | apply And.intro | intro _)
 refine hK70 _ ?_
 refine seq_k fun N71 M71 hN71 hM71 => ?_
 refine condT_k (by first | rfl | (simp [go_sem, Int.reduceTMod, Int.toNat_one, Int.mul_zero, Int.zero_mul]; done)) ?_
 refine skip_k ?_
 refine hN71 _ ?_
 refine seq_k fun N72 M72 hN72 hM72 => ?_
 refine block_k fun B73 bn73 bx73 br73 bi73 => ?_
 refine sr_k fun K74 hK74 => ?_
 simp only [go_sem, Int.reduceTMod, Int.toNat_one, Int.mul_zero, Int.zero_mul]
 repeat' (first | apply And.intro | intro _)
 refine hK74 _ ?_
 refine draw_k [14, 15, 16, 17, 18, 19, 20, 21, 22, 23, 24, 25, 26, 27, 28] [0, 0, 0, 0, 8, 0, 0, 96, 248, 504, 4, 2044, 4092, 1, 16383, 32767] [] mixed (by kernel_rfl) (by simp only [go_sem]) fun K75 hK75 => ?_
 simp only [go_sem, Int.reduceTMod, Int.toNat_one, Int.mul_zero, Int.zero_mul]
 repeat' (first | apply And.intro | intro _)
 refine hK75 _ _ trivial ?_
 refine bn73 _ ?_
 refine hN72 _ ?_
 refine region_k fun K76 hK76 => ?_
 simp only [go_sem, Int.reduceTMod, Int.toNat_one, Int.mul_zero, Int.zero_mul]
 repeat' (first | apply And.intro | intro _)
 refine hK76 _ ?_
 refine hN69 _ ?_
 refine rnd_forget [7, 12, 13, 14, 15, 16, 17, 18, 19, 20, 21, 22, 23, 24, 25, 26, 27, 28, 29] ?_
 simp only [go_sem, St.forget, fgt]
 refine rnd_k fun N77 M77 hN77 hM77 => ?_
 refine sr_k fun K78 hK78 => ?_
 simp only [go_sem, Int.reduceTMod, Int.toNat_one, Int.mul_zero, Int.zero_mul]
 repeat' (first | apply And.intro | intro _)
 refine hK78 _ ?_
 refine seq_k fun N79 M79 hN79 hM79 => ?_
 refine condT_k (by first | rfl | (simp [go_sem, Int.reduceTMod, Int.toNat_one, Int.mul_zero, Int.zero_mul]; done)) ?_
 refine skip_k ?_
 refine hN79 _ ?_
 refine seq_k fun N80 M80 hN80 hM80 => ?_
 refine block_k fun B81 bn81 bx81 br81 bi81 => ?_
 refine sr_k fun K82 hK82 => ?_
 simp only [go_sem, Int.reduceTMod, Int.toNat_one, Int.mul_zero, Int.zero_mul]
 repeat' (first | apply And.intro | intro _)
 refine hK82 _ ?_
 refine draw_k [14, 15, 16, 17, 18, 19, 20, 21, 22, 23, 24, 25, 26, 27, 28] [0, 0, 0, 0, 8, 0, 0, 96, 248, 504, 4, 2044, 4092, 1, 16383, 32767] [] mixed (by kernel_rfl) (by simp only [go_sem]) fun K83 hK83 => ?_
 simp only [go_sem, Int.reduceTMod, Int.toNat_one, Int.mul_zero, Int.zero_mul]
 repeat' (first | apply And.intro | intro _)
 refine hK83 _ _ trivial ?_
 refine bn81 _ ?_
 refine hN80 _ ?_
 refine region_k fun K84 hK84 => ?_
 simp only [go_sem, Int.reduceTMod, Int.toNat_one, Int.mul_zero, Int.zero_mul]
 repeat' (first | apply And.intro | intro _)
 refine hK84 _ ?_
 refine hN77 _ ?_
 refine rnd_forget [7, 12, 13, 14, 15, 16, 17, 18, 19, 20, 21, 22, 23, 24, 25, 26, 27, 28, 29] ?_
 simp only [go_sem, St.forget, fgt]
 refine rnd_k fun N85 M85 hN85 hM85 => ?_
 refine sr_k fun K86 hK86 => ?_
 simp only [go_sem, Int.reduceTMod, Int.toNat_one, Int.mul_zero, Int.zero_mul]
 repeat' (first | apply And.intro | intro _)
 refine hK86 _ ?_
 refine seq_k fun N87 M87 hN87 hM87 => ?_
 refine condT_k (by first | rfl | (simp [go_sem, Int.reduceTMod, Int.toNat_one, Int.mul_zero, Int.zero_mul]; done)) ?_
 refine skip_k ?_
 refine hN87 _ ?_
 refine seq_k fun N88 M88 hN88 hM88 => ?_
 refine block_k fun B89 bn89 bx89 br89 bi89 => ?_
 refine sr_k fun K90 hK90 => ?_
 simp only [go_sem, Int.reduceTMod, Int.toNat_one, Int.mul_zero, Int.zero_mul]
 repeat' (first | apply And.intro | intro _)
 refine hK90 _ ?_
 refine draw_k [14, 15, 16, 17, 18, 19, 20, 21, 22, 23, 24, 25, 26, 27, 28] [0, 0, 0, 0, 8, 0, 0, 96, 248, 504, 4, 2044, 4092, 1, 16383, 32767] [] mixed (by kernel_rfl) (by simp only [go_sem]) fun K91 hK91 => ?_
 simp only [go_sem, Int.reduceTMod, Int.toNat_one, Int.mul_zero, Int.zero_mul]
 repeat' (first | apply And.intro | intro _)
 refine hK91 _ _ trivial ?_
 refine bn89 _ ?_
 refine hN88 _ ?_
 refine region_k fun K92 hK92 => ?_
 simp only [go_sem, Int.reduceTMod, Int.toNat_one, Int.mul_zero, Int.zero_mul]
 repeat' (first | apply And.intro | intro _)
 refine hK92 _ ?_
 refine hN85 _ ?_
 refine rnd_forget [7, 12, 13, 14, 15, 16, 17, 18, 19, 20, 21, 22, 23, 24, 25, 26, 27, 28, 29] ?_
 simp only [go_sem, St.forget, fgt]
 refine rnd_k fun N93 M93 hN93 hM93 => ?_
 refine sr_k fun K94 hK94 => ?_
 simp only [go_sem, Int.reduceTMod, Int.toNat_one, Int.mul_zero, Int.zero_mul]
 repeat' (first | apply And.intro | intro _)
 refine hK94 _ ?_
 refine seq_k fun N95 M95 hN95 hM95 => ?_
 refine condF_k (by first | rfl | (simp [go_sem, Int.reduceTMod, Int.toNat_one, Int.mul_zero, Int.zero_mul]; done)) ?_
 refine exit_k ?_
 refine hM95 _ _ ?_
 refine hM93 _ _ ?_
 refine bx59 _ ?_
 refine bn56 _ ?_
 refine hN55 _ ?_
 refine region_k fun K96 hK96 => ?_
 simp only [go_sem, Int.reduceTMod, Int.toNat_one, Int.mul_zero, Int.zero_mul]
 repeat' (first | apply And.intro | intro _)
 refine hK96 _ ?_
 refine hN52 _ ?_
 refine rnd_forget [6, 7, 9, 10, 11, 12, 13, 14, 15, 16, 17, 18, 19, 20, 21, 22, 23, 24, 25, 26, 27, 28, 29, 30] ?_
 simp only [go_sem, St.forget, fgt]
 refine rnd_k fun N97 M97 hN97 hM97 => ?_
 refine sr_k fun K98 hK98 => ?_
 simp only [go_sem, Int.reduceTMod, Int.toNat_one, Int.mul_zero, Int.zero_mul]
 repeat' (first | apply And.intro | intro _)
 refine hK98 _ ?_
 refine seq_k fun N99 M99 hN99 hM99 => ?_
 refine condT_k (by first | rfl | (simp [go_sem, Int.reduceTMod, Int.toNat_one, Int.mul_zero, Int.zero_mul]; done)) ?_
 refine skip_k ?_
 refine hN99 _ ?_
 refine seq_k fun N100 M100 hN100 hM100 => ?_
 refine block_k fun B101 bn101 bx101 br101 bi101 => ?_
 refine sr_k fun K102 hK102 => ?_
 simp only [go_sem, Int.reduceTMod, Int.toNat_one, Int.mul_zero, Int.zero_mul]
 repeat' (first | apply And.intro | intro _)
 refine hK102 _ ?_
 refine sr_k fun K103 hK103 => ?_
 simp only [go_sem, Int.reduceTMod, Int.toNat_one, Int.mul_zero, Int.zero_mul]
 repeat' (first | apply And.intro | intro _)
 refine hK103 _ ?_
 refine block_k fun B104 bn104 bx104 br104 bi104 => ?_
 refine rounds_k 5 ?_
 refine rnd_k fun N106 M106 hN106 hM106 => ?_
 refine sr_k fun K107 hK107 => ?_
 simp only [go_sem, Int.reduceTMod, Int.toNat_one, Int.mul_zero, Int.zero_mul]
 repeat' (first | apply And.intro | intro _)
 refine hK107 _ ?_
 refine seq_k fun N108 M108 hN108 hM108 => ?_
 refine condT_k (by first | rfl | (simp [go_sem, Int.reduceTMod, Int.toNat_one, Int.mul_zero, Int.zero_mul]; done)) ?_
 refine skip_k ?_
 refine hN108 _ ?_
 refine seq_k fun N109 M109 hN109 hM109 => ?_
 refine block_k fun B110 bn110 bx110 br110 bi110 => ?_
 refine sr_k fun K111 hK111 => ?_
 simp only [go_sem, Int.reduceTMod, Int.toNat_one, Int.mul_zero, Int.zero_mul]
 repeat' (first | apply And.intro | intro _)
 refine hK111 _ ?_
 refine draw_k [14, 15, 16, 17, 18, 19, 20, 21, 22, 23, 24, 25, 26, 27, 28] [0, 0, 0, 0, 8, 0, 0, 96, 248, 504, 4, 2044, 4092, 1, 16383, 32767] [] mixed (by kernel_rfl) (by simp only [go_sem]) fun K112 hK112 => ?_
 simp only [go_sem, Int.reduceTMod, Int.toNat_one, Int.mul_zero, Int.zero_mul]
 repeat' (first | apply And.intro | intro _)
 refine hK112 _ _ trivial ?_
 refine bn110 _ ?_
 refine hN109 _ ?_
 refine region_k fun K113 hK113 => ?_
 simp only [go_sem, Int.reduceTMod, Int.toNat_one, Int.mul_zero, Int.zero_mul]
 repeat' (first | apply And.intro | intro _)
 refine hK113 _ ?_
 refine hN106 _ ?_
 refine rnd_forget [7, 12, 13, 14, 15, 16, 17, 18, 19, 20, 21, 22, 23, 24, 25, 26, 27, 28, 29] ?_
 simp only [go_sem, St.forget, fgt]
 refine rnd_k fun N114 M114 hN114 hM114 => ?_
 refine sr_k fun K115 hK115 => ?_
 simp only [go_sem, Int.reduceTMod, Int.toNat_one, Int.mul_zero, Int.zero_mul]
 repeat' (first | apply And.intro | intro _)
 refine hK115 _ ?_
 refine seq_k fun N116 M116 hN116 hM116 => ?_
 refine condT_k (by first | rfl | (simp [go_sem, Int.reduceTMod, Int.toNat_one, Int.mul_zero, Int.zero_mul]; done)) ?_
 refine skip_k ?_
 refine hN116 _ ?_
 refine seq_k fun N117 M117 hN117 hM117 => ?_
 refine block_k fun B118 bn118 bx118 br118 bi118 => ?_
 refine sr_k fun K119 hK119 => ?_
 simp only [go_sem, Int.reduceTMod, Int.toNat_one, Int.mul_zero, Int.zero_mul]
 repeat' (first | apply And.intro | intro _)
 refine hK119 _ ?_
 refine draw_k [14, 15, 16, 17, 18, 19, 20, 21, 22, 23, 24, 25, 26, 27, 28] [0, 0, 0, 0, 8, 0, 0, 96, 248, 504, 4, 2044, 4092, 1, 16383, 32767] [] mixed (by kernel_rfl) (by simp only [go_sem]) fun K120 hK120 => ?_
 simp only [go_sem, Int.reduceTMod, Int.toNat_one, Int.mul_zero, Int.zero_mul]
 repeat' (first | apply And.intro | intro _)
 refine hK120 _ _ trivial ?_
 refine bn118 _ ?_
 refine hN117 _ ?_
 refine region_k fun K121 hK121 => ?_
 simp only [go_sem, Int.reduceTMod, Int.toNat_one, Int.mul_zero, Int.zero_mul]
 repeat' (first | apply And.intro | intro _)
 refine hK121 _ ?_
 refine hN114 _ ?_
 refine rnd_forget [7, 12, 13, 14, 15, 16, 17, 18, 19, 20, 21, 22, 23, 24, 25, 26, 27, 28, 29] ?_
 simp only [go_sem, St.forget, fgt]
 refine rnd_k fun N122 M122 hN122 hM122 => ?_
 refine sr_k fun K123 hK123 => ?_
 simp only [go_sem, Int.reduceTMod, Int.toNat_one, Int.mul_zero, Int.zero_mul]
 repeat' (first | apply And.intro | intro _)
 refine hK123 _ ?_
 refine seq_k fun N124 M124 hN124 hM124 => ?_
 refine condT_k (by first | rfl | (simp [go_sem, Int.reduceTMod, Int.toNat_one, Int.mul_zero, Int.zero_mul]; done)) ?_
 refine skip_k ?_
 refine hN124 _ ?_
 refine seq_k fun N125 M125 hN125 hM125 => ?_
 refine block_k fun B126 bn126 bx126 br126 bi126 => ?_
 refine sr_k fun K127 hK127 => ?_
 simp only [go_sem, Int.reduceTMod, Int.toNat_one, Int.mul_zero, Int.zero_mul]
 repeat' (first | apply And.intro | intro _)
 refine hK127 _ ?_
 refine draw_k [14, 15, 16, 17, 18, 19, 20, 21, 22, 23, 24, 25, 26, 27, 28] [0, 0, 0, 0, 8, 0, 0, 96, 248, 504, 4, 2044, 4092, 1, 16383, 32767] [] mixed (by kernel_rfl) (by simp only [go_sem]) fun K128 hK128 => ?_
 simp only [go_sem, Int.reduceTMod, Int.toNat_one, Int.mul_zero, Int.zero_mul]
 repeat' (first | apply And.intro | intro _)
 refine hK128 _ _ trivial ?_
 refine bn126 _ ?_
 refine hN125 _ ?_
 refine region_k fun K129 hK129 => ?_
 simp only [go_sem, Int.reduceTMod, Int.toNat_one, Int.mul_zero, Int.zero_mul]
 repeat' (first | apply And.intro | intro _)
 refine hK129 _ ?_
 refine hN122 _ ?_
 refine rnd_forget [7, 12, 13, 14, 15, 16, 17, 18, 19, 20, 21, 22, 23, 24, 25, 26, 27, 28, 29] ?_
 simp only [go_sem, St.forget, fgt]
 refine rnd_k fun N130 M130 hN130 hM130 => ?_
 refine sr_k fun K131 hK131 => ?_
 simp only [go_sem, Int.reduceTMod, Int.toNat_one, Int.mul_zero, Int.zero_mul]
 repeat' (first | apply And.intro | intro _)
 refine hK131 _ ?_
 refine seq_k fun N132 M132 hN132 hM132 => ?_
 refine condT_k (by first | rfl | (simp [go_sem, Int.reduceTMod, Int.toNat_one, Int.mul_zero, Int.zero_mul]; done)) ?_
 refine skip_k ?_
 refine hN132 _ ?_
 refine seq_k fun N133 M133 hN133 hM133 => ?_
 refine block_k fun B134 bn134 bx134 br134 bi134 => ?_
 refine sr_k fun K135 hK135 => ?_
 simp only [go_sem, Int.reduceTMod, Int.toNat_one, Int.mul_zero, Int.zero_mul]
 repeat' (first | apply And.intro | intro _)
 refine hK135 _ ?_
 refine draw_k [14, 15, 16, 17, 18, 19, 20, 21, 22, 23, 24, 25, 26, 27, 28] [0, 0, 0, 0, 8, 0, 0, 96, 248, 504, 4, 2044, 4092, 1, 16383, 32767] [] mixed (by kernel_rfl) (by simp only [go_sem]) fun K136 hK136 => ?_
 simp only [go_sem, Int.reduceTMod, Int.toNat_one, Int.mul_zero, Int.zero_mul]
 repeat' (first | apply And.intro | intro _)
 refine hK136 _ _ trivial ?_
 refine bn134 _ ?_
 refine hN133 _ ?_
 refine region_k fun K137 hK137 => ?_
 simp only [go_sem, Int.reduceTMod, Int.toNat_one, Int.mul_zero, Int.zero_mul]
 repeat' (first | apply And.intro | intro _)
 refine hK137 _ ?_
 refine hN130 _ ?_
 refine rnd_forget [7, 12, 13, 14, 15, 16, 17, 18, 19, 20, 21, 22, 23, 24, 25, 26, 27, 28, 29] ?_
 simp only [go_sem, St.forget, fgt]
 refine rnd_k fun N138 M138 hN138 hM138 => ?_
 refine sr_k fun K139 hK139 => ?_
 simp only [go_sem, Int.reduceTMod, Int.toNat_one, Int.mul_zero, Int.zero_mul]
 repeat' (first | apply And.intro | intro _)
 refine hK139 _ ?_
 refine seq_k fun N140 M140 hN140 hM140 => ?_
 refine condF_k (by first | rfl | (simp [go_sem, Int.reduceTMod, Int.toNat_one, Int.mul_zero, Int.zero_mul]; done)) ?_
 refine exit_k ?_
 refine hM140 _ _ ?_
 refine hM138 _ _ ?_
 refine bx104 _ ?_
 refine bn101 _ ?_
 refine hN100 _ ?_
 refine region_k fun K141 hK141 => ?_
 simp only [go_sem, Int.reduceTMod, Int.toNat_one, Int.mul_zero, Int.zero_mul]
 repeat' (first | apply And.intro | intro _)
 refine hK141 _ ?_
 refine hN97 _ ?_
 refine rnd_forget [6, 7, 9, 10, 11, 12, 13, 14, 15, 16, 17, 18, 19, 20, 21, 22, 23, 24, 25, 26, 27, 28, 29, 30] ?_
 simp only [go_sem, St.forget, fgt]
 refine rnd_k fun N142 M142 hN142 hM142 => ?_
 refine sr_k fun K143 hK143 => ?_
 simp only [go_sem, Int.reduceTMod, Int.toNat_one, Int.mul_zero, Int.zero_mul]
 repeat' (first | apply And.intro | intro _)
 refine hK143 _ ?_
 refine seq_k fun N144 M144 hN144 hM144 => ?_
 refine condT_k (by first | rfl | (simp [go_sem, Int.reduceTMod, Int.toNat_one, Int.mul_zero, Int.zero_mul]; done)) ?_
 refine skip_k ?_
 refine hN144 _ ?_
 refine seq_k fun N145 M145 hN145 hM145 => ?_
 refine block_k fun B146 bn146 bx146 br146 bi146 => ?_
 refine sr_k fun K147 hK147 => ?_
 simp only [go_sem, Int.reduceTMod, Int.toNat_one, Int.mul_zero, Int.zero_mul]
 repeat' (first | apply And.intro | intro _)
 refine hK147 _ ?_
 refine sr_k fun K148 hK148 => ?_
 simp only [go_sem, Int.reduceTMod, Int.toNat_one, Int.mul_zero, Int.zero_mul]
 repeat' (first | apply And.intro | intro _)
 refine hK148 _ ?_
 refine block_k fun B149 bn149 bx149 br149 bi149 => ?_
 refine rounds_k 5 ?_
 refine rnd_k fun N151 M151 hN151 hM151 => ?_
 refine sr_k fun K152 hK152 => ?_
 simp only [go_sem, Int.reduceTMod, Int.toNat_one, Int.mul_zero, Int.zero_mul]
 repeat' (first | apply And.intro | intro _)
 refine hK152 _ ?_
 refine seq_k fun N153 M153 hN153 hM153 => ?_
 refine condT_k (by first | rfl | (simp [go_sem, Int.reduceTMod, Int.toNat_one, Int.mul_zero, Int.zero_mul]; done)) ?_
 refine skip_k ?_
 refine hN153 _ ?_
 refine seq_k fun N154 M154 hN154 hM154 => ?_
 refine block_k fun B155 bn155 bx155 br155 bi155 => ?_
 refine sr_k fun K156 hK156 => ?_
 simp only [go_sem, Int.reduceTMod, Int.toNat_one, Int.mul_zero, Int.zero_mul]
 repeat' (first | apply And.intro | intro _)
 refine hK156 _ ?_
 refine draw_k [14, 15, 16, 17, 18, 19, 20, 21, 22, 23, 24, 25, 26, 27, 28] [0, 0, 0, 0, 8, 0, 0, 96, 248, 504, 4, 2044, 4092, 1, 16383, 32767] [] mixed (by kernel_rfl) (by simp only [go_sem]) fun K157 hK157 => ?_
 simp only [go_sem, Int.reduceTMod, Int.toNat_one, Int.mul_zero, Int.zero_mul]
 repeat' (first | apply And.intro | intro _)
 refine hK157 _ _ trivial ?_
 refine bn155 _ ?_
 refine hN154 _ ?_
 refine region_k fun K158 hK158 => ?_
 simp only [go_sem, Int.reduceTMod, Int.toNat_one, Int.mul_zero, Int.zero_mul]
 repeat' (first | apply And.intro | intro _)
 refine hK158 _ ?_
 refine hN151 _ ?_
 refine rnd_forget [7, 12, 13, 14, 15, 16, 17, 18, 19, 20, 21, 22, 23, 24, 25, 26, 27, 28, 29] ?_
 simp only [go_sem, St.forget, fgt]
 refine rnd_k fun N159 M159 hN159 hM159 => ?_
 refine sr_k fun K160 hK160 => ?_
 simp only [go_sem, Int.reduceTMod, Int.toNat_one, Int.mul_zero, Int.zero_mul]
 repeat' (first | apply And.intro | intro _)
 refine hK160 _ ?_
 refine seq_k fun N161 M161 hN161 hM161 => ?_
 refine condT_k (by first | rfl | (simp [go_sem, Int.reduceTMod, Int.toNat_one, Int.mul_zero, Int.zero_mul]; done)) ?_
 refine skip_k ?_
 refine hN161 _ ?_
 refine seq_k fun N162 M162 hN162 hM162 => ?_
 refine block_k fun B163 bn163 bx163 br163 bi163 => ?_
 refine sr_k fun K164 hK164 => ?_
 simp only [go_sem, Int.reduceTMod, Int.toNat_one, Int.mul_zero, Int.zero_mul]
 repeat' (first | apply And.intro | intro _)
 refine hK164 _ ?_
 refine draw_k [14, 15, 16, 17, 18, 19, 20, 21, 22, 23, 24, 25, 26, 27, 28] [0, 0, 0, 0, 8, 0, 0, 96, 248, 504, 4, 2044, 4092, 1, 16383, 32767] [] mixed (by kernel_rfl) (by simp only [go_sem]) fun K165 hK165 => ?_
 simp only [go_sem, Int.reduceTMod, Int.toNat_one, Int.mul_zero, Int.zero_mul]
 repeat' (first | apply And.intro | intro _)
 refine hK165 _ _ trivial ?_
 refine bn163 _ ?_
 refine hN162 _ ?_
 refine region_k fun K166 hK166 => ?_
 simp only [go_sem, Int.reduceTMod, Int.toNat_one, Int.mul_zero, Int.zero_mul]
 repeat' (first | apply And.intro | intro _)
 refine hK166 _ ?_
 refine hN159 _ ?_
 refine rnd_forget [7, 12, 13, 14, 15, 16, 17, 18, 19, 20, 21, 22, 23, 24, 25, 26, 27, 28, 29] ?_
 simp only [go_sem, St.forget, fgt]
 refine rnd_k fun N167 M167 hN167 hM167 => ?_
 refine sr_k fun K168 hK168 => ?_
 simp only [go_sem, Int.reduceTMod, Int.toNat_one, Int.mul_zero, Int.zero_mul]
 repeat' (first | apply And.intro | intro _)
 refine hK168 _ ?_
 refine seq_k fun N169 M169 hN169 hM169 => ?_
 refine condT_k (by first | rfl | (simp [go_sem, Int.reduceTMod, Int.toNat_one, Int.mul_zero, Int.zero_mul]; done)) ?_
 refine skip_k ?_
 refine hN169 _ ?_
 refine seq_k fun N170 M170 hN170 hM170 => ?_
 refine block_k fun B171 bn171 bx171 br171 bi171 => ?_
 refine sr_k fun K172 hK172 => ?_
 simp only [go_sem, Int.reduceTMod, Int.toNat_one, Int.mul_zero, Int.zero_mul]
 repeat' (first | apply And.intro | intro _)
 refine hK172 _ ?_
 refine draw_k [14, 15, 16, 17, 18, 19, 20, 21, 22, 23, 24, 25, 26, 27, 28] [0, 0, 0, 0, 8, 0, 0, 96, 248, 504, 4, 2044, 4092, 1, 16383, 32767] [] mixed (by kernel_rfl) (by simp only [go_sem]) fun K173 hK173 => ?_
 simp only [go_sem, Int.reduceTMod, Int.toNat_one, Int.mul_zero, Int.zero_mul]
 repeat' (first | apply And.intro | intro _)
 refine hK173 _ _ trivial ?_
 refine bn171 _ ?_
 refine hN170 _ ?_
 refine region_k fun K174 hK174 => ?_
 simp only [go_sem, Int.reduceTMod, Int.toNat_one, Int.mul_zero, Int.zero_mul]
 repeat' (first | apply And.intro | intro _)
 refine hK174 _ ?_
 refine hN167 _ ?_
 refine rnd_forget [7, 12, 13, 14, 15, 16, 17, 18, 19, 20, 21, 22, 23, 24, 25, 26, 27, 28, 29] ?_
 simp only [go_sem, St.forget, fgt]
 refine rnd_k fun N175 M175 hN175 hM175 => ?_
 refine sr_k fun K176 hK176 => ?_
 simp only [go_sem, Int.reduceTMod, Int.toNat_one, Int.mul_zero, Int.zero_mul]
 repeat' (first | apply And.intro | intro _)
 refine hK176 _ ?_
 refine seq_k fun N177 M177 hN177 hM177 => ?_
 refine condT_k (by first | rfl | (simp [go_sem, Int.reduceTMod, Int.toNat_one, Int.mul_zero, Int.zero_mul]; done)) ?_
 refine skip_k ?_
 refine hN177 _ ?_
 refine seq_k fun N178 M178 hN178 hM178 => ?_
 refine block_k fun B179 bn179 bx179 br179 bi179 => ?_
 refine sr_k fun K180 hK180 => ?_
 simp only [go_sem, Int.reduceTMod, Int.toNat_one, Int.mul_zero, Int.zero_mul]
 repeat' (first | apply And.intro | intro _)
 refine hK180 _ ?_
 refine draw_k [14, 15, 16, 17, 18, 19, 20, 21, 22, 23, 24, 25, 26, 27, 28] [0, 0, 0, 0, 8, 0, 0, 96, 248, 504, 4, 2044, 4092, 1, 16383, 32767] [] mixed (by kernel_rfl) (by simp only [go_sem]) fun K181 hK181 => ?_
 simp only [go_sem, Int.reduceTMod, Int.toNat_one, Int.mul_zero, Int.zero_mul]
 repeat' (first | apply And.intro | intro _)
 refine hK181 _ _ trivial ?_
 refine bn179 _ ?_
 refine hN178 _ ?_
 refine region_k fun K182 hK182 => ?_
 simp only [go_sem, Int.reduceTMod, Int.toNat_one, Int.mul_zero, Int.zero_mul]
 repeat' (first | apply And.intro | intro _)
 refine hK182 _ ?_
 refine hN175 _ ?_
 refine rnd_forget [7, 12, 13, 14, 15, 16, 17, 18, 19, 20, 21, 22, 23, 24, 25, 26, 27, 28, 29] ?_
 simp only [go_sem, St.forget, fgt]
 refine rnd_k fun N183 M183 hN183 hM183 => ?_
 refine sr_k fun K184 hK184 => ?_
 simp only [go_sem, Int.reduceTMod, Int.toNat_one, Int.mul_zero, Int.zero_mul]
 repeat' (first | apply And.intro | intro _)
 refine hK184 _ ?_
 refine seq_k fun N185 M185 hN185 hM185 => ?_
 refine condF_k (by first | rfl | (simp [go_sem, Int.reduceTMod, Int.toNat_one, Int.mul_zero, Int.zero_mul]; done)) ?_
 refine exit_k ?_
 refine hM185 _ _ ?_
 refine hM183 _ _ ?_
 refine bx149 _ ?_
 refine bn146 _ ?_
 refine hN145 _ ?_
 refine region_k fun K186 hK186 => ?_
 simp only [go_sem, Int.reduceTMod, Int.toNat_one, Int.mul_zero, Int.zero_mul]
 repeat' (first | apply And.intro | intro _)
 refine hK186 _ ?_
 refine hN142 _ ?_
 refine rnd_forget [6, 7, 9, 10, 11, 12, 13, 14, 15, 16, 17, 18, 19, 20, 21, 22, 23, 24, 25, 26, 27, 28, 29, 30] ?_
 simp only [go_sem, St.forget, fgt]
 refine rnd_k fun N187 M187 hN187 hM187 => ?_
 refine sr_k fun K188 hK188 => ?_
 simp only [go_sem, Int.reduceTMod, Int.toNat_one, Int.mul_zero, Int.zero_mul]
 repeat' (first | apply And.intro | intro _)
 refine hK188 _ ?_
 refine seq_k fun N189 M189 hN189 hM189 => ?_
 refine condF_k (by first | rfl | (simp [go_sem, Int.reduceTMod, Int.toNat_one, Int.mul_zero, Int.zero_mul]; done)) ?_
 refine exit_k ?_
 refine hM189 _ _ ?_
 refine hM187 _ _ ?_
 refine bx5 _ ?_
 refine hN3 _ ?_
 refine sr_k fun K190 hK190 => ?_
 simp only [go_sem, Int.reduceTMod, Int.toNat_one, Int.mul_zero, Int.zero_mul]
 repeat' (first | apply And.intro | intro _)
 refine hK190 _ ?_
 refine ret_k ?_
 simp only [go_sem, Int.reduceTMod, Int.toNat_one, Int.mul_zero, Int.zero_mul]
 all_goals (rfl)
set_option maxHeartbeats 1600000 in
set_option maxRecDepth 100000 in
theorem shifted_1 (x0 x1 x2 x3 x4 x5 x6 x7 x8 x9 x10 x11 x12 x13 x14 x15 : UInt32) :
 Ct Tryd.prog 49 [.w (.agg [.pl (.u32 x0), .pl (.u32 x1), .pl (.u32 x2), .pl (.u32 x3), .pl (.u32 x4), .pl (.u32 x5), .pl (.u32 x6), .pl (.u32 x7), .pl (.u32 x8), .pl (.u32 x9), .pl (.u32 x10), .pl (.u32 x11), .pl (.u32 x12), .pl (.u32 x13), .pl (.u32 x14), .pl (.u32 x15)]), .w (.one (.pl (.i 1)))] (fun v m => v = .w (.agg (⟨x0, x1, x2, x3, x4, x5, x6, x7, x8, x9, x10, x11, x12, x13, x14, x15⟩ : W16).sh.ls)) := by
 refine Ct.k Tryd.func49 rfl Tryd.ntmps49 (congrArg Array.toList Tryd.results49) (by simp) fun w0 ro => ?_
 refine sr_k fun K1 hK1 => ?_
 simp only [go_sem, Int.reduceTMod, Int.toNat_one, Int.mul_zero, Int.zero_mul]
 repeat' (first | apply And.intro | intro _)
 refine hK1 _ ?_
 refine sr_k fun K2 hK2 => ?_
 simp only [go_sem, Int.reduceTMod, Int.toNat_one, Int.mul_zero, Int.zero_mul]
 repeat' (first | apply And.intro | intro _)
 refine hK2 _ ?_
 refine seq_k fun N3 M3 hN3 hM3 => ?_
 refine sr_k fun K4 hK4 => ?_
 simp only [go_sem, Int.reduceTMod, Int.toNat_one, Int.mul_zero, Int.zero_mul]
 repeat' (first | apply And.intro | intro _)
 refine hK4 _ ?_
 refine block_k fun B5 bn5 bx5 br5 bi5 => ?_
 refine rounds_k 5 ?_
 refine rnd_k fun N7 M7 hN7 hM7 => ?_
 refine sr_k fun K8 hK8 => ?_
 simp only [go_sem, Int.reduceTMod, Int.toNat_one, Int.mul_zero, Int.zero_mul]
 repeat' (first | apply And.intro | intro _)
 refine hK8 _ ?_
 refine seq_k fun N9 M9 hN9 hM9 => ?_
 refine condT_k (by first | rfl | (simp [go_sem, Int.reduceTMod, Int.toNat_one, Int.mul_zero, Int.zero_mul]; done)) ?_
 refine skip_k ?_
 refine hN9 _ ?_
 refine seq_k fun N10 M10 hN10 hM10 => ?_
 refine block_k fun B11 bn11 bx11 br11 bi11 => ?_
 refine sr_k fun K12 hK12 => ?_
 simp only [go_sem, Int.reduceTMod, Int.toNat_one, Int.mul_zero, Int.zero_mul]
 repeat' (first | apply And.intro | intro _)
 refine hK12 _ ?_
 refine sr_k fun K13 hK13 => ?_
 simp only [go_sem, Int.reduceTMod, Int.toNat_one, Int.mul_zero, Int.zero_mul]
 repeat' (first | apply And.intro | intro _)
 refine hK13 _ ?_
 refine block_k fun B14 bn14 bx14 br14 bi14 => ?_
 refine rounds_k 5 ?_
 refine rnd_k fun N16 M16 hN16 hM16 => ?_
 refine sr_k fun K17 hK17 => ?_
 simp only [go_sem, Int.reduceTMod, Int.toNat_one, Int.mul_zero, Int.zero_mul]
 repeat' (first | apply And.intro | intro _)
 refine hK17 _ ?_
 refine seq_k fun N18 M18 hN18 hM18 => ?_
 refine condT_k (by first | rfl | (simp [go_sem, Int.reduceTMod, Int.toNat_one, Int.mul_zero, Int.zero_mul]; done)) ?_
 refine skip_k ?_
 refine hN18 _ ?_
 refine seq_k fun N19 M19 hN19 hM19 => ?_
 refine block_k fun B20 bn20 bx20 br20 bi20 => ?_
 refine sr_k fun K21 hK21 => ?_
 simp only [go_sem, Int.reduceTMod, Int.toNat_one, Int.mul_zero, Int.zero_mul]
 repeat' (first | apply And.intro | intro _)
 refine hK21 _ ?_
 refine draw_k [14, 15, 16, 17, 18, 19, 20, 21, 22, 23, 24, 25, 26, 27, 28] [0, 0, 0, 0, 8, 0, 0, 96, 248, 504, 4, 2044, 4092, 1, 16383, 32767] [] mixed (by kernel_rfl) (by simp only [go_sem]) fun K22 hK22 => ?_
 simp only [go_sem, Int.reduceTMod, Int.toNat_one, Int.mul_zero, Int.zero_mul]
 repeat' (first | apply And.intro | intro _)
 refine hK22 _ _ trivial ?_
 refine bn20 _ ?_
 refine hN19 _ ?_
 refine region_k fun K23 hK23 => ?_
 simp only [go_sem, Int.reduceTMod, Int.toNat_one, Int.mul_zero, Int.zero_mul]
 repeat' (first | apply And.intro | intro _)
 refine hK23 _ ?_
 refine hN16 _ ?_
 refine rnd_forget [7, 12, 13, 14, 15, 16, 17, 18, 19, 20, 21, 22, 23, 24, 25, 26, 27, 28, 29] ?_
 simp only [go_sem, St.forget, fgt]
 refine rnd_k fun N24 M24 hN24 hM24 => ?_
 refine sr_k fun K25 hK25 => ?_
 simp only [go_sem, Int.reduceTMod, Int.toNat_one, Int.mul_zero, Int.zero_mul]
 repeat' (first | apply And.intro | intro _)
 refine hK25 _ ?_
 refine seq_k fun N26 M26 hN26 hM26 => ?_
 refine condT_k (by first | rfl | (simp [go_sem, Int.reduceTMod, Int.toNat_one, Int.mul_zero, Int.zero_mul]; done)) ?_
 refine skip_k ?_
 refine hN26 _ ?_
 refine seq_k fun N27 M27 hN27 hM27 => ?_
 refine block_k fun B28 bn28 bx28 br28 bi28 => ?_
 refine sr_k fun K29 hK29 => ?_
 simp only [go_sem, Int.reduceTMod, Int.toNat_one, Int.mul_zero, Int.zero_mul]
 repeat' (first | apply And.intro | intro _)
 refine hK29 _ ?_
 refine draw_k [14, 15, 16, 17, 18, 19, 20, 21, 22, 23, 24, 25, 26, 27, 28] [0, 0, 0, 0, 8, 0, 0, 96, 248, 504, 4, 2044, 4092, 1, 16383, 32767] [] mixed (by kernel_rfl) (by simp only [go_sem]) fun K30 hK30 => ?_
 simp only [go_sem, Int.reduceTMod, Int.toNat_one, Int.mul_zero, Int.zero_mul]
 repeat' (first | apply And.intro | intro _)
 refine hK30 _ _ trivial ?_
 refine bn28 _ ?_
 refine hN27 _ ?_
 refine region_k fun K31 hK31 => ?_
 simp only [go_sem, Int.reduceTMod, Int.toNat_one, Int.mul_zero, Int.zero_mul]
 repeat' (first | apply And.intro | intro _)
 refine hK31 _ ?_
 refine hN24 _ ?_
 refine rnd_forget [7, 12, 13, 14, 15, 16, 17, 18, 19, 20, 21, 22, 23, 24, 25, 26, 27, 28, 29] ?_
 simp only [go_sem, St.forget, fgt]
 refine rnd_k fun N32 M32 hN32 hM32 => ?_
 refine sr_k fun K33 hK33 => ?_
 simp only [go_sem, Int.reduceTMod, Int.toNat_one, Int.mul_zero, Int.zero_mul]
 repeat' (first | apply And.intro | intro _)
 refine hK33 _ ?_
 refine seq_k fun N34 M34 hN34 hM34 => ?_
 refine condT_k (by first | rfl | (simp [go_sem, Int.reduceTMod, Int.toNat_one, Int.mul_zero, Int.zero_mul]; done)) ?_
 refine skip_k ?_
 refine hN34 _ ?_
 refine seq_k fun N35 M35 hN35 hM35 => ?_
 refine block_k fun B36 bn36 bx36 br36 bi36 => ?_
 refine sr_k fun K37 hK37 => ?_
 simp only [go_sem, Int.reduceTMod, Int.toNat_one, Int.mul_zero, Int.zero_mul]
 repeat' (first | apply And.intro | intro _)
 refine hK37 _ ?_
 refine draw_k [14, 15, 16, 17, 18, 19, 20, 21, 22, 23, 24, 25, 26, 27, 28] [0, 0, 0, 0, 8, 0, 0, 96, 248, 504, 4, 2044, 4092, 1, 16383, 32767] [] mixed (by kernel_rfl) (by simp only [go_sem]) fun K38 hK38 => ?_
 simp only [go_sem, Int.reduceTMod, Int.toNat_one, Int.mul_zero, Int.zero_mul]
 repeat' (first | apply And.intro | intro _)
 refine hK38 _ _ trivial ?_
 refine bn36 _ ?_
 refine hN35 _ ?_
 refine region_k fun K39 hK39 => ?_
 simp only [go_sem, Int.reduceTMod, Int.toNat_one, Int.mul_zero, Int.zero_mul]
 repeat' (first | apply And.intro | intro _)
 refine hK39 _ ?_
 refine hN32 _ ?_
 refine rnd_forget [7, 12, 13, 14, 15, 16, 17, 18, 19, 20, 21, 22, 23, 24, 25, 26, 27, 28, 29] ?_
 simp only [go_sem, St.forget, fgt]
 refine rnd_k fun N40 M40 hN40 hM40 => ?_
 refine sr_k fun K41 hK41 => ?_
 simp only [go_sem, Int.reduceTMod, Int.toNat_one, Int.mul_zero, Int.zero_mul]
 repeat' (first | apply And.intro | intro _)
 refine hK41 _ ?_
 refine seq_k fun N42 M42 hN42 hM42 => ?_
 refine condT_k (by first | rfl | (simp [go_sem, Int.reduceTMod, Int.toNat_one, Int.mul_zero, Int.zero_mul]; done)) ?_
 refine skip_k ?_
 refine hN42 _ ?_
 refine seq_k fun N43 M43 hN43 hM43 => ?_
 refine block_k fun B44 bn44 bx44 br44 bi44 => ?_
 refine sr_k fun K45 hK45 => ?_
 simp only [go_sem, Int.reduceTMod, Int.toNat_one, Int.mul_zero, Int.zero_mul]
 repeat' (first | apply And.intro | intro _)
 refine hK45 _ ?_
 refine draw_k [14, 15, 16, 17, 18, 19, 20, 21, 22, 23, 24, 25, 26, 27, 28] [0, 0, 0, 0, 8, 0, 0, 96, 248, 504, 4, 2044, 4092, 1, 16383, 32767] [] mixed (by kernel_rfl) (by simp only [go_sem]) fun K46 hK46 => ?_
 simp only [go_sem, Int.reduceTMod, Int.toNat_one, Int.mul_zero, Int.zero_mul]
 repeat' (first | apply And.intro | intro _)
 refine hK46 _ _ trivial ?_
 refine bn44 _ ?_
 refine hN43 _ ?_
 refine region_k fun K47 hK47 => ?_
 simp only [go_sem, Int.reduceTMod, Int.toNat_one, Int.mul_zero, Int.zero_mul]
 repeat' (first | apply And.intro | intro _)
 refine hK47 _ ?_
 refine hN40 _ ?_
 refine rnd_forget [7, 12, 13, 14, 15, 16, 17, 18, 19, 20, 21, 22, 23, 24, 25, 26, 27, 28, 29] ?_
 simp only [go_sem, St.forget, fgt]
 refine rnd_k fun N48 M48 hN48 hM48 => ?_
 refine sr_k fun K49 hK49 => ?_
 simp only [go_sem, Int.reduceTMod, Int.toNat_one, Int.mul_zero, Int.zero_mul]
 repeat' (first | apply And.intro | intro _)
 refine hK49 _ ?_
 refine seq_k fun N50 M50 hN50 hM50 => ?_
 refine condF_k (by first | rfl | (simp [go_sem, Int.reduceTMod, Int.toNat_one, Int.mul_zero, Int.zero_mul]; done)) ?_
 refine exit_k ?_
 refine hM50 _ _ ?_
 refine hM48 _ _ ?_
 refine bx14 _ ?_
 refine bn11 _ ?_
 refine hN10 _ ?_
 refine region_k fun K51 hK51 => ?_
 simp only [go_sem, Int.reduceTMod, Int.toNat_one, Int.mul_zero, Int.zero_mul]
 repeat' (first | apply And.intro | intro _)
 refine hK51 _ ?_
 refine hN7 _ ?_
 refine rnd_forget [6, 7, 9, 10, 11, 12, 13, 14, 15, 16, 17, 18, 19, 20, 21, 22, 23, 24, 25, 26, 27, 28, 29, 30] ?_
 simp only [go_sem, St.forget, fgt]
 refine rnd_k fun N52 M52 hN52 hM52 => ?_
 refine sr_k fun K53 hK53 => ?_
 simp only [go_sem, Int.reduceTMod, Int.toNat_one, Int.mul_zero, Int.zero_mul]
 repeat' (first | apply And.intro | intro _)
 refine hK53 _ ?_
 refine seq_k fun N54 M54 hN54 hM54 => ?_
 refine condT_k (by first | rfl | (simp [go_sem, Int.reduceTMod, Int.toNat_one, Int.mul_zero, Int.zero_mul]; done)) ?_
 refine skip_k ?_
 refine hN54 _ ?_
 refine seq_k fun N55 M55 hN55 hM55 => ?_
 refine block_k fun B56 bn56 bx56 br56 bi56 => ?_
 refine sr_k fun K57 hK57 => ?_
 simp only [go_sem, Int.reduceTMod, Int.toNat_one, Int.mul_zero, Int.zero_mul]
 repeat' (first | apply And.intro | intro _)
 refine hK57 _ ?_
 refine sr_k fun K58 hK58 => ?_
 simp only [go_sem, Int.reduceTMod, Int.toNat_one, Int.mul_zero, Int.zero_mul]
 repeat' (first | apply And.intro | intro _)
 refine hK58 _ ?_
 refine block_k fun B59 bn59 bx59 br59 bi59 => ?_
 refine rounds_k 5 ?_
 refine rnd_k fun N61 M61 hN61 hM61 => ?_
 refine sr_k fun K62 hK62 => ?_
 simp only [go_sem, Int.reduceTMod, Int.toNat_one, Int.mul_zero, Int.zero_mul]
 repeat' (first | apply And.intro | intro _)
 refine hK62 _ ?_
 refine seq_k fun N63 M63 hN63 hM63 => ?_
 refine condT_k (by first | rfl | (simp [go_sem, Int.reduceTMod, Int.toNat_one, Int.mul_zero, Int.zero_mul]; done)) ?_
 refine skip_k ?_
 refine hN63 _ ?_
 refine seq_k fun N64 M64 hN64 hM64 => ?_
 refine block_k fun B65 bn65 bx65 br65 bi65 => ?_
 refine sr_k fun K66 hK66 => ?_
 simp only [go_sem, Int.reduceTMod, Int.toNat_one, Int.mul_zero, Int.zero_mul]
 repeat' (first | apply And.intro | intro _)
 refine hK66 _ ?_
 refine draw_k [14, 15, 16, 17, 18, 19, 20, 21, 22, 23, 24, 25, 26, 27, 28] [0, 0, 0, 0, 8, 0, 0, 96, 248, 504, 4, 2044, 4092, 1, 16383, 32767] [] mixed (by kernel_rfl) (by simp only [go_sem]) fun K67 hK67 => ?_
 simp only [go_sem, Int.reduceTMod, Int.toNat_one, Int.mul_zero, Int.zero_mul]
 repeat' (first | apply And.intro | intro _)
 refine hK67 _ _ trivial ?_
 refine bn65 _ ?_
 refine hN64 _ ?_
 refine region_k fun K68 hK68 => ?_
 simp only [go_sem, Int.reduceTMod, Int.toNat_one, Int.mul_zero, Int.zero_mul]
 repeat' (first | apply And.intro | intro _)
 refine hK68 _ ?_
 refine hN61 _ ?_
 refine rnd_forget [7, 12, 13, 14, 15, 16, 17, 18, 19, 20, 21, 22, 23, 24, 25, 26, 27, 28, 29] ?_
 simp only [go_sem, St.forget, fgt]
 refine rnd_k fun N69 M69 hN69 hM69 => ?_
 refine sr_k fun K70 hK70 => ?_
 simp only [go_sem, Int.reduceTMod, Int.toNat_one, Int.mul_zero, Int.zero_mul]
 repeat' (first | apply And.intro | intro _)
 refine hK70 _ ?_
 refine seq_k fun N71 M71 hN71 hM71 => ?_
 refine condT_k (by first | rfl | (simp [go_sem, Int.reduceTMod, Int.toNat_one, Int.mul_zero, Int.zero_mul]; done)) ?_
 refine skip_k ?_
 refine hN71 _ ?_
 refine seq_k fun N72 M72 hN72 hM72 => ?_
 refine block_k fun B73 bn73 bx73 br73 bi73 => ?_
 refine sr_k fun K74 hK74 => ?_
 simp only [go_sem, Int.reduceTMod, Int.toNat_one, Int.mul_zero, Int.zero_mul]
 repeat' (first | apply And.intro | intro _)
 refine hK74 _ ?_
 refine draw_k [14, 15, 16, 17, 18, 19, 20, 21, 22, 23, 24, 25, 26, 27, 28] [0, 0, 0, 0, 8, 0, 0, 96, 248, 504, 4, 2044, 4092, 1, 16383, 32767] [] mixed (by kernel_rfl) (by simp only [go_sem]) fun K75 hK75 => ?_
 simp only [go_sem, Int.reduceTMod, Int.toNat_one, Int.mul_zero, Int.zero_mul]
 repeat' (first | apply And.intro | intro _)
 refine hK75 _ _ trivial ?_
 refine bn73 _ ?_
 refine hN72 _ ?_
 refine region_k fun K76 hK76 => ?_
 simp only [go_sem, Int.reduceTMod, Int.toNat_one, Int.mul_zero, Int.zero_mul]
 repeat' (first | apply And.intro | intro _)
 refine hK76 _ ?_
 refine hN69 _ ?_
 refine rnd_forget [7, 12, 13, 14, 15, 16, 17, 18, 19, 20, 21, 22, 23, 24, 25, 26, 27, 28, 29] ?_
 simp only [go_sem, St.forget, fgt]
 refine rnd_k fun N77 M77 hN77 hM77 => ?_
 refine sr_k fun K78 hK78 => ?_
 simp only [go_sem, Int.reduceTMod, Int.toNat_one, Int.mul_zero, Int.zero_mul]
 repeat' (first | apply And.intro | intro _)
 refine hK78 _ ?_
 refine seq_k fun N79 M79 hN79 hM79 => ?_
 refine condT_k (by first | rfl | (simp [go_sem, Int.reduceTMod, Int.toNat_one, Int.mul_zero, Int.zero_mul]; done)) ?_
 refine skip_k ?_
 refine hN79 _ ?_
 refine seq_k fun N80 M80 hN80 hM80 => ?_
 refine block_k fun B81 bn81 bx81 br81 bi81 => ?_
 refine sr_k fun K82 hK82 => ?_
 simp only [go_sem, Int.reduceTMod, Int.toNat_one, Int.mul_zero, Int.zero_mul]
 repeat' (first | apply And.intro | intro _)
 refine hK82 _ ?_
 refine draw_k [14, 15, 16, 17, 18, 19, 20, 21, 22, 23, 24, 25, 26, 27, 28] [0, 0, 0, 0, 8, 0, 0, 96, 248, 504, 4, 2044, 4092, 1, 16383, 32767] [] mixed (by kernel_rfl) (by simp only [go_sem]) fun K83 hK83 => ?_
 simp only [go_sem, Int.reduceTMod, Int.toNat_one, Int.mul_zero, Int.zero_mul]
 repeat' (first | apply And.intro | intro _)
 refine hK83 _ _ trivial ?_
 refine bn81 _ ?_
 refine hN80 _ ?_
 refine region_k fun K84 hK84 => ?_
 simp only [go_sem, Int.reduceTMod, Int.toNat_one, Int.mul_zero, Int.zero_mul]
 repeat' (first | apply And.intro | intro _)
 refine hK84 _ ?_
 refine hN77 _ ?_
 refine rnd_forget [7, 12, 13, 14, 15, 16, 17, 18, 19, 20, 21, 22, 23, 24, 25, 26, 27, 28, 29] ?_
 simp only [go_sem, St.forget, fgt]
 refine rnd_k fun N85 M85 hN85 hM85 => ?_
 refine sr_k fun K86 hK86 => ?_
 simp only [go_sem, Int.reduceTMod, Int.toNat_one, Int.mul_zero, Int.zero_mul]
 repeat' (first | apply And.intro | intro _)
 refine hK86 _ ?_
 refine seq_k fun N87 M87 hN87 hM87 => ?_
 refine condT_k (by first | rfl | (simp [go_sem, Int.reduceTMod, Int.toNat_one, Int.mul_zero, Int.zero_mul]; done)) ?_
 refine skip_k ?_
 refine hN87 _ ?_
 refine seq_k fun N88 M88 hN88 hM88 => ?_
 refine block_k fun B89 bn89 bx89 br89 bi89 => ?_
 refine sr_k fun K90 hK90 => ?_
 simp only [go_sem, Int.reduceTMod, Int.toNat_one, Int.mul_zero, Int.zero_mul]
 repeat' (first | apply And.intro | intro _)
 refine hK90 _ ?_
 refine draw_k [14, 15, 16, 17, 18, 19, 20, 21, 22, 23, 24, 25, 26, 27, 28] [0, 0, 0, 0, 8, 0, 0, 96, 248, 504, 4, 2044, 4092, 1, 16383, 32767] [] mixed (by kernel_rfl) (by simp only [go_sem]) fun K91 hK91 => ?_
 simp only [go_sem, Int.reduceTMod, Int.toNat_one, Int.mul_zero, Int.zero_mul]
 repeat' (first | apply And.intro | intro _)
 refine hK91 _ _ trivial ?_
 refine bn89 _ ?_
 refine hN88 _ ?_
 refine region_k fun K92 hK92 => ?_
 simp only [go_sem, Int.reduceTMod, Int.toNat_one, Int.mul_zero, Int.zero_mul]
 repeat' (first | apply And.intro | intro _)
 refine hK92 _ ?_
 refine hN85 _ ?_
 refine rnd_forget [7, 12, 13, 14, 15, 16, 17, 18, 19, 20, 21, 22, 23, 24, 25, 26, 27, 28, 29] ?_
 simp only [go_sem, St.forget, fgt]
 refine rnd_k fun N93 M93 hN93 hM93 => ?_
 refine sr_k fun K94 hK94 => ?_
 simp only [go_sem, Int.reduceTMod, Int.toNat_one, Int.mul_zero, Int.zero_mul]
 repeat' (first | apply And.intro | intro _)
 refine hK94 _ ?_
 refine seq_k fun N95 M95 hN95 hM95 => ?_
 refine condF_k (by first | rfl | (simp [go_sem, Int.reduceTMod, Int.toNat_one, Int.mul_zero, Int.zero_mul]; done)) ?_
 refine exit_k ?_
 refine hM95 _ _ ?_
 refine hM93 _ _ ?_
 refine bx59 _ ?_
 refine bn56 _ ?_
 refine hN55 _ ?_
 refine region_k fun K96 hK96 => ?_
 simp only [go_sem, Int.reduceTMod, Int.toNat_one, Int.mul_zero, Int.zero_mul]
 repeat' (first | apply And.intro | intro _)
 refine hK96 _ ?_
 refine hN52 _ ?_
 refine rnd_forget [6, 7, 9, 10, 11, 12, 13, 14, 15, 16, 17, 18, 19, 20, 21, 22, 23, 24, 25, 26, 27, 28, 29, 30] ?_
 simp only [go_sem, St.forget, fgt]
 refine rnd_k fun N97 M97 hN97 hM97 => ?_
 refine sr_k fun K98 hK98 => ?_
 simp only [go_sem, Int.reduceTMod, Int.toNat_one, Int.mul_zero, Int.zero_mul]
 repeat' (first | apply And.intro | intro _)
 refine hK98 _ ?_
 refine seq_k fun N99 M99 hN99 hM99 => ?_
 refine condT_k (by first | rfl | (simp [go_sem, Int.reduceTMod, Int.toNat_one, Int.mul_zero, Int.zero_mul]; done)) ?_
 refine skip_k ?_
 refine hN99 _ ?_
 refine seq_k fun N100 M100 hN100 hM100 => ?_
 refine block_k fun B101 bn101 bx101 br101 bi101 => ?_
 refine sr_k fun K102 hK102 => ?_
 simp only [go_sem, Int.reduceTMod, Int.toNat_one, Int.mul_zero, Int.zero_mul]
 repeat' (first | apply And.intro | intro _)
 refine hK102 _ ?_
 refine sr_k fun K103 hK103 => ?_
 simp only [go_sem, Int.reduceTMod, Int.toNat_one, Int.mul_zero, Int.zero_mul]
 repeat' (first | apply And.intro | intro _)
 refine hK103 _ ?_
 refine block_k fun B104 bn104 bx104 br104 bi104 => ?_
 refine rounds_k 5 ?_
 refine rnd_k fun N106 M106 hN106 hM106 => ?_
 refine sr_k fun K107 hK107 => ?_
 simp only [go_sem, Int.reduceTMod, Int.toNat_one, Int.mul_zero, Int.zero_mul]
 repeat' (first | apply And.intro | intro _)
 refine hK107 _ ?_
 refine seq_k fun N108 M108 hN108 hM108 => ?_
 refine condT_k (by first | rfl | (simp [go_sem, Int.reduceTMod, Int.toNat_one, Int.mul_zero, Int.zero_mul]; done)) ?_
 refine skip_k ?_
 refine hN108 _ ?_
 refine seq_k fun N109 M109 hN109 hM109 => ?_
 refine block_k fun B110 bn110 bx110 br110 bi110 => ?_
 refine sr_k fun K111 hK111 => ?_
 simp only [go_sem, Int.reduceTMod, Int.toNat_one, Int.mul_zero, Int.zero_mul]
 repeat' (first | apply And.intro | intro _)
 refine hK111 _ ?_
 refine draw_k [14, 15, 16, 17, 18, 19, 20, 21, 22, 23, 24, 25, 26, 27, 28] [0, 0, 0, 0, 8, 0, 0, 96, 248, 504, 4, 2044, 4092, 1, 16383, 32767] [] mixed (by kernel_rfl) (by simp only [go_sem]) fun K112 hK112 => ?_
 simp only [go_sem, Int.reduceTMod, Int.toNat_one, Int.mul_zero, Int.zero_mul]
 repeat' (first | apply And.intro | intro _)
 refine hK112 _ _ trivial ?_
 refine bn110 _ ?_
 refine hN109 _ ?_
 refine region_k fun K113 hK113 => ?_
 simp only [go_sem, Int.reduceTMod, Int.toNat_one, Int.mul_zero, Int.zero_mul]
 repeat' (first | apply And.intro | intro _)
 refine hK113 _ ?_
 refine hN106 _ ?_
 refine rnd_forget [7, 12, 13, 14, 15, 16, 17, 18, 19, 20, 21, 22, 23, 24, 25, 26, 27, 28, 29] ?_
 simp only [go_sem, St.forget, fgt]
 refine rnd_k fun N114 M114 hN114 hM114 => ?_
 refine sr_k fun K115 hK115 => ?_
 simp only [go_sem, Int.reduceTMod, Int.toNat_one, Int.mul_zero, Int.zero_mul]
 repeat' (first | apply And.intro | intro _)
 refine hK115 _ ?_
 refine seq_k fun N116 M116 hN116 hM116 => ?_
 refine condT_k (by first | rfl | (simp [go_sem, Int.reduceTMod, Int.toNat_one, Int.mul_zero, Int.zero_mul]; done)) ?_
 refine skip_k ?_
 refine hN116 _ ?_
 refine seq_k fun N117 M117 hN117 hM117 => ?_
 refine block_k fun B118 bn118 bx118 br118 bi118 => ?_
 refine sr_k fun K119 hK119 => ?_
 simp only [go_sem, Int.reduceTMod, Int.toNat_one, Int.mul_zero, Int.zero_mul]
 repeat' (first | apply And.intro | intro _)
 refine hK119 _ ?_
 refine draw_k [14, 15, 16, 17, 18, 19, 20, 21, 22, 23, 24, 25, 26, 27, 28] [0, 0, 0, 0, 8, 0, 0, 96, 248, 504, 4, 2044, 4092, 1, 16383, 32767] [] mixed (by kernel_rfl) (by simp only [go_sem]) fun K120 hK120 => ?_
 simp only [go_sem, Int.reduceTMod, Int.toNat_one, Int.mul_zero, Int.zero_mul]
 repeat' (first | apply And.intro | intro _)
 refine hK120 _ _ trivial ?_
 refine bn118 _ ?_
 refine hN117 _ ?_
 refine region_k fun K121 hK121 => ?_
 simp only [go_sem, Int.reduceTMod, Int.toNat_one, Int.mul_zero, Int.zero_mul]
 repeat' (first | apply And.intro | intro _)
 refine hK121 _ ?_
 refine hN114 _ ?_
 refine rnd_forget [7, 12, 13, 14, 15, 16, 17, 18, 19, 20, 21, 22, 23, 24, 25, 26, 27, 28, 29] ?_
 simp only [go_sem, St.forget, fgt]
 refine rnd_k fun N122 M122 hN122 hM122 => ?_
 refine sr_k fun K123 hK123 => ?_
 simp only [go_sem, Int.reduceTMod, Int.toNat_one, Int.mul_zero, Int.zero_mul]
 repeat' (first | apply And.intro | intro _)
 refine hK123 _ ?_
 refine seq_k fun N124 M124 hN124 hM124 => ?_
 refine condT_k (by first | rfl | (simp [go_sem, Int.reduceTMod, Int.toNat_one, Int.mul_zero, Int.zero_mul]; done)) ?_
 refine skip_k ?_
 refine hN124 _ ?_
 refine seq_k fun N125 M125 hN125 hM125 => ?_
 refine block_k fun B126 bn126 bx126 br126 bi126 => ?_
 refine sr_k fun K127 hK127 => ?_
 simp only [go_sem, Int.reduceTMod, Int.toNat_one, Int.mul_zero, Int.zero_mul]
 repeat' (first | apply And.intro | intro _)
 refine hK127 _ ?_
 refine draw_k [14, 15, 16, 17, 18, 19, 20, 21, 22, 23, 24, 25, 26, 27, 28] [0, 0, 0, 0, 8, 0, 0, 96, 248, 504, 4, 2044, 4092, 1, 16383, 32767] [] mixed (by kernel_rfl) (by simp only [go_sem]) fun K128 hK128 => ?_
 simp only [go_sem, Int.reduceTMod, Int.toNat_one, Int.mul_zero, Int.zero_mul]
 repeat' (first | apply And.intro | intro _)
 refine hK128 _ _ trivial ?_
 refine bn126 _ ?_
 refine hN125 _ ?_
 refine region_k fun K129 hK129 => ?_
 simp only [go_sem, Int.reduceTMod, Int.toNat_one, Int.mul_zero, Int.zero_mul]
 repeat' (first | apply And.intro | intro _)
 refine hK129 _ ?_
 refine hN122 _ ?_
 refine rnd_forget [7, 12, 13, 14, 15, 16, 17, 18, 19, 20, 21, 22, 23, 24, 25, 26, 27, 28, 29] ?_
 simp only [go_sem, St.forget, fgt]
 refine rnd_k fun N130 M130 hN130 hM130 => ?_
 refine sr_k fun K131 hK131 => ?_
 simp only [go_sem, Int.reduceTMod, Int.toNat_one, Int.mul_zero, Int.zero_mul]
 repeat' (first | apply And.intro | intro _)
 refine hK131 _ ?_
 refine seq_k fun N132 M132 hN132 hM132 => ?_
 refine condT_k (by first | rfl | (simp [go_sem, Int.reduceTMod, Int.toNat_one, Int.mul_zero, Int.zero_mul]; done)) ?_
 refine skip_k ?_
 refine hN132 _ ?_
 refine seq_k fun N133 M133 hN133 hM133 => ?_
 refine block_k fun B134 bn134 bx134 br134 bi134 => ?_
 refine sr_k fun K135 hK135 => ?_
 simp only [go_sem, Int.reduceTMod, Int.toNat_one, Int.mul_zero, Int.zero_mul]
 repeat' (first | apply And.intro | intro _)
 refine hK135 _ ?_
 refine draw_k [14, 15, 16, 17, 18, 19, 20, 21, 22, 23, 24, 25, 26, 27, 28] [0, 0, 0, 0, 8, 0, 0, 96, 248, 504, 4, 2044, 4092, 1, 16383, 32767] [] mixed (by kernel_rfl) (by simp only [go_sem]) fun K136 hK136 => ?_
 simp only [go_sem, Int.reduceTMod, Int.toNat_one, Int.mul_zero, Int.zero_mul]
 repeat' (first | apply And.intro | intro _)
 refine hK136 _ _ trivial ?_
 refine bn134 _ ?_
 refine hN133 _ ?_
 refine region_k fun K137 hK137 => ?_
 simp only [go_sem, Int.reduceTMod, Int.toNat_one, Int.mul_zero, Int.zero_mul]
 repeat' (first | apply And.intro | intro _)
 refine hK137 _ ?_
 refine hN130 _ ?_
 refine rnd_forget [7, 12, 13, 14, 15, 16, 17, 18, 19, 20, 21, 22, 23, 24, 25, 26, 27, 28, 29] ?_
 simp only [go_sem, St.forget, fgt]
 refine rnd_k fun N138 M138 hN138 hM138 => ?_
 refine sr_k fun K139 hK139 => ?_
 simp only [go_sem, Int.reduceTMod, Int.toNat_one, Int.mul_zero, Int.zero_mul]
 repeat' (first | apply And.intro | intro _)
 refine hK139 _ ?_
 refine seq_k fun N140 M140 hN140 hM140 => ?_
 refine condF_k (by first | rfl | (simp [go_sem, Int.reduceTMod, Int.toNat_one, Int.mul_zero, Int.zero_mul]; done)) ?_
 refine exit_k ?_
 refine hM140 _ _ ?_
 refine hM138 _ _ ?_
 refine bx104 _ ?_
 refine bn101 _ ?_
 refine hN100 _ ?_
 refine region_k fun K141 hK141 => ?_
 simp only [go_sem, Int.reduceTMod, Int.toNat_one, Int.mul_zero, Int.zero_mul]
 repeat' (first | apply And.intro | intro _)
 refine hK141 _ ?_
 refine hN97 _ ?_
 refine rnd_forget [6, 7, 9, 10, 11, 12, 13, 14, 15, 16, 17, 18, 19, 20, 21, 22, 23, 24, 25, 26, 27, 28, 29, 30] ?_
 simp only [go_sem, St.forget, fgt]
 refine rnd_k fun N142 M142 hN142 hM142 => ?_
 refine sr_k fun K143 hK143 => ?_
 simp only [go_sem, Int.reduceTMod, Int.toNat_one, Int.mul_zero, Int.zero_mul]
 repeat' (first | apply And.intro | intro _)
 refine hK143 _ ?_
 refine seq_k fun N144 M144 hN144 hM144 => ?_
 refine condT_k (by first | rfl | (simp [go_sem, Int.reduceTMod, Int.toNat_one, Int.mul_zero, Int.zero_mul]; done)) ?_
 refine skip_k ?_
 refine hN144 _ ?_
 refine seq_k fun N145 M145 hN145 hM145 => ?_
 refine block_k fun B146 bn146 bx146 br146 bi146 => ?_
 refine sr_k fun K147 hK147 => ?_
 simp only [go_sem, Int.reduceTMod, Int.toNat_one, Int.mul_zero, Int.zero_mul]
 repeat' (first | apply And.intro | intro _)
 refine hK147 _ ?_
 refine sr_k fun K148 hK148 => ?_
 simp only [go_sem, Int.reduceTMod, Int.toNat_one, Int.mul_zero, Int.zero_mul]
 repeat' (first | apply And.intro | intro _)
 refine hK148 _ ?_
 refine block_k fun B149 bn149 bx149 br149 bi149 => ?_
 refine rounds_k 5 ?_
 refine rnd_k fun N151 M151 hN151 hM151 => ?_
 refine sr_k fun K152 hK152 => ?_
 simp only [go_sem, Int.reduceTMod, Int.toNat_one, Int.mul_zero, Int.zero_mul]
 repeat' (first | apply And.intro | intro _)
 refine hK152 _ ?_
 refine seq_k fun N153 M153 hN153 hM153 => ?_
 refine condT_k (by first | rfl | (simp [go_sem, Int.reduceTMod, Int.toNat_one, Int.mul_zero, Int.zero_mul]; done)) ?_
 refine skip_k ?_
 refine hN153 _ ?_
 refine seq_k fun N154 M154 hN154 hM154 => ?_
 refine block_k fun B155 bn155 bx155 br155 bi155 => ?_
 refine sr_k fun K156 hK156 => ?_
 simp only [go_sem, Int.reduceTMod, Int.toNat_one, Int.mul_zero, Int.zero_mul]
 repeat' (first | apply And.intro | intro _)
 refine hK156 _ ?_
 refine draw_k [14, 15, 16, 17, 18, 19, 20, 21, 22, 23, 24, 25, 26, 27, 28] [0, 0, 0, 0, 8, 0, 0, 96, 248, 504, 4, 2044, 4092, 1, 16383, 32767] [] mixed (by kernel_rfl) (by simp only [go_sem]) fun K157 hK157 => ?_
 simp only [go_sem, Int.reduceTMod, Int.toNat_one, Int.mul_zero, Int.zero_mul]
 repeat' (first | apply And.intro | intro _)
 refine hK157 _ _ trivial ?_
 refine bn155 _ ?_
 refine hN154 _ ?_
 refine region_k fun K158 hK158 => ?_
 simp only [go_sem, Int.reduceTMod, Int.toNat_one, Int.mul_zero, Int.zero_mul]
 repeat' (first | apply And.intro | intro _)
 refine hK158 _ ?_
 refine hN151 _ ?_
 refine rnd_forget [7, 12, 13, 14, 15, 16, 17, 18, 19, 20, 21, 22, 23, 24, 25, 26, 27, 28, 29] ?_
 simp only [go_sem, St.forget, fgt]
 refine rnd_k fun N159 M159 hN159 hM159 => ?_
 refine sr_k fun K160 hK160 => ?_
 simp only [go_sem, Int.reduceTMod, Int.toNat_one, Int.mul_zero, Int.zero_mul]
 repeat' (first | apply And.intro | intro _)
 refine hK160 _ ?_
 refine seq_k fun N161 M161 hN161 hM161 => ?_
 refine condT_k (by first | rfl | (simp [go_sem, Int.reduceTMod, Int.toNat_one, Int.mul_zero, Int.zero_mul]; done)) ?_
 refine skip_k ?_
 refine hN161 _ ?_
 refine seq_k fun N162 M162 hN162 hM162 => ?_
 refine block_k fun B163 bn163 bx163 br163 bi163 => ?_
 refine sr_k fun K164 hK164 => ?_
 simp only [go_sem, Int.reduceTMod, Int.toNat_one, Int.mul_zero, Int.zero_mul]
 repeat' (first | apply And.intro | intro _)
 refine hK164 _ ?_
 refine draw_k [14, 15, 16, 17, 18, 19, 20, 21, 22, 23, 24, 25, 26, 27, 28] [0, 0, 0, 0, 8, 0, 0, 96, 248, 504, 4, 2044, 4092, 1, 16383, 32767] [] mixed (by kernel_rfl) (by simp only [go_sem]) fun K165 hK165 => ?_
 simp only [go_sem, Int.reduceTMod, Int.toNat_one, Int.mul_zero, Int.zero_mul]
 repeat' (first | apply And.intro | intro _)
 refine hK165 _ _ trivial ?_
 refine bn163 _ ?_
 refine hN162 _ ?_
 refine region_k fun K166 hK166 => ?_
 simp only [go_sem, Int.reduceTMod, Int.toNat_one, Int.mul_zero, Int.zero_mul]
 repeat' (first | apply And.intro | intro _)
 refine hK166 _ ?_
 refine hN159 _ ?_
 refine rnd_forget [7, 12, 13, 14, 15, 16, 17, 18, 19, 20, 21, 22, 23, 24, 25, 26, 27, 28, 29] ?_
 simp only [go_sem, St.forget, fgt]
 refine rnd_k fun N167 M167 hN167 hM167 => ?_
 refine sr_k fun K168 hK168 => ?_
 simp only [go_sem, Int.reduceTMod, Int.toNat_one, Int.mul_zero, Int.zero_mul]
 repeat' (first | apply And.intro | intro _)
 refine hK168 _ ?_
 refine seq_k fun N169 M169 hN169 hM169 => ?_
 refine condT_k (by first | rfl | (simp [go_sem, Int.reduceTMod, Int.toNat_one, Int.mul_zero, Int.zero_mul]; done)) ?_
 refine skip_k ?_
 refine hN169 _ ?_
 refine seq_k fun N170 M170 hN170 hM170 => ?_
 refine block_k fun B171 bn171 bx171 br171 bi171 => ?_
 refine sr_k fun K172 hK172 => ?_
 simp only [go_sem, Int.reduceTMod, Int.toNat_one, Int.mul_zero, Int.zero_mul]
 repeat' (first | apply And.intro | intro _)
 refine hK172 _ ?_
 refine draw_k [14, 15, 16, 17, 18, 19, 20, 21, 22, 23, 24, 25, 26, 27, 28] [0, 0, 0, 0, 8, 0, 0, 96, 248, 504, 4, 2044, 4092, 1, 16383, 32767] [] mixed (by kernel_rfl) (by simp only [go_sem]) fun K173 hK173 => ?_
 simp only [go_sem, Int.reduceTMod, Int.toNat_one, Int.mul_zero, Int.zero_mul]
 repeat' (first | apply And.intro | intro _)
 refine hK173 _ _ trivial ?_
 refine bn171 _ ?_
 refine hN170 _ ?_
 refine region_k fun K174 hK174 => ?_
 simp only [go_sem, Int.reduceTMod, Int.toNat_one, Int.mul_zero, Int.zero_mul]
 repeat' (first | apply And.intro | intro _)
 refine hK174 _ ?_
 refine hN167 _ ?_
 refine rnd_forget [7, 12, 13, 14, 15, 16, 17, 18, 19, 20, 21, 22, 23, 24, 25, 26, 27, 28, 29] ?_
 simp only [go_sem, St.forget, fgt]
 refine rnd_k fun N175 M175 hN175 hM175 => ?_
 refine sr_k fun K176 hK176 => ?_
 simp only [go_sem, Int.reduceTMod, Int.toNat_one, Int.mul_zero, Int.zero_mul]
 repeat' (first | apply And.intro | intro _)
 refine hK176 _ ?_
 refine seq_k fun N177 M177 hN177 hM177 => ?_
 refine condT_k (by first | rfl | (simp [go_sem, Int.reduceTMod, Int.toNat_one, Int.mul_zero, Int.zero_mul]; done)) ?_
 refine skip_k ?_
 refine hN177 _ ?_
 refine seq_k fun N178 M178 hN178 hM178 => ?_
 refine block_k fun B179 bn179 bx179 br179 bi179 => ?_
 refine sr_k fun K180 hK180 => ?_
 simp only [go_sem, Int.reduceTMod, Int.toNat_one, Int.mul_zero, Int.zero_mul]
 repeat' (first | apply And.intro | intro _)
 refine hK180 _ ?_
 refine draw_k [14, 15, 16, 17, 18, 19, 20, 21, 22, 23, 24, 25, 26, 27, 28] [0, 0, 0, 0, 8, 0, 0, 96, 248, 504, 4, 2044, 4092, 1, 16383, 32767] [] mixed (by kernel_rfl) (by simp only [go_sem]) fun K181 hK181 => ?_
 simp only [go_sem, Int.reduceTMod, Int.toNat_one, Int.mul_zero, Int.zero_mul]
 repeat' (first | apply And.intro | intro _)
 refine hK181 _ _ trivial ?_
 refine bn179 _ ?_
 refine hN178 _ ?_
 refine region_k fun K182 hK182 => ?_
 simp only [go_sem, Int.reduceTMod, Int.toNat_one, Int.mul_zero, Int.zero_mul]
 repeat' (first | apply And.intro | intro _)
 refine hK182 _ ?_
 refine hN175 _ ?_
 refine rnd_forget [7, 12, 13, 14, 15, 16, 17, 18, 19, 20, 21, 22, 23, 24, 25, 26, 27, 28, 29] ?_
 simp only [go_sem, St.forget, fgt]
 refine rnd_k fun N183 M183 hN183 hM183 => ?_
 refine sr_k fun K184 hK184 => ?_
 simp only [go_sem, Int.reduceTMod, Int.toNat_one, Int.mul_zero, Int.zero_mul]
 repeat' (first | apply And.intro | intro _)
 refine hK184 _ ?_
 refine seq_k fun N185 M185 hN185 hM185 => ?_
 refine condF_k (by first | rfl | (simp [go_sem, Int.reduceTMod, Int.toNat_one, Int.mul_zero, Int.zero_mul]; done)) ?_
 refine exit_k ?_
 refine hM185 _ _ ?_
 refine hM183 _ _ ?_
 refine bx149 _ ?_
 refine bn146 _ ?_
 refine hN145 _ ?_
 refine region_k fun K186 hK186 => ?_
 simp only [go_sem, Int.reduceTMod, Int.toNat_one, Int.mul_zero, Int.zero_mul]
 repeat' (first | apply And.intro | intro _)
 refine hK186 _ ?_
 refine hN142 _ ?_
 refine rnd_forget [6, 7, 9, 10, 11, 12, 13, 14, 15, 16, 17, 18, 19, 20, 21, 22, 23, 24, 25, 26, 27, 28, 29, 30] ?_
 simp only [go_sem, St.forget, fgt]
 refine rnd_k fun N187 M187 hN187 hM187 => ?_
 refine sr_k fun K188 hK188 => ?_
 simp only [go_sem, Int.reduceTMod, Int.toNat_one, Int.mul_zero, Int.zero_mul]
 repeat' (first | apply And.intro | intro _)
 refine hK188 _ ?_
 refine seq_k fun N189 M189 hN189 hM189 => ?_
 refine condF_k (by first | rfl | (simp [go_sem, Int.reduceTMod, Int.toNat_one, Int.mul_zero, Int.zero_mul]; done)) ?_
 refine exit_k ?_
 refine hM189 _ _ ?_
 refine hM187 _ _ ?_
 refine bx5 _ ?_
 refine hN3 _ ?_
 refine sr_k fun K190 hK190 => ?_
 simp only [go_sem, Int.reduceTMod, Int.toNat_one, Int.mul_zero, Int.zero_mul]
 repeat' (first | apply And.intro | intro _)
 refine hK190 _ ?_
 refine ret_k ?_
 simp only [go_sem, Int.reduceTMod, Int.toNat_one, Int.mul_zero, Int.zero_mul]
 all_goals (rfl)
set_option maxHeartbeats 1600000 in
set_option maxRecDepth 100000 in
theorem shifted_m (x0 x1 x2 x3 x4 x5 x6 x7 x8 x9 x10 x11 x12 x13 x14 x15 : UInt32) :
 Ct Tryd.prog 49 [.w (.agg [.pl (.u32 x0), .pl (.u32 x1), .pl (.u32 x2), .pl (.u32 x3), .pl (.u32 x4), .pl (.u32 x5), .pl (.u32 x6), .pl (.u32 x7), .pl (.u32 x8), .pl (.u32 x9), .pl (.u32 x10), .pl (.u32 x11), .pl (.u32 x12), .pl (.u32 x13), .pl (.u32 x14), .pl (.u32 x15)]), .w (.one (.pl (.i (-1))))] (fun v m => v = .w (.agg (⟨x0, x1, x2, x3, x4, x5, x6, x7, x8, x9, x10, x11, x12, x13, x14, x15⟩ : W16).unsh.ls)) := by
 refine Ct.k Tryd.func49 rfl Tryd.ntmps49 (congrArg Array.toList Tryd.results49) (by simp) fun w0 ro => ?_
 refine sr_k fun K1 hK1 => ?_
 simp only [go_sem, Int.reduceTMod, Int.toNat_one, Int.mul_zero, Int.zero_mul]
 repeat' (first | apply And.intro | intro _)
 refine hK1 _ ?_
 refine sr_k fun K2 hK2 => ?_
 simp only [go_sem, Int.reduceTMod, Int.toNat_one, Int.mul_zero, Int.zero_mul]
 repeat' (first | apply And.intro | intro _)
 refine hK2 _ ?_
 refine seq_k fun N3 M3 hN3 hM3 => ?_
 refine sr_k fun K4 hK4 => ?_
 simp only [go_sem, Int.reduceTMod, Int.toNat_one, Int.mul_zero, Int.zero_mul]
 repeat' (first | apply And.intro | intro _)
 refine hK4 _ ?_
 refine block_k fun B5 bn5 bx5 br5 bi5 => ?_
 refine rounds_k 5 ?_
 refine rnd_k fun N7 M7 hN7 hM7 => ?_
 refine sr_k fun K8 hK8 => ?_
 simp only [go_sem, Int.reduceTMod, Int.toNat_one, Int.mul_zero, Int.zero_mul]
 repeat' (first | apply And.intro | intro _)
 refine hK8 _ ?_
 refine seq_k fun N9 M9 hN9 hM9 => ?_
 refine condT_k (by first | rfl | (simp [go_sem, Int.reduceTMod, Int.toNat_one, Int.mul_zero, Int.zero_mul]; done)) ?_
 refine skip_k ?_
 refine hN9 _ ?_
 refine seq_k fun N10 M10 hN10 hM10 => ?_
 refine block_k fun B11 bn11 bx11 br11 bi11 => ?_
 refine sr_k fun K12 hK12 => ?_
 simp only [go_sem, Int.reduceTMod, Int.toNat_one, Int.mul_zero, Int.zero_mul]
 repeat' (first | apply And.intro | intro _)
 refine hK12 _ ?_
 refine sr_k fun K13 hK13 => ?_
 simp only [go_sem, Int.reduceTMod, Int.toNat_one, Int.mul_zero, Int.zero_mul]
 repeat' (first | apply And.intro | intro _)
 refine hK13 _ ?_
 refine block_k fun B14 bn14 bx14 br14 bi14 => ?_
 refine rounds_k 5 ?_
 refine rnd_k fun N16 M16 hN16 hM16 => ?_
 refine sr_k fun K17 hK17 => ?_
 simp only [go_sem, Int.reduceTMod, Int.toNat_one, Int.mul_zero, Int.zero_mul]
 repeat' (first | apply And.intro | intro _)
 refine hK17 _ ?_
 refine seq_k fun N18 M18 hN18 hM18 => ?_
 refine condT_k (by first | rfl | (simp [go_sem, Int.reduceTMod, Int.toNat_one, Int.mul_zero, Int.zero_mul]; done)) ?_
 refine skip_k ?_
 refine hN18 _ ?_
 refine seq_k fun N19 M19 hN19 hM19 => ?_
 refine block_k fun B20 bn20 bx20 br20 bi20 => ?_
 refine sr_k fun K21 hK21 => ?_
 simp only [go_sem, Int.reduceTMod, Int.toNat_one, Int.mul_zero, Int.zero_mul]
 repeat' (first | apply And.intro | intro _)
 refine hK21 _ ?_
 refine draw_k [14, 15, 16, 17, 18, 19, 20, 21, 22, 23, 24, 25, 26, 27, 28] [0, 0, 0, 0, 8, 0, 0, 96, 248, 504, 4, 2044, 4092, 1, 16383, 32767] [] mixed (by kernel_rfl) (by simp only [go_sem]) fun K22 hK22 => ?_
 simp only [go_sem, Int.reduceTMod, Int.toNat_one, Int.mul_zero, Int.zero_mul]
 repeat' (first | apply And.intro | intro _)
 refine hK22 _ _ trivial ?_
 refine bn20 _ ?_
 refine hN19 _ ?_
 refine region_k fun K23 hK23 => ?_
 simp only [go_sem, Int.reduceTMod, Int.toNat_one, Int.mul_zero, Int.zero_mul]
 repeat' (first | apply And.intro | intro _)
 refine hK23 _ ?_
 refine hN16 _ ?_
 refine rnd_forget [7, 12, 13, 14, 15, 16, 17, 18, 19, 20, 21, 22, 23, 24, 25, 26, 27, 28, 29] ?_
 simp only [go_sem, St.forget, fgt]
 refine rnd_k fun N24 M24 hN24 hM24 => ?_
 refine sr_k fun K25 hK25 => ?_
 simp only [go_sem, Int.reduceTMod, Int.toNat_one, Int.mul_zero, Int.zero_mul]
 repeat' (first | apply And.intro | intro _)
 refine hK25 _ ?_
 refine seq_k fun N26 M26 hN26 hM26 => ?_
 refine condT_k (by first | rfl | (simp [go_sem, Int.reduceTMod, Int.toNat_one, Int.mul_zero, Int.zero_mul]; done)) ?_
 refine skip_k ?_
 refine hN26 _ ?_
 refine seq_k fun N27 M27 hN27 hM27 => ?_
 refine block_k fun B28 bn28 bx28 br28 bi28 => ?_
 refine sr_k fun K29 hK29 => ?_
 simp only [go_sem, Int.reduceTMod, Int.toNat_one, Int.mul_zero, Int.zero_mul]
 repeat' (first | apply And.intro | intro _)
 refine hK29 _ ?_
 refine draw_k [14, 15, 16, 17, 18, 19, 20, 21, 22, 23, 24, 25, 26, 27, 28] [0, 0, 0, 0, 8, 0, 0, 96, 248, 504, 4, 2044, 4092, 1, 16383, 32767] [] mixed (by kernel_rfl) (by simp only [go_sem]) fun K30 hK30 => ?_
 simp only [go_sem, Int.reduceTMod, Int.toNat_one, Int.mul_zero, Int.zero_mul]
 repeat' (first | apply And.intro | intro _)
 refine hK30 _ _ trivial ?_
 refine bn28 _ ?_
 refine hN27 _ ?_
 refine region_k fun K31 hK31 => ?_
 simp only [go_sem, Int.reduceTMod, Int.toNat_one, Int.mul_zero, Int.zero_mul]
 repeat' (first | apply And.intro | intro _)
 refine hK31 _ ?_
 refine hN24 _ ?_
 refine rnd_forget [7, 12, 13, 14, 15, 16, 17, 18, 19, 20, 21, 22, 23, 24, 25, 26, 27, 28, 29] ?_
 simp only [go_sem, St.forget, fgt]
 refine rnd_k fun N32 M32 hN32 hM32 => ?_
 refine sr_k fun K33 hK33 => ?_
 simp only [go_sem, Int.reduceTMod, Int.toNat_one, Int.mul_zero, Int.zero_mul]
 repeat' (first | apply And.intro | intro _)
 refine hK33 _ ?_
 refine seq_k fun N34 M34 hN34 hM34 => ?_
 refine condT_k (by first | rfl | (simp [go_sem, Int.reduceTMod, Int.toNat_one, Int.mul_zero, Int.zero_mul]; done)) ?_
 refine skip_k ?_
 refine hN34 _ ?_
 refine seq_k fun N35 M35 hN35 hM35 => ?_
 refine block_k fun B36 bn36 bx36 br36 bi36 => ?_
 refine sr_k fun K37 hK37 => ?_
 simp only [go_sem, Int.reduceTMod, Int.toNat_one, Int.mul_zero, Int.zero_mul]
 repeat' (first | apply And.intro | intro _)
 refine hK37 _ ?_
 refine draw_k [14, 15, 16, 17, 18, 19, 20, 21, 22, 23, 24, 25, 26, 27, 28] [0, 0, 0, 0, 8, 0, 0, 96, 248, 504, 4, 2044, 4092, 1, 16383, 32767] [] mixed (by kernel_rfl) (by simp only [go_sem]) fun K38 hK38 => ?_
 simp only [go_sem, Int.reduceTMod, Int.toNat_one, Int.mul_zero, Int.zero_mul]
 repeat' (first | apply And.intro | intro _)
 refine hK38 _ _ trivial ?_
 refine bn36 _ ?_
 refine hN35 _ ?_
 refine region_k fun K39 hK39 => ?_
 simp only [go_sem, Int.reduceTMod, Int.toNat_one, Int.mul_zero, Int.zero_mul]
 repeat' (first | apply And.intro | intro _)
 refine hK39 _ ?_
 refine hN32 _ ?_
 refine rnd_forget [7, 12, 13, 14, 15, 16, 17, 18, 19, 20, 21, 22, 23, 24, 25, 26, 27, 28, 29] ?_
 simp only [go_sem, St.forget, fgt]
 refine rnd_k fun N40 M40 hN40 hM40 => ?_
 refine sr_k fun K41 hK41 => ?_
 simp only [go_sem, Int.reduceTMod, Int.toNat_one, Int.mul_zero, Int.zero_mul]
 repeat' (first | apply And.intro | intro _)
 refine hK41 _ ?_
 refine seq_k fun N42 M42 hN42 hM42 => ?_
 refine condT_k (by first | rfl | (simp [go_sem, Int.reduceTMod, Int.toNat_one, Int.mul_zero, Int.zero_mul]; done)) ?_
 refine skip_k ?_
 refine hN42 _ ?_
 refine seq_k fun N43 M43 hN43 hM43 => ?_
 refine block_k fun B44 bn44 bx44 br44 bi44 => ?_
 refine sr_k fun K45 hK45 => ?_
 simp only [go_sem, Int.reduceTMod, Int.toNat_one, Int.mul_zero, Int.zero_mul]
 repeat' (first | apply And.intro | intro _)
 refine hK45 _ ?_
 refine draw_k [14, 15, 16, 17, 18, 19, 20, 21, 22, 23, 24, 25, 26, 27, 28] [0, 0, 0, 0, 8, 0, 0, 96, 248, 504, 4, 2044, 4092, 1, 16383, 32767] [] mixed (by kernel_rfl) (by simp only [go_sem]) fun K46 hK46 => ?_
 simp only [go_sem, Int.reduceTMod, Int.toNat_one, Int.mul_zero, Int.zero_mul]
 repeat' (first | apply And.intro | intro _)
 refine hK46 _ _ trivial ?_
 refine bn44 _ ?_
 refine hN43 _ ?_
 refine region_k fun K47 hK47 => ?_
 simp only [go_sem, Int.reduceTMod, Int.toNat_one, Int.mul_zero, Int.zero_mul]
 repeat' (first | apply And.intro | intro _)
 refine hK47 _ ?_
 refine hN40 _ ?_
 refine rnd_forget [7, 12, 13, 14, 15, 16, 17, 18, 19, 20, 21, 22, 23, 24, 25, 26, 27, 28, 29] ?_
 simp only [go_sem, St.forget, fgt]
 refine rnd_k fun N48 M48 hN48 hM48 => ?_
 refine sr_k fun K49 hK49 => ?_
 simp only [go_sem, Int.reduceTMod, Int.toNat_one, Int.mul_zero, Int.zero_mul]
 repeat' (first | apply And.intro | intro _)
 refine hK49 _ ?_
 refine seq_k fun N50 M50 hN50 hM50 => ?_
 refine condF_k (by first | rfl | (simp [go_sem, Int.reduceTMod, Int.toNat_one, Int.mul_zero, Int.zero_mul]; done)) ?_
 refine exit_k ?_
 refine hM50 _ _ ?_
 refine hM48 _ _ ?_
 refine bx14 _ ?_
 refine bn11 _ ?_
 refine hN10 _ ?_
 refine region_k fun K51 hK51 => ?_
 simp only [go_sem, Int.reduceTMod, Int.toNat_one, Int.mul_zero, Int.zero_mul]
 repeat' (first | apply And.intro | intro _)
 refine hK51 _ ?_
 refine hN7 _ ?_
 refine rnd_forget [6, 7, 9, 10, 11, 12, 13, 14, 15, 16, 17, 18, 19, 20, 21, 22, 23, 24, 25, 26, 27, 28, 29, 30] ?_
 simp only [go_sem, St.forget, fgt]
 refine rnd_k fun N52 M52 hN52 hM52 => ?_
 refine sr_k fun K53 hK53 => ?_
 simp only [go_sem, Int.reduceTMod, Int.toNat_one, Int.mul_zero, Int.zero_mul]
 repeat' (first | apply And.intro | intro _)
 refine hK53 _ ?_
 refine seq_k fun N54 M54 hN54 hM54 => ?_
 refine condT_k (by first | rfl | (simp [go_sem, Int.reduceTMod, Int.toNat_one, Int.mul_zero, Int.zero_mul]; done)) ?_
 refine skip_k ?_
 refine hN54 _ ?_
 refine seq_k fun N55 M55 hN55 hM55 => ?_
 refine block_k fun B56 bn56 bx56 br56 bi56 => ?_
 refine sr_k fun K57 hK57 => ?_
 simp only [go_sem, Int.reduceTMod, Int.toNat_one, Int.mul_zero, Int.zero_mul]
 repeat' (first | apply And.intro | intro _)
 refine hK57 _ ?_
 refine sr_k fun K58 hK58 => ?_
 simp only [go_sem, Int.reduceTMod, Int.toNat_one, Int.mul_zero, Int.zero_mul]
 repeat' (first | apply And.intro | intro _)
 refine hK58 _ ?_
 refine block_k fun B59 bn59 bx59 br59 bi59 => ?_
 refine rounds_k 5 ?_
 refine rnd_k fun N61 M61 hN61 hM61 => ?_
 refine sr_k fun K62 hK62 => ?_
 simp only [go_sem, Int.reduceTMod, Int.toNat_one, Int.mul_zero, Int.zero_mul]
 repeat' (first | apply And.intro | intro _)
 refine hK62 _ ?_
 refine seq_k fun N63 M63 hN63 hM63 => ?_
 refine condT_k (by first | rfl | (simp [go_sem, Int.reduceTMod, Int.toNat_one, Int.mul_zero, Int.zero_mul]; done)) ?_
 refine skip_k ?_
 refine hN63 _ ?_
 refine seq_k fun N64 M64 hN64 hM64 => ?_
 refine block_k fun B65 bn65 bx65 br65 bi65 => ?_
 refine sr_k fun K66 hK66 => ?_
 simp only [go_sem, Int.reduceTMod, Int.toNat_one, Int.mul_zero, Int.zero_mul]
 repeat' (first | apply And.intro | intro _)
 refine hK66 _ ?_
 refine draw_k [14, 15, 16, 17, 18, 19, 20, 21, 22, 23, 24, 25, 26, 27, 28] [0, 0, 0, 0, 8, 0, 0, 96, 248, 504, 4, 2044, 4092, 1, 16383, 32767] [] mixed (by kernel_rfl) (by simp only [go_sem]) fun K67 hK67 => ?_
 simp only [go_sem, Int.reduceTMod, Int.toNat_one, Int.mul_zero, Int.zero_mul]
 repeat' (first | apply And.intro | intro _)
 refine hK67 _ _ trivial ?_
 refine bn65 _ ?_
 refine hN64 _ ?_
 refine region_k fun K68 hK68 => ?_
 simp only [go_sem, Int.reduceTMod, Int.toNat_one, Int.mul_zero, Int.zero_mul]
 repeat' (first | apply And.intro | intro _)
 refine hK68 _ ?_
 refine hN61 _ ?_
 refine rnd_forget [7, 12, 13, 14, 15, 16, 17, 18, 19, 20, 21, 22, 23, 24, 25, 26, 27, 28, 29] ?_
 simp only [go_sem, St.forget, fgt]
 refine rnd_k fun N69 M69 hN69 hM69 => ?_
 refine sr_k fun K70 hK70 => ?_
 simp only [go_sem, Int.reduceTMod, Int.toNat_one, Int.mul_zero, Int.zero_mul]
 repeat' (first | apply And.intro | intro _)
 refine hK70 _ ?_
 refine seq_k fun N71 M71 hN71 hM71 => ?_
 refine condT_k (by first | rfl | (simp [go_sem, Int.reduceTMod, Int.toNat_one, Int.mul_zero, Int.zero_mul]; done)) ?_
 refine skip_k ?_
 refine hN71 _ ?_
 refine seq_k fun N72 M72 hN72 hM72 => ?_
 refine block_k fun B73 bn73 bx73 br73 bi73 => ?_
 refine sr_k fun K74 hK74 => ?_
 simp only [go_sem, Int.reduceTMod, Int.toNat_one, Int.mul_zero, Int.zero_mul]
 repeat' (first | apply And.intro | intro _)
 refine hK74 _ ?_
 refine draw_k [14, 15, 16, 17, 18, 19, 20, 21, 22, 23, 24, 25, 26, 27, 28] [0, 0, 0, 0, 8, 0, 0, 96, 248, 504, 4, 2044, 4092, 1, 16383, 32767] [] mixed (by kernel_rfl) (by simp only [go_sem]) fun K75 hK75 => ?_
 simp only [go_sem, Int.reduceTMod, Int.toNat_one, Int.mul_zero, Int.zero_mul]
 repeat' (first | apply And.intro | intro _)
 refine hK75 _ _ trivial ?_
 refine bn73 _ ?_
 refine hN72 _ ?_
 refine region_k fun K76 hK76 => ?_
 simp only [go_sem, Int.reduceTMod, Int.toNat_one, Int.mul_zero, Int.zero_mul]
 repeat' (first | apply And.intro | intro _)
 refine hK76 _ ?_
 refine hN69 _ ?_
 refine rnd_forget [7, 12, 13, 14, 15, 16, 17, 18, 19, 20, 21, 22, 23, 24, 25, 26, 27, 28, 29] ?_
 simp only [go_sem, St.forget, fgt]
 refine rnd_k fun N77 M77 hN77 hM77 => ?_
 refine sr_k fun K78 hK78 => ?_
 simp only [go_sem, Int.reduceTMod, Int.toNat_one, Int.mul_zero, Int.zero_mul]
 repeat' (first | apply And.intro | intro _)
 refine hK78 _ ?_
 refine seq_k fun N79 M79 hN79 hM79 => ?_
 refine condT_k (by first | rfl | (simp [go_sem, Int.reduceTMod, Int.toNat_one, Int.mul_zero, Int.zero_mul]; done)) ?_
 refine skip_k ?_
 refine hN79 _ ?_
 refine seq_k fun N80 M80 hN80 hM80 => ?_
 refine block_k fun B81 bn81 bx81 br81 bi81 => ?_
 refine sr_k fun K82 hK82 => ?_
 simp only [go_sem, Int.reduceTMod, Int.toNat_one, Int.mul_zero, Int.zero_mul]
 repeat' (first | apply And.intro | intro _)
 refine hK82 _ ?_
 refine draw_k [14, 15, 16, 17, 18, 19, 20, 21, 22, 23, 24, 25, 26, 27, 28] [0, 0, 0, 0, 8, 0, 0, 96, 248, 504, 4, 2044, 4092, 1, 16383, 32767] [] mixed (by kernel_rfl) (by simp only [go_sem]) fun K83 hK83 => ?_
 simp only [go_sem, Int.reduceTMod, Int.toNat_one, Int.mul_zero, Int.zero_mul]
 repeat' (first | apply And.intro | intro _)
 refine hK83 _ _ trivial ?_
 refine bn81 _ ?_
 refine hN80 _ ?_
 refine region_k fun K84 hK84 => ?_
 simp only [go_sem, Int.reduceTMod, Int.toNat_one, Int.mul_zero, Int.zero_mul]
 repeat' (first | apply And.intro | intro _)
 refine hK84 _ ?_
 refine hN77 _ ?_
 refine rnd_forget [7, 12, 13, 14, 15, 16, 17, 18, 19, 20, 21, 22, 23, 24, 25, 26, 27, 28, 29] ?_
 simp only [go_sem, St.forget, fgt]
 refine rnd_k fun N85 M85 hN85 hM85 => ?_
 refine sr_k fun K86 hK86 => ?_
 simp only [go_sem, Int.reduceTMod, Int.toNat_one, Int.mul_zero, Int.zero_mul]
 repeat' (first | apply And.intro | intro _)
 refine hK86 _ ?_
 refine seq_k fun N87 M87 hN87 hM87 => ?_
 refine condT_k (by first | rfl | (simp [go_sem, Int.reduceTMod, Int.toNat_one, Int.mul_zero, Int.zero_mul]; done)) ?_
 refine skip_k ?_
 refine hN87 _ ?_
 refine seq_k fun N88 M88 hN88 hM88 => ?_
 refine block_k fun B89 bn89 bx89 br89 bi89 => ?_
 refine sr_k fun K90 hK90 => ?_
 simp only [go_sem, Int.reduceTMod, Int.toNat_one, Int.mul_zero, Int.zero_mul]
 repeat' (first | apply And.intro | intro _)
 refine hK90 _ ?_
 refine draw_k [14, 15, 16, 17, 18, 19, 20, 21, 22, 23, 24, 25, 26, 27, 28] [0, 0, 0, 0, 8, 0, 0, 96, 248, 504, 4, 2044, 4092, 1, 16383, 32767] [] mixed (by kernel_rfl) (by simp only [go_sem]) fun K91 hK91 => ?_
 simp only [go_sem, Int.reduceTMod, Int.toNat_one, Int.mul_zero, Int.zero_mul]
 repeat' (first | apply And.intro | intro _)
 refine hK91 _ _ trivial ?_
 refine bn89 _ ?_
 refine hN88 _ ?_
 refine region_k fun K92 hK92 => ?_
 simp only [go_sem, Int.reduceTMod, Int.toNat_one, Int.mul_zero, Int.zero_mul]
 repeat' (first | apply And.intro | intro _)
 refine hK92 _ ?_
 refine hN85 _ ?_
 refine rnd_forget [7, 12, 13, 14, 15, 16, 17, 18, 19, 20, 21, 22, 23, 24, 25, 26, 27, 28, 29] ?_
 simp only [go_sem, St.forget, fgt]
 refine rnd_k fun N93 M93 hN93 hM93 => ?_
 refine sr_k fun K94 hK94 => ?_
 simp only [go_sem, Int.reduceTMod, Int.toNat_one, Int.mul_zero, Int.zero_mul]
 repeat' (first | apply And.intro | intro _)
 refine hK94 _ ?_
 refine seq_k fun N95 M95 hN95 hM95 => ?_
 refine condF_k (by first | rfl | (simp [go_sem, Int.reduceTMod, Int.toNat_one, Int.mul_zero, Int.zero_mul]; done)) ?_
 refine exit_k ?_
 refine hM95 _ _ ?_
 refine hM93 _ _ ?_
 refine bx59 _ ?_
 refine bn56 _ ?_
 refine hN55 _ ?_
 refine region_k fun K96 hK96 => ?_
 simp only [go_sem, Int.reduceTMod, Int.toNat_one, Int.mul_zero, Int.zero_mul]
 repeat' (first | apply And.intro | intro _)
 refine hK96 _ ?_
 refine hN52 _ ?_
 refine rnd_forget [6, 7, 9, 10, 11, 12, 13, 14, 15, 16, 17, 18, 19, 20, 21, 22, 23, 24, 25, 26, 27, 28, 29, 30] ?_
 simp only [go_sem, St.forget, fgt]
 refine rnd_k fun N97 M97 hN97 hM97 => ?_
 refine sr_k fun K98 hK98 => ?_
 simp only [go_sem, Int.reduceTMod, Int.toNat_one, Int.mul_zero, Int.zero_mul]
 repeat' (first | apply And.intro | intro _)
 refine hK98 _ ?_
 refine seq_k fun N99 M99 hN99 hM99 => ?_
 refine condT_k (by first | rfl | (simp [go_sem, Int.reduceTMod, Int.toNat_one, Int.mul_zero, Int.zero_mul]; done)) ?_
 refine skip_k ?_
 refine hN99 _ ?_
 refine seq_k fun N100 M100 hN100 hM100 => ?_
 refine block_k fun B101 bn101 bx101 br101 bi101 => ?_
 refine sr_k fun K102 hK102 => ?_
 simp only [go_sem, Int.reduceTMod, Int.toNat_one, Int.mul_zero, Int.zero_mul]
 repeat' (first | apply And.intro | intro _)
 refine hK102 _ ?_
 refine sr_k fun K103 hK103 => ?_
 simp only [go_sem, Int.reduceTMod, Int.toNat_one, Int.mul_zero, Int.zero_mul]
 repeat' (first | apply And.intro | intro _)
 refine hK103 _ ?_
 refine block_k fun B104 bn104 bx104 br104 bi104 => ?_
 refine rounds_k 5 ?_
 refine rnd_k fun N106 M106 hN106 hM106 => ?_
 refine sr_k fun K107 hK107 => ?_
 simp only [go_sem, Int.reduceTMod, Int.toNat_one, Int.mul_zero, Int.zero_mul]
 repeat' (first | apply And.intro | intro _)
 refine hK107 _ ?_
 refine seq_k fun N108 M108 hN108 hM108 => ?_
 refine condT_k (by first | rfl | (simp [go_sem, Int.reduceTMod, Int.toNat_one, Int.mul_zero, Int.zero_mul]; done)) ?_
 refine skip_k ?_
 refine hN108 _ ?_
 refine seq_k fun N109 M109 hN109 hM109 => ?_
 refine block_k fun B110 bn110 bx110 br110 bi110 => ?_
 refine sr_k fun K111 hK111 => ?_
 simp only [go_sem, Int.reduceTMod, Int.toNat_one, Int.mul_zero, Int.zero_mul]
 repeat' (first | apply And.intro | intro _)
 refine hK111 _ ?_
 refine draw_k [14, 15, 16, 17, 18, 19, 20, 21, 22, 23, 24, 25, 26, 27, 28] [0, 0, 0, 0, 8, 0, 0, 96, 248, 504, 4, 2044, 4092, 1, 16383, 32767] [] mixed (by kernel_rfl) (by simp only [go_sem]) fun K112 hK112 => ?_
 simp only [go_sem, Int.reduceTMod, Int.toNat_one, Int.mul_zero, Int.zero_mul]
 repeat' (first | apply And.intro | intro _)
 refine hK112 _ _ trivial ?_
 refine bn110 _ ?_
 refine hN109 _ ?_
 refine region_k fun K113 hK113 => ?_
 simp only [go_sem, Int.reduceTMod, Int.toNat_one, Int.mul_zero, Int.zero_mul]
 repeat' (first | apply And.intro | intro _)
 refine hK113 _ ?_
 refine hN106 _ ?_
 refine rnd_forget [7, 12, 13, 14, 15, 16, 17, 18, 19, 20, 21, 22, 23, 24, 25, 26, 27, 28, 29] ?_
 simp only [go_sem, St.forget, fgt]
 refine rnd_k fun N114 M114 hN114 hM114 => ?_
 refine sr_k fun K115 hK115 => ?_
 simp only [go_sem, Int.reduceTMod, Int.toNat_one, Int.mul_zero, Int.zero_mul]
 repeat' (first | apply And.intro | intro _)
 refine hK115 _ ?_
 refine seq_k fun N116 M116 hN116 hM116 => ?_
 refine condT_k (by first | rfl | (simp [go_sem, Int.reduceTMod, Int.toNat_one, Int.mul_zero, Int.zero_mul]; done)) ?_
 refine skip_k ?_
 refine hN116 _ ?_
 refine seq_k fun N117 M117 hN117 hM117 => ?_
 refine block_k fun B118 bn118 bx118 br118 bi118 => ?_
 refine sr_k fun K119 hK119 => ?_
 simp only [go_sem, Int.reduceTMod, Int.toNat_one, Int.mul_zero, Int.zero_mul]
 repeat' (first | apply And.intro | intro _)
 refine hK119 _ ?_
 refine draw_k [14, 15, 16, 17, 18, 19, 20, 21, 22, 23, 24, 25, 26, 27, 28] [0, 0, 0, 0, 8, 0, 0, 96, 248, 504, 4, 2044, 4092, 1, 16383, 32767] [] mixed (by kernel_rfl) (by simp only [go_sem]) fun K120 hK120 => ?_
 simp only [go_sem, Int.reduceTMod, Int.toNat_one, Int.mul_zero, Int.zero_mul]
 repeat' (first | apply And.intro | intro _)
 refine hK120 _ _ trivial ?_
 refine bn118 _ ?_
 refine hN117 _ ?_
 refine region_k fun K121 hK121 => ?_
 simp only [go_sem, Int.reduceTMod, Int.toNat_one, Int.mul_zero, Int.zero_mul]
 repeat' (first | apply And.intro | intro _)
 refine hK121 _ ?_
 refine hN114 _ ?_
 refine rnd_forget [7, 12, 13, 14, 15, 16, 17, 18, 19, 20, 21, 22, 23, 24, 25, 26, 27, 28, 29] ?_
 simp only [go_sem, St.forget, fgt]
 refine rnd_k fun N122 M122 hN122 hM122 => ?_
 refine sr_k fun K123 hK123 => ?_
 simp only [go_sem, Int.reduceTMod, Int.toNat_one, Int.mul_zero, Int.zero_mul]
 repeat' (first | apply And.intro | intro _)
 refine hK123 _ ?_
 refine seq_k fun N124 M124 hN124 hM124 => ?_
 refine condT_k (by first | rfl | (simp [go_sem, Int.reduceTMod, Int.toNat_one, Int.mul_zero, Int.zero_mul]; done)) ?_
 refine skip_k ?_
 refine hN124 _ ?_
 refine seq_k fun N125 M125 hN125 hM125 => ?_
 refine block_k fun B126 bn126 bx126 br126 bi126 => ?_
 refine sr_k fun K127 hK127 => ?_
 simp only [go_sem, Int.reduceTMod, Int.toNat_one, Int.mul_zero, Int.zero_mul]
 repeat' (first | apply And.intro | intro _)
 refine hK127 _ ?_
 refine draw_k [14, 15, 16, 17, 18, 19, 20, 21, 22, 23, 24, 25, 26, 27, 28] [0, 0, 0, 0, 8, 0, 0, 96, 248, 504, 4, 2044, 4092, 1, 16383, 32767] [] mixed (by kernel_rfl) (by simp only [go_sem]) fun K128 hK128 => ?_
 simp only [go_sem, Int.reduceTMod, Int.toNat_one, Int.mul_zero, Int.zero_mul]
 repeat' (first | apply And.intro | intro _)
 refine hK128 _ _ trivial ?_
 refine bn126 _ ?_
 refine hN125 _ ?_
 refine region_k fun K129 hK129 => ?_
 simp only [go_sem, Int.reduceTMod, Int.toNat_one, Int.mul_zero, Int.zero_mul]
 repeat' (first | apply And.intro | intro _)
 refine hK129 _ ?_
 refine hN122 _ ?_
 refine rnd_forget [7, 12, 13, 14, 15, 16, 17, 18, 19, 20, 21, 22, 23, 24, 25, 26, 27, 28, 29] ?_
 simp only [go_sem, St.forget, fgt]
 refine rnd_k fun N130 M130 hN130 hM130 => ?_
 refine sr_k fun K131 hK131 => ?_
 simp only [go_sem, Int.reduceTMod, Int.toNat_one, Int.mul_zero, Int.zero_mul]
 repeat' (first | apply And.intro | intro _)
 refine hK131 _ ?_
 refine seq_k fun N132 M132 hN132 hM132 => ?_
 refine condT_k (by first | rfl | (simp [go_sem, Int.reduceTMod, Int.toNat_one, Int.mul_zero, Int.zero_mul]; done)) ?_
 refine skip_k ?_
 refine hN132 _ ?_
 refine seq_k fun N133 M133 hN133 hM133 => ?_
 refine block_k fun B134 bn134 bx134 br134 bi134 => ?_
 refine sr_k fun K135 hK135 => ?_
 simp only [go_sem, Int.reduceTMod, Int.toNat_one, Int.mul_zero, Int.zero_mul]
 repeat' (first | apply And.intro | intro _)
 refine hK135 _ ?_
 refine draw_k [14, 15, 16, 17, 18, 19, 20, 21, 22, 23, 24, 25, 26, 27, 28] [0, 0, 0, 0, 8, 0, 0, 96, 248, 504, 4, 2044, 4092, 1, 16383, 32767] [] mixed (by kernel_rfl) (by simp only [go_sem]) fun K136 hK136 => ?_
 simp only [go_sem, Int.reduceTMod, Int.toNat_one, Int.mul_zero, Int.zero_mul]
 repeat' (first | apply And.intro | intro _)
 refine hK136 _ _ trivial ?_
 refine bn134 _ ?_
 refine hN133 _ ?_
 refine region_k fun K137 hK137 => ?_
 simp only [go_sem, Int.reduceTMod, Int.toNat_one, Int.mul_zero, Int.zero_mul]
 repeat' (first | apply And.intro | intro _)
 refine hK137 _ ?_
 refine hN130 _ ?_
 refine rnd_forget [7, 12, 13, 14, 15, 16, 17, 18, 19, 20, 21, 22, 23, 24, 25, 26, 27, 28, 29] ?_
 simp only [go_sem, St.forget, fgt]
 refine rnd_k fun N138 M138 hN138 hM138 => ?_
 refine sr_k fun K139 hK139 => ?_
 simp only [go_sem, Int.reduceTMod, Int.toNat_one, Int.mul_zero, Int.zero_mul]
 repeat' (first | apply And.intro | intro _)
 refine hK139 _ ?_
 refine seq_k fun N140 M140 hN140 hM140 => ?_
 refine condF_k (by first | rfl | (simp [go_sem, Int.reduceTMod, Int.toNat_one, Int.mul_zero, Int.zero_mul]; done)) ?_
 refine exit_k ?_
 refine hM140 _ _ ?_
 refine hM138 _ _ ?_
 refine bx104 _ ?_
 refine bn101 _ ?_
 refine hN100 _ ?_
 refine region_k fun K141 hK141 => ?_
 simp only [go_sem, Int.reduceTMod, Int.toNat_one, Int.mul_zero, Int.zero_mul]
 repeat' (first | apply And.intro | intro _)
 refine hK141 _ ?_
 refine hN97 _ ?_
 refine rnd_forget [6, 7, 9, 10, 11, 12, 13, 14, 15, 16, 17, 18, 19, 20, 21, 22, 23, 24, 25, 26, 27, 28, 29, 30] ?_
 simp only [go_sem, St.forget, fgt]
 refine rnd_k fun N142 M142 hN142 hM142 => ?_
 refine sr_k fun K143 hK143 => ?_
 simp only [go_sem, Int.reduceTMod, Int.toNat_one, Int.mul_zero, Int.zero_mul]
 repeat' (first | apply And.intro | intro _)
 refine hK143 _ ?_
 refine seq_k fun N144 M144 hN144 hM144 => ?_
 refine condT_k (by first | rfl | (simp [go_sem, Int.reduceTMod, Int.toNat_one, Int.mul_zero, Int.zero_mul]; done)) ?_
 refine skip_k ?_
 refine hN144 _ ?_
 refine seq_k fun N145 M145 hN145 hM145 => ?_
 refine block_k fun B146 bn146 bx146 br146 bi146 => ?_
 refine sr_k fun K147 hK147 => ?_
 simp only [go_sem, Int.reduceTMod, Int.toNat_one, Int.mul_zero, Int.zero_mul]
 repeat' (first | apply And.intro | intro _)
 refine hK147 _ ?_
 refine sr_k fun K148 hK148 => ?_
 simp only [go_sem, Int.reduceTMod, Int.toNat_one, Int.mul_zero, Int.zero_mul]
 repeat' (first | apply And.intro | intro _)
 refine hK148 _ ?_
 refine block_k fun B149 bn149 bx149 br149 bi149 => ?_
 refine rounds_k 5 ?_
 refine rnd_k fun N151 M151 hN151 hM151 => ?_
 refine sr_k fun K152 hK152 => ?_
 simp only [go_sem, Int.reduceTMod, Int.toNat_one, Int.mul_zero, Int.zero_mul]
 repeat' (first | apply And.intro | intro _)
 refine hK152 _ ?_
 refine seq_k fun N153 M153 hN153 hM153 => ?_
 refine condT_k (by first | rfl | (simp [go_sem, Int.reduceTMod, Int.toNat_one, Int.mul_zero, Int.zero_mul]; done)) ?_
 refine skip_k ?_
 refine hN153 _ ?_
 refine seq_k fun N154 M154 hN154 hM154 => ?_
 refine block_k fun B155 bn155 bx155 br155 bi155 => ?_
 refine sr_k fun K156 hK156 => ?_
 simp only [go_sem, Int.reduceTMod, Int.toNat_one, Int.mul_zero, Int.zero_mul]
 repeat' (first | apply And.intro | intro _)
 refine hK156 _ ?_
 refine draw_k [14, 15, 16, 17, 18, 19, 20, 21, 22, 23, 24, 25, 26, 27, 28] [0, 0, 0, 0, 8, 0, 0, 96, 248, 504, 4, 2044, 4092, 1, 16383, 32767] [] mixed (by kernel_rfl) (by simp only [go_sem]) fun K157 hK157 => ?_
 simp only [go_sem, Int.reduceTMod, Int.toNat_one, Int.mul_zero, Int.zero_mul]
 repeat' (first | apply And.intro | intro _)
 refine hK157 _ _ trivial ?_
 refine bn155 _ ?_
 refine hN154 _ ?_
 refine region_k fun K158 hK158 => ?_
 simp only [go_sem, Int.reduceTMod, Int.toNat_one, Int.mul_zero, Int.zero_mul]
 repeat' (first | apply And.intro | intro _)
 refine hK158 _ ?_
 refine hN151 _ ?_
 refine rnd_forget [7, 12, 13, 14, 15, 16, 17, 18, 19, 20, 21, 22, 23, 24, 25, 26, 27, 28, 29] ?_
 simp only [go_sem, St.forget, fgt]
 refine rnd_k fun N159 M159 hN159 hM159 => ?_
 refine sr_k fun K160 hK160 => ?_
 simp only [go_sem, Int.reduceTMod, Int.toNat_one, Int.mul_zero, Int.zero_mul]
 repeat' (first | apply And.intro | intro _)
 refine hK160 _ ?_
 refine seq_k fun N161 M161 hN161 hM161 => ?_
 refine condT_k (by first | rfl | (simp [go_sem, Int.reduceTMod, Int.toNat_one, Int.mul_zero, Int.zero_mul]; done)) ?_
 refine skip_k ?_
 refine hN161 _ ?_
 refine seq_k fun N162 M162 hN162 hM162 => ?_
 refine block_k fun B163 bn163 bx163 br163 bi163 => ?_
 refine sr_k fun K164 hK164 => ?_
 simp only [go_sem, Int.reduceTMod, Int.toNat_one, Int.mul_zero, Int.zero_mul]
 repeat' (first | apply And.intro | intro _)
 refine hK164 _ ?_
 refine draw_k [14, 15, 16, 17, 18, 19, 20, 21, 22, 23, 24, 25, 26, 27, 28] [0, 0, 0, 0, 8, 0, 0, 96, 248, 504, 4, 2044, 4092, 1, 16383, 32767] [] mixed (by kernel_rfl) (by simp only [go_sem]) fun K165 hK165 => ?_
 simp only [go_sem, Int.reduceTMod, Int.toNat_one, Int.mul_zero, Int.zero_mul]
 repeat' (first | apply And.intro | intro _)
 refine hK165 _ _ trivial ?_
 refine bn163 _ ?_
 refine hN162 _ ?_
 refine region_k fun K166 hK166 => ?_
 simp only [go_sem, Int.reduceTMod, Int.toNat_one, Int.mul_zero, Int.zero_mul]
 repeat' (first | apply And.intro | intro _)
 refine hK166 _ ?_
 refine hN159 _ ?_
 refine rnd_forget [7, 12, 13, 14, 15, 16, 17, 18, 19, 20, 21, 22, 23, 24, 25, 26, 27, 28, 29] ?_
 simp only [go_sem, St.forget, fgt]
 refine rnd_k fun N167 M167 hN167 hM167 => ?_
 refine sr_k fun K168 hK168 => ?_
 simp only [go_sem, Int.reduceTMod, Int.toNat_one, Int.mul_zero, Int.zero_mul]
 repeat' (first | apply And.intro | intro _)
 refine hK168 _ ?_
 refine seq_k fun N169 M169 hN169 hM169 => ?_
 refine condT_k (by first | rfl | (simp [go_sem, Int.reduceTMod, Int.toNat_one, Int.mul_zero, Int.zero_mul]; done)) ?_
 refine skip_k ?_
 refine hN169 _ ?_
 refine seq_k fun N170 M170 hN170 hM170 => ?_
 refine block_k fun B171 bn171 bx171 br171 bi171 => ?_
 refine sr_k fun K172 hK172 => ?_
 simp only [go_sem, Int.reduceTMod, Int.toNat_one, Int.mul_zero, Int.zero_mul]
 repeat' (first | apply And.intro | intro _)
 refine hK172 _ ?_
 refine draw_k [14, 15, 16, 17, 18, 19, 20, 21, 22, 23, 24, 25, 26, 27, 28] [0, 0, 0, 0, 8, 0, 0, 96, 248, 504, 4, 2044, 4092, 1, 16383, 32767] [] mixed (by kernel_rfl) (by simp only [go_sem]) fun K173 hK173 => ?_
 simp only [go_sem, Int.reduceTMod, Int.toNat_one, Int.mul_zero, Int.zero_mul]
 repeat' (first | apply And.intro | intro _)
 refine hK173 _ _ trivial ?_
 refine bn171 _ ?_
 refine hN170 _ ?_
 refine region_k fun K174 hK174 => ?_
 simp only [go_sem, Int.reduceTMod, Int.toNat_one, Int.mul_zero, Int.zero_mul]
 repeat' (first | apply And.intro | intro _)
 refine hK174 _ ?_
 refine hN167 _ ?_
 refine rnd_forget [7, 12, 13, 14, 15, 16, 17, 18, 19, 20, 21, 22, 23, 24, 25, 26, 27, 28, 29] ?_
 simp only [go_sem, St.forget, fgt]
 refine rnd_k fun N175 M175 hN175 hM175 => ?_
 refine sr_k fun K176 hK176 => ?_
 simp only [go_sem, Int.reduceTMod, Int.toNat_one, Int.mul_zero, Int.zero_mul]
 repeat' (first | apply And.intro | intro _)
 refine hK176 _ ?_
 refine seq_k fun N177 M177 hN177 hM177 => ?_
 refine condT_k (by first | rfl | (simp [go_sem, Int.reduceTMod, Int.toNat_one, Int.mul_zero, Int.zero_mul]; done)) ?_
 refine skip_k ?_
 refine hN177 _ ?_
 refine seq_k fun N178 M178 hN178 hM178 => ?_
 refine block_k fun B179 bn179 bx179 br179 bi179 => ?_
 refine sr_k fun K180 hK180 => ?_
 simp only [go_sem, Int.reduceTMod, Int.toNat_one, Int.mul_zero, Int.zero_mul]
 repeat' (first | apply And.intro | intro _)
 refine hK180 _ ?_
 refine draw_k [14, 15, 16, 17, 18, 19, 20, 21, 22, 23, 24, 25, 26, 27, 28] [0, 0, 0, 0, 8, 0, 0, 96, 248, 504, 4, 2044, 4092, 1, 16383, 32767] [] mixed (by kernel_rfl) (by simp only [go_sem]) fun K181 hK181 => ?_
 simp only [go_sem, Int.reduceTMod, Int.toNat_one, Int.mul_zero, Int.zero_mul]
 repeat' (first | apply And.intro | intro _)
 refine hK181 _ _ trivial ?_
 refine bn179 _ ?_
 refine hN178 _ ?_
 refine region_k fun K182 hK182 => ?_
 simp only [go_sem, Int.reduceTMod, Int.toNat_one, Int.mul_zero, Int.zero_mul]
 repeat' (first | apply And.intro | intro _)
 refine hK182 _ ?_
 refine hN175 _ ?_
 refine rnd_forget [7, 12, 13, 14, 15, 16, 17, 18, 19, 20, 21, 22, 23, 24, 25, 26, 27, 28, 29] ?_
 simp only [go_sem, St.forget, fgt]
 refine rnd_k fun N183 M183 hN183 hM183 => ?_
 refine sr_k fun K184 hK184 => ?_
 simp only [go_sem, Int.reduceTMod, Int.toNat_one, Int.mul_zero, Int.zero_mul]
 repeat' (first | apply And.intro | intro _)
 refine hK184 _ ?_
 refine seq_k fun N185 M185 hN185 hM185 => ?_
 refine condF_k (by first | rfl | (simp [go_sem, Int.reduceTMod, Int.toNat_one, Int.mul_zero, Int.zero_mul]; done)) ?_
 refine exit_k ?_
 refine hM185 _ _ ?_
 refine hM183 _ _ ?_
 refine bx149 _ ?_
 refine bn146 _ ?_
 refine hN145 _ ?_
 refine region_k fun K186 hK186 => ?_
 simp only [go_sem, Int.reduceTMod, Int.toNat_one, Int.mul_zero, Int.zero_mul]
 repeat' (first | apply And.intro | intro _)
 refine hK186 _ ?_
 refine hN142 _ ?_
 refine rnd_forget [6, 7, 9, 10, 11, 12, 13, 14, 15, 16, 17, 18, 19, 20, 21, 22, 23, 24, 25, 26, 27, 28, 29, 30] ?_
 simp only [go_sem, St.forget, fgt]
 refine rnd_k fun N187 M187 hN187 hM187 => ?_
 refine sr_k fun K188 hK188 => ?_
 simp only [go_sem, Int.reduceTMod, Int.toNat_one, Int.mul_zero, Int.zero_mul]
 repeat' (first | apply And.intro | intro _)
 refine hK188 _ ?_
 refine seq_k fun N189 M189 hN189 hM189 => ?_
 refine condF_k (by first | rfl | (simp [go_sem, Int.reduceTMod, Int.toNat_one, Int.mul_zero, Int.zero_mul]; done)) ?_
 refine exit_k ?_
 refine hM189 _ _ ?_
 refine hM187 _ _ ?_
 refine bx5 _ ?_
 refine hN3 _ ?_
 refine sr_k fun K190 hK190 => ?_
 simp only [go_sem, Int.reduceTMod, Int.toNat_one, Int.mul_zero, Int.zero_mul]
 repeat' (first | apply And.intro | intro _)
 refine hK190 _ ?_
 refine ret_k ?_
 simp only [go_sem, Int.reduceTMod, Int.toNat_one, Int.mul_zero, Int.zero_mul]
 all_goals (rfl)
end Go.Sy

