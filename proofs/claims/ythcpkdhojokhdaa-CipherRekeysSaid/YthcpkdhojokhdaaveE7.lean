/- Walks: the document's test of a sum. -/
import Derived.Test.YthcpkdhojokhdaaveE6
set_option linter.unusedVariables false
set_option linter.unusedSimpArgs false
namespace Go.Sy
open Go.Proofs
attribute [local irreducible] atCall HT runOps runD onC onE onO onG goV goA goS onSt onGuard
theorem u_and_or (x m : UInt64) : x = (x &&& m) ||| (x &&& ~~~m) := by
 apply UInt64.toBitVec_inj.mp
 simp only [UInt64.toBitVec_or, UInt64.toBitVec_and, UInt64.toBitVec_not]
 ext i hi
 simp only [BitVec.getElem_or, BitVec.getElem_and, BitVec.getElem_not]
 cases x.toBitVec[i] <;> cases m.toBitVec[i] <;> rfl
theorem mask_iff (x m : UInt64) : (x &&& m = x) ↔ x &&& ~~~m = 0 := by
 constructor
 · intro h
   rw [← h]
   apply UInt64.toBitVec_inj.mp
   simp only [UInt64.toBitVec_and, UInt64.toBitVec_not]
   ext i hi
   simp only [BitVec.getElem_and, BitVec.getElem_not]
   cases x.toBitVec[i] <;> cases m.toBitVec[i] <;> simp
 · intro h
   have := u_and_or x m
   rw [h, UInt64.or_zero] at this
   exact this.symm
theorem lev_zeros (n : Nat) : lev (List.replicate n 0) = 0 := by
 have : leN (List.replicate n 0) = 0 := by
  induction n with
  | zero => rfl
  | succ n ih => simp [List.replicate_succ, leN, ih]
 simp [lev, this]
theorem beg_low (r0 r1 : UInt64) : begC (lowB r0 8 ++ (lowB r1 8 ++ List.replicate 16 0)) = polyC (r0 &&& 1152921487695413247) (r1 &&& 1152921487695413244) 0 0 0 0 0 (List.replicate 16 0) 0 := by
 have l0 := lowB_length r0 8
 have l1 := lowB_length r1 8
 have e0 : (lowB r0 8 ++ (lowB r1 8 ++ List.replicate 16 0)).take 8 = lowB r0 8 := List.take_left' l0
 have d8 : (lowB r0 8 ++ (lowB r1 8 ++ List.replicate 16 0)).drop 8 = lowB r1 8 ++ List.replicate 16 0 := List.drop_left' l0
 have e1 : (lowB r1 8 ++ List.replicate 16 (0 : UInt8)).take 8 = lowB r1 8 := List.take_left' l1
 have d16 : (lowB r0 8 ++ (lowB r1 8 ++ List.replicate 16 0)).drop 16 = List.replicate 16 0 := by
  rw [show 16 = 8 + 8 from rfl, ← List.drop_drop, d8, List.drop_left' l1]
 have d24 : (lowB r0 8 ++ (lowB r1 8 ++ List.replicate 16 0)).drop 24 = List.replicate 8 0 := by
  rw [show 24 = 16 + 8 from rfl, ← List.drop_drop, d16]; rfl
 simp only [begC, e0, d8, e1, d16, d24, lev_low8]
 rw [show (List.replicate 16 (0 : UInt8)).take 8 = List.replicate 8 0 from rfl, show (List.replicate 8 (0 : UInt8)).take 8 = List.replicate 8 0 from rfl, lev_zeros]
theorem poly_begun_low (r0 r1 : UInt64) : Ct Try.prog 16 [.w (.agg (bytesC (lowB r0 8 ++ lowB r1 8 ++ List.replicate 16 0)))] (fun v m => v = .w (.agg (polyC (r0 &&& 1152921487695413247) (r1 &&& 1152921487695413244) 0 0 0 0 0 (List.replicate 16 0) 0))) := by
 have h := poly_begun (lowB r0 8 ++ (lowB r1 8 ++ List.replicate 16 0)) (by simp [lowB_length])
 rw [beg_low] at h
 rw [List.append_assoc]; exact h
theorem m16 : min 16 32 = 16 := rfl
theorem d16 : List.drop 16 (List.replicate 32 (0 : UInt8)) = List.replicate 16 0 := rfl
theorem tk16 (a b : UInt64) : List.take 16 (lowB a 8 ++ lowB b 8) = lowB a 8 ++ lowB b 8 := List.take_of_length_le (by simp [lowB_length])
def hok (held : List UInt8) (n : Int) (i : Nat) : Bool := decide (∀ j, j < i → ((j : Nat) : Int) < n ∨ held.getD j 0 = 0)
theorem carried_of (p : P5) : Ct Try.prog 42 [.w (.agg p.ls)] (fun v m => v = .w (.agg p.carried.ls)) := carried_ p.a p.b p.c p.d p.e
theorem whole_of (p : P5) : Ct Try.prog 43 [.w (.agg p.ls)] (fun v m => v = .w (.agg (W3 p.w0 p.w1 p.w2))) := whole_ p.a p.b p.c p.d p.e
set_option maxHeartbeats 1600000 in
set_option maxRecDepth 100000 in
theorem pflt_r (r0 r1 p0 p1 a0 a1 a2 : UInt64) (held : List UInt8) (hh : held.length = 16) (n : Int) (h0 : ¬ (r0 &&& 1152921487695413247 = r0 ∧ r1 &&& 1152921487695413244 = r1)) :
 Ct Try.prog 17 [.w (.agg (polyC r0 r1 p0 p1 a0 a1 a2 held n))] (fun v m => v = .w (.one (.pl (.i (polyErr r0 r1 a0 a1 a2 held n))))) := by
 have q0 : (decide (r0 &&& 1152921487695413247 = r0) && decide (r1 &&& 1152921487695413244 = r1)) = false := by simpa using h0
 refine Ct.k Try.func17 rfl Try.ntmps17 (congrArg Array.toList Try.results17) (by simp) fun w0 ro => ?_
 refine top_k fun zZ zhZ => ?_
 iterate 17 first
  | (refine sr_k fun zK zhK => ?_; simp only [go_sem, m16, d16, tk16, polyC, hh, lowB_length, Bool.and_false, Bool.false_and, q0]; (repeat' (first | apply And.intro | intro _)))
  | refine zhK _ ?_
  | refine zhK _ _ trivial ?_
  | (refine draw_k (id := 2) [8, 9, 10, 11, 12, 13, 14, 15, 16, 17, 18] [0, 0, 2, 6, 14, 0, 32, 96, 254, 510, 1023] [] mixed (by kernel_rfl) (by simp only [go_sem]) fun zK zhK => ?_; simp only [go_sem, m16, d16, tk16, polyC, hh, lowB_length, Bool.and_false, Bool.false_and, q0]; (repeat' (first | apply And.intro | intro _)))
  | (refine zhN _ ?_; clear zhN zhM)
  | (refine sd_k (id := 3) [19, 20, 21, 22, 23, 24, 25, 26, 27, 28, 29, 30, 31, 32, 33, 34, 35, 36, 37, 38, 39, 40, 41, 42, 43, 44, 45, 46, 47, 48, 49, 50, 4] [0, 1, 3, 0, 8, 31, 63, 127, 255, 511, 1023, 2047, 4095, 8191, 16383, 32767, 65535, 131071, 262143, 524287, 1048575, 2097151, 4194303, 8388607, 16777215, 33554431, 67108863, 134217727, 8388607, 276824063, 1073741823, 2147483647, 4294967295] [] mixed (by kernel_rfl) (by simp only [go_sem]) fun zK zhK => ?_; simp only [go_sem, m16, d16, tk16, polyC, hh, lowB_length, Bool.and_false, Bool.false_and, q0]; (repeat' (first | apply And.intro | intro _)))
  | refine block_k fun zB zbn zbx zbr zbi => ?_
  | ((all_goals refine call_draw (fun k => k) _ [] (fun _ _ => rfl) (by first | rfl | (simp only [go_sem, m16, d16, tk16, polyC, hh, lowB_length, Bool.and_false, Bool.false_and, q0] <;> rfl)) ((low_ _ 8 (by decide)).plain fun _ _ h => h) ?_ ?_); (all_goals try (refine And.intro ?_ (And.intro ?_ (And.intro ?_ ?_)) <;> first | rfl | simp only [go_sem])); (all_goals simp only [go_sem, m16, d16, tk16, polyC, hh, lowB_length, Bool.and_false, Bool.false_and, q0]); (all_goals repeat' (first | apply And.intro | intro _)))
  | ((all_goals (refine call_draw (fun k => k) _ [] (fun _ _ => rfl) ?_ ((poly_begun_low r0 r1).plain fun _ _ h => h) ?_ ?_; focus (first | rfl | (simp only [go_sem, m16, d16, tk16, polyC, hh, lowB_length, Bool.and_false, Bool.false_and, q0] <;> rfl)))); (all_goals try (refine And.intro ?_ (And.intro ?_ (And.intro ?_ ?_)) <;> first | rfl | simp only [go_sem])); (all_goals simp only [go_sem, m16, d16, tk16, polyC, hh, lowB_length, Bool.and_false, Bool.false_and, q0]); (all_goals repeat' (first | apply And.intro | intro _)); (all_goals (first | ((refine call_draw (fun k => k) _ [] (fun _ _ => rfl) ?_ ((parts_of a0 a1 a2).plain fun _ _ h => h) ?_ ?_; focus (first | rfl | (simp only [go_sem, m16, d16, tk16, polyC, hh, lowB_length, Bool.and_false, Bool.false_and, q0] <;> rfl))); all_goals try (refine And.intro ?_ (And.intro ?_ (And.intro ?_ ?_)) <;> first | rfl | simp only [go_sem]); all_goals simp only [go_sem, m16, d16, tk16, polyC, hh, lowB_length, Bool.and_false, Bool.false_and, q0]; all_goals repeat' (first | apply And.intro | intro _)) | skip)); (all_goals (first | ((refine call_draw (fun k => k) _ [] (fun _ _ => rfl) ?_ ((carried_of (parts3 a0 a1 a2)).plain fun _ _ h => h) ?_ ?_; focus (first | rfl | (simp only [go_sem, m16, d16, tk16, polyC, hh, lowB_length, Bool.and_false, Bool.false_and, q0] <;> rfl))); all_goals try (refine And.intro ?_ (And.intro ?_ (And.intro ?_ ?_)) <;> first | rfl | simp only [go_sem]); all_goals simp only [go_sem, m16, d16, tk16, polyC, hh, lowB_length, Bool.and_false, Bool.false_and, q0]; all_goals repeat' (first | apply And.intro | intro _)) | skip)); (all_goals (first | ((refine call_draw (fun k => k) _ [] (fun _ _ => rfl) ?_ ((whole_of (parts3 a0 a1 a2).carried).plain fun _ _ h => h) ?_ ?_; focus (first | rfl | (simp only [go_sem, m16, d16, tk16, polyC, hh, lowB_length, Bool.and_false, Bool.false_and, q0] <;> rfl))); all_goals try (refine And.intro ?_ (And.intro ?_ (And.intro ?_ ?_)) <;> first | rfl | simp only [go_sem]); all_goals simp only [go_sem, m16, d16, tk16, polyC, hh, lowB_length, Bool.and_false, Bool.false_and, q0]; all_goals repeat' (first | apply And.intro | intro _)) | skip)))
  | refine seq_k fun zN zM zhN zhM => ?_
 refine ht_dropE [0, 3, 7, 8, 9, 10, 11, 12, 13, 14, 15, 16, 17, 18, 19, 20, 21, 22, 23, 24, 25, 26, 27, 28, 29, 30, 31, 32, 33, 34, 35, 36, 37, 38, 39, 40, 41, 42, 43, 44, 45, 46, 47, 48, 49, 50, 51] ?_
 simp only [dropE_mk, fgt_nil, fgt_cons, List.contains_cons, List.contains_nil, Nat.reduceBEq, beq_self_eq_true, Bool.or_false, Bool.or_true, Bool.true_or, Bool.false_or, Bool.false_eq_true, reduceIte]
 refine loop_k (fun y => [(53, .w (.one (.pl (.i ((y.1 : Nat) : Int))))), (4, .w (.one (.pl (.b false))))]) (fun _ => []) (fun y => 16 - y.1) (⟨0, Nat.zero_le _⟩ : {y : Nat // y ≤ 16}) ?_ ?_ ?_
 · (simp only [go_sem, leX, List.cons_append, List.nil_append]; try simp)
 · (simp only [go_sem, leX, List.cons_append, List.nil_append]; try simp)
 intro ⟨i, hi⟩ zN zM zhN zhM
 simp only [List.cons_append, List.nil_append]
 rcases Nat.lt_or_ge i 16 with hlt | hge
 · have hcq : ((i : Nat) : Int) < 16 := by omega
   have hc0 : (0 : Int) ≤ ((i : Nat) : Int) := by omega
   have hs1 : Go.RowKit.wrap64 (((i : Nat) : Int) + 1) = ((i + 1 : Nat) : Int) := wnat (by omega) (by omega)
   have hk1 : List.take 1 (List.drop i held) = [held.getD i 0] := by have := one_at (l := held) (o := 0) (m := 16) (i := i) (by omega) hlt; simpa [← hh] using this
   have hk2 : i + 1 ≤ 16 := by omega
   have F9 := And.intro hcq <| And.intro hc0 <| And.intro hs1 <| And.intro hk1 <| hk2
   iterate 16 first
    | refine zhK _ ?_
    | (refine sr_k fun zK zhK => ?_; simp only [go_sem, m16, d16, tk16, polyC, hh, lowB_length, Bool.and_false, Bool.false_and, q0, bytesC_one, F9]; (repeat' (first | apply And.intro | intro _)))
    | (refine zhN _ ?_; clear zhN zhM)
    | (refine region_k fun zK zhK => ?_; simp only [go_sem, m16, d16, tk16, polyC, hh, lowB_length, Bool.and_false, Bool.false_and, q0, bytesC_one, F9]; (repeat' (first | apply And.intro | intro _)))
    | refine skip_k ?_
    | refine block_k fun zB zbn zbx zbr zbi => ?_
    | (refine zbn _ ?_; clear zbn zbx zbr zbi)
    | refine seq_k fun zN zM zhN zhM => ?_
    | (refine condT_k ?_ ?_; focus (first | rfl | (simp [go_sem, m16, d16, tk16, polyC, hh, lowB_length, Bool.and_false, Bool.false_and, q0, bytesC_one, F9]; done)))
   refine zhN ⟨i + 1, hlt⟩ _ ?_ ?_ ?_
   · (show 16 - (i + 1) < 16 - i; clear hs1; omega)
   · (simp only [go_sem, leX, List.cons_append, List.nil_append]; try simp)
   · (simp only [go_sem, leX, List.cons_append, List.nil_append]; try simp)
 · have hcq : ¬ ((i : Nat) : Int) < 16 := by omega
   iterate 18 first
    | (refine sr_k fun zK zhK => ?_; simp only [go_sem, m16, d16, tk16, polyC, hh, lowB_length, Bool.and_false, Bool.false_and, q0, hcq]; (repeat' (first | apply And.intro | intro _)))
    | refine zhK _ ?_
    | (refine zhM _ _ ?_; clear zhN zhM)
    | refine exit_k ?_
    | (refine zbx _ ?_; clear zbn zbx zbr zbi)
    | (refine zhN _ ?_; clear zhN zhM)
    | refine ret_k ?_
    | (refine zhZ _ _ ?_; simp only [go_sem, m16, d16, tk16, polyC, hh, lowB_length, Bool.and_false, Bool.false_and, q0, hcq]; (all_goals (rw [perr_no (fun h => h0 ⟨(mask_iff _ _).mpr h.f0, (mask_iff _ _).mpr h.f1⟩)])))
    | refine seq_k fun zN zM zhN zhM => ?_
    | (refine condF_k ?_ ?_; focus (first | rfl | (simp [go_sem, m16, d16, tk16, polyC, hh, lowB_length, Bool.and_false, Bool.false_and, q0, hcq]; done)))
    | (refine condT_k ?_ ?_; focus (first | rfl | (simp [go_sem, m16, d16, tk16, polyC, hh, lowB_length, Bool.and_false, Bool.false_and, q0, hcq]; done)))
set_option maxHeartbeats 1600000 in
set_option maxRecDepth 100000 in
theorem pflt_lo (r0 r1 p0 p1 a0 a1 a2 : UInt64) (held : List UInt8) (hh : held.length = 16) (n : Int) (h0 : r0 &&& ~~~1152921487695413247 = 0) (h1 : r1 &&& ~~~1152921487695413244 = 0) (h2 : ¬ 0 ≤ n) :
 Ct Try.prog 17 [.w (.agg (polyC r0 r1 p0 p1 a0 a1 a2 held n))] (fun v m => v = .w (.one (.pl (.i (polyErr r0 r1 a0 a1 a2 held n))))) := by
 have q0 := (mask_iff _ _).mpr h0
 have q1 := (mask_iff _ _).mpr h1
 have F0 := And.intro hh <| And.intro q0 <| And.intro q1 <| h2
 refine Ct.k Try.func17 rfl Try.ntmps17 (congrArg Array.toList Try.results17) (by simp) fun w0 ro => ?_
 refine top_k fun zZ zhZ => ?_
 iterate 17 first
  | (refine sr_k fun zK zhK => ?_; simp only [go_sem, m16, d16, tk16, polyC, lowB_length, Bool.and_false, Bool.false_and, F0]; (repeat' (first | apply And.intro | intro _)))
  | refine zhK _ ?_
  | refine zhK _ _ trivial ?_
  | (refine draw_k (id := 2) [8, 9, 10, 11, 12, 13, 14, 15, 16, 17, 18] [0, 0, 2, 6, 14, 0, 32, 96, 254, 510, 1023] [] mixed (by kernel_rfl) (by simp only [go_sem]) fun zK zhK => ?_; simp only [go_sem, m16, d16, tk16, polyC, lowB_length, Bool.and_false, Bool.false_and, F0]; (repeat' (first | apply And.intro | intro _)))
  | (refine zhN _ ?_; clear zhN zhM)
  | (refine sd_k (id := 3) [19, 20, 21, 22, 23, 24, 25, 26, 27, 28, 29, 30, 31, 32, 33, 34, 35, 36, 37, 38, 39, 40, 41, 42, 43, 44, 45, 46, 47, 48, 49, 50, 4] [0, 1, 3, 0, 8, 31, 63, 127, 255, 511, 1023, 2047, 4095, 8191, 16383, 32767, 65535, 131071, 262143, 524287, 1048575, 2097151, 4194303, 8388607, 16777215, 33554431, 67108863, 134217727, 8388607, 276824063, 1073741823, 2147483647, 4294967295] [] mixed (by kernel_rfl) (by simp only [go_sem]) fun zK zhK => ?_; simp only [go_sem, m16, d16, tk16, polyC, lowB_length, Bool.and_false, Bool.false_and, F0]; (repeat' (first | apply And.intro | intro _)))
  | refine block_k fun zB zbn zbx zbr zbi => ?_
  | ((all_goals refine call_draw (fun k => k) _ [] (fun _ _ => rfl) (by first | rfl | (simp only [go_sem, m16, d16, tk16, polyC, lowB_length, Bool.and_false, Bool.false_and, F0] <;> rfl)) ((low_ _ 8 (by decide)).plain fun _ _ h => h) ?_ ?_); (all_goals try (refine And.intro ?_ (And.intro ?_ (And.intro ?_ ?_)) <;> first | rfl | simp only [go_sem])); (all_goals simp only [go_sem, m16, d16, tk16, polyC, lowB_length, Bool.and_false, Bool.false_and, F0]); (all_goals repeat' (first | apply And.intro | intro _)))
  | ((all_goals (refine call_draw (fun k => k) _ [] (fun _ _ => rfl) ?_ ((poly_begun_low r0 r1).plain fun _ _ h => h) ?_ ?_; focus (first | rfl | (simp only [go_sem, m16, d16, tk16, polyC, lowB_length, Bool.and_false, Bool.false_and, F0] <;> rfl)))); (all_goals try (refine And.intro ?_ (And.intro ?_ (And.intro ?_ ?_)) <;> first | rfl | simp only [go_sem])); (all_goals simp only [go_sem, m16, d16, tk16, polyC, lowB_length, Bool.and_false, Bool.false_and, F0]); (all_goals repeat' (first | apply And.intro | intro _)); (all_goals (first | ((refine call_draw (fun k => k) _ [] (fun _ _ => rfl) ?_ ((parts_of a0 a1 a2).plain fun _ _ h => h) ?_ ?_; focus (first | rfl | (simp only [go_sem, m16, d16, tk16, polyC, lowB_length, Bool.and_false, Bool.false_and, F0] <;> rfl))); all_goals try (refine And.intro ?_ (And.intro ?_ (And.intro ?_ ?_)) <;> first | rfl | simp only [go_sem]); all_goals simp only [go_sem, m16, d16, tk16, polyC, lowB_length, Bool.and_false, Bool.false_and, F0]; all_goals repeat' (first | apply And.intro | intro _)) | skip)); (all_goals (first | ((refine call_draw (fun k => k) _ [] (fun _ _ => rfl) ?_ ((carried_of (parts3 a0 a1 a2)).plain fun _ _ h => h) ?_ ?_; focus (first | rfl | (simp only [go_sem, m16, d16, tk16, polyC, lowB_length, Bool.and_false, Bool.false_and, F0] <;> rfl))); all_goals try (refine And.intro ?_ (And.intro ?_ (And.intro ?_ ?_)) <;> first | rfl | simp only [go_sem]); all_goals simp only [go_sem, m16, d16, tk16, polyC, lowB_length, Bool.and_false, Bool.false_and, F0]; all_goals repeat' (first | apply And.intro | intro _)) | skip)); (all_goals (first | ((refine call_draw (fun k => k) _ [] (fun _ _ => rfl) ?_ ((whole_of (parts3 a0 a1 a2).carried).plain fun _ _ h => h) ?_ ?_; focus (first | rfl | (simp only [go_sem, m16, d16, tk16, polyC, lowB_length, Bool.and_false, Bool.false_and, F0] <;> rfl))); all_goals try (refine And.intro ?_ (And.intro ?_ (And.intro ?_ ?_)) <;> first | rfl | simp only [go_sem]); all_goals simp only [go_sem, m16, d16, tk16, polyC, lowB_length, Bool.and_false, Bool.false_and, F0]; all_goals repeat' (first | apply And.intro | intro _)) | skip)))
  | refine seq_k fun zN zM zhN zhM => ?_
 refine ht_dropE [0, 3, 7, 8, 9, 10, 11, 12, 13, 14, 15, 16, 17, 18, 19, 20, 21, 22, 23, 24, 25, 26, 27, 28, 29, 30, 31, 32, 33, 34, 35, 36, 37, 38, 39, 40, 41, 42, 43, 44, 45, 46, 47, 48, 49, 50, 51] ?_
 simp only [dropE_mk, fgt_nil, fgt_cons, List.contains_cons, List.contains_nil, Nat.reduceBEq, beq_self_eq_true, Bool.or_false, Bool.or_true, Bool.true_or, Bool.false_or, Bool.false_eq_true, reduceIte]
 refine loop_k (fun y => [(53, .w (.one (.pl (.i ((y.1 : Nat) : Int))))), (4, .w (.one (.pl (.b false))))]) (fun _ => []) (fun y => 16 - y.1) (⟨0, Nat.zero_le _⟩ : {y : Nat // y ≤ 16}) ?_ ?_ ?_
 · (simp only [go_sem, leX, List.cons_append, List.nil_append]; try simp)
 · (simp only [go_sem, leX, List.cons_append, List.nil_append]; try simp)
 intro ⟨i, hi⟩ zN zM zhN zhM
 simp only [List.cons_append, List.nil_append]
 rcases Nat.lt_or_ge i 16 with hlt | hge
 · have hcq : ((i : Nat) : Int) < 16 := by omega
   have hc0 : (0 : Int) ≤ ((i : Nat) : Int) := by omega
   have hs1 : Go.RowKit.wrap64 (((i : Nat) : Int) + 1) = ((i + 1 : Nat) : Int) := wnat (by omega) (by omega)
   have hk1 : List.take 1 (List.drop i held) = [held.getD i 0] := by have := one_at (l := held) (o := 0) (m := 16) (i := i) (by omega) hlt; simpa [← hh] using this
   have hk2 : i + 1 ≤ 16 := by omega
   have F9 := And.intro hcq <| And.intro hc0 <| And.intro hs1 <| And.intro hk1 <| hk2
   iterate 16 first
    | refine zhK _ ?_
    | (refine sr_k fun zK zhK => ?_; simp only [go_sem, m16, d16, tk16, polyC, lowB_length, Bool.and_false, Bool.false_and, F0, bytesC_one, F9]; (repeat' (first | apply And.intro | intro _)))
    | (refine zhN _ ?_; clear zhN zhM)
    | (refine region_k fun zK zhK => ?_; simp only [go_sem, m16, d16, tk16, polyC, lowB_length, Bool.and_false, Bool.false_and, F0, bytesC_one, F9]; (repeat' (first | apply And.intro | intro _)))
    | refine skip_k ?_
    | refine block_k fun zB zbn zbx zbr zbi => ?_
    | (refine zbn _ ?_; clear zbn zbx zbr zbi)
    | refine seq_k fun zN zM zhN zhM => ?_
    | (refine condT_k ?_ ?_; focus (first | rfl | (simp [go_sem, m16, d16, tk16, polyC, lowB_length, Bool.and_false, Bool.false_and, F0, bytesC_one, F9]; done)))
   refine zhN ⟨i + 1, hlt⟩ _ ?_ ?_ ?_
   · (show 16 - (i + 1) < 16 - i; clear hs1; omega)
   · (simp only [go_sem, leX, List.cons_append, List.nil_append]; try simp)
   · (simp only [go_sem, leX, List.cons_append, List.nil_append]; try simp)
 · have hcq : ¬ ((i : Nat) : Int) < 16 := by omega
   iterate 18 first
    | (refine sr_k fun zK zhK => ?_; simp only [go_sem, m16, d16, tk16, polyC, lowB_length, Bool.and_false, Bool.false_and, F0, hcq]; (repeat' (first | apply And.intro | intro _)))
    | refine zhK _ ?_
    | (refine zhM _ _ ?_; clear zhN zhM)
    | refine exit_k ?_
    | (refine zbx _ ?_; clear zbn zbx zbr zbi)
    | (refine zhN _ ?_; clear zhN zhM)
    | refine ret_k ?_
    | (refine zhZ _ _ ?_; simp only [go_sem, m16, d16, tk16, polyC, lowB_length, Bool.and_false, Bool.false_and, F0, hcq]; (all_goals (rw [perr_no (fun h => h2 h.lo)])))
    | refine seq_k fun zN zM zhN zhM => ?_
    | (refine condF_k ?_ ?_; focus (first | rfl | (simp [go_sem, m16, d16, tk16, polyC, lowB_length, Bool.and_false, Bool.false_and, F0, hcq]; done)))
    | (refine condT_k ?_ ?_; focus (first | rfl | (simp [go_sem, m16, d16, tk16, polyC, lowB_length, Bool.and_false, Bool.false_and, F0, hcq]; done)))
set_option maxHeartbeats 1600000 in
set_option maxRecDepth 100000 in
theorem pflt_hi (r0 r1 p0 p1 a0 a1 a2 : UInt64) (held : List UInt8) (hh : held.length = 16) (n : Int) (h0 : r0 &&& ~~~1152921487695413247 = 0) (h1 : r1 &&& ~~~1152921487695413244 = 0) (h2 : 0 ≤ n) (h3 : ¬ n < 16) :
 Ct Try.prog 17 [.w (.agg (polyC r0 r1 p0 p1 a0 a1 a2 held n))] (fun v m => v = .w (.one (.pl (.i (polyErr r0 r1 a0 a1 a2 held n))))) := by
 have q0 := (mask_iff _ _).mpr h0
 have q1 := (mask_iff _ _).mpr h1
 have F0 := And.intro hh <| And.intro q0 <| And.intro q1 <| And.intro h2 <| h3
 refine Ct.k Try.func17 rfl Try.ntmps17 (congrArg Array.toList Try.results17) (by simp) fun w0 ro => ?_
 refine top_k fun zZ zhZ => ?_
 iterate 17 first
  | (refine sr_k fun zK zhK => ?_; simp only [go_sem, m16, d16, tk16, polyC, lowB_length, Bool.and_false, Bool.false_and, F0]; (repeat' (first | apply And.intro | intro _)))
  | refine zhK _ ?_
  | refine zhK _ _ trivial ?_
  | (refine draw_k (id := 2) [8, 9, 10, 11, 12, 13, 14, 15, 16, 17, 18] [0, 0, 2, 6, 14, 0, 32, 96, 254, 510, 1023] [] mixed (by kernel_rfl) (by simp only [go_sem]) fun zK zhK => ?_; simp only [go_sem, m16, d16, tk16, polyC, lowB_length, Bool.and_false, Bool.false_and, F0]; (repeat' (first | apply And.intro | intro _)))
  | (refine zhN _ ?_; clear zhN zhM)
  | (refine sd_k (id := 3) [19, 20, 21, 22, 23, 24, 25, 26, 27, 28, 29, 30, 31, 32, 33, 34, 35, 36, 37, 38, 39, 40, 41, 42, 43, 44, 45, 46, 47, 48, 49, 50, 4] [0, 1, 3, 0, 8, 31, 63, 127, 255, 511, 1023, 2047, 4095, 8191, 16383, 32767, 65535, 131071, 262143, 524287, 1048575, 2097151, 4194303, 8388607, 16777215, 33554431, 67108863, 134217727, 8388607, 276824063, 1073741823, 2147483647, 4294967295] [] mixed (by kernel_rfl) (by simp only [go_sem]) fun zK zhK => ?_; simp only [go_sem, m16, d16, tk16, polyC, lowB_length, Bool.and_false, Bool.false_and, F0]; (repeat' (first | apply And.intro | intro _)))
  | refine block_k fun zB zbn zbx zbr zbi => ?_
  | ((all_goals refine call_draw (fun k => k) _ [] (fun _ _ => rfl) (by first | rfl | (simp only [go_sem, m16, d16, tk16, polyC, lowB_length, Bool.and_false, Bool.false_and, F0] <;> rfl)) ((low_ _ 8 (by decide)).plain fun _ _ h => h) ?_ ?_); (all_goals try (refine And.intro ?_ (And.intro ?_ (And.intro ?_ ?_)) <;> first | rfl | simp only [go_sem])); (all_goals simp only [go_sem, m16, d16, tk16, polyC, lowB_length, Bool.and_false, Bool.false_and, F0]); (all_goals repeat' (first | apply And.intro | intro _)))
  | ((all_goals (refine call_draw (fun k => k) _ [] (fun _ _ => rfl) ?_ ((poly_begun_low r0 r1).plain fun _ _ h => h) ?_ ?_; focus (first | rfl | (simp only [go_sem, m16, d16, tk16, polyC, lowB_length, Bool.and_false, Bool.false_and, F0] <;> rfl)))); (all_goals try (refine And.intro ?_ (And.intro ?_ (And.intro ?_ ?_)) <;> first | rfl | simp only [go_sem])); (all_goals simp only [go_sem, m16, d16, tk16, polyC, lowB_length, Bool.and_false, Bool.false_and, F0]); (all_goals repeat' (first | apply And.intro | intro _)); (all_goals (first | ((refine call_draw (fun k => k) _ [] (fun _ _ => rfl) ?_ ((parts_of a0 a1 a2).plain fun _ _ h => h) ?_ ?_; focus (first | rfl | (simp only [go_sem, m16, d16, tk16, polyC, lowB_length, Bool.and_false, Bool.false_and, F0] <;> rfl))); all_goals try (refine And.intro ?_ (And.intro ?_ (And.intro ?_ ?_)) <;> first | rfl | simp only [go_sem]); all_goals simp only [go_sem, m16, d16, tk16, polyC, lowB_length, Bool.and_false, Bool.false_and, F0]; all_goals repeat' (first | apply And.intro | intro _)) | skip)); (all_goals (first | ((refine call_draw (fun k => k) _ [] (fun _ _ => rfl) ?_ ((carried_of (parts3 a0 a1 a2)).plain fun _ _ h => h) ?_ ?_; focus (first | rfl | (simp only [go_sem, m16, d16, tk16, polyC, lowB_length, Bool.and_false, Bool.false_and, F0] <;> rfl))); all_goals try (refine And.intro ?_ (And.intro ?_ (And.intro ?_ ?_)) <;> first | rfl | simp only [go_sem]); all_goals simp only [go_sem, m16, d16, tk16, polyC, lowB_length, Bool.and_false, Bool.false_and, F0]; all_goals repeat' (first | apply And.intro | intro _)) | skip)); (all_goals (first | ((refine call_draw (fun k => k) _ [] (fun _ _ => rfl) ?_ ((whole_of (parts3 a0 a1 a2).carried).plain fun _ _ h => h) ?_ ?_; focus (first | rfl | (simp only [go_sem, m16, d16, tk16, polyC, lowB_length, Bool.and_false, Bool.false_and, F0] <;> rfl))); all_goals try (refine And.intro ?_ (And.intro ?_ (And.intro ?_ ?_)) <;> first | rfl | simp only [go_sem]); all_goals simp only [go_sem, m16, d16, tk16, polyC, lowB_length, Bool.and_false, Bool.false_and, F0]; all_goals repeat' (first | apply And.intro | intro _)) | skip)))
  | refine seq_k fun zN zM zhN zhM => ?_
 refine ht_dropE [0, 3, 7, 8, 9, 10, 11, 12, 13, 14, 15, 16, 17, 18, 19, 20, 21, 22, 23, 24, 25, 26, 27, 28, 29, 30, 31, 32, 33, 34, 35, 36, 37, 38, 39, 40, 41, 42, 43, 44, 45, 46, 47, 48, 49, 50, 51] ?_
 simp only [dropE_mk, fgt_nil, fgt_cons, List.contains_cons, List.contains_nil, Nat.reduceBEq, beq_self_eq_true, Bool.or_false, Bool.or_true, Bool.true_or, Bool.false_or, Bool.false_eq_true, reduceIte]
 refine loop_k (fun y => [(53, .w (.one (.pl (.i ((y.1 : Nat) : Int))))), (4, .w (.one (.pl (.b false))))]) (fun _ => []) (fun y => 16 - y.1) (⟨0, Nat.zero_le _⟩ : {y : Nat // y ≤ 16}) ?_ ?_ ?_
 · (simp only [go_sem, leX, List.cons_append, List.nil_append]; try simp)
 · (simp only [go_sem, leX, List.cons_append, List.nil_append]; try simp)
 intro ⟨i, hi⟩ zN zM zhN zhM
 simp only [List.cons_append, List.nil_append]
 rcases Nat.lt_or_ge i 16 with hlt | hge
 · have hcq : ((i : Nat) : Int) < 16 := by omega
   have hc0 : (0 : Int) ≤ ((i : Nat) : Int) := by omega
   have hs1 : Go.RowKit.wrap64 (((i : Nat) : Int) + 1) = ((i + 1 : Nat) : Int) := wnat (by omega) (by omega)
   have hk1 : List.take 1 (List.drop i held) = [held.getD i 0] := by have := one_at (l := held) (o := 0) (m := 16) (i := i) (by omega) hlt; simpa [← hh] using this
   have hk2 : i + 1 ≤ 16 := by omega
   have F9 := And.intro hcq <| And.intro hc0 <| And.intro hs1 <| And.intro hk1 <| hk2
   iterate 16 first
    | refine zhK _ ?_
    | (refine sr_k fun zK zhK => ?_; simp only [go_sem, m16, d16, tk16, polyC, lowB_length, Bool.and_false, Bool.false_and, F0, bytesC_one, F9]; (repeat' (first | apply And.intro | intro _)))
    | (refine zhN _ ?_; clear zhN zhM)
    | (refine region_k fun zK zhK => ?_; simp only [go_sem, m16, d16, tk16, polyC, lowB_length, Bool.and_false, Bool.false_and, F0, bytesC_one, F9]; (repeat' (first | apply And.intro | intro _)))
    | refine skip_k ?_
    | refine block_k fun zB zbn zbx zbr zbi => ?_
    | (refine zbn _ ?_; clear zbn zbx zbr zbi)
    | refine seq_k fun zN zM zhN zhM => ?_
    | (refine condT_k ?_ ?_; focus (first | rfl | (simp [go_sem, m16, d16, tk16, polyC, lowB_length, Bool.and_false, Bool.false_and, F0, bytesC_one, F9]; done)))
   refine zhN ⟨i + 1, hlt⟩ _ ?_ ?_ ?_
   · (show 16 - (i + 1) < 16 - i; clear hs1; omega)
   · (simp only [go_sem, leX, List.cons_append, List.nil_append]; try simp)
   · (simp only [go_sem, leX, List.cons_append, List.nil_append]; try simp)
 · have hcq : ¬ ((i : Nat) : Int) < 16 := by omega
   iterate 18 first
    | (refine sr_k fun zK zhK => ?_; simp only [go_sem, m16, d16, tk16, polyC, lowB_length, Bool.and_false, Bool.false_and, F0, hcq]; (repeat' (first | apply And.intro | intro _)))
    | refine zhK _ ?_
    | (refine zhM _ _ ?_; clear zhN zhM)
    | refine exit_k ?_
    | (refine zbx _ ?_; clear zbn zbx zbr zbi)
    | (refine zhN _ ?_; clear zhN zhM)
    | refine ret_k ?_
    | (refine zhZ _ _ ?_; simp only [go_sem, m16, d16, tk16, polyC, lowB_length, Bool.and_false, Bool.false_and, F0, hcq]; (all_goals (rw [perr_no (fun h => h3 (by have := h.hi; omega))])))
    | refine seq_k fun zN zM zhN zhM => ?_
    | (refine condF_k ?_ ?_; focus (first | rfl | (simp [go_sem, m16, d16, tk16, polyC, lowB_length, Bool.and_false, Bool.false_and, F0, hcq]; done)))
    | (refine condT_k ?_ ?_; focus (first | rfl | (simp [go_sem, m16, d16, tk16, polyC, lowB_length, Bool.and_false, Bool.false_and, F0, hcq]; done)))
set_option maxHeartbeats 1600000 in
set_option maxRecDepth 100000 in
theorem pflt_a2 (r0 r1 p0 p1 a0 a1 a2 : UInt64) (held : List UInt8) (hh : held.length = 16) (n : Int) (h0 : r0 &&& ~~~1152921487695413247 = 0) (h1 : r1 &&& ~~~1152921487695413244 = 0) (h2 : 0 ≤ n) (h3 : n < 16) (h4 : ¬ a2 < 4) :
 Ct Try.prog 17 [.w (.agg (polyC r0 r1 p0 p1 a0 a1 a2 held n))] (fun v m => v = .w (.one (.pl (.i (polyErr r0 r1 a0 a1 a2 held n))))) := by
 have q0 := (mask_iff _ _).mpr h0
 have q1 := (mask_iff _ _).mpr h1
 have F0 := And.intro hh <| And.intro q0 <| And.intro q1 <| And.intro h2 <| And.intro h3 <| h4
 refine Ct.k Try.func17 rfl Try.ntmps17 (congrArg Array.toList Try.results17) (by simp) fun w0 ro => ?_
 refine top_k fun zZ zhZ => ?_
 iterate 17 first
  | (refine sr_k fun zK zhK => ?_; simp only [go_sem, m16, d16, tk16, polyC, lowB_length, Bool.and_false, Bool.false_and, F0]; (repeat' (first | apply And.intro | intro _)))
  | refine zhK _ ?_
  | refine zhK _ _ trivial ?_
  | (refine draw_k (id := 2) [8, 9, 10, 11, 12, 13, 14, 15, 16, 17, 18] [0, 0, 2, 6, 14, 0, 32, 96, 254, 510, 1023] [] mixed (by kernel_rfl) (by simp only [go_sem]) fun zK zhK => ?_; simp only [go_sem, m16, d16, tk16, polyC, lowB_length, Bool.and_false, Bool.false_and, F0]; (repeat' (first | apply And.intro | intro _)))
  | (refine zhN _ ?_; clear zhN zhM)
  | (refine sd_k (id := 3) [19, 20, 21, 22, 23, 24, 25, 26, 27, 28, 29, 30, 31, 32, 33, 34, 35, 36, 37, 38, 39, 40, 41, 42, 43, 44, 45, 46, 47, 48, 49, 50, 4] [0, 1, 3, 0, 8, 31, 63, 127, 255, 511, 1023, 2047, 4095, 8191, 16383, 32767, 65535, 131071, 262143, 524287, 1048575, 2097151, 4194303, 8388607, 16777215, 33554431, 67108863, 134217727, 8388607, 276824063, 1073741823, 2147483647, 4294967295] [] mixed (by kernel_rfl) (by simp only [go_sem]) fun zK zhK => ?_; simp only [go_sem, m16, d16, tk16, polyC, lowB_length, Bool.and_false, Bool.false_and, F0]; (repeat' (first | apply And.intro | intro _)))
  | refine block_k fun zB zbn zbx zbr zbi => ?_
  | ((all_goals refine call_draw (fun k => k) _ [] (fun _ _ => rfl) (by first | rfl | (simp only [go_sem, m16, d16, tk16, polyC, lowB_length, Bool.and_false, Bool.false_and, F0] <;> rfl)) ((low_ _ 8 (by decide)).plain fun _ _ h => h) ?_ ?_); (all_goals try (refine And.intro ?_ (And.intro ?_ (And.intro ?_ ?_)) <;> first | rfl | simp only [go_sem])); (all_goals simp only [go_sem, m16, d16, tk16, polyC, lowB_length, Bool.and_false, Bool.false_and, F0]); (all_goals repeat' (first | apply And.intro | intro _)))
  | ((all_goals (refine call_draw (fun k => k) _ [] (fun _ _ => rfl) ?_ ((poly_begun_low r0 r1).plain fun _ _ h => h) ?_ ?_; focus (first | rfl | (simp only [go_sem, m16, d16, tk16, polyC, lowB_length, Bool.and_false, Bool.false_and, F0] <;> rfl)))); (all_goals try (refine And.intro ?_ (And.intro ?_ (And.intro ?_ ?_)) <;> first | rfl | simp only [go_sem])); (all_goals simp only [go_sem, m16, d16, tk16, polyC, lowB_length, Bool.and_false, Bool.false_and, F0]); (all_goals repeat' (first | apply And.intro | intro _)); (all_goals (first | ((refine call_draw (fun k => k) _ [] (fun _ _ => rfl) ?_ ((parts_of a0 a1 a2).plain fun _ _ h => h) ?_ ?_; focus (first | rfl | (simp only [go_sem, m16, d16, tk16, polyC, lowB_length, Bool.and_false, Bool.false_and, F0] <;> rfl))); all_goals try (refine And.intro ?_ (And.intro ?_ (And.intro ?_ ?_)) <;> first | rfl | simp only [go_sem]); all_goals simp only [go_sem, m16, d16, tk16, polyC, lowB_length, Bool.and_false, Bool.false_and, F0]; all_goals repeat' (first | apply And.intro | intro _)) | skip)); (all_goals (first | ((refine call_draw (fun k => k) _ [] (fun _ _ => rfl) ?_ ((carried_of (parts3 a0 a1 a2)).plain fun _ _ h => h) ?_ ?_; focus (first | rfl | (simp only [go_sem, m16, d16, tk16, polyC, lowB_length, Bool.and_false, Bool.false_and, F0] <;> rfl))); all_goals try (refine And.intro ?_ (And.intro ?_ (And.intro ?_ ?_)) <;> first | rfl | simp only [go_sem]); all_goals simp only [go_sem, m16, d16, tk16, polyC, lowB_length, Bool.and_false, Bool.false_and, F0]; all_goals repeat' (first | apply And.intro | intro _)) | skip)); (all_goals (first | ((refine call_draw (fun k => k) _ [] (fun _ _ => rfl) ?_ ((whole_of (parts3 a0 a1 a2).carried).plain fun _ _ h => h) ?_ ?_; focus (first | rfl | (simp only [go_sem, m16, d16, tk16, polyC, lowB_length, Bool.and_false, Bool.false_and, F0] <;> rfl))); all_goals try (refine And.intro ?_ (And.intro ?_ (And.intro ?_ ?_)) <;> first | rfl | simp only [go_sem]); all_goals simp only [go_sem, m16, d16, tk16, polyC, lowB_length, Bool.and_false, Bool.false_and, F0]; all_goals repeat' (first | apply And.intro | intro _)) | skip)))
  | refine seq_k fun zN zM zhN zhM => ?_
 refine ht_dropE [0, 3, 7, 8, 9, 10, 11, 12, 13, 14, 15, 16, 17, 18, 19, 20, 21, 22, 23, 24, 25, 26, 27, 28, 29, 30, 31, 32, 33, 34, 35, 36, 37, 38, 39, 40, 41, 42, 43, 44, 45, 46, 47, 48, 49, 50, 51] ?_
 simp only [dropE_mk, fgt_nil, fgt_cons, List.contains_cons, List.contains_nil, Nat.reduceBEq, beq_self_eq_true, Bool.or_false, Bool.or_true, Bool.true_or, Bool.false_or, Bool.false_eq_true, reduceIte]
 refine loop_k (fun y => [(53, .w (.one (.pl (.i ((y.1 : Nat) : Int))))), (4, .w (.one (.pl (.b false))))]) (fun _ => []) (fun y => 16 - y.1) (⟨0, Nat.zero_le _⟩ : {y : Nat // y ≤ 16}) ?_ ?_ ?_
 · (simp only [go_sem, leX, List.cons_append, List.nil_append]; try simp)
 · (simp only [go_sem, leX, List.cons_append, List.nil_append]; try simp)
 intro ⟨i, hi⟩ zN zM zhN zhM
 simp only [List.cons_append, List.nil_append]
 rcases Nat.lt_or_ge i 16 with hlt | hge
 · have hcq : ((i : Nat) : Int) < 16 := by omega
   have hc0 : (0 : Int) ≤ ((i : Nat) : Int) := by omega
   have hs1 : Go.RowKit.wrap64 (((i : Nat) : Int) + 1) = ((i + 1 : Nat) : Int) := wnat (by omega) (by omega)
   have hk1 : List.take 1 (List.drop i held) = [held.getD i 0] := by have := one_at (l := held) (o := 0) (m := 16) (i := i) (by omega) hlt; simpa [← hh] using this
   have hk2 : i + 1 ≤ 16 := by omega
   have F9 := And.intro hcq <| And.intro hc0 <| And.intro hs1 <| And.intro hk1 <| hk2
   iterate 16 first
    | refine zhK _ ?_
    | (refine sr_k fun zK zhK => ?_; simp only [go_sem, m16, d16, tk16, polyC, lowB_length, Bool.and_false, Bool.false_and, F0, bytesC_one, F9]; (repeat' (first | apply And.intro | intro _)))
    | (refine zhN _ ?_; clear zhN zhM)
    | (refine region_k fun zK zhK => ?_; simp only [go_sem, m16, d16, tk16, polyC, lowB_length, Bool.and_false, Bool.false_and, F0, bytesC_one, F9]; (repeat' (first | apply And.intro | intro _)))
    | refine skip_k ?_
    | refine block_k fun zB zbn zbx zbr zbi => ?_
    | (refine zbn _ ?_; clear zbn zbx zbr zbi)
    | refine seq_k fun zN zM zhN zhM => ?_
    | (refine condT_k ?_ ?_; focus (first | rfl | (simp [go_sem, m16, d16, tk16, polyC, lowB_length, Bool.and_false, Bool.false_and, F0, bytesC_one, F9]; done)))
   refine zhN ⟨i + 1, hlt⟩ _ ?_ ?_ ?_
   · (show 16 - (i + 1) < 16 - i; clear hs1; omega)
   · (simp only [go_sem, leX, List.cons_append, List.nil_append]; try simp)
   · (simp only [go_sem, leX, List.cons_append, List.nil_append]; try simp)
 · have hcq : ¬ ((i : Nat) : Int) < 16 := by omega
   iterate 18 first
    | (refine sr_k fun zK zhK => ?_; simp only [go_sem, m16, d16, tk16, polyC, lowB_length, Bool.and_false, Bool.false_and, F0, hcq]; (repeat' (first | apply And.intro | intro _)))
    | refine zhK _ ?_
    | (refine zhM _ _ ?_; clear zhN zhM)
    | refine exit_k ?_
    | (refine zbx _ ?_; clear zbn zbx zbr zbi)
    | (refine zhN _ ?_; clear zhN zhM)
    | refine ret_k ?_
    | (refine zhZ _ _ ?_; simp only [go_sem, m16, d16, tk16, polyC, lowB_length, Bool.and_false, Bool.false_and, F0, hcq]; (all_goals (rw [perr_no (fun h => h4 (UInt64.lt_iff_toNat_lt.mpr h.f2))])))
    | refine seq_k fun zN zM zhN zhM => ?_
    | (refine condF_k ?_ ?_; focus (first | rfl | (simp [go_sem, m16, d16, tk16, polyC, lowB_length, Bool.and_false, Bool.false_and, F0, hcq]; done)))
    | (refine condT_k ?_ ?_; focus (first | rfl | (simp [go_sem, m16, d16, tk16, polyC, lowB_length, Bool.and_false, Bool.false_and, F0, hcq]; done)))
set_option maxHeartbeats 1600000 in
set_option maxRecDepth 100000 in
theorem pflt_acc (r0 r1 p0 p1 a0 a1 a2 : UInt64) (held : List UInt8) (hh : held.length = 16) (n : Int) (h0 : r0 &&& ~~~1152921487695413247 = 0) (h1 : r1 &&& ~~~1152921487695413244 = 0) (h2 : 0 ≤ n) (h3 : n < 16) (h4 : a2 < 4) (h5 : ¬ ((parts3 a0 a1 a2).carried.w0 = a0 ∧ (parts3 a0 a1 a2).carried.w1 = a1 ∧ (parts3 a0 a1 a2).carried.w2 = a2)) :
 Ct Try.prog 17 [.w (.agg (polyC r0 r1 p0 p1 a0 a1 a2 held n))] (fun v m => v = .w (.one (.pl (.i (polyErr r0 r1 a0 a1 a2 held n))))) := by
 have q0 := (mask_iff _ _).mpr h0
 have q1 := (mask_iff _ _).mpr h1
 have q5 : (decide ((parts3 a0 a1 a2).carried.w0 = a0) && (decide ((parts3 a0 a1 a2).carried.w1 = a1) && decide ((parts3 a0 a1 a2).carried.w2 = a2))) = false := by simpa using h5
 have F0 := And.intro hh <| And.intro q0 <| And.intro q1 <| And.intro h2 <| And.intro h3 <| And.intro h4 <| q5
 refine Ct.k Try.func17 rfl Try.ntmps17 (congrArg Array.toList Try.results17) (by simp) fun w0 ro => ?_
 refine top_k fun zZ zhZ => ?_
 iterate 20 first
  | (refine sr_k fun zK zhK => ?_; simp only [go_sem, m16, d16, tk16, polyC, lowB_length, Bool.and_false, Bool.false_and, W3, F0]; (repeat' (first | apply And.intro | intro _)))
  | refine zhK _ ?_
  | refine zhK _ _ trivial ?_
  | (refine draw_k (id := 2) [8, 9, 10, 11, 12, 13, 14, 15, 16, 17, 18] [0, 0, 2, 6, 14, 0, 32, 96, 254, 510, 1023] [] mixed (by kernel_rfl) (by simp only [go_sem]) fun zK zhK => ?_; simp only [go_sem, m16, d16, tk16, polyC, lowB_length, Bool.and_false, Bool.false_and, W3, F0]; (repeat' (first | apply And.intro | intro _)))
  | (refine zhN _ ?_; clear zhN zhM)
  | (refine sd_k (id := 3) [19, 20, 21, 22, 23, 24, 25, 26, 27, 28, 29, 30, 31, 32, 33, 34, 35, 36, 37, 38, 39, 40, 41, 42, 43, 44, 45, 46, 47, 48, 49, 50, 4] [0, 1, 3, 0, 8, 31, 63, 127, 255, 511, 1023, 2047, 4095, 8191, 16383, 32767, 65535, 131071, 262143, 524287, 1048575, 2097151, 4194303, 8388607, 16777215, 33554431, 67108863, 134217727, 8388607, 276824063, 1073741823, 2147483647, 4294967295] [] mixed (by kernel_rfl) (by simp only [go_sem]) fun zK zhK => ?_; simp only [go_sem, m16, d16, tk16, polyC, lowB_length, Bool.and_false, Bool.false_and, W3, F0]; (repeat' (first | apply And.intro | intro _)))
  | refine block_k fun zB zbn zbx zbr zbi => ?_
  | ((all_goals refine call_draw (fun k => k) _ [] (fun _ _ => rfl) (by first | rfl | (simp only [go_sem, m16, d16, tk16, polyC, lowB_length, Bool.and_false, Bool.false_and, W3, F0] <;> rfl)) ((low_ _ 8 (by decide)).plain fun _ _ h => h) ?_ ?_); (all_goals try (refine And.intro ?_ (And.intro ?_ (And.intro ?_ ?_)) <;> first | rfl | simp only [go_sem])); (all_goals simp only [go_sem, m16, d16, tk16, polyC, lowB_length, Bool.and_false, Bool.false_and, W3, F0]); (all_goals repeat' (first | apply And.intro | intro _)))
  | ((all_goals (refine call_draw (fun k => k) _ [] (fun _ _ => rfl) ?_ ((poly_begun_low r0 r1).plain fun _ _ h => h) ?_ ?_; focus (first | rfl | (simp only [go_sem, m16, d16, tk16, polyC, lowB_length, Bool.and_false, Bool.false_and, W3, F0] <;> rfl)))); (all_goals try (refine And.intro ?_ (And.intro ?_ (And.intro ?_ ?_)) <;> first | rfl | simp only [go_sem])); (all_goals simp only [go_sem, m16, d16, tk16, polyC, lowB_length, Bool.and_false, Bool.false_and, W3, F0]); (all_goals repeat' (first | apply And.intro | intro _)))
  | ((all_goals (refine call_draw (fun k => k) _ [] (fun _ _ => rfl) ?_ ((parts_of a0 a1 a2).plain fun _ _ h => h) ?_ ?_; focus (first | rfl | (simp only [go_sem, m16, d16, tk16, polyC, lowB_length, Bool.and_false, Bool.false_and, W3, F0] <;> rfl)))); (all_goals try (refine And.intro ?_ (And.intro ?_ (And.intro ?_ ?_)) <;> first | rfl | simp only [go_sem])); (all_goals simp only [go_sem, m16, d16, tk16, polyC, lowB_length, Bool.and_false, Bool.false_and, W3, F0]); (all_goals repeat' (first | apply And.intro | intro _)))
  | ((all_goals (refine call_draw (fun k => k) _ [] (fun _ _ => rfl) ?_ ((carried_of (parts3 a0 a1 a2)).plain fun _ _ h => h) ?_ ?_; focus (first | rfl | (simp only [go_sem, m16, d16, tk16, polyC, lowB_length, Bool.and_false, Bool.false_and, W3, F0] <;> rfl)))); (all_goals try (refine And.intro ?_ (And.intro ?_ (And.intro ?_ ?_)) <;> first | rfl | simp only [go_sem])); (all_goals simp only [go_sem, m16, d16, tk16, polyC, lowB_length, Bool.and_false, Bool.false_and, W3, F0]); (all_goals repeat' (first | apply And.intro | intro _)))
  | ((all_goals (refine call_draw (fun k => k) _ [] (fun _ _ => rfl) ?_ ((whole_of (parts3 a0 a1 a2).carried).plain fun _ _ h => h) ?_ ?_; focus (first | rfl | (simp only [go_sem, m16, d16, tk16, polyC, lowB_length, Bool.and_false, Bool.false_and, W3, F0] <;> rfl)))); (all_goals try (refine And.intro ?_ (And.intro ?_ (And.intro ?_ ?_)) <;> first | rfl | simp only [go_sem])); (all_goals simp only [go_sem, m16, d16, tk16, polyC, lowB_length, Bool.and_false, Bool.false_and, W3, F0]); (all_goals repeat' (first | apply And.intro | intro _)))
  | refine seq_k fun zN zM zhN zhM => ?_
 refine ht_dropE [0, 3, 7, 8, 9, 10, 11, 12, 13, 14, 15, 16, 17, 18, 19, 20, 21, 22, 23, 24, 25, 26, 27, 28, 29, 30, 31, 32, 33, 34, 35, 36, 37, 38, 39, 40, 41, 42, 43, 44, 45, 46, 47, 48, 49, 50, 51] ?_
 simp only [dropE_mk, fgt_nil, fgt_cons, List.contains_cons, List.contains_nil, Nat.reduceBEq, beq_self_eq_true, Bool.or_false, Bool.or_true, Bool.true_or, Bool.false_or, Bool.false_eq_true, reduceIte]
 refine loop_k (fun y => [(53, .w (.one (.pl (.i ((y.1 : Nat) : Int))))), (4, .w (.one (.pl (.b false))))]) (fun _ => []) (fun y => 16 - y.1) (⟨0, Nat.zero_le _⟩ : {y : Nat // y ≤ 16}) ?_ ?_ ?_
 · (simp only [go_sem, leX, List.cons_append, List.nil_append]; try simp)
 · (simp only [go_sem, leX, List.cons_append, List.nil_append]; try simp)
 intro ⟨i, hi⟩ zN zM zhN zhM
 simp only [List.cons_append, List.nil_append]
 rcases Nat.lt_or_ge i 16 with hlt | hge
 · have hcq : ((i : Nat) : Int) < 16 := by omega
   have hc0 : (0 : Int) ≤ ((i : Nat) : Int) := by omega
   have hs1 : Go.RowKit.wrap64 (((i : Nat) : Int) + 1) = ((i + 1 : Nat) : Int) := wnat (by omega) (by omega)
   have hk1 : List.take 1 (List.drop i held) = [held.getD i 0] := by have := one_at (l := held) (o := 0) (m := 16) (i := i) (by omega) hlt; simpa [← hh] using this
   have hk2 : i + 1 ≤ 16 := by omega
   have F9 := And.intro hcq <| And.intro hc0 <| And.intro hs1 <| And.intro hk1 <| hk2
   iterate 16 first
    | refine zhK _ ?_
    | (refine sr_k fun zK zhK => ?_; simp only [go_sem, m16, d16, tk16, polyC, lowB_length, Bool.and_false, Bool.false_and, W3, F0, bytesC_one, F9]; (repeat' (first | apply And.intro | intro _)))
    | (refine zhN _ ?_; clear zhN zhM)
    | (refine region_k fun zK zhK => ?_; simp only [go_sem, m16, d16, tk16, polyC, lowB_length, Bool.and_false, Bool.false_and, W3, F0, bytesC_one, F9]; (repeat' (first | apply And.intro | intro _)))
    | refine skip_k ?_
    | refine block_k fun zB zbn zbx zbr zbi => ?_
    | (refine zbn _ ?_; clear zbn zbx zbr zbi)
    | refine seq_k fun zN zM zhN zhM => ?_
    | (refine condT_k ?_ ?_; focus (first | rfl | (simp [go_sem, m16, d16, tk16, polyC, lowB_length, Bool.and_false, Bool.false_and, W3, F0, bytesC_one, F9]; done)))
   refine zhN ⟨i + 1, hlt⟩ _ ?_ ?_ ?_
   · (show 16 - (i + 1) < 16 - i; clear hs1; omega)
   · (simp only [go_sem, leX, List.cons_append, List.nil_append]; try simp)
   · (simp only [go_sem, leX, List.cons_append, List.nil_append]; try simp)
 · have hcq : ¬ ((i : Nat) : Int) < 16 := by omega
   iterate 18 first
    | (refine sr_k fun zK zhK => ?_; simp only [go_sem, m16, d16, tk16, polyC, lowB_length, Bool.and_false, Bool.false_and, W3, F0, hcq]; (repeat' (first | apply And.intro | intro _)))
    | refine zhK _ ?_
    | (refine zhM _ _ ?_; clear zhN zhM)
    | refine exit_k ?_
    | (refine zbx _ ?_; clear zbn zbx zbr zbi)
    | (refine zhN _ ?_; clear zhN zhM)
    | refine ret_k ?_
    | (refine zhZ _ _ ?_; simp only [go_sem, m16, d16, tk16, polyC, lowB_length, Bool.and_false, Bool.false_and, W3, F0, hcq]; (all_goals (rw [perr_no (fun h => h5 ((canon a0 a1 a2 h.f2).mpr h.acc))])))
    | refine seq_k fun zN zM zhN zhM => ?_
    | (refine condF_k ?_ ?_; focus (first | rfl | (simp [go_sem, m16, d16, tk16, polyC, lowB_length, Bool.and_false, Bool.false_and, W3, F0, hcq]; done)))
    | (refine condT_k ?_ ?_; focus (first | rfl | (simp [go_sem, m16, d16, tk16, polyC, lowB_length, Bool.and_false, Bool.false_and, W3, F0, hcq]; done)))
set_option maxHeartbeats 1600000 in
set_option maxRecDepth 100000 in
theorem pflt_ok (r0 r1 p0 p1 a0 a1 a2 : UInt64) (held : List UInt8) (hh : held.length = 16) (n : Int) (h0 : r0 &&& ~~~1152921487695413247 = 0) (h1 : r1 &&& ~~~1152921487695413244 = 0) (h2 : 0 ≤ n) (h3 : n < 16) (h4 : a2 < 4) (h5 : ((parts3 a0 a1 a2).carried.w0 = a0 ∧ (parts3 a0 a1 a2).carried.w1 = a1 ∧ (parts3 a0 a1 a2).carried.w2 = a2)) :
 Ct Try.prog 17 [.w (.agg (polyC r0 r1 p0 p1 a0 a1 a2 held n))] (fun v m => v = .w (.one (.pl (.i (polyErr r0 r1 a0 a1 a2 held n))))) := by
 have q0 := (mask_iff _ _).mpr h0
 have q1 := (mask_iff _ _).mpr h1
 have q5 : (decide ((parts3 a0 a1 a2).carried.w0 = a0) && (decide ((parts3 a0 a1 a2).carried.w1 = a1) && decide ((parts3 a0 a1 a2).carried.w2 = a2))) = true := by simpa using h5
 have F0 := And.intro hh <| And.intro q0 <| And.intro q1 <| And.intro h2 <| And.intro h3 <| And.intro h4 <| q5
 refine Ct.k Try.func17 rfl Try.ntmps17 (congrArg Array.toList Try.results17) (by simp) fun w0 ro => ?_
 refine top_k fun zZ zhZ => ?_
 iterate 20 first
  | (refine sr_k fun zK zhK => ?_; simp only [go_sem, m16, d16, tk16, polyC, lowB_length, Bool.and_false, Bool.false_and, W3, F0]; (repeat' (first | apply And.intro | intro _)))
  | refine zhK _ ?_
  | refine zhK _ _ trivial ?_
  | (refine draw_k (id := 2) [8, 9, 10, 11, 12, 13, 14, 15, 16, 17, 18] [0, 0, 2, 6, 14, 0, 32, 96, 254, 510, 1023] [] mixed (by kernel_rfl) (by simp only [go_sem]) fun zK zhK => ?_; simp only [go_sem, m16, d16, tk16, polyC, lowB_length, Bool.and_false, Bool.false_and, W3, F0]; (repeat' (first | apply And.intro | intro _)))
  | (refine zhN _ ?_; clear zhN zhM)
  | (refine sd_k (id := 3) [19, 20, 21, 22, 23, 24, 25, 26, 27, 28, 29, 30, 31, 32, 33, 34, 35, 36, 37, 38, 39, 40, 41, 42, 43, 44, 45, 46, 47, 48, 49, 50, 4] [0, 1, 3, 0, 8, 31, 63, 127, 255, 511, 1023, 2047, 4095, 8191, 16383, 32767, 65535, 131071, 262143, 524287, 1048575, 2097151, 4194303, 8388607, 16777215, 33554431, 67108863, 134217727, 8388607, 276824063, 1073741823, 2147483647, 4294967295] [] mixed (by kernel_rfl) (by simp only [go_sem]) fun zK zhK => ?_; simp only [go_sem, m16, d16, tk16, polyC, lowB_length, Bool.and_false, Bool.false_and, W3, F0]; (repeat' (first | apply And.intro | intro _)))
  | refine block_k fun zB zbn zbx zbr zbi => ?_
  | ((all_goals refine call_draw (fun k => k) _ [] (fun _ _ => rfl) (by first | rfl | (simp only [go_sem, m16, d16, tk16, polyC, lowB_length, Bool.and_false, Bool.false_and, W3, F0] <;> rfl)) ((low_ _ 8 (by decide)).plain fun _ _ h => h) ?_ ?_); (all_goals try (refine And.intro ?_ (And.intro ?_ (And.intro ?_ ?_)) <;> first | rfl | simp only [go_sem])); (all_goals simp only [go_sem, m16, d16, tk16, polyC, lowB_length, Bool.and_false, Bool.false_and, W3, F0]); (all_goals repeat' (first | apply And.intro | intro _)))
  | ((all_goals (refine call_draw (fun k => k) _ [] (fun _ _ => rfl) ?_ ((poly_begun_low r0 r1).plain fun _ _ h => h) ?_ ?_; focus (first | rfl | (simp only [go_sem, m16, d16, tk16, polyC, lowB_length, Bool.and_false, Bool.false_and, W3, F0] <;> rfl)))); (all_goals try (refine And.intro ?_ (And.intro ?_ (And.intro ?_ ?_)) <;> first | rfl | simp only [go_sem])); (all_goals simp only [go_sem, m16, d16, tk16, polyC, lowB_length, Bool.and_false, Bool.false_and, W3, F0]); (all_goals repeat' (first | apply And.intro | intro _)))
  | ((all_goals (refine call_draw (fun k => k) _ [] (fun _ _ => rfl) ?_ ((parts_of a0 a1 a2).plain fun _ _ h => h) ?_ ?_; focus (first | rfl | (simp only [go_sem, m16, d16, tk16, polyC, lowB_length, Bool.and_false, Bool.false_and, W3, F0] <;> rfl)))); (all_goals try (refine And.intro ?_ (And.intro ?_ (And.intro ?_ ?_)) <;> first | rfl | simp only [go_sem])); (all_goals simp only [go_sem, m16, d16, tk16, polyC, lowB_length, Bool.and_false, Bool.false_and, W3, F0]); (all_goals repeat' (first | apply And.intro | intro _)))
  | ((all_goals (refine call_draw (fun k => k) _ [] (fun _ _ => rfl) ?_ ((carried_of (parts3 a0 a1 a2)).plain fun _ _ h => h) ?_ ?_; focus (first | rfl | (simp only [go_sem, m16, d16, tk16, polyC, lowB_length, Bool.and_false, Bool.false_and, W3, F0] <;> rfl)))); (all_goals try (refine And.intro ?_ (And.intro ?_ (And.intro ?_ ?_)) <;> first | rfl | simp only [go_sem])); (all_goals simp only [go_sem, m16, d16, tk16, polyC, lowB_length, Bool.and_false, Bool.false_and, W3, F0]); (all_goals repeat' (first | apply And.intro | intro _)))
  | ((all_goals (refine call_draw (fun k => k) _ [] (fun _ _ => rfl) ?_ ((whole_of (parts3 a0 a1 a2).carried).plain fun _ _ h => h) ?_ ?_; focus (first | rfl | (simp only [go_sem, m16, d16, tk16, polyC, lowB_length, Bool.and_false, Bool.false_and, W3, F0] <;> rfl)))); (all_goals try (refine And.intro ?_ (And.intro ?_ (And.intro ?_ ?_)) <;> first | rfl | simp only [go_sem])); (all_goals simp only [go_sem, m16, d16, tk16, polyC, lowB_length, Bool.and_false, Bool.false_and, W3, F0]); (all_goals repeat' (first | apply And.intro | intro _)))
  | refine seq_k fun zN zM zhN zhM => ?_
 refine ht_dropE [0, 3, 7, 8, 9, 10, 11, 12, 13, 14, 15, 16, 17, 18, 19, 20, 21, 22, 23, 24, 25, 26, 27, 28, 29, 30, 31, 32, 33, 34, 35, 36, 37, 38, 39, 40, 41, 42, 43, 44, 45, 46, 47, 48, 49, 50, 51] ?_
 simp only [dropE_mk, fgt_nil, fgt_cons, List.contains_cons, List.contains_nil, Nat.reduceBEq, beq_self_eq_true, Bool.or_false, Bool.or_true, Bool.true_or, Bool.false_or, Bool.false_eq_true, reduceIte]
 refine loop_k (fun y => [(53, .w (.one (.pl (.i ((y.1.1 : Nat) : Int))))), (4, .w (.one (.pl (.b y.1.2))))]) (fun _ => []) (fun y => 16 - y.1.1) (⟨(0, true), Nat.zero_le _, by simp⟩ : {y : Nat × Bool // y.1 ≤ 16 ∧ (y.2 = true ↔ ∀ j, j < y.1 → ((j : Nat) : Int) < n ∨ held.getD j 0 = 0)}) ?_ ?_ ?_
 · (simp only [go_sem, leX, List.cons_append, List.nil_append]; try simp)
 · (simp only [go_sem, leX, List.cons_append, List.nil_append]; try simp)
 intro yy zN zM zhN zhM
 simp only [List.cons_append, List.nil_append]
 obtain ⟨⟨i, b⟩, hi, hb⟩ := yy
 simp only at hi hb
 have hd : (i < 16 ∧ b = false) ∨ (i < 16 ∧ b = true ∧ ((i : Nat) : Int) < n) ∨ (i < 16 ∧ b = true ∧ ¬ ((i : Nat) : Int) < n ∧ held.getD i 0 = 0) ∨ (i < 16 ∧ b = true ∧ ¬ ((i : Nat) : Int) < n ∧ ¬ held.getD i 0 = 0) ∨ (i = 16 ∧ b = true) ∨ (i = 16 ∧ b = false) := by
  generalize held.getD i 0 = z
  by_cases g1 : i = 16
  · cases b <;> simp [g1]
  · have g2 : i < 16 := by omega
    by_cases g3 : ((i : Nat) : Int) < n
    · cases b <;> simp [g2, g3]
    · by_cases g4 : z = 0
      · cases b <;> simp [g2, g3, g4]
      · cases b <;> simp [g2, g3, g4]
 rcases hd with ⟨hlt, rfl⟩ | ⟨hlt, rfl, hin⟩ | ⟨hlt, rfl, hin, hz⟩ | ⟨hlt, rfl, hin, hz⟩ | ⟨rfl, rfl⟩ | ⟨rfl, rfl⟩
 · have hcq : ((i : Nat) : Int) < 16 := by omega
   have hc0 : (0 : Int) ≤ ((i : Nat) : Int) := by omega
   have hs1 : Go.RowKit.wrap64 (((i : Nat) : Int) + 1) = ((i + 1 : Nat) : Int) := wnat (by omega) (by omega)
   have hk1 : List.take 1 (List.drop i held) = [held.getD i 0] := by have := one_at (l := held) (o := 0) (m := 16) (i := i) (by omega) hlt; simpa [← hh] using this
   have hk2 : i + 1 ≤ 16 := by omega
   have F9 := And.intro hcq <| And.intro hc0 <| And.intro hs1 <| And.intro hk1 <| hk2
   iterate 16 first
    | refine zhK _ ?_
    | (refine sr_k fun zK zhK => ?_; simp only [go_sem, m16, d16, tk16, polyC, lowB_length, Bool.and_false, Bool.false_and, W3, F0, bytesC_one, F9]; (repeat' (first | apply And.intro | intro _)))
    | (refine zhN _ ?_; clear zhN zhM)
    | (refine region_k fun zK zhK => ?_; simp only [go_sem, m16, d16, tk16, polyC, lowB_length, Bool.and_false, Bool.false_and, W3, F0, bytesC_one, F9]; (repeat' (first | apply And.intro | intro _)))
    | refine skip_k ?_
    | refine block_k fun zB zbn zbx zbr zbi => ?_
    | (refine zbn _ ?_; clear zbn zbx zbr zbi)
    | refine seq_k fun zN zM zhN zhM => ?_
    | (refine condT_k ?_ ?_; focus (first | rfl | (simp [go_sem, m16, d16, tk16, polyC, lowB_length, Bool.and_false, Bool.false_and, W3, F0, bytesC_one, F9]; done)))
   refine zhN ⟨(i + 1, false), hlt, by simp only [Bool.false_eq_true, false_iff]; intro h; exact absurd (hb.mpr fun j hj => h j (by omega)) (by simp)⟩ _ ?_ ?_ ?_
   · (show 16 - (i + 1) < 16 - i; clear hs1; omega)
   · (simp only [go_sem, leX, List.cons_append, List.nil_append]; try simp)
   · (simp only [go_sem, leX, List.cons_append, List.nil_append]; try simp)
 · have hcq : ((i : Nat) : Int) < 16 := by omega
   have hc0 : (0 : Int) ≤ ((i : Nat) : Int) := by omega
   have hs1 : Go.RowKit.wrap64 (((i : Nat) : Int) + 1) = ((i + 1 : Nat) : Int) := wnat (by omega) (by omega)
   have hk1 : List.take 1 (List.drop i held) = [held.getD i 0] := by have := one_at (l := held) (o := 0) (m := 16) (i := i) (by omega) hlt; simpa [← hh] using this
   have hk2 : i + 1 ≤ 16 := by omega
   have F16 := And.intro hcq <| And.intro hc0 <| And.intro hs1 <| And.intro hk1 <| And.intro hk2 <| hin
   iterate 16 first
    | refine zhK _ ?_
    | (refine sr_k fun zK zhK => ?_; simp only [go_sem, m16, d16, tk16, polyC, lowB_length, Bool.and_false, Bool.false_and, W3, F0, bytesC_one, F16]; (repeat' (first | apply And.intro | intro _)))
    | (refine zhN _ ?_; clear zhN zhM)
    | (refine region_k fun zK zhK => ?_; simp only [go_sem, m16, d16, tk16, polyC, lowB_length, Bool.and_false, Bool.false_and, W3, F0, bytesC_one, F16]; (repeat' (first | apply And.intro | intro _)))
    | refine skip_k ?_
    | refine block_k fun zB zbn zbx zbr zbi => ?_
    | (refine zbn _ ?_; clear zbn zbx zbr zbi)
    | refine seq_k fun zN zM zhN zhM => ?_
    | (refine condT_k ?_ ?_; focus (first | rfl | (simp [go_sem, m16, d16, tk16, polyC, lowB_length, Bool.and_false, Bool.false_and, W3, F0, bytesC_one, F16]; done)))
   refine zhN ⟨(i + 1, true), hlt, fun _ j hj => by rcases Nat.lt_succ_iff_lt_or_eq.mp hj with h | rfl; exact hb.mp rfl j h; exact .inl hin, fun _ => rfl⟩ _ ?_ ?_ ?_
   · (show 16 - (i + 1) < 16 - i; clear hs1; omega)
   · (simp only [go_sem, leX, List.cons_append, List.nil_append]; try simp)
   · (simp only [go_sem, leX, List.cons_append, List.nil_append]; try simp)
 · have hcq : ((i : Nat) : Int) < 16 := by omega
   have hc0 : (0 : Int) ≤ ((i : Nat) : Int) := by omega
   have hs1 : Go.RowKit.wrap64 (((i : Nat) : Int) + 1) = ((i + 1 : Nat) : Int) := wnat (by omega) (by omega)
   have hk1 : List.take 1 (List.drop i held) = [held.getD i 0] := by have := one_at (l := held) (o := 0) (m := 16) (i := i) (by omega) hlt; simpa [← hh] using this
   have hk2 : i + 1 ≤ 16 := by omega
   have hzq := eq_true hz
   have F23 := And.intro hcq <| And.intro hc0 <| And.intro hs1 <| And.intro hk1 <| And.intro hk2 <| And.intro hin <| hzq
   iterate 16 first
    | refine zhK _ ?_
    | (refine sr_k fun zK zhK => ?_; simp only [go_sem, m16, d16, tk16, polyC, lowB_length, Bool.and_false, Bool.false_and, W3, F0, bytesC_one, F23]; (repeat' (first | apply And.intro | intro _)))
    | (refine zhN _ ?_; clear zhN zhM)
    | (refine region_k fun zK zhK => ?_; simp only [go_sem, m16, d16, tk16, polyC, lowB_length, Bool.and_false, Bool.false_and, W3, F0, bytesC_one, F23]; (repeat' (first | apply And.intro | intro _)))
    | refine skip_k ?_
    | refine block_k fun zB zbn zbx zbr zbi => ?_
    | (refine zbn _ ?_; clear zbn zbx zbr zbi)
    | refine seq_k fun zN zM zhN zhM => ?_
    | (refine condT_k ?_ ?_; focus (first | rfl | (simp [go_sem, m16, d16, tk16, polyC, lowB_length, Bool.and_false, Bool.false_and, W3, F0, bytesC_one, F23]; done)))
   refine zhN ⟨(i + 1, true), hlt, fun _ j hj => by rcases Nat.lt_succ_iff_lt_or_eq.mp hj with h | rfl; exact hb.mp rfl j h; exact .inr hz, fun _ => rfl⟩ _ ?_ ?_ ?_
   · (show 16 - (i + 1) < 16 - i; clear hs1; omega)
   · (simp only [go_sem, leX, List.cons_append, List.nil_append]; try simp)
   · (simp only [go_sem, leX, List.cons_append, List.nil_append]; try simp)
 · have hcq : ((i : Nat) : Int) < 16 := by omega
   have hc0 : (0 : Int) ≤ ((i : Nat) : Int) := by omega
   have hs1 : Go.RowKit.wrap64 (((i : Nat) : Int) + 1) = ((i + 1 : Nat) : Int) := wnat (by omega) (by omega)
   have hk1 : List.take 1 (List.drop i held) = [held.getD i 0] := by have := one_at (l := held) (o := 0) (m := 16) (i := i) (by omega) hlt; simpa [← hh] using this
   have hk2 : i + 1 ≤ 16 := by omega
   have hzq := eq_false hz
   have F30 := And.intro hcq <| And.intro hc0 <| And.intro hs1 <| And.intro hk1 <| And.intro hk2 <| And.intro hin <| hzq
   iterate 16 first
    | refine zhK _ ?_
    | (refine sr_k fun zK zhK => ?_; simp only [go_sem, m16, d16, tk16, polyC, lowB_length, Bool.and_false, Bool.false_and, W3, F0, bytesC_one, F30]; (repeat' (first | apply And.intro | intro _)))
    | (refine zhN _ ?_; clear zhN zhM)
    | (refine region_k fun zK zhK => ?_; simp only [go_sem, m16, d16, tk16, polyC, lowB_length, Bool.and_false, Bool.false_and, W3, F0, bytesC_one, F30]; (repeat' (first | apply And.intro | intro _)))
    | refine skip_k ?_
    | refine block_k fun zB zbn zbx zbr zbi => ?_
    | (refine zbn _ ?_; clear zbn zbx zbr zbi)
    | refine seq_k fun zN zM zhN zhM => ?_
    | (refine condT_k ?_ ?_; focus (first | rfl | (simp [go_sem, m16, d16, tk16, polyC, lowB_length, Bool.and_false, Bool.false_and, W3, F0, bytesC_one, F30]; done)))
   refine zhN ⟨(i + 1, false), hlt, by simp only [Bool.false_eq_true, false_iff]; intro h; exact (h i (Nat.lt_succ_self i)).elim hin hz⟩ _ ?_ ?_ ?_
   · (show 16 - (i + 1) < 16 - i; clear hs1; omega)
   · (simp only [go_sem, leX, List.cons_append, List.nil_append]; try simp)
   · (simp only [go_sem, leX, List.cons_append, List.nil_append]; try simp)
 · have hcq : ¬ ((16 : Nat) : Int) < 16 := by omega
   iterate 19 first
    | (refine sr_k fun zK zhK => ?_; simp only [go_sem, m16, d16, tk16, polyC, lowB_length, Bool.and_false, Bool.false_and, W3, F0, hcq]; (repeat' (first | apply And.intro | intro _)))
    | refine zhK _ ?_
    | (refine zhM _ _ ?_; clear zhN zhM)
    | (refine zhN _ ?_; clear zhN zhM)
    | refine exit_k ?_
    | (refine zbx _ ?_; clear zbn zbx zbr zbi)
    | refine skip_k ?_
    | refine ret_k ?_
    | (refine zhZ _ _ ?_; simp only [go_sem, m16, d16, tk16, polyC, lowB_length, Bool.and_false, Bool.false_and, W3, F0, hcq]; (all_goals (rw [perr_ok ⟨h0, h1, UInt64.lt_iff_toNat_lt.mp h4, (canon a0 a1 a2 (UInt64.lt_iff_toNat_lt.mp h4)).mp h5, h2, by omega, fun j hj hl => (hb.mp rfl j hl).resolve_left (by omega)⟩])))
    | refine seq_k fun zN zM zhN zhM => ?_
    | (refine condF_k ?_ ?_; focus (first | rfl | (simp [go_sem, m16, d16, tk16, polyC, lowB_length, Bool.and_false, Bool.false_and, W3, F0, hcq]; done)))
 · have hcq : ¬ ((16 : Nat) : Int) < 16 := by omega
   iterate 18 first
    | (refine sr_k fun zK zhK => ?_; simp only [go_sem, m16, d16, tk16, polyC, lowB_length, Bool.and_false, Bool.false_and, W3, F0, hcq]; (repeat' (first | apply And.intro | intro _)))
    | refine zhK _ ?_
    | (refine zhM _ _ ?_; clear zhN zhM)
    | refine exit_k ?_
    | (refine zbx _ ?_; clear zbn zbx zbr zbi)
    | (refine zhN _ ?_; clear zhN zhM)
    | refine ret_k ?_
    | (refine zhZ _ _ ?_; simp only [go_sem, m16, d16, tk16, polyC, lowB_length, Bool.and_false, Bool.false_and, W3, F0, hcq]; (all_goals (rw [perr_no (fun h => absurd (hb.mpr fun j hj => by rcases Int.lt_or_le ((j : Nat) : Int) n with h8 | h8; exact .inl h8; exact .inr (h.rest j (by omega) hj)) (by simp))])))
    | refine seq_k fun zN zM zhN zhM => ?_
    | (refine condF_k ?_ ?_; focus (first | rfl | (simp [go_sem, m16, d16, tk16, polyC, lowB_length, Bool.and_false, Bool.false_and, W3, F0, hcq]; done)))
    | (refine condT_k ?_ ?_; focus (first | rfl | (simp [go_sem, m16, d16, tk16, polyC, lowB_length, Bool.and_false, Bool.false_and, W3, F0, hcq]; done)))
end Go.Sy

