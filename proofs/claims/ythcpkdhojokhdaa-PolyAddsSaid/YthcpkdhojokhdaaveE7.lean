/- Walks: the document's test of a sum. -/
import Derived.Test.YthcpkdhojokhdaaveE6
set_option linter.unusedVariables false
set_option linter.unusedSimpArgs false
namespace Go.Sy
open Go.Proofs
attribute [local irreducible] atCall HT runOps runD onC onE onO onG goV goA goS onSt onGuard
theorem u_and_or (x m : UInt64) : x = (x &&& m) ||| (x &&& ~~~m) := by
 apply UInt64.toBitVec_inj.mp
 simp only [UInt64.toBitVec_or, UInt64.toBitVec_and, UInt64.toBitVec_not]
 ext i hi
 simp only [BitVec.getElem_or, BitVec.getElem_and, BitVec.getElem_not]
 cases x.toBitVec[i] <;> cases m.toBitVec[i] <;> rfl
theorem mask_iff (x m : UInt64) : (x &&& m = x) ↔ x &&& ~~~m = 0 := by
 constructor
 · intro h
   rw [← h]
   apply UInt64.toBitVec_inj.mp
   simp only [UInt64.toBitVec_and, UInt64.toBitVec_not]
   ext i hi
   simp only [BitVec.getElem_and, BitVec.getElem_not]
   cases x.toBitVec[i] <;> cases m.toBitVec[i] <;> simp
 · intro h
   have := u_and_or x m
   rw [h, UInt64.or_zero] at this
   exact this.symm
theorem lev_zeros (n : Nat) : lev (List.replicate n 0) = 0 := by
 have : leN (List.replicate n 0) = 0 := by
  induction n with
  | zero => rfl
  | succ n ih => simp [List.replicate_succ, leN, ih]
 simp [lev, this]
theorem beg_low (r0 r1 : UInt64) : begC (lowB r0 8 ++ (lowB r1 8 ++ List.replicate 16 0)) = polyC (r0 &&& 1152921487695413247) (r1 &&& 1152921487695413244) 0 0 0 0 0 (List.replicate 16 0) 0 := by
 have l0 := lowB_length r0 8
 have l1 := lowB_length r1 8
 have e0 : (lowB r0 8 ++ (lowB r1 8 ++ List.replicate 16 0)).take 8 = lowB r0 8 := List.take_left' l0
 have d8 : (lowB r0 8 ++ (lowB r1 8 ++ List.replicate 16 0)).drop 8 = lowB r1 8 ++ List.replicate 16 0 := List.drop_left' l0
 have e1 : (lowB r1 8 ++ List.replicate 16 (0 : UInt8)).take 8 = lowB r1 8 := List.take_left' l1
 have d16 : (lowB r0 8 ++ (lowB r1 8 ++ List.replicate 16 0)).drop 16 = List.replicate 16 0 := by
  rw [show 16 = 8 + 8 from rfl, ← List.drop_drop, d8, List.drop_left' l1]
 have d24 : (lowB r0 8 ++ (lowB r1 8 ++ List.replicate 16 0)).drop 24 = List.replicate 8 0 := by
  rw [show 24 = 16 + 8 from rfl, ← List.drop_drop, d16]; rfl
 simp only [begC, e0, d8, e1, d16, d24, lev_low8]
 rw [show (List.replicate 16 (0 : UInt8)).take 8 = List.replicate 8 0 from rfl, show (List.replicate 8 (0 : UInt8)).take 8 = List.replicate 8 0 from rfl, lev_zeros]
/-- the contract of the document's way to begin, at bytes of two numbers -/
theorem poly_begun_low (r0 r1 : UInt64) : Ct Try.prog 16 [.w (.agg (bytesC (lowB r0 8 ++ lowB r1 8 ++ List.replicate 16 0)))] (fun v m => v = .w (.agg (polyC (r0 &&& 1152921487695413247) (r1 &&& 1152921487695413244) 0 0 0 0 0 (List.replicate 16 0) 0))) := by
 have h := poly_begun (lowB r0 8 ++ (lowB r1 8 ++ List.replicate 16 0)) (by simp [lowB_length])
 rw [beg_low] at h
 rw [List.append_assoc]; exact h
theorem m16 : min 16 32 = 16 := rfl
theorem d16 : List.drop 16 (List.replicate 32 (0 : UInt8)) = List.replicate 16 0 := rfl
theorem tk16 (a b : UInt64) : List.take 16 (lowB a 8 ++ lowB b 8) = lowB a 8 ++ lowB b 8 := List.take_of_length_le (by simp [lowB_length])
def hok (held : List UInt8) (n : Int) (i : Nat) : Bool := decide (∀ j, j < i → ((j : Nat) : Int) < n ∨ held.getD j 0 = 0)
theorem parts_ls (x y z : UInt64) : (parts3 x y z).ls = [.pl (.u64 (parts3 x y z).a), .pl (.u64 (parts3 x y z).b), .pl (.u64 (parts3 x y z).c), .pl (.u64 (parts3 x y z).d), .pl (.u64 (parts3 x y z).e)] := rfl
theorem carried_of (p : P5) : Ct Try.prog 42 [.w (.agg p.ls)] (fun v m => v = .w (.agg p.carried.ls)) := carried_ p.a p.b p.c p.d p.e
theorem whole_of (p : P5) : Ct Try.prog 43 [.w (.agg p.ls)] (fun v m => v = .w (.agg (W3 p.w0 p.w1 p.w2))) := whole_ p.a p.b p.c p.d p.e
set_option maxHeartbeats 1600000 in
set_option maxRecDepth 100000 in
theorem pflt_r (r0 r1 p0 p1 a0 a1 a2 : UInt64) (held : List UInt8) (hh : held.length = 16) (n : Int) (h0 : ¬ (r0 &&& 1152921487695413247 = r0 ∧ r1 &&& 1152921487695413244 = r1)) :
 Ct Try.prog 17 [.w (.agg (polyC r0 r1 p0 p1 a0 a1 a2 held n))] (fun v m => v = .w (.one (.pl (.i (polyErr r0 r1 a0 a1 a2 held n))))) := by
 have q0 : (decide (r0 &&& 1152921487695413247 = r0) && decide (r1 &&& 1152921487695413244 = r1)) = false := by simpa using h0
 refine Ct.k Try.func17 rfl Try.ntmps17 (congrArg Array.toList Try.results17) (by simp) fun w0 ro => ?_
 refine seq_k fun N1 M1 hN1 hM1 => ?_
 refine region_k fun K2 hK2 => ?_
 simp only [go_sem, m16, d16, tk16, polyC, hh, lowB_length, Bool.and_false, Bool.false_and, q0]
 all_goals repeat' (first | apply And.intro | intro _)
 all_goals
  refine hK2 _ ?_
  refine hN1 _ ?_
  refine seq_k fun N3 M3 hN3 hM3 => ?_
  refine region_k fun K4 hK4 => ?_
  simp only [go_sem, m16, d16, tk16, polyC, hh, lowB_length, Bool.and_false, Bool.false_and, q0]
  all_goals repeat' (first | apply And.intro | intro _)
  all_goals
   refine hK4 _ ?_
   refine hN3 _ ?_
   refine seq_k fun N5 M5 hN5 hM5 => ?_
   refine draw_k [8, 9, 10, 11, 12, 13, 14, 15, 16, 17, 18] [0, 0, 2, 6, 14, 0, 32, 96, 254, 510, 1023] [] mixed (by kernel_rfl) (by simp only [go_sem]) fun K6 hK6 => ?_
   simp only [go_sem, m16, d16, tk16, polyC, hh, lowB_length, Bool.and_false, Bool.false_and, q0]
   all_goals repeat' (first | apply And.intro | intro _)
   all_goals refine call_draw (fun k => k) _ [] (fun _ _ => rfl) (by first | rfl | (simp only [go_sem, m16, d16, tk16, polyC, hh, lowB_length, Bool.and_false, Bool.false_and, q0]; rfl) | simp only [go_sem, m16, d16, tk16, polyC, hh, lowB_length, Bool.and_false, Bool.false_and, q0]) ((low_ _ 8 (by decide)).plain fun _ _ h => h) ?_ ?_
   all_goals try (refine And.intro ?_ (And.intro ?_ (And.intro ?_ ?_)) <;> first | rfl | simp only [go_sem])
   all_goals simp only [go_sem, m16, d16, tk16, polyC, hh, lowB_length, Bool.and_false, Bool.false_and, q0]
   all_goals repeat' (first | apply And.intro | intro _)
   all_goals refine call_draw (fun k => k) _ [] (fun _ _ => rfl) (by first | rfl | (simp only [go_sem, m16, d16, tk16, polyC, hh, lowB_length, Bool.and_false, Bool.false_and, q0]; rfl) | simp only [go_sem, m16, d16, tk16, polyC, hh, lowB_length, Bool.and_false, Bool.false_and, q0]) ((low_ _ 8 (by decide)).plain fun _ _ h => h) ?_ ?_
   all_goals try (refine And.intro ?_ (And.intro ?_ (And.intro ?_ ?_)) <;> first | rfl | simp only [go_sem])
   all_goals simp only [go_sem, m16, d16, tk16, polyC, hh, lowB_length, Bool.and_false, Bool.false_and, q0]
   all_goals repeat' (first | apply And.intro | intro _)
   all_goals
    refine hK6 _ _ ?_ ?_
    · first | trivial | (simp only [go_sem]; done) | (simp only [go_sem]; simp; done) | (simp only [go_sem]; simp; simp only [go_sem])
    refine hN5 _ ?_
    refine seq_k fun N7 M7 hN7 hM7 => ?_
    refine draw_k [19, 20, 21, 22, 23, 24, 25, 26, 27, 28, 29, 30, 31, 32, 33, 34, 35, 36, 37, 38, 39, 40, 41, 42, 43, 44, 45, 46, 47, 48, 49, 50, 4] [0, 1, 3, 0, 8, 31, 63, 127, 255, 511, 1023, 2047, 4095, 8191, 16383, 32767, 65535, 131071, 262143, 524287, 1048575, 2097151, 4194303, 8388607, 16777215, 33554431, 67108863, 134217727, 8388607, 276824063, 1073741823, 2147483647, 4294967295] [] mixed (by kernel_rfl) (by simp only [go_sem]) fun K8 hK8 => ?_
    simp only [go_sem, m16, d16, tk16, polyC, hh, lowB_length, Bool.and_false, Bool.false_and, q0]
    all_goals repeat' (first | apply And.intro | intro _)
    all_goals refine call_draw (fun k => k) _ [] (fun _ _ => rfl) (by first | rfl | (simp only [go_sem, m16, d16, tk16, polyC, hh, lowB_length, Bool.and_false, Bool.false_and, q0]; rfl) | simp only [go_sem, m16, d16, tk16, polyC, hh, lowB_length, Bool.and_false, Bool.false_and, q0]) ((poly_begun_low r0 r1).plain fun _ _ h => h) ?_ ?_
    all_goals try (refine And.intro ?_ (And.intro ?_ (And.intro ?_ ?_)) <;> first | rfl | simp only [go_sem])
    all_goals simp only [go_sem, m16, d16, tk16, polyC, hh, lowB_length, Bool.and_false, Bool.false_and, q0]
    all_goals repeat' (first | apply And.intro | intro _)
    all_goals (first | (refine call_draw (fun k => k) _ [] (fun _ _ => rfl) (by first | rfl | (simp only [go_sem, m16, d16, tk16, polyC, hh, lowB_length, Bool.and_false, Bool.false_and, q0]; rfl) | simp only [go_sem, m16, d16, tk16, polyC, hh, lowB_length, Bool.and_false, Bool.false_and, q0]) ((parts_of a0 a1 a2).plain fun _ _ h => h) ?_ ?_; all_goals try (refine And.intro ?_ (And.intro ?_ (And.intro ?_ ?_)) <;> first | rfl | simp only [go_sem]); all_goals simp only [go_sem, m16, d16, tk16, polyC, hh, lowB_length, Bool.and_false, Bool.false_and, q0]; all_goals repeat' (first | apply And.intro | intro _)) | skip)
    all_goals (first | (refine call_draw (fun k => k) _ [] (fun _ _ => rfl) (by first | rfl | (simp only [go_sem, m16, d16, tk16, polyC, hh, lowB_length, Bool.and_false, Bool.false_and, q0]; rfl) | simp only [go_sem, m16, d16, tk16, polyC, hh, lowB_length, Bool.and_false, Bool.false_and, q0]) ((carried_of (parts3 a0 a1 a2)).plain fun _ _ h => h) ?_ ?_; all_goals try (refine And.intro ?_ (And.intro ?_ (And.intro ?_ ?_)) <;> first | rfl | simp only [go_sem]); all_goals simp only [go_sem, m16, d16, tk16, polyC, hh, lowB_length, Bool.and_false, Bool.false_and, q0]; all_goals repeat' (first | apply And.intro | intro _)) | skip)
    all_goals (first | (refine call_draw (fun k => k) _ [] (fun _ _ => rfl) (by first | rfl | (simp only [go_sem, m16, d16, tk16, polyC, hh, lowB_length, Bool.and_false, Bool.false_and, q0]; rfl) | simp only [go_sem, m16, d16, tk16, polyC, hh, lowB_length, Bool.and_false, Bool.false_and, q0]) ((whole_of (parts3 a0 a1 a2).carried).plain fun _ _ h => h) ?_ ?_; all_goals try (refine And.intro ?_ (And.intro ?_ (And.intro ?_ ?_)) <;> first | rfl | simp only [go_sem]); all_goals simp only [go_sem, m16, d16, tk16, polyC, hh, lowB_length, Bool.and_false, Bool.false_and, q0]; all_goals repeat' (first | apply And.intro | intro _)) | skip)
    all_goals
     refine hK8 _ _ ?_ ?_
     · first | trivial | (simp only [go_sem]; done) | (simp only [go_sem]; simp; done) | (simp only [go_sem]; simp; simp only [go_sem])
     refine hN7 _ ?_
     refine seq_k fun N9 M9 hN9 hM9 => ?_
     refine seq_k fun N10 M10 hN10 hM10 => ?_
     refine region_k fun K11 hK11 => ?_
     simp only [go_sem, m16, d16, tk16, polyC, hh, lowB_length, Bool.and_false, Bool.false_and, q0]
     all_goals repeat' (first | apply And.intro | intro _)
     all_goals
      refine hK11 _ ?_
      refine hN10 _ ?_
      refine block_k fun B12 bn12 bx12 br12 bi12 => ?_
      refine ht_dropE [0, 3, 7, 8, 9, 10, 11, 12, 13, 14, 15, 16, 17, 18, 19, 20, 21, 22, 23, 24, 25, 26, 27, 28, 29, 30, 31, 32, 33, 34, 35, 36, 37, 38, 39, 40, 41, 42, 43, 44, 45, 46, 47, 48, 49, 50, 51] ?_
      simp only [dropE_mk, fgt_nil, fgt_cons, List.contains_cons, List.contains_nil, Nat.reduceBEq, beq_self_eq_true, Bool.or_false, Bool.or_true, Bool.true_or, Bool.false_or, Bool.false_eq_true, reduceIte]
      refine loop_k (fun y => [(53, .w (.one (.pl (.i ((y.1 : Nat) : Int))))), (4, .w (.one (.pl (.b false))))]) (fun _ => []) (fun y => 16 - y.1) (⟨0, Nat.zero_le _⟩ : {y : Nat // y ≤ 16}) ?_ ?_ ?_
      · (simp only [go_sem, leX, List.cons_append, List.nil_append]; try simp)
      · (simp only [go_sem, leX, List.cons_append, List.nil_append]; try simp)
      intro ⟨i, hi⟩ N13 M13 hN13 hM13
      simp only [List.cons_append, List.nil_append]
      rcases Nat.lt_or_ge i 16 with hlt | hge
      · have hcq : ((i : Nat) : Int) < 16 := by omega
        have hc0 : (0 : Int) ≤ ((i : Nat) : Int) := by omega
        have hs1 : Go.RowKit.wrap64 (((i : Nat) : Int) + 1) = ((i + 1 : Nat) : Int) := wnat (by omega) (by omega)
        have hk1 : List.take 1 (List.drop i held) = [held.getD i 0] := by have := one_at (l := held) (o := 0) (m := 16) (i := i) (by omega) hlt; simpa [← hh] using this
        have hk2 : i + 1 ≤ 16 := by omega
        refine seq_k fun N14 M14 hN14 hM14 => ?_
        refine region_k fun K15 hK15 => ?_
        simp only [go_sem, m16, d16, tk16, polyC, hh, lowB_length, Bool.and_false, Bool.false_and, q0, hcq, hc0, hs1, hk1, hk2, bytesC_one]
        all_goals repeat' (first | apply And.intro | intro _)
        all_goals
         refine hK15 _ ?_
         refine hN14 _ ?_
         refine seq_k fun N16 M16 hN16 hM16 => ?_
         refine cond_k rfl (fun hc => ?_) (fun hc => ?_)
         · try simp only [go_sem, m16, d16, tk16, polyC, hh, lowB_length, Bool.and_false, Bool.false_and, q0, hcq, hc0, hs1, hk1, hk2, bytesC_one] at hc
           all_goals
            refine skip_k ?_
            refine hN16 _ ?_
            refine seq_k fun N17 M17 hN17 hM17 => ?_
            refine block_k fun B18 bn18 bx18 br18 bi18 => ?_
            refine seq_k fun N19 M19 hN19 hM19 => ?_
            refine region_k fun K20 hK20 => ?_
            simp only [go_sem, m16, d16, tk16, polyC, hh, lowB_length, Bool.and_false, Bool.false_and, q0, hcq, hc0, hs1, hk1, hk2, bytesC_one]
            all_goals repeat' (first | apply And.intro | intro _)
            all_goals
             refine hK20 _ ?_
             refine hN19 _ ?_
             refine region_k fun K21 hK21 => ?_
             simp only [go_sem, m16, d16, tk16, polyC, hh, lowB_length, Bool.and_false, Bool.false_and, q0, hcq, hc0, hs1, hk1, hk2, bytesC_one]
             all_goals repeat' (first | apply And.intro | intro _)
             all_goals
              refine hK21 _ ?_
              refine bn18 _ ?_
              refine hN17 _ ?_
              refine region_k fun K22 hK22 => ?_
              simp only [go_sem, m16, d16, tk16, polyC, hh, lowB_length, Bool.and_false, Bool.false_and, q0, hcq, hc0, hs1, hk1, hk2, bytesC_one]
              all_goals repeat' (first | apply And.intro | intro _)
              all_goals
               refine hK22 _ ?_
               refine hN13 ⟨i + 1, hlt⟩ _ ?_ ?_ ?_
               · (show 16 - (i + 1) < 16 - i; clear hs1; omega)
               · (simp only [go_sem, leX, List.cons_append, List.nil_append]; try simp)
               · (simp only [go_sem, leX, List.cons_append, List.nil_append]; try simp)
         · exfalso; revert hc; simp [go_sem, m16, d16, tk16, polyC, hh, lowB_length, decide_true, decide_false, Bool.not_true, Bool.not_false, Bool.and_true, Bool.and_false, Bool.false_and, Bool.true_and, q0, hcq, hc0, hs1, hk1, hk2, bytesC_one, Int.toNat_natCast]
      · have hcq : ¬ ((i : Nat) : Int) < 16 := by omega
        refine seq_k fun N23 M23 hN23 hM23 => ?_
        refine region_k fun K24 hK24 => ?_
        simp only [go_sem, m16, d16, tk16, polyC, hh, lowB_length, Bool.and_false, Bool.false_and, q0, hcq]
        all_goals repeat' (first | apply And.intro | intro _)
        all_goals
         refine hK24 _ ?_
         refine hN23 _ ?_
         refine seq_k fun N25 M25 hN25 hM25 => ?_
         refine cond_k rfl (fun hc => ?_) (fun hc => ?_)
         · exfalso; revert hc; simp [go_sem, m16, d16, tk16, polyC, hh, lowB_length, decide_true, decide_false, Bool.not_true, Bool.not_false, Bool.and_true, Bool.and_false, Bool.false_and, Bool.true_and, q0, hcq]
         · try simp only [go_sem, m16, d16, tk16, polyC, hh, lowB_length, Bool.and_false, Bool.false_and, q0, hcq] at hc
           all_goals
            refine exit_k ?_
            refine hM25 _ _ ?_
            refine hM13 _ _ ?_
            refine bx12 _ ?_
            refine hN9 _ ?_
            refine seq_k fun N26 M26 hN26 hM26 => ?_
            refine seq_k fun N27 M27 hN27 hM27 => ?_
            refine region_k fun K28 hK28 => ?_
            simp only [go_sem, m16, d16, tk16, polyC, hh, lowB_length, Bool.and_false, Bool.false_and, q0, hcq]
            all_goals repeat' (first | apply And.intro | intro _)
            all_goals
             refine hK28 _ ?_
             refine hN27 _ ?_
             refine cond_k rfl (fun hc => ?_) (fun hc => ?_)
             · try simp only [go_sem, m16, d16, tk16, polyC, hh, lowB_length, Bool.and_false, Bool.false_and, q0, hcq] at hc
               all_goals
                refine seq_k fun N29 M29 hN29 hM29 => ?_
                refine region_k fun K30 hK30 => ?_
                simp only [go_sem, m16, d16, tk16, polyC, hh, lowB_length, Bool.and_false, Bool.false_and, q0, hcq]
                all_goals repeat' (first | apply And.intro | intro _)
                all_goals
                 refine hK30 _ ?_
                 refine hN29 _ ?_
                 refine ret_k ?_
                 refine hM26 _ _ ?_
                 simp only [go_sem, m16, d16, tk16, polyC, hh, lowB_length, Bool.and_false, Bool.false_and, q0, hcq]
                 all_goals (rw [perr_no (fun h => h0 ⟨(mask_iff _ _).mpr h.f0, (mask_iff _ _).mpr h.f1⟩)])
             · exfalso; revert hc; simp [go_sem, m16, d16, tk16, polyC, hh, lowB_length, decide_true, decide_false, Bool.not_true, Bool.not_false, Bool.and_true, Bool.and_false, Bool.false_and, Bool.true_and, q0, hcq]
set_option maxHeartbeats 1600000 in
set_option maxRecDepth 100000 in
theorem pflt_lo (r0 r1 p0 p1 a0 a1 a2 : UInt64) (held : List UInt8) (hh : held.length = 16) (n : Int) (h0 : r0 &&& ~~~1152921487695413247 = 0) (h1 : r1 &&& ~~~1152921487695413244 = 0) (h2 : ¬ 0 ≤ n) :
 Ct Try.prog 17 [.w (.agg (polyC r0 r1 p0 p1 a0 a1 a2 held n))] (fun v m => v = .w (.one (.pl (.i (polyErr r0 r1 a0 a1 a2 held n))))) := by
 have q0 := (mask_iff _ _).mpr h0
 have q1 := (mask_iff _ _).mpr h1
 refine Ct.k Try.func17 rfl Try.ntmps17 (congrArg Array.toList Try.results17) (by simp) fun w0 ro => ?_
 refine seq_k fun N1 M1 hN1 hM1 => ?_
 refine region_k fun K2 hK2 => ?_
 simp only [go_sem, m16, d16, tk16, polyC, hh, lowB_length, Bool.and_false, Bool.false_and, q0, q1, h2]
 all_goals repeat' (first | apply And.intro | intro _)
 all_goals
  refine hK2 _ ?_
  refine hN1 _ ?_
  refine seq_k fun N3 M3 hN3 hM3 => ?_
  refine region_k fun K4 hK4 => ?_
  simp only [go_sem, m16, d16, tk16, polyC, hh, lowB_length, Bool.and_false, Bool.false_and, q0, q1, h2]
  all_goals repeat' (first | apply And.intro | intro _)
  all_goals
   refine hK4 _ ?_
   refine hN3 _ ?_
   refine seq_k fun N5 M5 hN5 hM5 => ?_
   refine draw_k [8, 9, 10, 11, 12, 13, 14, 15, 16, 17, 18] [0, 0, 2, 6, 14, 0, 32, 96, 254, 510, 1023] [] mixed (by kernel_rfl) (by simp only [go_sem]) fun K6 hK6 => ?_
   simp only [go_sem, m16, d16, tk16, polyC, hh, lowB_length, Bool.and_false, Bool.false_and, q0, q1, h2]
   all_goals repeat' (first | apply And.intro | intro _)
   all_goals refine call_draw (fun k => k) _ [] (fun _ _ => rfl) (by first | rfl | (simp only [go_sem, m16, d16, tk16, polyC, hh, lowB_length, Bool.and_false, Bool.false_and, q0, q1, h2]; rfl) | simp only [go_sem, m16, d16, tk16, polyC, hh, lowB_length, Bool.and_false, Bool.false_and, q0, q1, h2]) ((low_ _ 8 (by decide)).plain fun _ _ h => h) ?_ ?_
   all_goals try (refine And.intro ?_ (And.intro ?_ (And.intro ?_ ?_)) <;> first | rfl | simp only [go_sem])
   all_goals simp only [go_sem, m16, d16, tk16, polyC, hh, lowB_length, Bool.and_false, Bool.false_and, q0, q1, h2]
   all_goals repeat' (first | apply And.intro | intro _)
   all_goals refine call_draw (fun k => k) _ [] (fun _ _ => rfl) (by first | rfl | (simp only [go_sem, m16, d16, tk16, polyC, hh, lowB_length, Bool.and_false, Bool.false_and, q0, q1, h2]; rfl) | simp only [go_sem, m16, d16, tk16, polyC, hh, lowB_length, Bool.and_false, Bool.false_and, q0, q1, h2]) ((low_ _ 8 (by decide)).plain fun _ _ h => h) ?_ ?_
   all_goals try (refine And.intro ?_ (And.intro ?_ (And.intro ?_ ?_)) <;> first | rfl | simp only [go_sem])
   all_goals simp only [go_sem, m16, d16, tk16, polyC, hh, lowB_length, Bool.and_false, Bool.false_and, q0, q1, h2]
   all_goals repeat' (first | apply And.intro | intro _)
   all_goals
    refine hK6 _ _ ?_ ?_
    · first | trivial | (simp only [go_sem]; done) | (simp only [go_sem]; simp; done) | (simp only [go_sem]; simp; simp only [go_sem])
    refine hN5 _ ?_
    refine seq_k fun N7 M7 hN7 hM7 => ?_
    refine draw_k [19, 20, 21, 22, 23, 24, 25, 26, 27, 28, 29, 30, 31, 32, 33, 34, 35, 36, 37, 38, 39, 40, 41, 42, 43, 44, 45, 46, 47, 48, 49, 50, 4] [0, 1, 3, 0, 8, 31, 63, 127, 255, 511, 1023, 2047, 4095, 8191, 16383, 32767, 65535, 131071, 262143, 524287, 1048575, 2097151, 4194303, 8388607, 16777215, 33554431, 67108863, 134217727, 8388607, 276824063, 1073741823, 2147483647, 4294967295] [] mixed (by kernel_rfl) (by simp only [go_sem]) fun K8 hK8 => ?_
    simp only [go_sem, m16, d16, tk16, polyC, hh, lowB_length, Bool.and_false, Bool.false_and, q0, q1, h2]
    all_goals repeat' (first | apply And.intro | intro _)
    all_goals refine call_draw (fun k => k) _ [] (fun _ _ => rfl) (by first | rfl | (simp only [go_sem, m16, d16, tk16, polyC, hh, lowB_length, Bool.and_false, Bool.false_and, q0, q1, h2]; rfl) | simp only [go_sem, m16, d16, tk16, polyC, hh, lowB_length, Bool.and_false, Bool.false_and, q0, q1, h2]) ((poly_begun_low r0 r1).plain fun _ _ h => h) ?_ ?_
    all_goals try (refine And.intro ?_ (And.intro ?_ (And.intro ?_ ?_)) <;> first | rfl | simp only [go_sem])
    all_goals simp only [go_sem, m16, d16, tk16, polyC, hh, lowB_length, Bool.and_false, Bool.false_and, q0, q1, h2]
    all_goals repeat' (first | apply And.intro | intro _)
    all_goals (first | (refine call_draw (fun k => k) _ [] (fun _ _ => rfl) (by first | rfl | (simp only [go_sem, m16, d16, tk16, polyC, hh, lowB_length, Bool.and_false, Bool.false_and, q0, q1, h2]; rfl) | simp only [go_sem, m16, d16, tk16, polyC, hh, lowB_length, Bool.and_false, Bool.false_and, q0, q1, h2]) ((parts_of a0 a1 a2).plain fun _ _ h => h) ?_ ?_; all_goals try (refine And.intro ?_ (And.intro ?_ (And.intro ?_ ?_)) <;> first | rfl | simp only [go_sem]); all_goals simp only [go_sem, m16, d16, tk16, polyC, hh, lowB_length, Bool.and_false, Bool.false_and, q0, q1, h2]; all_goals repeat' (first | apply And.intro | intro _)) | skip)
    all_goals (first | (refine call_draw (fun k => k) _ [] (fun _ _ => rfl) (by first | rfl | (simp only [go_sem, m16, d16, tk16, polyC, hh, lowB_length, Bool.and_false, Bool.false_and, q0, q1, h2]; rfl) | simp only [go_sem, m16, d16, tk16, polyC, hh, lowB_length, Bool.and_false, Bool.false_and, q0, q1, h2]) ((carried_of (parts3 a0 a1 a2)).plain fun _ _ h => h) ?_ ?_; all_goals try (refine And.intro ?_ (And.intro ?_ (And.intro ?_ ?_)) <;> first | rfl | simp only [go_sem]); all_goals simp only [go_sem, m16, d16, tk16, polyC, hh, lowB_length, Bool.and_false, Bool.false_and, q0, q1, h2]; all_goals repeat' (first | apply And.intro | intro _)) | skip)
    all_goals (first | (refine call_draw (fun k => k) _ [] (fun _ _ => rfl) (by first | rfl | (simp only [go_sem, m16, d16, tk16, polyC, hh, lowB_length, Bool.and_false, Bool.false_and, q0, q1, h2]; rfl) | simp only [go_sem, m16, d16, tk16, polyC, hh, lowB_length, Bool.and_false, Bool.false_and, q0, q1, h2]) ((whole_of (parts3 a0 a1 a2).carried).plain fun _ _ h => h) ?_ ?_; all_goals try (refine And.intro ?_ (And.intro ?_ (And.intro ?_ ?_)) <;> first | rfl | simp only [go_sem]); all_goals simp only [go_sem, m16, d16, tk16, polyC, hh, lowB_length, Bool.and_false, Bool.false_and, q0, q1, h2]; all_goals repeat' (first | apply And.intro | intro _)) | skip)
    all_goals
     refine hK8 _ _ ?_ ?_
     · first | trivial | (simp only [go_sem]; done) | (simp only [go_sem]; simp; done) | (simp only [go_sem]; simp; simp only [go_sem])
     refine hN7 _ ?_
     refine seq_k fun N9 M9 hN9 hM9 => ?_
     refine seq_k fun N10 M10 hN10 hM10 => ?_
     refine region_k fun K11 hK11 => ?_
     simp only [go_sem, m16, d16, tk16, polyC, hh, lowB_length, Bool.and_false, Bool.false_and, q0, q1, h2]
     all_goals repeat' (first | apply And.intro | intro _)
     all_goals
      refine hK11 _ ?_
      refine hN10 _ ?_
      refine block_k fun B12 bn12 bx12 br12 bi12 => ?_
      refine ht_dropE [0, 3, 7, 8, 9, 10, 11, 12, 13, 14, 15, 16, 17, 18, 19, 20, 21, 22, 23, 24, 25, 26, 27, 28, 29, 30, 31, 32, 33, 34, 35, 36, 37, 38, 39, 40, 41, 42, 43, 44, 45, 46, 47, 48, 49, 50, 51] ?_
      simp only [dropE_mk, fgt_nil, fgt_cons, List.contains_cons, List.contains_nil, Nat.reduceBEq, beq_self_eq_true, Bool.or_false, Bool.or_true, Bool.true_or, Bool.false_or, Bool.false_eq_true, reduceIte]
      refine loop_k (fun y => [(53, .w (.one (.pl (.i ((y.1 : Nat) : Int))))), (4, .w (.one (.pl (.b false))))]) (fun _ => []) (fun y => 16 - y.1) (⟨0, Nat.zero_le _⟩ : {y : Nat // y ≤ 16}) ?_ ?_ ?_
      · (simp only [go_sem, leX, List.cons_append, List.nil_append]; try simp)
      · (simp only [go_sem, leX, List.cons_append, List.nil_append]; try simp)
      intro ⟨i, hi⟩ N13 M13 hN13 hM13
      simp only [List.cons_append, List.nil_append]
      rcases Nat.lt_or_ge i 16 with hlt | hge
      · have hcq : ((i : Nat) : Int) < 16 := by omega
        have hc0 : (0 : Int) ≤ ((i : Nat) : Int) := by omega
        have hs1 : Go.RowKit.wrap64 (((i : Nat) : Int) + 1) = ((i + 1 : Nat) : Int) := wnat (by omega) (by omega)
        have hk1 : List.take 1 (List.drop i held) = [held.getD i 0] := by have := one_at (l := held) (o := 0) (m := 16) (i := i) (by omega) hlt; simpa [← hh] using this
        have hk2 : i + 1 ≤ 16 := by omega
        refine seq_k fun N14 M14 hN14 hM14 => ?_
        refine region_k fun K15 hK15 => ?_
        simp only [go_sem, m16, d16, tk16, polyC, hh, lowB_length, Bool.and_false, Bool.false_and, q0, q1, h2, hcq, hc0, hs1, hk1, hk2, bytesC_one]
        all_goals repeat' (first | apply And.intro | intro _)
        all_goals
         refine hK15 _ ?_
         refine hN14 _ ?_
         refine seq_k fun N16 M16 hN16 hM16 => ?_
         refine cond_k rfl (fun hc => ?_) (fun hc => ?_)
         · try simp only [go_sem, m16, d16, tk16, polyC, hh, lowB_length, Bool.and_false, Bool.false_and, q0, q1, h2, hcq, hc0, hs1, hk1, hk2, bytesC_one] at hc
           all_goals
            refine skip_k ?_
            refine hN16 _ ?_
            refine seq_k fun N17 M17 hN17 hM17 => ?_
            refine block_k fun B18 bn18 bx18 br18 bi18 => ?_
            refine seq_k fun N19 M19 hN19 hM19 => ?_
            refine region_k fun K20 hK20 => ?_
            simp only [go_sem, m16, d16, tk16, polyC, hh, lowB_length, Bool.and_false, Bool.false_and, q0, q1, h2, hcq, hc0, hs1, hk1, hk2, bytesC_one]
            all_goals repeat' (first | apply And.intro | intro _)
            all_goals
             refine hK20 _ ?_
             refine hN19 _ ?_
             refine region_k fun K21 hK21 => ?_
             simp only [go_sem, m16, d16, tk16, polyC, hh, lowB_length, Bool.and_false, Bool.false_and, q0, q1, h2, hcq, hc0, hs1, hk1, hk2, bytesC_one]
             all_goals repeat' (first | apply And.intro | intro _)
             all_goals
              refine hK21 _ ?_
              refine bn18 _ ?_
              refine hN17 _ ?_
              refine region_k fun K22 hK22 => ?_
              simp only [go_sem, m16, d16, tk16, polyC, hh, lowB_length, Bool.and_false, Bool.false_and, q0, q1, h2, hcq, hc0, hs1, hk1, hk2, bytesC_one]
              all_goals repeat' (first | apply And.intro | intro _)
              all_goals
               refine hK22 _ ?_
               refine hN13 ⟨i + 1, hlt⟩ _ ?_ ?_ ?_
               · (show 16 - (i + 1) < 16 - i; clear hs1; omega)
               · (simp only [go_sem, leX, List.cons_append, List.nil_append]; try simp)
               · (simp only [go_sem, leX, List.cons_append, List.nil_append]; try simp)
         · exfalso; revert hc; simp [go_sem, m16, d16, tk16, polyC, hh, lowB_length, decide_true, decide_false, Bool.not_true, Bool.not_false, Bool.and_true, Bool.and_false, Bool.false_and, Bool.true_and, q0, q1, h2, hcq, hc0, hs1, hk1, hk2, bytesC_one, Int.toNat_natCast]
      · have hcq : ¬ ((i : Nat) : Int) < 16 := by omega
        refine seq_k fun N23 M23 hN23 hM23 => ?_
        refine region_k fun K24 hK24 => ?_
        simp only [go_sem, m16, d16, tk16, polyC, hh, lowB_length, Bool.and_false, Bool.false_and, q0, q1, h2, hcq]
        all_goals repeat' (first | apply And.intro | intro _)
        all_goals
         refine hK24 _ ?_
         refine hN23 _ ?_
         refine seq_k fun N25 M25 hN25 hM25 => ?_
         refine cond_k rfl (fun hc => ?_) (fun hc => ?_)
         · exfalso; revert hc; simp [go_sem, m16, d16, tk16, polyC, hh, lowB_length, decide_true, decide_false, Bool.not_true, Bool.not_false, Bool.and_true, Bool.and_false, Bool.false_and, Bool.true_and, q0, q1, h2, hcq]
         · try simp only [go_sem, m16, d16, tk16, polyC, hh, lowB_length, Bool.and_false, Bool.false_and, q0, q1, h2, hcq] at hc
           all_goals
            refine exit_k ?_
            refine hM25 _ _ ?_
            refine hM13 _ _ ?_
            refine bx12 _ ?_
            refine hN9 _ ?_
            refine seq_k fun N26 M26 hN26 hM26 => ?_
            refine seq_k fun N27 M27 hN27 hM27 => ?_
            refine region_k fun K28 hK28 => ?_
            simp only [go_sem, m16, d16, tk16, polyC, hh, lowB_length, Bool.and_false, Bool.false_and, q0, q1, h2, hcq]
            all_goals repeat' (first | apply And.intro | intro _)
            all_goals
             refine hK28 _ ?_
             refine hN27 _ ?_
             refine cond_k rfl (fun hc => ?_) (fun hc => ?_)
             · try simp only [go_sem, m16, d16, tk16, polyC, hh, lowB_length, Bool.and_false, Bool.false_and, q0, q1, h2, hcq] at hc
               all_goals
                refine seq_k fun N29 M29 hN29 hM29 => ?_
                refine region_k fun K30 hK30 => ?_
                simp only [go_sem, m16, d16, tk16, polyC, hh, lowB_length, Bool.and_false, Bool.false_and, q0, q1, h2, hcq]
                all_goals repeat' (first | apply And.intro | intro _)
                all_goals
                 refine hK30 _ ?_
                 refine hN29 _ ?_
                 refine ret_k ?_
                 refine hM26 _ _ ?_
                 simp only [go_sem, m16, d16, tk16, polyC, hh, lowB_length, Bool.and_false, Bool.false_and, q0, q1, h2, hcq]
                 all_goals (rw [perr_no (fun h => h2 h.lo)])
             · exfalso; revert hc; simp [go_sem, m16, d16, tk16, polyC, hh, lowB_length, decide_true, decide_false, Bool.not_true, Bool.not_false, Bool.and_true, Bool.and_false, Bool.false_and, Bool.true_and, q0, q1, h2, hcq]
set_option maxHeartbeats 1600000 in
set_option maxRecDepth 100000 in
theorem pflt_hi (r0 r1 p0 p1 a0 a1 a2 : UInt64) (held : List UInt8) (hh : held.length = 16) (n : Int) (h0 : r0 &&& ~~~1152921487695413247 = 0) (h1 : r1 &&& ~~~1152921487695413244 = 0) (h2 : 0 ≤ n) (h3 : ¬ n < 16) :
 Ct Try.prog 17 [.w (.agg (polyC r0 r1 p0 p1 a0 a1 a2 held n))] (fun v m => v = .w (.one (.pl (.i (polyErr r0 r1 a0 a1 a2 held n))))) := by
 have q0 := (mask_iff _ _).mpr h0
 have q1 := (mask_iff _ _).mpr h1
 refine Ct.k Try.func17 rfl Try.ntmps17 (congrArg Array.toList Try.results17) (by simp) fun w0 ro => ?_
 refine seq_k fun N1 M1 hN1 hM1 => ?_
 refine region_k fun K2 hK2 => ?_
 simp only [go_sem, m16, d16, tk16, polyC, hh, lowB_length, Bool.and_false, Bool.false_and, q0, q1, h2, h3]
 all_goals repeat' (first | apply And.intro | intro _)
 all_goals
  refine hK2 _ ?_
  refine hN1 _ ?_
  refine seq_k fun N3 M3 hN3 hM3 => ?_
  refine region_k fun K4 hK4 => ?_
  simp only [go_sem, m16, d16, tk16, polyC, hh, lowB_length, Bool.and_false, Bool.false_and, q0, q1, h2, h3]
  all_goals repeat' (first | apply And.intro | intro _)
  all_goals
   refine hK4 _ ?_
   refine hN3 _ ?_
   refine seq_k fun N5 M5 hN5 hM5 => ?_
   refine draw_k [8, 9, 10, 11, 12, 13, 14, 15, 16, 17, 18] [0, 0, 2, 6, 14, 0, 32, 96, 254, 510, 1023] [] mixed (by kernel_rfl) (by simp only [go_sem]) fun K6 hK6 => ?_
   simp only [go_sem, m16, d16, tk16, polyC, hh, lowB_length, Bool.and_false, Bool.false_and, q0, q1, h2, h3]
   all_goals repeat' (first | apply And.intro | intro _)
   all_goals refine call_draw (fun k => k) _ [] (fun _ _ => rfl) (by first | rfl | (simp only [go_sem, m16, d16, tk16, polyC, hh, lowB_length, Bool.and_false, Bool.false_and, q0, q1, h2, h3]; rfl) | simp only [go_sem, m16, d16, tk16, polyC, hh, lowB_length, Bool.and_false, Bool.false_and, q0, q1, h2, h3]) ((low_ _ 8 (by decide)).plain fun _ _ h => h) ?_ ?_
   all_goals try (refine And.intro ?_ (And.intro ?_ (And.intro ?_ ?_)) <;> first | rfl | simp only [go_sem])
   all_goals simp only [go_sem, m16, d16, tk16, polyC, hh, lowB_length, Bool.and_false, Bool.false_and, q0, q1, h2, h3]
   all_goals repeat' (first | apply And.intro | intro _)
   all_goals refine call_draw (fun k => k) _ [] (fun _ _ => rfl) (by first | rfl | (simp only [go_sem, m16, d16, tk16, polyC, hh, lowB_length, Bool.and_false, Bool.false_and, q0, q1, h2, h3]; rfl) | simp only [go_sem, m16, d16, tk16, polyC, hh, lowB_length, Bool.and_false, Bool.false_and, q0, q1, h2, h3]) ((low_ _ 8 (by decide)).plain fun _ _ h => h) ?_ ?_
   all_goals try (refine And.intro ?_ (And.intro ?_ (And.intro ?_ ?_)) <;> first | rfl | simp only [go_sem])
   all_goals simp only [go_sem, m16, d16, tk16, polyC, hh, lowB_length, Bool.and_false, Bool.false_and, q0, q1, h2, h3]
   all_goals repeat' (first | apply And.intro | intro _)
   all_goals
    refine hK6 _ _ ?_ ?_
    · first | trivial | (simp only [go_sem]; done) | (simp only [go_sem]; simp; done) | (simp only [go_sem]; simp; simp only [go_sem])
    refine hN5 _ ?_
    refine seq_k fun N7 M7 hN7 hM7 => ?_
    refine draw_k [19, 20, 21, 22, 23, 24, 25, 26, 27, 28, 29, 30, 31, 32, 33, 34, 35, 36, 37, 38, 39, 40, 41, 42, 43, 44, 45, 46, 47, 48, 49, 50, 4] [0, 1, 3, 0, 8, 31, 63, 127, 255, 511, 1023, 2047, 4095, 8191, 16383, 32767, 65535, 131071, 262143, 524287, 1048575, 2097151, 4194303, 8388607, 16777215, 33554431, 67108863, 134217727, 8388607, 276824063, 1073741823, 2147483647, 4294967295] [] mixed (by kernel_rfl) (by simp only [go_sem]) fun K8 hK8 => ?_
    simp only [go_sem, m16, d16, tk16, polyC, hh, lowB_length, Bool.and_false, Bool.false_and, q0, q1, h2, h3]
    all_goals repeat' (first | apply And.intro | intro _)
    all_goals refine call_draw (fun k => k) _ [] (fun _ _ => rfl) (by first | rfl | (simp only [go_sem, m16, d16, tk16, polyC, hh, lowB_length, Bool.and_false, Bool.false_and, q0, q1, h2, h3]; rfl) | simp only [go_sem, m16, d16, tk16, polyC, hh, lowB_length, Bool.and_false, Bool.false_and, q0, q1, h2, h3]) ((poly_begun_low r0 r1).plain fun _ _ h => h) ?_ ?_
    all_goals try (refine And.intro ?_ (And.intro ?_ (And.intro ?_ ?_)) <;> first | rfl | simp only [go_sem])
    all_goals simp only [go_sem, m16, d16, tk16, polyC, hh, lowB_length, Bool.and_false, Bool.false_and, q0, q1, h2, h3]
    all_goals repeat' (first | apply And.intro | intro _)
    all_goals (first | (refine call_draw (fun k => k) _ [] (fun _ _ => rfl) (by first | rfl | (simp only [go_sem, m16, d16, tk16, polyC, hh, lowB_length, Bool.and_false, Bool.false_and, q0, q1, h2, h3]; rfl) | simp only [go_sem, m16, d16, tk16, polyC, hh, lowB_length, Bool.and_false, Bool.false_and, q0, q1, h2, h3]) ((parts_of a0 a1 a2).plain fun _ _ h => h) ?_ ?_; all_goals try (refine And.intro ?_ (And.intro ?_ (And.intro ?_ ?_)) <;> first | rfl | simp only [go_sem]); all_goals simp only [go_sem, m16, d16, tk16, polyC, hh, lowB_length, Bool.and_false, Bool.false_and, q0, q1, h2, h3]; all_goals repeat' (first | apply And.intro | intro _)) | skip)
    all_goals (first | (refine call_draw (fun k => k) _ [] (fun _ _ => rfl) (by first | rfl | (simp only [go_sem, m16, d16, tk16, polyC, hh, lowB_length, Bool.and_false, Bool.false_and, q0, q1, h2, h3]; rfl) | simp only [go_sem, m16, d16, tk16, polyC, hh, lowB_length, Bool.and_false, Bool.false_and, q0, q1, h2, h3]) ((carried_of (parts3 a0 a1 a2)).plain fun _ _ h => h) ?_ ?_; all_goals try (refine And.intro ?_ (And.intro ?_ (And.intro ?_ ?_)) <;> first | rfl | simp only [go_sem]); all_goals simp only [go_sem, m16, d16, tk16, polyC, hh, lowB_length, Bool.and_false, Bool.false_and, q0, q1, h2, h3]; all_goals repeat' (first | apply And.intro | intro _)) | skip)
    all_goals (first | (refine call_draw (fun k => k) _ [] (fun _ _ => rfl) (by first | rfl | (simp only [go_sem, m16, d16, tk16, polyC, hh, lowB_length, Bool.and_false, Bool.false_and, q0, q1, h2, h3]; rfl) | simp only [go_sem, m16, d16, tk16, polyC, hh, lowB_length, Bool.and_false, Bool.false_and, q0, q1, h2, h3]) ((whole_of (parts3 a0 a1 a2).carried).plain fun _ _ h => h) ?_ ?_; all_goals try (refine And.intro ?_ (And.intro ?_ (And.intro ?_ ?_)) <;> first | rfl | simp only [go_sem]); all_goals simp only [go_sem, m16, d16, tk16, polyC, hh, lowB_length, Bool.and_false, Bool.false_and, q0, q1, h2, h3]; all_goals repeat' (first | apply And.intro | intro _)) | skip)
    all_goals
     refine hK8 _ _ ?_ ?_
     · first | trivial | (simp only [go_sem]; done) | (simp only [go_sem]; simp; done) | (simp only [go_sem]; simp; simp only [go_sem])
     refine hN7 _ ?_
     refine seq_k fun N9 M9 hN9 hM9 => ?_
     refine seq_k fun N10 M10 hN10 hM10 => ?_
     refine region_k fun K11 hK11 => ?_
     simp only [go_sem, m16, d16, tk16, polyC, hh, lowB_length, Bool.and_false, Bool.false_and, q0, q1, h2, h3]
     all_goals repeat' (first | apply And.intro | intro _)
     all_goals
      refine hK11 _ ?_
      refine hN10 _ ?_
      refine block_k fun B12 bn12 bx12 br12 bi12 => ?_
      refine ht_dropE [0, 3, 7, 8, 9, 10, 11, 12, 13, 14, 15, 16, 17, 18, 19, 20, 21, 22, 23, 24, 25, 26, 27, 28, 29, 30, 31, 32, 33, 34, 35, 36, 37, 38, 39, 40, 41, 42, 43, 44, 45, 46, 47, 48, 49, 50, 51] ?_
      simp only [dropE_mk, fgt_nil, fgt_cons, List.contains_cons, List.contains_nil, Nat.reduceBEq, beq_self_eq_true, Bool.or_false, Bool.or_true, Bool.true_or, Bool.false_or, Bool.false_eq_true, reduceIte]
      refine loop_k (fun y => [(53, .w (.one (.pl (.i ((y.1 : Nat) : Int))))), (4, .w (.one (.pl (.b false))))]) (fun _ => []) (fun y => 16 - y.1) (⟨0, Nat.zero_le _⟩ : {y : Nat // y ≤ 16}) ?_ ?_ ?_
      · (simp only [go_sem, leX, List.cons_append, List.nil_append]; try simp)
      · (simp only [go_sem, leX, List.cons_append, List.nil_append]; try simp)
      intro ⟨i, hi⟩ N13 M13 hN13 hM13
      simp only [List.cons_append, List.nil_append]
      rcases Nat.lt_or_ge i 16 with hlt | hge
      · have hcq : ((i : Nat) : Int) < 16 := by omega
        have hc0 : (0 : Int) ≤ ((i : Nat) : Int) := by omega
        have hs1 : Go.RowKit.wrap64 (((i : Nat) : Int) + 1) = ((i + 1 : Nat) : Int) := wnat (by omega) (by omega)
        have hk1 : List.take 1 (List.drop i held) = [held.getD i 0] := by have := one_at (l := held) (o := 0) (m := 16) (i := i) (by omega) hlt; simpa [← hh] using this
        have hk2 : i + 1 ≤ 16 := by omega
        refine seq_k fun N14 M14 hN14 hM14 => ?_
        refine region_k fun K15 hK15 => ?_
        simp only [go_sem, m16, d16, tk16, polyC, hh, lowB_length, Bool.and_false, Bool.false_and, q0, q1, h2, h3, hcq, hc0, hs1, hk1, hk2, bytesC_one]
        all_goals repeat' (first | apply And.intro | intro _)
        all_goals
         refine hK15 _ ?_
         refine hN14 _ ?_
         refine seq_k fun N16 M16 hN16 hM16 => ?_
         refine cond_k rfl (fun hc => ?_) (fun hc => ?_)
         · try simp only [go_sem, m16, d16, tk16, polyC, hh, lowB_length, Bool.and_false, Bool.false_and, q0, q1, h2, h3, hcq, hc0, hs1, hk1, hk2, bytesC_one] at hc
           all_goals
            refine skip_k ?_
            refine hN16 _ ?_
            refine seq_k fun N17 M17 hN17 hM17 => ?_
            refine block_k fun B18 bn18 bx18 br18 bi18 => ?_
            refine seq_k fun N19 M19 hN19 hM19 => ?_
            refine region_k fun K20 hK20 => ?_
            simp only [go_sem, m16, d16, tk16, polyC, hh, lowB_length, Bool.and_false, Bool.false_and, q0, q1, h2, h3, hcq, hc0, hs1, hk1, hk2, bytesC_one]
            all_goals repeat' (first | apply And.intro | intro _)
            all_goals
             refine hK20 _ ?_
             refine hN19 _ ?_
             refine region_k fun K21 hK21 => ?_
             simp only [go_sem, m16, d16, tk16, polyC, hh, lowB_length, Bool.and_false, Bool.false_and, q0, q1, h2, h3, hcq, hc0, hs1, hk1, hk2, bytesC_one]
             all_goals repeat' (first | apply And.intro | intro _)
             all_goals
              refine hK21 _ ?_
              refine bn18 _ ?_
              refine hN17 _ ?_
              refine region_k fun K22 hK22 => ?_
              simp only [go_sem, m16, d16, tk16, polyC, hh, lowB_length, Bool.and_false, Bool.false_and, q0, q1, h2, h3, hcq, hc0, hs1, hk1, hk2, bytesC_one]
              all_goals repeat' (first | apply And.intro | intro _)
              all_goals
               refine hK22 _ ?_
               refine hN13 ⟨i + 1, hlt⟩ _ ?_ ?_ ?_
               · (show 16 - (i + 1) < 16 - i; clear hs1; omega)
               · (simp only [go_sem, leX, List.cons_append, List.nil_append]; try simp)
               · (simp only [go_sem, leX, List.cons_append, List.nil_append]; try simp)
         · exfalso; revert hc; simp [go_sem, m16, d16, tk16, polyC, hh, lowB_length, decide_true, decide_false, Bool.not_true, Bool.not_false, Bool.and_true, Bool.and_false, Bool.false_and, Bool.true_and, q0, q1, h2, h3, hcq, hc0, hs1, hk1, hk2, bytesC_one, Int.toNat_natCast]
      · have hcq : ¬ ((i : Nat) : Int) < 16 := by omega
        refine seq_k fun N23 M23 hN23 hM23 => ?_
        refine region_k fun K24 hK24 => ?_
        simp only [go_sem, m16, d16, tk16, polyC, hh, lowB_length, Bool.and_false, Bool.false_and, q0, q1, h2, h3, hcq]
        all_goals repeat' (first | apply And.intro | intro _)
        all_goals
         refine hK24 _ ?_
         refine hN23 _ ?_
         refine seq_k fun N25 M25 hN25 hM25 => ?_
         refine cond_k rfl (fun hc => ?_) (fun hc => ?_)
         · exfalso; revert hc; simp [go_sem, m16, d16, tk16, polyC, hh, lowB_length, decide_true, decide_false, Bool.not_true, Bool.not_false, Bool.and_true, Bool.and_false, Bool.false_and, Bool.true_and, q0, q1, h2, h3, hcq]
         · try simp only [go_sem, m16, d16, tk16, polyC, hh, lowB_length, Bool.and_false, Bool.false_and, q0, q1, h2, h3, hcq] at hc
           all_goals
            refine exit_k ?_
            refine hM25 _ _ ?_
            refine hM13 _ _ ?_
            refine bx12 _ ?_
            refine hN9 _ ?_
            refine seq_k fun N26 M26 hN26 hM26 => ?_
            refine seq_k fun N27 M27 hN27 hM27 => ?_
            refine region_k fun K28 hK28 => ?_
            simp only [go_sem, m16, d16, tk16, polyC, hh, lowB_length, Bool.and_false, Bool.false_and, q0, q1, h2, h3, hcq]
            all_goals repeat' (first | apply And.intro | intro _)
            all_goals
             refine hK28 _ ?_
             refine hN27 _ ?_
             refine cond_k rfl (fun hc => ?_) (fun hc => ?_)
             · try simp only [go_sem, m16, d16, tk16, polyC, hh, lowB_length, Bool.and_false, Bool.false_and, q0, q1, h2, h3, hcq] at hc
               all_goals
                refine seq_k fun N29 M29 hN29 hM29 => ?_
                refine region_k fun K30 hK30 => ?_
                simp only [go_sem, m16, d16, tk16, polyC, hh, lowB_length, Bool.and_false, Bool.false_and, q0, q1, h2, h3, hcq]
                all_goals repeat' (first | apply And.intro | intro _)
                all_goals
                 refine hK30 _ ?_
                 refine hN29 _ ?_
                 refine ret_k ?_
                 refine hM26 _ _ ?_
                 simp only [go_sem, m16, d16, tk16, polyC, hh, lowB_length, Bool.and_false, Bool.false_and, q0, q1, h2, h3, hcq]
                 all_goals (rw [perr_no (fun h => h3 (by have := h.hi; omega))])
             · exfalso; revert hc; simp [go_sem, m16, d16, tk16, polyC, hh, lowB_length, decide_true, decide_false, Bool.not_true, Bool.not_false, Bool.and_true, Bool.and_false, Bool.false_and, Bool.true_and, q0, q1, h2, h3, hcq]
set_option maxHeartbeats 1600000 in
set_option maxRecDepth 100000 in
theorem pflt_a2 (r0 r1 p0 p1 a0 a1 a2 : UInt64) (held : List UInt8) (hh : held.length = 16) (n : Int) (h0 : r0 &&& ~~~1152921487695413247 = 0) (h1 : r1 &&& ~~~1152921487695413244 = 0) (h2 : 0 ≤ n) (h3 : n < 16) (h4 : ¬ a2 < 4) :
 Ct Try.prog 17 [.w (.agg (polyC r0 r1 p0 p1 a0 a1 a2 held n))] (fun v m => v = .w (.one (.pl (.i (polyErr r0 r1 a0 a1 a2 held n))))) := by
 have q0 := (mask_iff _ _).mpr h0
 have q1 := (mask_iff _ _).mpr h1
 refine Ct.k Try.func17 rfl Try.ntmps17 (congrArg Array.toList Try.results17) (by simp) fun w0 ro => ?_
 refine seq_k fun N1 M1 hN1 hM1 => ?_
 refine region_k fun K2 hK2 => ?_
 simp only [go_sem, m16, d16, tk16, polyC, hh, lowB_length, Bool.and_false, Bool.false_and, q0, q1, h2, h3, h4]
 all_goals repeat' (first | apply And.intro | intro _)
 all_goals
  refine hK2 _ ?_
  refine hN1 _ ?_
  refine seq_k fun N3 M3 hN3 hM3 => ?_
  refine region_k fun K4 hK4 => ?_
  simp only [go_sem, m16, d16, tk16, polyC, hh, lowB_length, Bool.and_false, Bool.false_and, q0, q1, h2, h3, h4]
  all_goals repeat' (first | apply And.intro | intro _)
  all_goals
   refine hK4 _ ?_
   refine hN3 _ ?_
   refine seq_k fun N5 M5 hN5 hM5 => ?_
   refine draw_k [8, 9, 10, 11, 12, 13, 14, 15, 16, 17, 18] [0, 0, 2, 6, 14, 0, 32, 96, 254, 510, 1023] [] mixed (by kernel_rfl) (by simp only [go_sem]) fun K6 hK6 => ?_
   simp only [go_sem, m16, d16, tk16, polyC, hh, lowB_length, Bool.and_false, Bool.false_and, q0, q1, h2, h3, h4]
   all_goals repeat' (first | apply And.intro | intro _)
   all_goals refine call_draw (fun k => k) _ [] (fun _ _ => rfl) (by first | rfl | (simp only [go_sem, m16, d16, tk16, polyC, hh, lowB_length, Bool.and_false, Bool.false_and, q0, q1, h2, h3, h4]; rfl) | simp only [go_sem, m16, d16, tk16, polyC, hh, lowB_length, Bool.and_false, Bool.false_and, q0, q1, h2, h3, h4]) ((low_ _ 8 (by decide)).plain fun _ _ h => h) ?_ ?_
   all_goals try (refine And.intro ?_ (And.intro ?_ (And.intro ?_ ?_)) <;> first | rfl | simp only [go_sem])
   all_goals simp only [go_sem, m16, d16, tk16, polyC, hh, lowB_length, Bool.and_false, Bool.false_and, q0, q1, h2, h3, h4]
   all_goals repeat' (first | apply And.intro | intro _)
   all_goals refine call_draw (fun k => k) _ [] (fun _ _ => rfl) (by first | rfl | (simp only [go_sem, m16, d16, tk16, polyC, hh, lowB_length, Bool.and_false, Bool.false_and, q0, q1, h2, h3, h4]; rfl) | simp only [go_sem, m16, d16, tk16, polyC, hh, lowB_length, Bool.and_false, Bool.false_and, q0, q1, h2, h3, h4]) ((low_ _ 8 (by decide)).plain fun _ _ h => h) ?_ ?_
   all_goals try (refine And.intro ?_ (And.intro ?_ (And.intro ?_ ?_)) <;> first | rfl | simp only [go_sem])
   all_goals simp only [go_sem, m16, d16, tk16, polyC, hh, lowB_length, Bool.and_false, Bool.false_and, q0, q1, h2, h3, h4]
   all_goals repeat' (first | apply And.intro | intro _)
   all_goals
    refine hK6 _ _ ?_ ?_
    · first | trivial | (simp only [go_sem]; done) | (simp only [go_sem]; simp; done) | (simp only [go_sem]; simp; simp only [go_sem])
    refine hN5 _ ?_
    refine seq_k fun N7 M7 hN7 hM7 => ?_
    refine draw_k [19, 20, 21, 22, 23, 24, 25, 26, 27, 28, 29, 30, 31, 32, 33, 34, 35, 36, 37, 38, 39, 40, 41, 42, 43, 44, 45, 46, 47, 48, 49, 50, 4] [0, 1, 3, 0, 8, 31, 63, 127, 255, 511, 1023, 2047, 4095, 8191, 16383, 32767, 65535, 131071, 262143, 524287, 1048575, 2097151, 4194303, 8388607, 16777215, 33554431, 67108863, 134217727, 8388607, 276824063, 1073741823, 2147483647, 4294967295] [] mixed (by kernel_rfl) (by simp only [go_sem]) fun K8 hK8 => ?_
    simp only [go_sem, m16, d16, tk16, polyC, hh, lowB_length, Bool.and_false, Bool.false_and, q0, q1, h2, h3, h4]
    all_goals repeat' (first | apply And.intro | intro _)
    all_goals refine call_draw (fun k => k) _ [] (fun _ _ => rfl) (by first | rfl | (simp only [go_sem, m16, d16, tk16, polyC, hh, lowB_length, Bool.and_false, Bool.false_and, q0, q1, h2, h3, h4]; rfl) | simp only [go_sem, m16, d16, tk16, polyC, hh, lowB_length, Bool.and_false, Bool.false_and, q0, q1, h2, h3, h4]) ((poly_begun_low r0 r1).plain fun _ _ h => h) ?_ ?_
    all_goals try (refine And.intro ?_ (And.intro ?_ (And.intro ?_ ?_)) <;> first | rfl | simp only [go_sem])
    all_goals simp only [go_sem, m16, d16, tk16, polyC, hh, lowB_length, Bool.and_false, Bool.false_and, q0, q1, h2, h3, h4]
    all_goals repeat' (first | apply And.intro | intro _)
    all_goals (first | (refine call_draw (fun k => k) _ [] (fun _ _ => rfl) (by first | rfl | (simp only [go_sem, m16, d16, tk16, polyC, hh, lowB_length, Bool.and_false, Bool.false_and, q0, q1, h2, h3, h4]; rfl) | simp only [go_sem, m16, d16, tk16, polyC, hh, lowB_length, Bool.and_false, Bool.false_and, q0, q1, h2, h3, h4]) ((parts_of a0 a1 a2).plain fun _ _ h => h) ?_ ?_; all_goals try (refine And.intro ?_ (And.intro ?_ (And.intro ?_ ?_)) <;> first | rfl | simp only [go_sem]); all_goals simp only [go_sem, m16, d16, tk16, polyC, hh, lowB_length, Bool.and_false, Bool.false_and, q0, q1, h2, h3, h4]; all_goals repeat' (first | apply And.intro | intro _)) | skip)
    all_goals (first | (refine call_draw (fun k => k) _ [] (fun _ _ => rfl) (by first | rfl | (simp only [go_sem, m16, d16, tk16, polyC, hh, lowB_length, Bool.and_false, Bool.false_and, q0, q1, h2, h3, h4]; rfl) | simp only [go_sem, m16, d16, tk16, polyC, hh, lowB_length, Bool.and_false, Bool.false_and, q0, q1, h2, h3, h4]) ((carried_of (parts3 a0 a1 a2)).plain fun _ _ h => h) ?_ ?_; all_goals try (refine And.intro ?_ (And.intro ?_ (And.intro ?_ ?_)) <;> first | rfl | simp only [go_sem]); all_goals simp only [go_sem, m16, d16, tk16, polyC, hh, lowB_length, Bool.and_false, Bool.false_and, q0, q1, h2, h3, h4]; all_goals repeat' (first | apply And.intro | intro _)) | skip)
    all_goals (first | (refine call_draw (fun k => k) _ [] (fun _ _ => rfl) (by first | rfl | (simp only [go_sem, m16, d16, tk16, polyC, hh, lowB_length, Bool.and_false, Bool.false_and, q0, q1, h2, h3, h4]; rfl) | simp only [go_sem, m16, d16, tk16, polyC, hh, lowB_length, Bool.and_false, Bool.false_and, q0, q1, h2, h3, h4]) ((whole_of (parts3 a0 a1 a2).carried).plain fun _ _ h => h) ?_ ?_; all_goals try (refine And.intro ?_ (And.intro ?_ (And.intro ?_ ?_)) <;> first | rfl | simp only [go_sem]); all_goals simp only [go_sem, m16, d16, tk16, polyC, hh, lowB_length, Bool.and_false, Bool.false_and, q0, q1, h2, h3, h4]; all_goals repeat' (first | apply And.intro | intro _)) | skip)
    all_goals
     refine hK8 _ _ ?_ ?_
     · first | trivial | (simp only [go_sem]; done) | (simp only [go_sem]; simp; done) | (simp only [go_sem]; simp; simp only [go_sem])
     refine hN7 _ ?_
     refine seq_k fun N9 M9 hN9 hM9 => ?_
     refine seq_k fun N10 M10 hN10 hM10 => ?_
     refine region_k fun K11 hK11 => ?_
     simp only [go_sem, m16, d16, tk16, polyC, hh, lowB_length, Bool.and_false, Bool.false_and, q0, q1, h2, h3, h4]
     all_goals repeat' (first | apply And.intro | intro _)
     all_goals
      refine hK11 _ ?_
      refine hN10 _ ?_
      refine block_k fun B12 bn12 bx12 br12 bi12 => ?_
      refine ht_dropE [0, 3, 7, 8, 9, 10, 11, 12, 13, 14, 15, 16, 17, 18, 19, 20, 21, 22, 23, 24, 25, 26, 27, 28, 29, 30, 31, 32, 33, 34, 35, 36, 37, 38, 39, 40, 41, 42, 43, 44, 45, 46, 47, 48, 49, 50, 51] ?_
      simp only [dropE_mk, fgt_nil, fgt_cons, List.contains_cons, List.contains_nil, Nat.reduceBEq, beq_self_eq_true, Bool.or_false, Bool.or_true, Bool.true_or, Bool.false_or, Bool.false_eq_true, reduceIte]
      refine loop_k (fun y => [(53, .w (.one (.pl (.i ((y.1 : Nat) : Int))))), (4, .w (.one (.pl (.b false))))]) (fun _ => []) (fun y => 16 - y.1) (⟨0, Nat.zero_le _⟩ : {y : Nat // y ≤ 16}) ?_ ?_ ?_
      · (simp only [go_sem, leX, List.cons_append, List.nil_append]; try simp)
      · (simp only [go_sem, leX, List.cons_append, List.nil_append]; try simp)
      intro ⟨i, hi⟩ N13 M13 hN13 hM13
      simp only [List.cons_append, List.nil_append]
      rcases Nat.lt_or_ge i 16 with hlt | hge
      · have hcq : ((i : Nat) : Int) < 16 := by omega
        have hc0 : (0 : Int) ≤ ((i : Nat) : Int) := by omega
        have hs1 : Go.RowKit.wrap64 (((i : Nat) : Int) + 1) = ((i + 1 : Nat) : Int) := wnat (by omega) (by omega)
        have hk1 : List.take 1 (List.drop i held) = [held.getD i 0] := by have := one_at (l := held) (o := 0) (m := 16) (i := i) (by omega) hlt; simpa [← hh] using this
        have hk2 : i + 1 ≤ 16 := by omega
        refine seq_k fun N14 M14 hN14 hM14 => ?_
        refine region_k fun K15 hK15 => ?_
        simp only [go_sem, m16, d16, tk16, polyC, hh, lowB_length, Bool.and_false, Bool.false_and, q0, q1, h2, h3, h4, hcq, hc0, hs1, hk1, hk2, bytesC_one]
        all_goals repeat' (first | apply And.intro | intro _)
        all_goals
         refine hK15 _ ?_
         refine hN14 _ ?_
         refine seq_k fun N16 M16 hN16 hM16 => ?_
         refine cond_k rfl (fun hc => ?_) (fun hc => ?_)
         · try simp only [go_sem, m16, d16, tk16, polyC, hh, lowB_length, Bool.and_false, Bool.false_and, q0, q1, h2, h3, h4, hcq, hc0, hs1, hk1, hk2, bytesC_one] at hc
           all_goals
            refine skip_k ?_
            refine hN16 _ ?_
            refine seq_k fun N17 M17 hN17 hM17 => ?_
            refine block_k fun B18 bn18 bx18 br18 bi18 => ?_
            refine seq_k fun N19 M19 hN19 hM19 => ?_
            refine region_k fun K20 hK20 => ?_
            simp only [go_sem, m16, d16, tk16, polyC, hh, lowB_length, Bool.and_false, Bool.false_and, q0, q1, h2, h3, h4, hcq, hc0, hs1, hk1, hk2, bytesC_one]
            all_goals repeat' (first | apply And.intro | intro _)
            all_goals
             refine hK20 _ ?_
             refine hN19 _ ?_
             refine region_k fun K21 hK21 => ?_
             simp only [go_sem, m16, d16, tk16, polyC, hh, lowB_length, Bool.and_false, Bool.false_and, q0, q1, h2, h3, h4, hcq, hc0, hs1, hk1, hk2, bytesC_one]
             all_goals repeat' (first | apply And.intro | intro _)
             all_goals
              refine hK21 _ ?_
              refine bn18 _ ?_
              refine hN17 _ ?_
              refine region_k fun K22 hK22 => ?_
              simp only [go_sem, m16, d16, tk16, polyC, hh, lowB_length, Bool.and_false, Bool.false_and, q0, q1, h2, h3, h4, hcq, hc0, hs1, hk1, hk2, bytesC_one]
              all_goals repeat' (first | apply And.intro | intro _)
              all_goals
               refine hK22 _ ?_
               refine hN13 ⟨i + 1, hlt⟩ _ ?_ ?_ ?_
               · (show 16 - (i + 1) < 16 - i; clear hs1; omega)
               · (simp only [go_sem, leX, List.cons_append, List.nil_append]; try simp)
               · (simp only [go_sem, leX, List.cons_append, List.nil_append]; try simp)
         · exfalso; revert hc; simp [go_sem, m16, d16, tk16, polyC, hh, lowB_length, decide_true, decide_false, Bool.not_true, Bool.not_false, Bool.and_true, Bool.and_false, Bool.false_and, Bool.true_and, q0, q1, h2, h3, h4, hcq, hc0, hs1, hk1, hk2, bytesC_one, Int.toNat_natCast]
      · have hcq : ¬ ((i : Nat) : Int) < 16 := by omega
        refine seq_k fun N23 M23 hN23 hM23 => ?_
        refine region_k fun K24 hK24 => ?_
        simp only [go_sem, m16, d16, tk16, polyC, hh, lowB_length, Bool.and_false, Bool.false_and, q0, q1, h2, h3, h4, hcq]
        all_goals repeat' (first | apply And.intro | intro _)
        all_goals
         refine hK24 _ ?_
         refine hN23 _ ?_
         refine seq_k fun N25 M25 hN25 hM25 => ?_
         refine cond_k rfl (fun hc => ?_) (fun hc => ?_)
         · exfalso; revert hc; simp [go_sem, m16, d16, tk16, polyC, hh, lowB_length, decide_true, decide_false, Bool.not_true, Bool.not_false, Bool.and_true, Bool.and_false, Bool.false_and, Bool.true_and, q0, q1, h2, h3, h4, hcq]
         · try simp only [go_sem, m16, d16, tk16, polyC, hh, lowB_length, Bool.and_false, Bool.false_and, q0, q1, h2, h3, h4, hcq] at hc
           all_goals
            refine exit_k ?_
            refine hM25 _ _ ?_
            refine hM13 _ _ ?_
            refine bx12 _ ?_
            refine hN9 _ ?_
            refine seq_k fun N26 M26 hN26 hM26 => ?_
            refine seq_k fun N27 M27 hN27 hM27 => ?_
            refine region_k fun K28 hK28 => ?_
            simp only [go_sem, m16, d16, tk16, polyC, hh, lowB_length, Bool.and_false, Bool.false_and, q0, q1, h2, h3, h4, hcq]
            all_goals repeat' (first | apply And.intro | intro _)
            all_goals
             refine hK28 _ ?_
             refine hN27 _ ?_
             refine cond_k rfl (fun hc => ?_) (fun hc => ?_)
             · try simp only [go_sem, m16, d16, tk16, polyC, hh, lowB_length, Bool.and_false, Bool.false_and, q0, q1, h2, h3, h4, hcq] at hc
               all_goals
                refine seq_k fun N29 M29 hN29 hM29 => ?_
                refine region_k fun K30 hK30 => ?_
                simp only [go_sem, m16, d16, tk16, polyC, hh, lowB_length, Bool.and_false, Bool.false_and, q0, q1, h2, h3, h4, hcq]
                all_goals repeat' (first | apply And.intro | intro _)
                all_goals
                 refine hK30 _ ?_
                 refine hN29 _ ?_
                 refine ret_k ?_
                 refine hM26 _ _ ?_
                 simp only [go_sem, m16, d16, tk16, polyC, hh, lowB_length, Bool.and_false, Bool.false_and, q0, q1, h2, h3, h4, hcq]
                 all_goals (rw [perr_no (fun h => h4 (UInt64.lt_iff_toNat_lt.mpr h.f2))])
             · exfalso; revert hc; simp [go_sem, m16, d16, tk16, polyC, hh, lowB_length, decide_true, decide_false, Bool.not_true, Bool.not_false, Bool.and_true, Bool.and_false, Bool.false_and, Bool.true_and, q0, q1, h2, h3, h4, hcq]
set_option maxHeartbeats 1600000 in
set_option maxRecDepth 100000 in
theorem pflt_acc (r0 r1 p0 p1 a0 a1 a2 : UInt64) (held : List UInt8) (hh : held.length = 16) (n : Int) (h0 : r0 &&& ~~~1152921487695413247 = 0) (h1 : r1 &&& ~~~1152921487695413244 = 0) (h2 : 0 ≤ n) (h3 : n < 16) (h4 : a2 < 4) (h5 : ¬ ((parts3 a0 a1 a2).carried.w0 = a0 ∧ (parts3 a0 a1 a2).carried.w1 = a1 ∧ (parts3 a0 a1 a2).carried.w2 = a2)) :
 Ct Try.prog 17 [.w (.agg (polyC r0 r1 p0 p1 a0 a1 a2 held n))] (fun v m => v = .w (.one (.pl (.i (polyErr r0 r1 a0 a1 a2 held n))))) := by
 have q0 := (mask_iff _ _).mpr h0
 have q1 := (mask_iff _ _).mpr h1
 have q5 : (decide ((parts3 a0 a1 a2).carried.w0 = a0) && (decide ((parts3 a0 a1 a2).carried.w1 = a1) && decide ((parts3 a0 a1 a2).carried.w2 = a2))) = false := by simpa using h5
 refine Ct.k Try.func17 rfl Try.ntmps17 (congrArg Array.toList Try.results17) (by simp) fun w0 ro => ?_
 refine seq_k fun N1 M1 hN1 hM1 => ?_
 refine region_k fun K2 hK2 => ?_
 simp only [go_sem, m16, d16, tk16, polyC, hh, lowB_length, Bool.and_false, Bool.false_and, q0, q1, h2, h3, h4, q5, W3]
 all_goals repeat' (first | apply And.intro | intro _)
 all_goals
  refine hK2 _ ?_
  refine hN1 _ ?_
  refine seq_k fun N3 M3 hN3 hM3 => ?_
  refine region_k fun K4 hK4 => ?_
  simp only [go_sem, m16, d16, tk16, polyC, hh, lowB_length, Bool.and_false, Bool.false_and, q0, q1, h2, h3, h4, q5, W3]
  all_goals repeat' (first | apply And.intro | intro _)
  all_goals
   refine hK4 _ ?_
   refine hN3 _ ?_
   refine seq_k fun N5 M5 hN5 hM5 => ?_
   refine draw_k [8, 9, 10, 11, 12, 13, 14, 15, 16, 17, 18] [0, 0, 2, 6, 14, 0, 32, 96, 254, 510, 1023] [] mixed (by kernel_rfl) (by simp only [go_sem]) fun K6 hK6 => ?_
   simp only [go_sem, m16, d16, tk16, polyC, hh, lowB_length, Bool.and_false, Bool.false_and, q0, q1, h2, h3, h4, q5, W3]
   all_goals repeat' (first | apply And.intro | intro _)
   all_goals refine call_draw (fun k => k) _ [] (fun _ _ => rfl) (by first | rfl | (simp only [go_sem, m16, d16, tk16, polyC, hh, lowB_length, Bool.and_false, Bool.false_and, q0, q1, h2, h3, h4, q5, W3]; rfl) | simp only [go_sem, m16, d16, tk16, polyC, hh, lowB_length, Bool.and_false, Bool.false_and, q0, q1, h2, h3, h4, q5, W3]) ((low_ _ 8 (by decide)).plain fun _ _ h => h) ?_ ?_
   all_goals try (refine And.intro ?_ (And.intro ?_ (And.intro ?_ ?_)) <;> first | rfl | simp only [go_sem])
   all_goals simp only [go_sem, m16, d16, tk16, polyC, hh, lowB_length, Bool.and_false, Bool.false_and, q0, q1, h2, h3, h4, q5, W3]
   all_goals repeat' (first | apply And.intro | intro _)
   all_goals refine call_draw (fun k => k) _ [] (fun _ _ => rfl) (by first | rfl | (simp only [go_sem, m16, d16, tk16, polyC, hh, lowB_length, Bool.and_false, Bool.false_and, q0, q1, h2, h3, h4, q5, W3]; rfl) | simp only [go_sem, m16, d16, tk16, polyC, hh, lowB_length, Bool.and_false, Bool.false_and, q0, q1, h2, h3, h4, q5, W3]) ((low_ _ 8 (by decide)).plain fun _ _ h => h) ?_ ?_
   all_goals try (refine And.intro ?_ (And.intro ?_ (And.intro ?_ ?_)) <;> first | rfl | simp only [go_sem])
   all_goals simp only [go_sem, m16, d16, tk16, polyC, hh, lowB_length, Bool.and_false, Bool.false_and, q0, q1, h2, h3, h4, q5, W3]
   all_goals repeat' (first | apply And.intro | intro _)
   all_goals
    refine hK6 _ _ ?_ ?_
    · first | trivial | (simp only [go_sem]; done) | (simp only [go_sem]; simp; done) | (simp only [go_sem]; simp; simp only [go_sem])
    refine hN5 _ ?_
    refine seq_k fun N7 M7 hN7 hM7 => ?_
    refine draw_k [19, 20, 21, 22, 23, 24, 25, 26, 27, 28, 29, 30, 31, 32, 33, 34, 35, 36, 37, 38, 39, 40, 41, 42, 43, 44, 45, 46, 47, 48, 49, 50, 4] [0, 1, 3, 0, 8, 31, 63, 127, 255, 511, 1023, 2047, 4095, 8191, 16383, 32767, 65535, 131071, 262143, 524287, 1048575, 2097151, 4194303, 8388607, 16777215, 33554431, 67108863, 134217727, 8388607, 276824063, 1073741823, 2147483647, 4294967295] [] mixed (by kernel_rfl) (by simp only [go_sem]) fun K8 hK8 => ?_
    simp only [go_sem, m16, d16, tk16, polyC, hh, lowB_length, Bool.and_false, Bool.false_and, q0, q1, h2, h3, h4, q5, W3]
    all_goals repeat' (first | apply And.intro | intro _)
    all_goals refine call_draw (fun k => k) _ [] (fun _ _ => rfl) (by first | rfl | (simp only [go_sem, m16, d16, tk16, polyC, hh, lowB_length, Bool.and_false, Bool.false_and, q0, q1, h2, h3, h4, q5, W3]; rfl) | simp only [go_sem, m16, d16, tk16, polyC, hh, lowB_length, Bool.and_false, Bool.false_and, q0, q1, h2, h3, h4, q5, W3]) ((poly_begun_low r0 r1).plain fun _ _ h => h) ?_ ?_
    all_goals try (refine And.intro ?_ (And.intro ?_ (And.intro ?_ ?_)) <;> first | rfl | simp only [go_sem])
    all_goals simp only [go_sem, m16, d16, tk16, polyC, hh, lowB_length, Bool.and_false, Bool.false_and, q0, q1, h2, h3, h4, q5, W3]
    all_goals repeat' (first | apply And.intro | intro _)
    all_goals refine call_draw (fun k => k) _ [] (fun _ _ => rfl) (by first | rfl | (simp only [go_sem, m16, d16, tk16, polyC, hh, lowB_length, Bool.and_false, Bool.false_and, q0, q1, h2, h3, h4, q5, W3]; rfl) | simp only [go_sem, m16, d16, tk16, polyC, hh, lowB_length, Bool.and_false, Bool.false_and, q0, q1, h2, h3, h4, q5, W3]) ((parts_of a0 a1 a2).plain fun _ _ h => h) ?_ ?_
    all_goals try (refine And.intro ?_ (And.intro ?_ (And.intro ?_ ?_)) <;> first | rfl | simp only [go_sem])
    all_goals simp only [go_sem, m16, d16, tk16, polyC, hh, lowB_length, Bool.and_false, Bool.false_and, q0, q1, h2, h3, h4, q5, W3]
    all_goals repeat' (first | apply And.intro | intro _)
    all_goals refine call_draw (fun k => k) _ [] (fun _ _ => rfl) (by first | rfl | (simp only [go_sem, m16, d16, tk16, polyC, hh, lowB_length, Bool.and_false, Bool.false_and, q0, q1, h2, h3, h4, q5, W3]; rfl) | simp only [go_sem, m16, d16, tk16, polyC, hh, lowB_length, Bool.and_false, Bool.false_and, q0, q1, h2, h3, h4, q5, W3]) ((carried_of (parts3 a0 a1 a2)).plain fun _ _ h => h) ?_ ?_
    all_goals try (refine And.intro ?_ (And.intro ?_ (And.intro ?_ ?_)) <;> first | rfl | simp only [go_sem])
    all_goals simp only [go_sem, m16, d16, tk16, polyC, hh, lowB_length, Bool.and_false, Bool.false_and, q0, q1, h2, h3, h4, q5, W3]
    all_goals repeat' (first | apply And.intro | intro _)
    all_goals refine call_draw (fun k => k) _ [] (fun _ _ => rfl) (by first | rfl | (simp only [go_sem, m16, d16, tk16, polyC, hh, lowB_length, Bool.and_false, Bool.false_and, q0, q1, h2, h3, h4, q5, W3]; rfl) | simp only [go_sem, m16, d16, tk16, polyC, hh, lowB_length, Bool.and_false, Bool.false_and, q0, q1, h2, h3, h4, q5, W3]) ((whole_of (parts3 a0 a1 a2).carried).plain fun _ _ h => h) ?_ ?_
    all_goals try (refine And.intro ?_ (And.intro ?_ (And.intro ?_ ?_)) <;> first | rfl | simp only [go_sem])
    all_goals simp only [go_sem, m16, d16, tk16, polyC, hh, lowB_length, Bool.and_false, Bool.false_and, q0, q1, h2, h3, h4, q5, W3]
    all_goals repeat' (first | apply And.intro | intro _)
    all_goals
     refine hK8 _ _ ?_ ?_
     · first | trivial | (simp only [go_sem]; done) | (simp only [go_sem]; simp; done) | (simp only [go_sem]; simp; simp only [go_sem])
     refine hN7 _ ?_
     refine seq_k fun N9 M9 hN9 hM9 => ?_
     refine seq_k fun N10 M10 hN10 hM10 => ?_
     refine region_k fun K11 hK11 => ?_
     simp only [go_sem, m16, d16, tk16, polyC, hh, lowB_length, Bool.and_false, Bool.false_and, q0, q1, h2, h3, h4, q5, W3]
     all_goals repeat' (first | apply And.intro | intro _)
     all_goals
      refine hK11 _ ?_
      refine hN10 _ ?_
      refine block_k fun B12 bn12 bx12 br12 bi12 => ?_
      refine ht_dropE [0, 3, 7, 8, 9, 10, 11, 12, 13, 14, 15, 16, 17, 18, 19, 20, 21, 22, 23, 24, 25, 26, 27, 28, 29, 30, 31, 32, 33, 34, 35, 36, 37, 38, 39, 40, 41, 42, 43, 44, 45, 46, 47, 48, 49, 50, 51] ?_
      simp only [dropE_mk, fgt_nil, fgt_cons, List.contains_cons, List.contains_nil, Nat.reduceBEq, beq_self_eq_true, Bool.or_false, Bool.or_true, Bool.true_or, Bool.false_or, Bool.false_eq_true, reduceIte]
      refine loop_k (fun y => [(53, .w (.one (.pl (.i ((y.1 : Nat) : Int))))), (4, .w (.one (.pl (.b false))))]) (fun _ => []) (fun y => 16 - y.1) (⟨0, Nat.zero_le _⟩ : {y : Nat // y ≤ 16}) ?_ ?_ ?_
      · (simp only [go_sem, leX, List.cons_append, List.nil_append]; try simp)
      · (simp only [go_sem, leX, List.cons_append, List.nil_append]; try simp)
      intro ⟨i, hi⟩ N13 M13 hN13 hM13
      simp only [List.cons_append, List.nil_append]
      rcases Nat.lt_or_ge i 16 with hlt | hge
      · have hcq : ((i : Nat) : Int) < 16 := by omega
        have hc0 : (0 : Int) ≤ ((i : Nat) : Int) := by omega
        have hs1 : Go.RowKit.wrap64 (((i : Nat) : Int) + 1) = ((i + 1 : Nat) : Int) := wnat (by omega) (by omega)
        have hk1 : List.take 1 (List.drop i held) = [held.getD i 0] := by have := one_at (l := held) (o := 0) (m := 16) (i := i) (by omega) hlt; simpa [← hh] using this
        have hk2 : i + 1 ≤ 16 := by omega
        refine seq_k fun N14 M14 hN14 hM14 => ?_
        refine region_k fun K15 hK15 => ?_
        simp only [go_sem, m16, d16, tk16, polyC, hh, lowB_length, Bool.and_false, Bool.false_and, q0, q1, h2, h3, h4, q5, W3, hcq, hc0, hs1, hk1, hk2, bytesC_one]
        all_goals repeat' (first | apply And.intro | intro _)
        all_goals
         refine hK15 _ ?_
         refine hN14 _ ?_
         refine seq_k fun N16 M16 hN16 hM16 => ?_
         refine cond_k rfl (fun hc => ?_) (fun hc => ?_)
         · try simp only [go_sem, m16, d16, tk16, polyC, hh, lowB_length, Bool.and_false, Bool.false_and, q0, q1, h2, h3, h4, q5, W3, hcq, hc0, hs1, hk1, hk2, bytesC_one] at hc
           all_goals
            refine skip_k ?_
            refine hN16 _ ?_
            refine seq_k fun N17 M17 hN17 hM17 => ?_
            refine block_k fun B18 bn18 bx18 br18 bi18 => ?_
            refine seq_k fun N19 M19 hN19 hM19 => ?_
            refine region_k fun K20 hK20 => ?_
            simp only [go_sem, m16, d16, tk16, polyC, hh, lowB_length, Bool.and_false, Bool.false_and, q0, q1, h2, h3, h4, q5, W3, hcq, hc0, hs1, hk1, hk2, bytesC_one]
            all_goals repeat' (first | apply And.intro | intro _)
            all_goals
             refine hK20 _ ?_
             refine hN19 _ ?_
             refine region_k fun K21 hK21 => ?_
             simp only [go_sem, m16, d16, tk16, polyC, hh, lowB_length, Bool.and_false, Bool.false_and, q0, q1, h2, h3, h4, q5, W3, hcq, hc0, hs1, hk1, hk2, bytesC_one]
             all_goals repeat' (first | apply And.intro | intro _)
             all_goals
              refine hK21 _ ?_
              refine bn18 _ ?_
              refine hN17 _ ?_
              refine region_k fun K22 hK22 => ?_
              simp only [go_sem, m16, d16, tk16, polyC, hh, lowB_length, Bool.and_false, Bool.false_and, q0, q1, h2, h3, h4, q5, W3, hcq, hc0, hs1, hk1, hk2, bytesC_one]
              all_goals repeat' (first | apply And.intro | intro _)
              all_goals
               refine hK22 _ ?_
               refine hN13 ⟨i + 1, hlt⟩ _ ?_ ?_ ?_
               · (show 16 - (i + 1) < 16 - i; clear hs1; omega)
               · (simp only [go_sem, leX, List.cons_append, List.nil_append]; try simp)
               · (simp only [go_sem, leX, List.cons_append, List.nil_append]; try simp)
         · exfalso; revert hc; simp [go_sem, m16, d16, tk16, polyC, hh, lowB_length, decide_true, decide_false, Bool.not_true, Bool.not_false, Bool.and_true, Bool.and_false, Bool.false_and, Bool.true_and, q0, q1, h2, h3, h4, q5, W3, hcq, hc0, hs1, hk1, hk2, bytesC_one, Int.toNat_natCast]
      · have hcq : ¬ ((i : Nat) : Int) < 16 := by omega
        refine seq_k fun N23 M23 hN23 hM23 => ?_
        refine region_k fun K24 hK24 => ?_
        simp only [go_sem, m16, d16, tk16, polyC, hh, lowB_length, Bool.and_false, Bool.false_and, q0, q1, h2, h3, h4, q5, W3, hcq]
        all_goals repeat' (first | apply And.intro | intro _)
        all_goals
         refine hK24 _ ?_
         refine hN23 _ ?_
         refine seq_k fun N25 M25 hN25 hM25 => ?_
         refine cond_k rfl (fun hc => ?_) (fun hc => ?_)
         · exfalso; revert hc; simp [go_sem, m16, d16, tk16, polyC, hh, lowB_length, decide_true, decide_false, Bool.not_true, Bool.not_false, Bool.and_true, Bool.and_false, Bool.false_and, Bool.true_and, q0, q1, h2, h3, h4, q5, W3, hcq]
         · try simp only [go_sem, m16, d16, tk16, polyC, hh, lowB_length, Bool.and_false, Bool.false_and, q0, q1, h2, h3, h4, q5, W3, hcq] at hc
           all_goals
            refine exit_k ?_
            refine hM25 _ _ ?_
            refine hM13 _ _ ?_
            refine bx12 _ ?_
            refine hN9 _ ?_
            refine seq_k fun N26 M26 hN26 hM26 => ?_
            refine seq_k fun N27 M27 hN27 hM27 => ?_
            refine region_k fun K28 hK28 => ?_
            simp only [go_sem, m16, d16, tk16, polyC, hh, lowB_length, Bool.and_false, Bool.false_and, q0, q1, h2, h3, h4, q5, W3, hcq]
            all_goals repeat' (first | apply And.intro | intro _)
            all_goals
             refine hK28 _ ?_
             refine hN27 _ ?_
             refine cond_k rfl (fun hc => ?_) (fun hc => ?_)
             · try simp only [go_sem, m16, d16, tk16, polyC, hh, lowB_length, Bool.and_false, Bool.false_and, q0, q1, h2, h3, h4, q5, W3, hcq] at hc
               all_goals
                refine seq_k fun N29 M29 hN29 hM29 => ?_
                refine region_k fun K30 hK30 => ?_
                simp only [go_sem, m16, d16, tk16, polyC, hh, lowB_length, Bool.and_false, Bool.false_and, q0, q1, h2, h3, h4, q5, W3, hcq]
                all_goals repeat' (first | apply And.intro | intro _)
                all_goals
                 refine hK30 _ ?_
                 refine hN29 _ ?_
                 refine ret_k ?_
                 refine hM26 _ _ ?_
                 simp only [go_sem, m16, d16, tk16, polyC, hh, lowB_length, Bool.and_false, Bool.false_and, q0, q1, h2, h3, h4, q5, W3, hcq]
                 all_goals (rw [perr_no (fun h => h5 ((canon a0 a1 a2 h.f2).mpr h.acc))])
             · exfalso; revert hc; simp [go_sem, m16, d16, tk16, polyC, hh, lowB_length, decide_true, decide_false, Bool.not_true, Bool.not_false, Bool.and_true, Bool.and_false, Bool.false_and, Bool.true_and, q0, q1, h2, h3, h4, q5, W3, hcq]
set_option maxHeartbeats 1600000 in
set_option maxRecDepth 100000 in
theorem pflt_ok (r0 r1 p0 p1 a0 a1 a2 : UInt64) (held : List UInt8) (hh : held.length = 16) (n : Int) (h0 : r0 &&& ~~~1152921487695413247 = 0) (h1 : r1 &&& ~~~1152921487695413244 = 0) (h2 : 0 ≤ n) (h3 : n < 16) (h4 : a2 < 4) (h5 : ((parts3 a0 a1 a2).carried.w0 = a0 ∧ (parts3 a0 a1 a2).carried.w1 = a1 ∧ (parts3 a0 a1 a2).carried.w2 = a2)) :
 Ct Try.prog 17 [.w (.agg (polyC r0 r1 p0 p1 a0 a1 a2 held n))] (fun v m => v = .w (.one (.pl (.i (polyErr r0 r1 a0 a1 a2 held n))))) := by
 have q0 := (mask_iff _ _).mpr h0
 have q1 := (mask_iff _ _).mpr h1
 have q5 : (decide ((parts3 a0 a1 a2).carried.w0 = a0) && (decide ((parts3 a0 a1 a2).carried.w1 = a1) && decide ((parts3 a0 a1 a2).carried.w2 = a2))) = true := by simpa using h5
 refine Ct.k Try.func17 rfl Try.ntmps17 (congrArg Array.toList Try.results17) (by simp) fun w0 ro => ?_
 refine seq_k fun N1 M1 hN1 hM1 => ?_
 refine region_k fun K2 hK2 => ?_
 simp only [go_sem, m16, d16, tk16, polyC, hh, lowB_length, Bool.and_false, Bool.false_and, q0, q1, h2, h3, h4, q5, W3]
 all_goals repeat' (first | apply And.intro | intro _)
 all_goals
  refine hK2 _ ?_
  refine hN1 _ ?_
  refine seq_k fun N3 M3 hN3 hM3 => ?_
  refine region_k fun K4 hK4 => ?_
  simp only [go_sem, m16, d16, tk16, polyC, hh, lowB_length, Bool.and_false, Bool.false_and, q0, q1, h2, h3, h4, q5, W3]
  all_goals repeat' (first | apply And.intro | intro _)
  all_goals
   refine hK4 _ ?_
   refine hN3 _ ?_
   refine seq_k fun N5 M5 hN5 hM5 => ?_
   refine draw_k [8, 9, 10, 11, 12, 13, 14, 15, 16, 17, 18] [0, 0, 2, 6, 14, 0, 32, 96, 254, 510, 1023] [] mixed (by kernel_rfl) (by simp only [go_sem]) fun K6 hK6 => ?_
   simp only [go_sem, m16, d16, tk16, polyC, hh, lowB_length, Bool.and_false, Bool.false_and, q0, q1, h2, h3, h4, q5, W3]
   all_goals repeat' (first | apply And.intro | intro _)
   all_goals refine call_draw (fun k => k) _ [] (fun _ _ => rfl) (by first | rfl | (simp only [go_sem, m16, d16, tk16, polyC, hh, lowB_length, Bool.and_false, Bool.false_and, q0, q1, h2, h3, h4, q5, W3]; rfl) | simp only [go_sem, m16, d16, tk16, polyC, hh, lowB_length, Bool.and_false, Bool.false_and, q0, q1, h2, h3, h4, q5, W3]) ((low_ _ 8 (by decide)).plain fun _ _ h => h) ?_ ?_
   all_goals try (refine And.intro ?_ (And.intro ?_ (And.intro ?_ ?_)) <;> first | rfl | simp only [go_sem])
   all_goals simp only [go_sem, m16, d16, tk16, polyC, hh, lowB_length, Bool.and_false, Bool.false_and, q0, q1, h2, h3, h4, q5, W3]
   all_goals repeat' (first | apply And.intro | intro _)
   all_goals refine call_draw (fun k => k) _ [] (fun _ _ => rfl) (by first | rfl | (simp only [go_sem, m16, d16, tk16, polyC, hh, lowB_length, Bool.and_false, Bool.false_and, q0, q1, h2, h3, h4, q5, W3]; rfl) | simp only [go_sem, m16, d16, tk16, polyC, hh, lowB_length, Bool.and_false, Bool.false_and, q0, q1, h2, h3, h4, q5, W3]) ((low_ _ 8 (by decide)).plain fun _ _ h => h) ?_ ?_
   all_goals try (refine And.intro ?_ (And.intro ?_ (And.intro ?_ ?_)) <;> first | rfl | simp only [go_sem])
   all_goals simp only [go_sem, m16, d16, tk16, polyC, hh, lowB_length, Bool.and_false, Bool.false_and, q0, q1, h2, h3, h4, q5, W3]
   all_goals repeat' (first | apply And.intro | intro _)
   all_goals
    refine hK6 _ _ ?_ ?_
    · first | trivial | (simp only [go_sem]; done) | (simp only [go_sem]; simp; done) | (simp only [go_sem]; simp; simp only [go_sem])
    refine hN5 _ ?_
    refine seq_k fun N7 M7 hN7 hM7 => ?_
    refine draw_k [19, 20, 21, 22, 23, 24, 25, 26, 27, 28, 29, 30, 31, 32, 33, 34, 35, 36, 37, 38, 39, 40, 41, 42, 43, 44, 45, 46, 47, 48, 49, 50, 4] [0, 1, 3, 0, 8, 31, 63, 127, 255, 511, 1023, 2047, 4095, 8191, 16383, 32767, 65535, 131071, 262143, 524287, 1048575, 2097151, 4194303, 8388607, 16777215, 33554431, 67108863, 134217727, 8388607, 276824063, 1073741823, 2147483647, 4294967295] [] mixed (by kernel_rfl) (by simp only [go_sem]) fun K8 hK8 => ?_
    simp only [go_sem, m16, d16, tk16, polyC, hh, lowB_length, Bool.and_false, Bool.false_and, q0, q1, h2, h3, h4, q5, W3]
    all_goals repeat' (first | apply And.intro | intro _)
    all_goals refine call_draw (fun k => k) _ [] (fun _ _ => rfl) (by first | rfl | (simp only [go_sem, m16, d16, tk16, polyC, hh, lowB_length, Bool.and_false, Bool.false_and, q0, q1, h2, h3, h4, q5, W3]; rfl) | simp only [go_sem, m16, d16, tk16, polyC, hh, lowB_length, Bool.and_false, Bool.false_and, q0, q1, h2, h3, h4, q5, W3]) ((poly_begun_low r0 r1).plain fun _ _ h => h) ?_ ?_
    all_goals try (refine And.intro ?_ (And.intro ?_ (And.intro ?_ ?_)) <;> first | rfl | simp only [go_sem])
    all_goals simp only [go_sem, m16, d16, tk16, polyC, hh, lowB_length, Bool.and_false, Bool.false_and, q0, q1, h2, h3, h4, q5, W3]
    all_goals repeat' (first | apply And.intro | intro _)
    all_goals refine call_draw (fun k => k) _ [] (fun _ _ => rfl) (by first | rfl | (simp only [go_sem, m16, d16, tk16, polyC, hh, lowB_length, Bool.and_false, Bool.false_and, q0, q1, h2, h3, h4, q5, W3]; rfl) | simp only [go_sem, m16, d16, tk16, polyC, hh, lowB_length, Bool.and_false, Bool.false_and, q0, q1, h2, h3, h4, q5, W3]) ((parts_of a0 a1 a2).plain fun _ _ h => h) ?_ ?_
    all_goals try (refine And.intro ?_ (And.intro ?_ (And.intro ?_ ?_)) <;> first | rfl | simp only [go_sem])
    all_goals simp only [go_sem, m16, d16, tk16, polyC, hh, lowB_length, Bool.and_false, Bool.false_and, q0, q1, h2, h3, h4, q5, W3]
    all_goals repeat' (first | apply And.intro | intro _)
    all_goals refine call_draw (fun k => k) _ [] (fun _ _ => rfl) (by first | rfl | (simp only [go_sem, m16, d16, tk16, polyC, hh, lowB_length, Bool.and_false, Bool.false_and, q0, q1, h2, h3, h4, q5, W3]; rfl) | simp only [go_sem, m16, d16, tk16, polyC, hh, lowB_length, Bool.and_false, Bool.false_and, q0, q1, h2, h3, h4, q5, W3]) ((carried_of (parts3 a0 a1 a2)).plain fun _ _ h => h) ?_ ?_
    all_goals try (refine And.intro ?_ (And.intro ?_ (And.intro ?_ ?_)) <;> first | rfl | simp only [go_sem])
    all_goals simp only [go_sem, m16, d16, tk16, polyC, hh, lowB_length, Bool.and_false, Bool.false_and, q0, q1, h2, h3, h4, q5, W3]
    all_goals repeat' (first | apply And.intro | intro _)
    all_goals refine call_draw (fun k => k) _ [] (fun _ _ => rfl) (by first | rfl | (simp only [go_sem, m16, d16, tk16, polyC, hh, lowB_length, Bool.and_false, Bool.false_and, q0, q1, h2, h3, h4, q5, W3]; rfl) | simp only [go_sem, m16, d16, tk16, polyC, hh, lowB_length, Bool.and_false, Bool.false_and, q0, q1, h2, h3, h4, q5, W3]) ((whole_of (parts3 a0 a1 a2).carried).plain fun _ _ h => h) ?_ ?_
    all_goals try (refine And.intro ?_ (And.intro ?_ (And.intro ?_ ?_)) <;> first | rfl | simp only [go_sem])
    all_goals simp only [go_sem, m16, d16, tk16, polyC, hh, lowB_length, Bool.and_false, Bool.false_and, q0, q1, h2, h3, h4, q5, W3]
    all_goals repeat' (first | apply And.intro | intro _)
    all_goals
     refine hK8 _ _ ?_ ?_
     · first | trivial | (simp only [go_sem]; done) | (simp only [go_sem]; simp; done) | (simp only [go_sem]; simp; simp only [go_sem])
     refine hN7 _ ?_
     refine seq_k fun N9 M9 hN9 hM9 => ?_
     refine seq_k fun N10 M10 hN10 hM10 => ?_
     refine region_k fun K11 hK11 => ?_
     simp only [go_sem, m16, d16, tk16, polyC, hh, lowB_length, Bool.and_false, Bool.false_and, q0, q1, h2, h3, h4, q5, W3]
     all_goals repeat' (first | apply And.intro | intro _)
     all_goals
      refine hK11 _ ?_
      refine hN10 _ ?_
      refine block_k fun B12 bn12 bx12 br12 bi12 => ?_
      refine ht_dropE [0, 3, 7, 8, 9, 10, 11, 12, 13, 14, 15, 16, 17, 18, 19, 20, 21, 22, 23, 24, 25, 26, 27, 28, 29, 30, 31, 32, 33, 34, 35, 36, 37, 38, 39, 40, 41, 42, 43, 44, 45, 46, 47, 48, 49, 50, 51] ?_
      simp only [dropE_mk, fgt_nil, fgt_cons, List.contains_cons, List.contains_nil, Nat.reduceBEq, beq_self_eq_true, Bool.or_false, Bool.or_true, Bool.true_or, Bool.false_or, Bool.false_eq_true, reduceIte]
      refine loop_k (fun y => [(53, .w (.one (.pl (.i ((y.1.1 : Nat) : Int))))), (4, .w (.one (.pl (.b y.1.2))))]) (fun _ => []) (fun y => 16 - y.1.1) (⟨(0, true), Nat.zero_le _, by simp⟩ : {y : Nat × Bool // y.1 ≤ 16 ∧ (y.2 = true ↔ ∀ j, j < y.1 → ((j : Nat) : Int) < n ∨ held.getD j 0 = 0)}) ?_ ?_ ?_
      · (simp only [go_sem, leX, List.cons_append, List.nil_append]; try simp)
      · (simp only [go_sem, leX, List.cons_append, List.nil_append]; try simp)
      intro yy N13 M13 hN13 hM13
      simp only [List.cons_append, List.nil_append]
      obtain ⟨⟨i, b⟩, hi, hb⟩ := yy
      simp only at hi hb
      have hd : (i < 16 ∧ b = false) ∨ (i < 16 ∧ b = true ∧ ((i : Nat) : Int) < n) ∨ (i < 16 ∧ b = true ∧ ¬ ((i : Nat) : Int) < n ∧ held.getD i 0 = 0) ∨ (i < 16 ∧ b = true ∧ ¬ ((i : Nat) : Int) < n ∧ ¬ held.getD i 0 = 0) ∨ (i = 16 ∧ b = true) ∨ (i = 16 ∧ b = false) := by
       generalize held.getD i 0 = z
       by_cases g1 : i = 16
       · cases b <;> simp [g1]
       · have g2 : i < 16 := by omega
         by_cases g3 : ((i : Nat) : Int) < n
         · cases b <;> simp [g2, g3]
         · by_cases g4 : z = 0
           · cases b <;> simp [g2, g3, g4]
           · cases b <;> simp [g2, g3, g4]
      rcases hd with ⟨hlt, rfl⟩ | ⟨hlt, rfl, hin⟩ | ⟨hlt, rfl, hin, hz⟩ | ⟨hlt, rfl, hin, hz⟩ | ⟨rfl, rfl⟩ | ⟨rfl, rfl⟩
      · have hcq : ((i : Nat) : Int) < 16 := by omega
        have hc0 : (0 : Int) ≤ ((i : Nat) : Int) := by omega
        have hs1 : Go.RowKit.wrap64 (((i : Nat) : Int) + 1) = ((i + 1 : Nat) : Int) := wnat (by omega) (by omega)
        have hk1 : List.take 1 (List.drop i held) = [held.getD i 0] := by have := one_at (l := held) (o := 0) (m := 16) (i := i) (by omega) hlt; simpa [← hh] using this
        have hk2 : i + 1 ≤ 16 := by omega

        refine seq_k fun N14 M14 hN14 hM14 => ?_
        refine region_k fun K15 hK15 => ?_
        simp only [go_sem, m16, d16, tk16, polyC, hh, lowB_length, Bool.and_false, Bool.false_and, q0, q1, h2, h3, h4, q5, W3, hcq, hc0, hs1, hk1, hk2, bytesC_one]
        all_goals repeat' (first | apply And.intro | intro _)
        all_goals
         refine hK15 _ ?_
         refine hN14 _ ?_
         refine seq_k fun N16 M16 hN16 hM16 => ?_
         refine cond_k rfl (fun hc => ?_) (fun hc => ?_)
         · try simp only [go_sem, m16, d16, tk16, polyC, hh, lowB_length, Bool.and_false, Bool.false_and, q0, q1, h2, h3, h4, q5, W3, hcq, hc0, hs1, hk1, hk2, bytesC_one] at hc
           all_goals
            refine skip_k ?_
            refine hN16 _ ?_
            refine seq_k fun N17 M17 hN17 hM17 => ?_
            refine block_k fun B18 bn18 bx18 br18 bi18 => ?_
            refine seq_k fun N19 M19 hN19 hM19 => ?_
            refine region_k fun K20 hK20 => ?_
            simp only [go_sem, m16, d16, tk16, polyC, hh, lowB_length, Bool.and_false, Bool.false_and, q0, q1, h2, h3, h4, q5, W3, hcq, hc0, hs1, hk1, hk2, bytesC_one]
            all_goals repeat' (first | apply And.intro | intro _)
            all_goals
             refine hK20 _ ?_
             refine hN19 _ ?_
             refine region_k fun K21 hK21 => ?_
             simp only [go_sem, m16, d16, tk16, polyC, hh, lowB_length, Bool.and_false, Bool.false_and, q0, q1, h2, h3, h4, q5, W3, hcq, hc0, hs1, hk1, hk2, bytesC_one]
             all_goals repeat' (first | apply And.intro | intro _)
             all_goals
              refine hK21 _ ?_
              refine bn18 _ ?_
              refine hN17 _ ?_
              refine region_k fun K22 hK22 => ?_
              simp only [go_sem, m16, d16, tk16, polyC, hh, lowB_length, Bool.and_false, Bool.false_and, q0, q1, h2, h3, h4, q5, W3, hcq, hc0, hs1, hk1, hk2, bytesC_one]
              all_goals repeat' (first | apply And.intro | intro _)
              all_goals
               refine hK22 _ ?_
               refine hN13 ⟨(i + 1, false), hlt, by simp only [Bool.false_eq_true, false_iff]; intro h; exact absurd (hb.mpr fun j hj => h j (by omega)) (by simp)⟩ _ ?_ ?_ ?_
               · (show 16 - (i + 1) < 16 - i; clear hs1; omega)
               · (simp only [go_sem, leX, List.cons_append, List.nil_append]; try simp)
               · (simp only [go_sem, leX, List.cons_append, List.nil_append]; try simp)
         · exfalso; revert hc; simp [go_sem, m16, d16, tk16, polyC, hh, lowB_length, decide_true, decide_false, Bool.not_true, Bool.not_false, Bool.and_true, Bool.and_false, Bool.false_and, Bool.true_and, q0, q1, h2, h3, h4, q5, W3, hcq, hc0, hs1, hk1, hk2, bytesC_one, Int.toNat_natCast]
      · have hcq : ((i : Nat) : Int) < 16 := by omega
        have hc0 : (0 : Int) ≤ ((i : Nat) : Int) := by omega
        have hs1 : Go.RowKit.wrap64 (((i : Nat) : Int) + 1) = ((i + 1 : Nat) : Int) := wnat (by omega) (by omega)
        have hk1 : List.take 1 (List.drop i held) = [held.getD i 0] := by have := one_at (l := held) (o := 0) (m := 16) (i := i) (by omega) hlt; simpa [← hh] using this
        have hk2 : i + 1 ≤ 16 := by omega

        refine seq_k fun N23 M23 hN23 hM23 => ?_
        refine region_k fun K24 hK24 => ?_
        simp only [go_sem, m16, d16, tk16, polyC, hh, lowB_length, Bool.and_false, Bool.false_and, q0, q1, h2, h3, h4, q5, W3, hcq, hc0, hs1, hk1, hk2, bytesC_one, hin]
        all_goals repeat' (first | apply And.intro | intro _)
        all_goals
         refine hK24 _ ?_
         refine hN23 _ ?_
         refine seq_k fun N25 M25 hN25 hM25 => ?_
         refine cond_k rfl (fun hc => ?_) (fun hc => ?_)
         · try simp only [go_sem, m16, d16, tk16, polyC, hh, lowB_length, Bool.and_false, Bool.false_and, q0, q1, h2, h3, h4, q5, W3, hcq, hc0, hs1, hk1, hk2, bytesC_one, hin] at hc
           all_goals
            refine skip_k ?_
            refine hN25 _ ?_
            refine seq_k fun N26 M26 hN26 hM26 => ?_
            refine block_k fun B27 bn27 bx27 br27 bi27 => ?_
            refine seq_k fun N28 M28 hN28 hM28 => ?_
            refine region_k fun K29 hK29 => ?_
            simp only [go_sem, m16, d16, tk16, polyC, hh, lowB_length, Bool.and_false, Bool.false_and, q0, q1, h2, h3, h4, q5, W3, hcq, hc0, hs1, hk1, hk2, bytesC_one, hin]
            all_goals repeat' (first | apply And.intro | intro _)
            all_goals
             refine hK29 _ ?_
             refine hN28 _ ?_
             refine region_k fun K30 hK30 => ?_
             simp only [go_sem, m16, d16, tk16, polyC, hh, lowB_length, Bool.and_false, Bool.false_and, q0, q1, h2, h3, h4, q5, W3, hcq, hc0, hs1, hk1, hk2, bytesC_one, hin]
             all_goals repeat' (first | apply And.intro | intro _)
             all_goals
              refine hK30 _ ?_
              refine bn27 _ ?_
              refine hN26 _ ?_
              refine region_k fun K31 hK31 => ?_
              simp only [go_sem, m16, d16, tk16, polyC, hh, lowB_length, Bool.and_false, Bool.false_and, q0, q1, h2, h3, h4, q5, W3, hcq, hc0, hs1, hk1, hk2, bytesC_one, hin]
              all_goals repeat' (first | apply And.intro | intro _)
              all_goals
               refine hK31 _ ?_
               refine hN13 ⟨(i + 1, true), hlt, fun _ j hj => by rcases Nat.lt_succ_iff_lt_or_eq.mp hj with h | rfl; exact hb.mp rfl j h; exact .inl hin, fun _ => rfl⟩ _ ?_ ?_ ?_
               · (show 16 - (i + 1) < 16 - i; clear hs1; omega)
               · (simp only [go_sem, leX, List.cons_append, List.nil_append]; try simp)
               · (simp only [go_sem, leX, List.cons_append, List.nil_append]; try simp)
         · exfalso; revert hc; simp [go_sem, m16, d16, tk16, polyC, hh, lowB_length, decide_true, decide_false, Bool.not_true, Bool.not_false, Bool.and_true, Bool.and_false, Bool.false_and, Bool.true_and, q0, q1, h2, h3, h4, q5, W3, hcq, hc0, hs1, hk1, hk2, bytesC_one, Int.toNat_natCast, hin]
      · have hcq : ((i : Nat) : Int) < 16 := by omega
        have hc0 : (0 : Int) ≤ ((i : Nat) : Int) := by omega
        have hs1 : Go.RowKit.wrap64 (((i : Nat) : Int) + 1) = ((i + 1 : Nat) : Int) := wnat (by omega) (by omega)
        have hk1 : List.take 1 (List.drop i held) = [held.getD i 0] := by have := one_at (l := held) (o := 0) (m := 16) (i := i) (by omega) hlt; simpa [← hh] using this
        have hk2 : i + 1 ≤ 16 := by omega
        have hzq := eq_true hz

        refine seq_k fun N32 M32 hN32 hM32 => ?_
        refine region_k fun K33 hK33 => ?_
        simp only [go_sem, m16, d16, tk16, polyC, hh, lowB_length, Bool.and_false, Bool.false_and, q0, q1, h2, h3, h4, q5, W3, hcq, hc0, hs1, hk1, hk2, bytesC_one, hin, hzq]
        all_goals repeat' (first | apply And.intro | intro _)
        all_goals
         refine hK33 _ ?_
         refine hN32 _ ?_
         refine seq_k fun N34 M34 hN34 hM34 => ?_
         refine cond_k rfl (fun hc => ?_) (fun hc => ?_)
         · try simp only [go_sem, m16, d16, tk16, polyC, hh, lowB_length, Bool.and_false, Bool.false_and, q0, q1, h2, h3, h4, q5, W3, hcq, hc0, hs1, hk1, hk2, bytesC_one, hin, hzq] at hc
           all_goals
            refine skip_k ?_
            refine hN34 _ ?_
            refine seq_k fun N35 M35 hN35 hM35 => ?_
            refine block_k fun B36 bn36 bx36 br36 bi36 => ?_
            refine seq_k fun N37 M37 hN37 hM37 => ?_
            refine region_k fun K38 hK38 => ?_
            simp only [go_sem, m16, d16, tk16, polyC, hh, lowB_length, Bool.and_false, Bool.false_and, q0, q1, h2, h3, h4, q5, W3, hcq, hc0, hs1, hk1, hk2, bytesC_one, hin, hzq]
            all_goals repeat' (first | apply And.intro | intro _)
            all_goals
             refine hK38 _ ?_
             refine hN37 _ ?_
             refine region_k fun K39 hK39 => ?_
             simp only [go_sem, m16, d16, tk16, polyC, hh, lowB_length, Bool.and_false, Bool.false_and, q0, q1, h2, h3, h4, q5, W3, hcq, hc0, hs1, hk1, hk2, bytesC_one, hin, hzq]
             all_goals repeat' (first | apply And.intro | intro _)
             all_goals
              refine hK39 _ ?_
              refine bn36 _ ?_
              refine hN35 _ ?_
              refine region_k fun K40 hK40 => ?_
              simp only [go_sem, m16, d16, tk16, polyC, hh, lowB_length, Bool.and_false, Bool.false_and, q0, q1, h2, h3, h4, q5, W3, hcq, hc0, hs1, hk1, hk2, bytesC_one, hin, hzq]
              all_goals repeat' (first | apply And.intro | intro _)
              all_goals
               refine hK40 _ ?_
               refine hN13 ⟨(i + 1, true), hlt, fun _ j hj => by rcases Nat.lt_succ_iff_lt_or_eq.mp hj with h | rfl; exact hb.mp rfl j h; exact .inr hz, fun _ => rfl⟩ _ ?_ ?_ ?_
               · (show 16 - (i + 1) < 16 - i; clear hs1; omega)
               · (simp only [go_sem, leX, List.cons_append, List.nil_append]; try simp)
               · (simp only [go_sem, leX, List.cons_append, List.nil_append]; try simp)
         · exfalso; revert hc; simp [go_sem, m16, d16, tk16, polyC, hh, lowB_length, decide_true, decide_false, Bool.not_true, Bool.not_false, Bool.and_true, Bool.and_false, Bool.false_and, Bool.true_and, q0, q1, h2, h3, h4, q5, W3, hcq, hc0, hs1, hk1, hk2, bytesC_one, Int.toNat_natCast, hin, hzq]
      · have hcq : ((i : Nat) : Int) < 16 := by omega
        have hc0 : (0 : Int) ≤ ((i : Nat) : Int) := by omega
        have hs1 : Go.RowKit.wrap64 (((i : Nat) : Int) + 1) = ((i + 1 : Nat) : Int) := wnat (by omega) (by omega)
        have hk1 : List.take 1 (List.drop i held) = [held.getD i 0] := by have := one_at (l := held) (o := 0) (m := 16) (i := i) (by omega) hlt; simpa [← hh] using this
        have hk2 : i + 1 ≤ 16 := by omega
        have hzq := eq_false hz

        refine seq_k fun N41 M41 hN41 hM41 => ?_
        refine region_k fun K42 hK42 => ?_
        simp only [go_sem, m16, d16, tk16, polyC, hh, lowB_length, Bool.and_false, Bool.false_and, q0, q1, h2, h3, h4, q5, W3, hcq, hc0, hs1, hk1, hk2, bytesC_one, hin, hzq]
        all_goals repeat' (first | apply And.intro | intro _)
        all_goals
         refine hK42 _ ?_
         refine hN41 _ ?_
         refine seq_k fun N43 M43 hN43 hM43 => ?_
         refine cond_k rfl (fun hc => ?_) (fun hc => ?_)
         · try simp only [go_sem, m16, d16, tk16, polyC, hh, lowB_length, Bool.and_false, Bool.false_and, q0, q1, h2, h3, h4, q5, W3, hcq, hc0, hs1, hk1, hk2, bytesC_one, hin, hzq] at hc
           all_goals
            refine skip_k ?_
            refine hN43 _ ?_
            refine seq_k fun N44 M44 hN44 hM44 => ?_
            refine block_k fun B45 bn45 bx45 br45 bi45 => ?_
            refine seq_k fun N46 M46 hN46 hM46 => ?_
            refine region_k fun K47 hK47 => ?_
            simp only [go_sem, m16, d16, tk16, polyC, hh, lowB_length, Bool.and_false, Bool.false_and, q0, q1, h2, h3, h4, q5, W3, hcq, hc0, hs1, hk1, hk2, bytesC_one, hin, hzq]
            all_goals repeat' (first | apply And.intro | intro _)
            all_goals
             refine hK47 _ ?_
             refine hN46 _ ?_
             refine region_k fun K48 hK48 => ?_
             simp only [go_sem, m16, d16, tk16, polyC, hh, lowB_length, Bool.and_false, Bool.false_and, q0, q1, h2, h3, h4, q5, W3, hcq, hc0, hs1, hk1, hk2, bytesC_one, hin, hzq]
             all_goals repeat' (first | apply And.intro | intro _)
             all_goals
              refine hK48 _ ?_
              refine bn45 _ ?_
              refine hN44 _ ?_
              refine region_k fun K49 hK49 => ?_
              simp only [go_sem, m16, d16, tk16, polyC, hh, lowB_length, Bool.and_false, Bool.false_and, q0, q1, h2, h3, h4, q5, W3, hcq, hc0, hs1, hk1, hk2, bytesC_one, hin, hzq]
              all_goals repeat' (first | apply And.intro | intro _)
              all_goals
               refine hK49 _ ?_
               refine hN13 ⟨(i + 1, false), hlt, by simp only [Bool.false_eq_true, false_iff]; intro h; exact (h i (Nat.lt_succ_self i)).elim hin hz⟩ _ ?_ ?_ ?_
               · (show 16 - (i + 1) < 16 - i; clear hs1; omega)
               · (simp only [go_sem, leX, List.cons_append, List.nil_append]; try simp)
               · (simp only [go_sem, leX, List.cons_append, List.nil_append]; try simp)
         · exfalso; revert hc; simp [go_sem, m16, d16, tk16, polyC, hh, lowB_length, decide_true, decide_false, Bool.not_true, Bool.not_false, Bool.and_true, Bool.and_false, Bool.false_and, Bool.true_and, q0, q1, h2, h3, h4, q5, W3, hcq, hc0, hs1, hk1, hk2, bytesC_one, Int.toNat_natCast, hin, hzq]
      · have hcq : ¬ ((16 : Nat) : Int) < 16 := by omega
        refine seq_k fun N50 M50 hN50 hM50 => ?_
        refine region_k fun K51 hK51 => ?_
        simp only [go_sem, m16, d16, tk16, polyC, hh, lowB_length, Bool.and_false, Bool.false_and, q0, q1, h2, h3, h4, q5, W3, hcq]
        all_goals repeat' (first | apply And.intro | intro _)
        all_goals
         refine hK51 _ ?_
         refine hN50 _ ?_
         refine seq_k fun N52 M52 hN52 hM52 => ?_
         refine cond_k rfl (fun hc => ?_) (fun hc => ?_)
         · exfalso; revert hc; simp [go_sem, m16, d16, tk16, polyC, hh, lowB_length, decide_true, decide_false, Bool.not_true, Bool.not_false, Bool.and_true, Bool.and_false, Bool.false_and, Bool.true_and, q0, q1, h2, h3, h4, q5, W3, hcq]
         · try simp only [go_sem, m16, d16, tk16, polyC, hh, lowB_length, Bool.and_false, Bool.false_and, q0, q1, h2, h3, h4, q5, W3, hcq] at hc
           all_goals
            refine exit_k ?_
            refine hM52 _ _ ?_
            refine hM13 _ _ ?_
            refine bx12 _ ?_
            refine hN9 _ ?_
            refine seq_k fun N53 M53 hN53 hM53 => ?_
            refine seq_k fun N54 M54 hN54 hM54 => ?_
            refine region_k fun K55 hK55 => ?_
            simp only [go_sem, m16, d16, tk16, polyC, hh, lowB_length, Bool.and_false, Bool.false_and, q0, q1, h2, h3, h4, q5, W3, hcq]
            all_goals repeat' (first | apply And.intro | intro _)
            all_goals
             refine hK55 _ ?_
             refine hN54 _ ?_
             refine cond_k rfl (fun hc => ?_) (fun hc => ?_)
             · exfalso; revert hc; simp [go_sem, m16, d16, tk16, polyC, hh, lowB_length, decide_true, decide_false, Bool.not_true, Bool.not_false, Bool.and_true, Bool.and_false, Bool.false_and, Bool.true_and, q0, q1, h2, h3, h4, q5, W3, hcq]
             · try simp only [go_sem, m16, d16, tk16, polyC, hh, lowB_length, Bool.and_false, Bool.false_and, q0, q1, h2, h3, h4, q5, W3, hcq] at hc
               all_goals
                refine skip_k ?_
                refine hN53 _ ?_
                refine seq_k fun N56 M56 hN56 hM56 => ?_
                refine region_k fun K57 hK57 => ?_
                simp only [go_sem, m16, d16, tk16, polyC, hh, lowB_length, Bool.and_false, Bool.false_and, q0, q1, h2, h3, h4, q5, W3, hcq]
                all_goals repeat' (first | apply And.intro | intro _)
                all_goals
                 refine hK57 _ ?_
                 refine hN56 _ ?_
                 refine ret_k ?_
                 simp only [go_sem, m16, d16, tk16, polyC, hh, lowB_length, Bool.and_false, Bool.false_and, q0, q1, h2, h3, h4, q5, W3, hcq]
                 all_goals (rw [perr_ok ⟨h0, h1, UInt64.lt_iff_toNat_lt.mp h4, (canon a0 a1 a2 (UInt64.lt_iff_toNat_lt.mp h4)).mp h5, h2, by omega, fun j hj hl => (hb.mp rfl j hl).resolve_left (by omega)⟩])
      · have hcq : ¬ ((16 : Nat) : Int) < 16 := by omega
        refine seq_k fun N58 M58 hN58 hM58 => ?_
        refine region_k fun K59 hK59 => ?_
        simp only [go_sem, m16, d16, tk16, polyC, hh, lowB_length, Bool.and_false, Bool.false_and, q0, q1, h2, h3, h4, q5, W3, hcq]
        all_goals repeat' (first | apply And.intro | intro _)
        all_goals
         refine hK59 _ ?_
         refine hN58 _ ?_
         refine seq_k fun N60 M60 hN60 hM60 => ?_
         refine cond_k rfl (fun hc => ?_) (fun hc => ?_)
         · exfalso; revert hc; simp [go_sem, m16, d16, tk16, polyC, hh, lowB_length, decide_true, decide_false, Bool.not_true, Bool.not_false, Bool.and_true, Bool.and_false, Bool.false_and, Bool.true_and, q0, q1, h2, h3, h4, q5, W3, hcq]
         · try simp only [go_sem, m16, d16, tk16, polyC, hh, lowB_length, Bool.and_false, Bool.false_and, q0, q1, h2, h3, h4, q5, W3, hcq] at hc
           all_goals
            refine exit_k ?_
            refine hM60 _ _ ?_
            refine hM13 _ _ ?_
            refine bx12 _ ?_
            refine hN9 _ ?_
            refine seq_k fun N61 M61 hN61 hM61 => ?_
            refine seq_k fun N62 M62 hN62 hM62 => ?_
            refine region_k fun K63 hK63 => ?_
            simp only [go_sem, m16, d16, tk16, polyC, hh, lowB_length, Bool.and_false, Bool.false_and, q0, q1, h2, h3, h4, q5, W3, hcq]
            all_goals repeat' (first | apply And.intro | intro _)
            all_goals
             refine hK63 _ ?_
             refine hN62 _ ?_
             refine cond_k rfl (fun hc => ?_) (fun hc => ?_)
             · try simp only [go_sem, m16, d16, tk16, polyC, hh, lowB_length, Bool.and_false, Bool.false_and, q0, q1, h2, h3, h4, q5, W3, hcq] at hc
               all_goals
                refine seq_k fun N64 M64 hN64 hM64 => ?_
                refine region_k fun K65 hK65 => ?_
                simp only [go_sem, m16, d16, tk16, polyC, hh, lowB_length, Bool.and_false, Bool.false_and, q0, q1, h2, h3, h4, q5, W3, hcq]
                all_goals repeat' (first | apply And.intro | intro _)
                all_goals
                 refine hK65 _ ?_
                 refine hN64 _ ?_
                 refine ret_k ?_
                 refine hM61 _ _ ?_
                 simp only [go_sem, m16, d16, tk16, polyC, hh, lowB_length, Bool.and_false, Bool.false_and, q0, q1, h2, h3, h4, q5, W3, hcq]
                 all_goals (rw [perr_no (fun h => absurd (hb.mpr fun j hj => by rcases Int.lt_or_le ((j : Nat) : Int) n with h8 | h8; exact .inl h8; exact .inr (h.rest j (by omega) hj)) (by simp))])
             · exfalso; revert hc; simp [go_sem, m16, d16, tk16, polyC, hh, lowB_length, decide_true, decide_false, Bool.not_true, Bool.not_false, Bool.and_true, Bool.and_false, Bool.false_and, Bool.true_and, q0, q1, h2, h3, h4, q5, W3, hcq]
end Go.Sy
