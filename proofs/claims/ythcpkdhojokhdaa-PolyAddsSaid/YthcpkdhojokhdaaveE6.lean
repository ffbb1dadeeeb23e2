/- A sum that may be: in plain lists; the program's test. -/
import Derived.Test.YthcpkdhojokhdaaveE5
set_option linter.unusedVariables false
set_option linter.unusedSimpArgs false
namespace Go.Sy
open Go.Proofs
attribute [local irreducible] atCall HT runOps runD onC onE onO onG goV goA goS onSt onGuard
/-- what makes a sum one that may be -/
structure PolyOk (r0 r1 a0 a1 a2 : UInt64) (held : List UInt8) (n : Int) : Prop where
 f0 : r0 &&& ~~~1152921487695413247 = 0
 f1 : r1 &&& ~~~1152921487695413244 = 0
 f2 : a2.toNat < 4
 acc : val3 a0 a1 a2 < pP
 lo : 0 ≤ n
 hi : n ≤ 15
 rest : ∀ j, n.toNat ≤ j → j < 16 → held.getD j 0 = 0
noncomputable def polyErr (r0 r1 a0 a1 a2 : UInt64) (held : List UInt8) (n : Int) : Int := if Classical.propDecidable (PolyOk r0 r1 a0 a1 a2 held n) |>.decide then 0 else 9
section
variable {r0 r1 a0 a1 a2 : UInt64} {held : List UInt8} {n : Int}
theorem perr_ok (h : PolyOk r0 r1 a0 a1 a2 held n) : polyErr r0 r1 a0 a1 a2 held n = 0 := by unfold polyErr; simp [h]
theorem perr_no (h : ¬ PolyOk r0 r1 a0 a1 a2 held n) : polyErr r0 r1 a0 a1 a2 held n = 9 := by unfold polyErr; simp [h]
theorem one_at {l : List UInt8} {o m i : Nat} (h : o + i < l.length) (hi : i < m) : List.take 1 (List.drop i (List.take m (List.drop o l))) = [l.getD (o + i) 0] := by
 have hl : i < (List.take m (List.drop o l)).length := by rw [List.length_take, List.length_drop]; omega
 rw [List.drop_eq_getElem_cons hl, List.take_succ_cons, List.take_zero]
 simp [List.getElem_take, List.getElem_drop, List.getD, List.getElem?_eq_getElem h]
theorem bytesC_one (x : UInt8) : bytesC [x] = [.pl (.u8 x)] := rfl
theorem acc_lt (h2 : a2.toNat < 4) (h : ¬ a2 = 3 ∨ (a2 = 3 ∧ ¬ a1 = 18446744073709551615) ∨ (a2 = 3 ∧ a1 = 18446744073709551615 ∧ ¬ 18446744073709551611 ≤ a0)) : val3 a0 a1 a2 < pP := by
 have h0 := a0.toNat_lt; have h1 := a1.toNat_lt
 have e3 : (a2 = 3) ↔ a2.toNat = 3 := by rw [← UInt64.toNat_inj]; rfl
 have e1 : (a1 = 18446744073709551615) ↔ a1.toNat = 18446744073709551615 := by rw [← UInt64.toNat_inj]; rfl
 have e0 : (18446744073709551611 ≤ a0) ↔ 18446744073709551611 ≤ a0.toNat := by rw [UInt64.le_iff_toNat_le]; rfl
 rw [e3, e1, e0] at h
 simp only [val3, pP]; omega
theorem acc_ge (h2 : a2 = 3) (h1 : a1 = 18446744073709551615) (h0 : 18446744073709551611 ≤ a0) : ¬ val3 a0 a1 a2 < pP := by
 have e0 : 18446744073709551611 ≤ a0.toNat := UInt64.le_iff_toNat_le.mp h0
 subst h2; subst h1
 simp only [val3, pP, show UInt64.toNat 18446744073709551615 = 18446744073709551615 from rfl, show UInt64.toNat 3 = 3 from rfl]; omega
theorem a2_lt (h : ¬ (3 : UInt64) < a2) : a2.toNat < 4 := by
 have : ¬ 3 < a2.toNat := fun h2 => h (UInt64.lt_iff_toNat_lt.mpr h2)
 omega
theorem a2_ge (h : (3 : UInt64) < a2) : ¬ a2.toNat < 4 := by
 have : 3 < a2.toNat := UInt64.lt_iff_toNat_lt.mp h
 omega
end
set_option maxHeartbeats 800000 in
set_option maxRecDepth 100000 in
theorem pchk_bad0 (r0 r1 p0 p1 a0 a1 a2 : UInt64) (held : List UInt8) (hh : held.length = 16) (n : Int) (h0 : ¬ r0 &&& ~~~1152921487695413247 = 0) :
 Ct Try.prog 15 [.w (.agg (polyC r0 r1 p0 p1 a0 a1 a2 held n))] (fun v m => v = .w (.one (.pl (.i (polyErr r0 r1 a0 a1 a2 held n))))) := by
 refine Ct.k Try.func15 rfl Try.ntmps15 (congrArg Array.toList Try.results15) (by simp) fun w0 ro => ?_
 refine seq_k fun N1 M1 hN1 hM1 => ?_
 refine region_k fun K2 hK2 => ?_
 simp only [go_sem, polyC, hh, h0]
 all_goals repeat' (first | apply And.intro | intro _)
 all_goals
  refine hK2 _ ?_
  refine hN1 _ ?_
  refine seq_k fun N3 M3 hN3 hM3 => ?_
  refine seq_k fun N4 M4 hN4 hM4 => ?_
  refine region_k fun K5 hK5 => ?_
  simp only [go_sem, polyC, hh, h0]
  all_goals repeat' (first | apply And.intro | intro _)
  all_goals
   refine hK5 _ ?_
   refine hN4 _ ?_
   refine cond_k rfl (fun hc => ?_) (fun hc => ?_)
   · try simp only [go_sem, polyC, hh, h0] at hc
     all_goals
      refine seq_k fun N6 M6 hN6 hM6 => ?_
      refine region_k fun K7 hK7 => ?_
      simp only [go_sem, polyC, hh, h0]
      all_goals repeat' (first | apply And.intro | intro _)
      all_goals
       refine hK7 _ ?_
       refine hN6 _ ?_
       refine ret_k ?_
       refine hM3 _ _ ?_
       simp only [go_sem, polyC, hh, h0]
       all_goals (rw [perr_no (fun h => h0 h.f0)])
   · exfalso; revert hc; simp [go_sem, polyC, hh, decide_true, decide_false, Bool.not_true, Bool.not_false, h0]
set_option maxHeartbeats 800000 in
set_option maxRecDepth 100000 in
theorem pchk_bad1 (r0 r1 p0 p1 a0 a1 a2 : UInt64) (held : List UInt8) (hh : held.length = 16) (n : Int) (h0 : r0 &&& ~~~1152921487695413247 = 0) (h1 : ¬ r1 &&& ~~~1152921487695413244 = 0) :
 Ct Try.prog 15 [.w (.agg (polyC r0 r1 p0 p1 a0 a1 a2 held n))] (fun v m => v = .w (.one (.pl (.i (polyErr r0 r1 a0 a1 a2 held n))))) := by
 refine Ct.k Try.func15 rfl Try.ntmps15 (congrArg Array.toList Try.results15) (by simp) fun w0 ro => ?_
 refine seq_k fun N1 M1 hN1 hM1 => ?_
 refine region_k fun K2 hK2 => ?_
 simp only [go_sem, polyC, hh, h0, h1]
 all_goals repeat' (first | apply And.intro | intro _)
 all_goals
  refine hK2 _ ?_
  refine hN1 _ ?_
  refine seq_k fun N3 M3 hN3 hM3 => ?_
  refine seq_k fun N4 M4 hN4 hM4 => ?_
  refine region_k fun K5 hK5 => ?_
  simp only [go_sem, polyC, hh, h0, h1]
  all_goals repeat' (first | apply And.intro | intro _)
  all_goals
   refine hK5 _ ?_
   refine hN4 _ ?_
   refine cond_k rfl (fun hc => ?_) (fun hc => ?_)
   · try simp only [go_sem, polyC, hh, h0, h1] at hc
     all_goals
      refine seq_k fun N6 M6 hN6 hM6 => ?_
      refine region_k fun K7 hK7 => ?_
      simp only [go_sem, polyC, hh, h0, h1]
      all_goals repeat' (first | apply And.intro | intro _)
      all_goals
       refine hK7 _ ?_
       refine hN6 _ ?_
       refine ret_k ?_
       refine hM3 _ _ ?_
       simp only [go_sem, polyC, hh, h0, h1]
       all_goals (rw [perr_no (fun h => h1 h.f1)])
   · exfalso; revert hc; simp [go_sem, polyC, hh, decide_true, decide_false, Bool.not_true, Bool.not_false, h0, h1]
set_option maxHeartbeats 800000 in
set_option maxRecDepth 100000 in
theorem pchk_bad2 (r0 r1 p0 p1 a0 a1 a2 : UInt64) (held : List UInt8) (hh : held.length = 16) (n : Int) (h0 : r0 &&& ~~~1152921487695413247 = 0) (h1 : r1 &&& ~~~1152921487695413244 = 0) (h2 : 3 < a2) :
 Ct Try.prog 15 [.w (.agg (polyC r0 r1 p0 p1 a0 a1 a2 held n))] (fun v m => v = .w (.one (.pl (.i (polyErr r0 r1 a0 a1 a2 held n))))) := by
 refine Ct.k Try.func15 rfl Try.ntmps15 (congrArg Array.toList Try.results15) (by simp) fun w0 ro => ?_
 refine seq_k fun N1 M1 hN1 hM1 => ?_
 refine region_k fun K2 hK2 => ?_
 simp only [go_sem, polyC, hh, h0, h1, h2]
 all_goals repeat' (first | apply And.intro | intro _)
 all_goals
  refine hK2 _ ?_
  refine hN1 _ ?_
  refine seq_k fun N3 M3 hN3 hM3 => ?_
  refine seq_k fun N4 M4 hN4 hM4 => ?_
  refine region_k fun K5 hK5 => ?_
  simp only [go_sem, polyC, hh, h0, h1, h2]
  all_goals repeat' (first | apply And.intro | intro _)
  all_goals
   refine hK5 _ ?_
   refine hN4 _ ?_
   refine cond_k rfl (fun hc => ?_) (fun hc => ?_)
   · try simp only [go_sem, polyC, hh, h0, h1, h2] at hc
     all_goals
      refine seq_k fun N6 M6 hN6 hM6 => ?_
      refine region_k fun K7 hK7 => ?_
      simp only [go_sem, polyC, hh, h0, h1, h2]
      all_goals repeat' (first | apply And.intro | intro _)
      all_goals
       refine hK7 _ ?_
       refine hN6 _ ?_
       refine ret_k ?_
       refine hM3 _ _ ?_
       simp only [go_sem, polyC, hh, h0, h1, h2]
       all_goals (rw [perr_no (fun h => a2_ge h2 h.f2)])
   · exfalso; revert hc; simp [go_sem, polyC, hh, decide_true, decide_false, Bool.not_true, Bool.not_false, h0, h1, h2]
set_option maxHeartbeats 800000 in
set_option maxRecDepth 100000 in
theorem pchk_bad3 (r0 r1 p0 p1 a0 a1 a2 : UInt64) (held : List UInt8) (hh : held.length = 16) (n : Int) (h0 : r0 &&& ~~~1152921487695413247 = 0) (h1 : r1 &&& ~~~1152921487695413244 = 0) (h2 : ¬ 3 < a2) (h3 : a2 = 3) (h4 : a1 = 18446744073709551615) (h5 : 18446744073709551611 ≤ a0) :
 Ct Try.prog 15 [.w (.agg (polyC r0 r1 p0 p1 a0 a1 a2 held n))] (fun v m => v = .w (.one (.pl (.i (polyErr r0 r1 a0 a1 a2 held n))))) := by
 have hq3 := eq_true h3
 have hq4 := eq_true h4
 refine Ct.k Try.func15 rfl Try.ntmps15 (congrArg Array.toList Try.results15) (by simp) fun w0 ro => ?_
 refine seq_k fun N1 M1 hN1 hM1 => ?_
 refine region_k fun K2 hK2 => ?_
 simp only [go_sem, polyC, hh, h0, h1, h2, hq3, hq4, h5]
 all_goals repeat' (first | apply And.intro | intro _)
 all_goals
  refine hK2 _ ?_
  refine hN1 _ ?_
  refine seq_k fun N3 M3 hN3 hM3 => ?_
  refine seq_k fun N4 M4 hN4 hM4 => ?_
  refine region_k fun K5 hK5 => ?_
  simp only [go_sem, polyC, hh, h0, h1, h2, hq3, hq4, h5]
  all_goals repeat' (first | apply And.intro | intro _)
  all_goals
   refine hK5 _ ?_
   refine hN4 _ ?_
   refine cond_k rfl (fun hc => ?_) (fun hc => ?_)
   · try simp only [go_sem, polyC, hh, h0, h1, h2, hq3, hq4, h5] at hc
     all_goals
      refine seq_k fun N6 M6 hN6 hM6 => ?_
      refine region_k fun K7 hK7 => ?_
      simp only [go_sem, polyC, hh, h0, h1, h2, hq3, hq4, h5]
      all_goals repeat' (first | apply And.intro | intro _)
      all_goals
       refine hK7 _ ?_
       refine hN6 _ ?_
       refine ret_k ?_
       refine hM3 _ _ ?_
       simp only [go_sem, polyC, hh, h0, h1, h2, hq3, hq4, h5]
       all_goals (rw [perr_no (fun h => acc_ge h3 h4 h5 h.acc)])
   · exfalso; revert hc; simp [go_sem, polyC, hh, decide_true, decide_false, Bool.not_true, Bool.not_false, h0, h1, h2, hq3, hq4, h5]
set_option maxHeartbeats 800000 in
set_option maxRecDepth 100000 in
theorem pchk_plo (r0 r1 p0 p1 a0 a1 a2 : UInt64) (held : List UInt8) (hh : held.length = 16) (n : Int) (h0 : r0 &&& ~~~1152921487695413247 = 0) (h1 : r1 &&& ~~~1152921487695413244 = 0) (h2 : ¬ 3 < a2) (h3 : ¬ a2 = 3) (h6 : n < 0) :
 Ct Try.prog 15 [.w (.agg (polyC r0 r1 p0 p1 a0 a1 a2 held n))] (fun v m => v = .w (.one (.pl (.i (polyErr r0 r1 a0 a1 a2 held n))))) := by
 refine Ct.k Try.func15 rfl Try.ntmps15 (congrArg Array.toList Try.results15) (by simp) fun w0 ro => ?_
 refine seq_k fun N1 M1 hN1 hM1 => ?_
 refine region_k fun K2 hK2 => ?_
 simp only [go_sem, polyC, hh, h0, h1, h2, h3, h6]
 all_goals repeat' (first | apply And.intro | intro _)
 all_goals
  refine hK2 _ ?_
  refine hN1 _ ?_
  refine seq_k fun N3 M3 hN3 hM3 => ?_
  refine seq_k fun N4 M4 hN4 hM4 => ?_
  refine region_k fun K5 hK5 => ?_
  simp only [go_sem, polyC, hh, h0, h1, h2, h3, h6]
  all_goals repeat' (first | apply And.intro | intro _)
  all_goals
   refine hK5 _ ?_
   refine hN4 _ ?_
   refine cond_k rfl (fun hc => ?_) (fun hc => ?_)
   · try simp only [go_sem, polyC, hh, h0, h1, h2, h3, h6] at hc
     all_goals
      refine seq_k fun N6 M6 hN6 hM6 => ?_
      refine region_k fun K7 hK7 => ?_
      simp only [go_sem, polyC, hh, h0, h1, h2, h3, h6]
      all_goals repeat' (first | apply And.intro | intro _)
      all_goals
       refine hK7 _ ?_
       refine hN6 _ ?_
       refine ret_k ?_
       refine hM3 _ _ ?_
       simp only [go_sem, polyC, hh, h0, h1, h2, h3, h6]
       all_goals (rw [perr_no (fun h => absurd h.lo (by omega))])
   · exfalso; revert hc; simp [go_sem, polyC, hh, decide_true, decide_false, Bool.not_true, Bool.not_false, h0, h1, h2, h3, h6]
set_option maxHeartbeats 800000 in
set_option maxRecDepth 100000 in
theorem pchk_phi (r0 r1 p0 p1 a0 a1 a2 : UInt64) (held : List UInt8) (hh : held.length = 16) (n : Int) (h0 : r0 &&& ~~~1152921487695413247 = 0) (h1 : r1 &&& ~~~1152921487695413244 = 0) (h2 : ¬ 3 < a2) (h3 : ¬ a2 = 3) (h6 : ¬ n < 0) (h7 : 15 < n) :
 Ct Try.prog 15 [.w (.agg (polyC r0 r1 p0 p1 a0 a1 a2 held n))] (fun v m => v = .w (.one (.pl (.i (polyErr r0 r1 a0 a1 a2 held n))))) := by
 refine Ct.k Try.func15 rfl Try.ntmps15 (congrArg Array.toList Try.results15) (by simp) fun w0 ro => ?_
 refine seq_k fun N1 M1 hN1 hM1 => ?_
 refine region_k fun K2 hK2 => ?_
 simp only [go_sem, polyC, hh, h0, h1, h2, h3, h6, h7]
 all_goals repeat' (first | apply And.intro | intro _)
 all_goals
  refine hK2 _ ?_
  refine hN1 _ ?_
  refine seq_k fun N3 M3 hN3 hM3 => ?_
  refine seq_k fun N4 M4 hN4 hM4 => ?_
  refine region_k fun K5 hK5 => ?_
  simp only [go_sem, polyC, hh, h0, h1, h2, h3, h6, h7]
  all_goals repeat' (first | apply And.intro | intro _)
  all_goals
   refine hK5 _ ?_
   refine hN4 _ ?_
   refine cond_k rfl (fun hc => ?_) (fun hc => ?_)
   · try simp only [go_sem, polyC, hh, h0, h1, h2, h3, h6, h7] at hc
     all_goals
      refine seq_k fun N6 M6 hN6 hM6 => ?_
      refine region_k fun K7 hK7 => ?_
      simp only [go_sem, polyC, hh, h0, h1, h2, h3, h6, h7]
      all_goals repeat' (first | apply And.intro | intro _)
      all_goals
       refine hK7 _ ?_
       refine hN6 _ ?_
       refine ret_k ?_
       refine hM3 _ _ ?_
       simp only [go_sem, polyC, hh, h0, h1, h2, h3, h6, h7]
       all_goals (rw [perr_no (fun h => absurd h.hi (by omega))])
   · exfalso; revert hc; simp [go_sem, polyC, hh, decide_true, decide_false, Bool.not_true, Bool.not_false, h0, h1, h2, h3, h6, h7]
set_option maxHeartbeats 1600000 in
set_option maxRecDepth 100000 in
theorem pchk_pok (r0 r1 p0 p1 a0 a1 a2 : UInt64) (held : List UInt8) (hh : held.length = 16) (k : Nat) (h0 : r0 &&& ~~~1152921487695413247 = 0) (h1 : r1 &&& ~~~1152921487695413244 = 0) (h2 : ¬ 3 < a2) (h3 : ¬ a2 = 3) (h7 : k ≤ 15) :
 Ct Try.prog 15 [.w (.agg (polyC r0 r1 p0 p1 a0 a1 a2 held (k : Int)))] (fun v m => v = .w (.one (.pl (.i (polyErr r0 r1 a0 a1 a2 held (k : Int)))))) := by

 have h6 : ¬ ((k : Nat) : Int) < 0 := by omega
 have h8 : ¬ (15 : Int) < ((k : Nat) : Int) := by omega
 have h9 : (0 : Int) ≤ ((k : Nat) : Int) := by omega
 have h10 : ((k : Nat) : Int) ≤ 16 := by omega
 refine Ct.k Try.func15 rfl Try.ntmps15 (congrArg Array.toList Try.results15) (by simp) fun w0 ro => ?_
 refine seq_k fun N1 M1 hN1 hM1 => ?_
 refine region_k fun K2 hK2 => ?_
 simp only [go_sem, polyC, hh, h0, h1, h2, h3, h6, h8, h9, h10]
 all_goals repeat' (first | apply And.intro | intro _)
 all_goals
  refine hK2 _ ?_
  refine hN1 _ ?_
  refine seq_k fun N3 M3 hN3 hM3 => ?_
  refine seq_k fun N4 M4 hN4 hM4 => ?_
  refine region_k fun K5 hK5 => ?_
  simp only [go_sem, polyC, hh, h0, h1, h2, h3, h6, h8, h9, h10]
  all_goals repeat' (first | apply And.intro | intro _)
  all_goals
   refine hK5 _ ?_
   refine hN4 _ ?_
   refine cond_k rfl (fun hc => ?_) (fun hc => ?_)
   · exfalso; revert hc; simp [go_sem, polyC, hh, decide_true, decide_false, Bool.not_true, Bool.not_false, h0, h1, h2, h3, h6, h8, h9, h10, Int.toNat_natCast]
   · try simp only [go_sem, polyC, hh, h0, h1, h2, h3, h6, h8, h9, h10] at hc
     all_goals
      refine skip_k ?_
      refine hN3 _ ?_
      refine seq_k fun N6 M6 hN6 hM6 => ?_
      refine seq_k fun N7 M7 hN7 hM7 => ?_
      refine region_k fun K8 hK8 => ?_
      simp only [go_sem, polyC, hh, h0, h1, h2, h3, h6, h8, h9, h10]
      all_goals repeat' (first | apply And.intro | intro _)
      all_goals
       refine hK8 _ ?_
       refine hN7 _ ?_
       refine block_k fun B9 bn9 bx9 br9 bi9 => ?_
       refine ht_dropE [0, 1, 5, 6, 7, 8, 9, 10, 11, 12, 13, 14, 15, 16, 17, 18, 19, 20, 21, 22, 23, 24, 25, 26, 27, 28, 29, 30, 31, 32, 33, 34, 35, 36, 37, 38, 39, 40, 41, 42, 43, 44, 45, 46, 47, 48, 49, 50, 51, 52, 53] ?_
       simp only [dropE_mk, fgt_nil, fgt_cons, List.contains_cons, List.contains_nil, Nat.reduceBEq, beq_self_eq_true, Bool.or_false, Bool.or_true, Bool.true_or, Bool.false_or, Bool.false_eq_true, reduceIte]
       refine loop_k (fun y => [(56, .w (.one (.pl (.i ((y.1 : Nat) : Int)))))]) (fun _ => []) (fun y => 16 - y.1) (⟨0, Nat.zero_le _, fun j hj => absurd hj (Nat.not_lt_zero j)⟩ : {y : Nat // y ≤ 16 - k ∧ ∀ j, j < y → held.getD (k + j) 0 = 0}) ?_ ?_ ?_
       · (simp only [go_sem, leX, List.cons_append, List.nil_append]; try simp)
       · (simp only [go_sem, leX, List.cons_append, List.nil_append]; try simp)
       intro yy N10 M10 hN10 hM10
       simp only [List.cons_append, List.nil_append]
       obtain ⟨i, hi, hz⟩ := yy
       have hd : (i < 16 - k ∧ ¬ held.getD (k + i) 0 = 0) ∨ (i < 16 - k ∧ held.getD (k + i) 0 = 0) ∨ i = 16 - k := by
        by_cases h : i = 16 - k
        · exact .inr (.inr h)
        · have : i < 16 - k := by omega
          by_cases h2 : held.getD (k + i) 0 = 0
          · exact .inr (.inl ⟨this, h2⟩)
          · exact .inl ⟨this, h2⟩
       rcases hd with ⟨hlt, hb⟩ | ⟨hlt, hb⟩ | rfl
       · have hcq : ((i : Nat) : Int) < ((16 - k : Nat) : Int) := by omega
         have hc0 : (0 : Int) ≤ ((i : Nat) : Int) := by omega
         have hk1 : k + i < held.length := by omega
         have hk2 : k + (16 - k) ≤ 16 := by omega
         have hk3 : i + 1 ≤ 16 - k := by omega
         have hk4 := one_at (m := 16 - k) hk1 (by omega)
         have hbq : (held.getD (k + i) 0 = 0) = False := eq_false hb
         refine seq_k fun N11 M11 hN11 hM11 => ?_
         refine region_k fun K12 hK12 => ?_
         simp only [go_sem, polyC, hh, h0, h1, h2, h3, h6, h8, h9, h10, hcq, hc0, hk2, hk3, hk4, hbq, bytesC_one]
         all_goals repeat' (first | apply And.intro | intro _)
         all_goals
          refine hK12 _ ?_
          refine hN11 _ ?_
          refine seq_k fun N13 M13 hN13 hM13 => ?_
          refine cond_k rfl (fun hc => ?_) (fun hc => ?_)
          · try simp only [go_sem, polyC, hh, h0, h1, h2, h3, h6, h8, h9, h10, hcq, hc0, hk2, hk3, hk4, hbq, bytesC_one] at hc
            all_goals
             refine skip_k ?_
             refine hN13 _ ?_
             refine seq_k fun N14 M14 hN14 hM14 => ?_
             refine block_k fun B15 bn15 bx15 br15 bi15 => ?_
             refine seq_k fun N16 M16 hN16 hM16 => ?_
             refine region_k fun K17 hK17 => ?_
             simp only [go_sem, polyC, hh, h0, h1, h2, h3, h6, h8, h9, h10, hcq, hc0, hk2, hk3, hk4, hbq, bytesC_one]
             all_goals repeat' (first | apply And.intro | intro _)
             all_goals
              refine hK17 _ ?_
              refine hN16 _ ?_
              refine seq_k fun N18 M18 hN18 hM18 => ?_
              refine region_k fun K19 hK19 => ?_
              simp only [go_sem, polyC, hh, h0, h1, h2, h3, h6, h8, h9, h10, hcq, hc0, hk2, hk3, hk4, hbq, bytesC_one]
              all_goals repeat' (first | apply And.intro | intro _)
              all_goals
               refine hK19 _ ?_
               refine hN18 _ ?_
               refine cond_k rfl (fun hc => ?_) (fun hc => ?_)
               · try simp only [go_sem, polyC, hh, h0, h1, h2, h3, h6, h8, h9, h10, hcq, hc0, hk2, hk3, hk4, hbq, bytesC_one] at hc
                 all_goals
                  refine seq_k fun N20 M20 hN20 hM20 => ?_
                  refine region_k fun K21 hK21 => ?_
                  simp only [go_sem, polyC, hh, h0, h1, h2, h3, h6, h8, h9, h10, hcq, hc0, hk2, hk3, hk4, hbq, bytesC_one]
                  all_goals repeat' (first | apply And.intro | intro _)
                  all_goals
                   refine hK21 _ ?_
                   refine hN20 _ ?_
                   refine ret_k ?_
                   refine br15 _ ?_
                   refine hM14 _ _ ?_
                   refine hM10 _ _ ?_
                   refine br9 _ ?_
                   refine hM6 _ _ ?_
                   simp only [go_sem, polyC, hh, h0, h1, h2, h3, h6, h8, h9, h10, hcq, hc0, hk2, hk3, hk4, hbq, bytesC_one]
                   all_goals (rw [perr_no (fun h => hb (h.rest (k + i) (by simp) (by omega)))])
               · exfalso; revert hc; simp [go_sem, polyC, hh, decide_true, decide_false, Bool.not_true, Bool.not_false, h0, h1, h2, h3, h6, h8, h9, h10, Int.toNat_natCast, hcq, hc0, hk2, hk3, hk4, hbq, bytesC_one, Int.toNat_natCast]
          · exfalso; revert hc; simp [go_sem, polyC, hh, decide_true, decide_false, Bool.not_true, Bool.not_false, h0, h1, h2, h3, h6, h8, h9, h10, Int.toNat_natCast, hcq, hc0, hk2, hk3, hk4, hbq, bytesC_one, Int.toNat_natCast]
       · have hcq : ((i : Nat) : Int) < ((16 - k : Nat) : Int) := by omega
         have hc0 : (0 : Int) ≤ ((i : Nat) : Int) := by omega
         have hk1 : k + i < held.length := by omega
         have hk2 : k + (16 - k) ≤ 16 := by omega
         have hk3 : i + 1 ≤ 16 - k := by omega
         have hk4 := one_at (m := 16 - k) hk1 (by omega)
         have hbq : (held.getD (k + i) 0 = 0) = True := eq_true hb
         have hs1 : Go.RowKit.wrap64 (((i : Nat) : Int) + 1) = ((i + 1 : Nat) : Int) := wnat (by omega) (by omega)
         refine seq_k fun N22 M22 hN22 hM22 => ?_
         refine region_k fun K23 hK23 => ?_
         simp only [go_sem, polyC, hh, h0, h1, h2, h3, h6, h8, h9, h10, hcq, hc0, hk2, hk3, hk4, hbq, bytesC_one, hs1]
         all_goals repeat' (first | apply And.intro | intro _)
         all_goals
          refine hK23 _ ?_
          refine hN22 _ ?_
          refine seq_k fun N24 M24 hN24 hM24 => ?_
          refine cond_k rfl (fun hc => ?_) (fun hc => ?_)
          · try simp only [go_sem, polyC, hh, h0, h1, h2, h3, h6, h8, h9, h10, hcq, hc0, hk2, hk3, hk4, hbq, bytesC_one, hs1] at hc
            all_goals
             refine skip_k ?_
             refine hN24 _ ?_
             refine seq_k fun N25 M25 hN25 hM25 => ?_
             refine block_k fun B26 bn26 bx26 br26 bi26 => ?_
             refine seq_k fun N27 M27 hN27 hM27 => ?_
             refine region_k fun K28 hK28 => ?_
             simp only [go_sem, polyC, hh, h0, h1, h2, h3, h6, h8, h9, h10, hcq, hc0, hk2, hk3, hk4, hbq, bytesC_one, hs1]
             all_goals repeat' (first | apply And.intro | intro _)
             all_goals
              refine hK28 _ ?_
              refine hN27 _ ?_
              refine seq_k fun N29 M29 hN29 hM29 => ?_
              refine region_k fun K30 hK30 => ?_
              simp only [go_sem, polyC, hh, h0, h1, h2, h3, h6, h8, h9, h10, hcq, hc0, hk2, hk3, hk4, hbq, bytesC_one, hs1]
              all_goals repeat' (first | apply And.intro | intro _)
              all_goals
               refine hK30 _ ?_
               refine hN29 _ ?_
               refine cond_k rfl (fun hc => ?_) (fun hc => ?_)
               · exfalso; revert hc; simp [go_sem, polyC, hh, decide_true, decide_false, Bool.not_true, Bool.not_false, h0, h1, h2, h3, h6, h8, h9, h10, Int.toNat_natCast, hcq, hc0, hk2, hk3, hk4, hbq, bytesC_one, Int.toNat_natCast, hs1]
               · try simp only [go_sem, polyC, hh, h0, h1, h2, h3, h6, h8, h9, h10, hcq, hc0, hk2, hk3, hk4, hbq, bytesC_one, hs1] at hc
                 all_goals
                  refine skip_k ?_
                  refine bn26 _ ?_
                  refine hN25 _ ?_
                  refine region_k fun K31 hK31 => ?_
                  simp only [go_sem, polyC, hh, h0, h1, h2, h3, h6, h8, h9, h10, hcq, hc0, hk2, hk3, hk4, hbq, bytesC_one, hs1]
                  all_goals repeat' (first | apply And.intro | intro _)
                  all_goals
                   refine hK31 _ ?_
                   refine hN10 ⟨i + 1, by omega, fun j hj => by rcases Nat.lt_succ_iff_lt_or_eq.mp hj with h | rfl; exact hz j h; exact hb⟩ _ ?_ ?_ ?_
                   · (show 16 - (i + 1) < 16 - i; clear hs1; omega)
                   · (simp only [go_sem, leX, List.cons_append, List.nil_append]; try simp)
                   · (simp only [go_sem, leX, List.cons_append, List.nil_append]; try simp)
          · exfalso; revert hc; simp [go_sem, polyC, hh, decide_true, decide_false, Bool.not_true, Bool.not_false, h0, h1, h2, h3, h6, h8, h9, h10, Int.toNat_natCast, hcq, hc0, hk2, hk3, hk4, hbq, bytesC_one, Int.toNat_natCast, hs1]
       · have hcq : ¬ ((16 - k : Nat) : Int) < ((16 - k : Nat) : Int) := by omega
         refine seq_k fun N32 M32 hN32 hM32 => ?_
         refine region_k fun K33 hK33 => ?_
         simp only [go_sem, polyC, hh, h0, h1, h2, h3, h6, h8, h9, h10, hcq]
         all_goals repeat' (first | apply And.intro | intro _)
         all_goals
          refine hK33 _ ?_
          refine hN32 _ ?_
          refine seq_k fun N34 M34 hN34 hM34 => ?_
          refine cond_k rfl (fun hc => ?_) (fun hc => ?_)
          · exfalso; revert hc; simp [go_sem, polyC, hh, decide_true, decide_false, Bool.not_true, Bool.not_false, h0, h1, h2, h3, h6, h8, h9, h10, Int.toNat_natCast, hcq]
          · try simp only [go_sem, polyC, hh, h0, h1, h2, h3, h6, h8, h9, h10, hcq] at hc
            all_goals
             refine exit_k ?_
             refine hM34 _ _ ?_
             refine hM10 _ _ ?_
             refine bx9 _ ?_
             refine hN6 _ ?_
             refine seq_k fun N35 M35 hN35 hM35 => ?_
             refine region_k fun K36 hK36 => ?_
             simp only [go_sem, polyC, hh, h0, h1, h2, h3, h6, h8, h9, h10, hcq]
             all_goals repeat' (first | apply And.intro | intro _)
             all_goals
              refine hK36 _ ?_
              refine hN35 _ ?_
              refine ret_k ?_
              simp only [go_sem, polyC, hh, h0, h1, h2, h3, h6, h8, h9, h10, hcq]
              all_goals (rw [perr_ok ⟨h0, h1, a2_lt h2, acc_lt (a2_lt h2) (.inl h3), by omega, by omega, fun j hj hl => by have := hz (j - k) (by simp at hj; omega); rwa [show k + (j - k) = j from by simp at hj; omega] at this⟩])
set_option maxHeartbeats 800000 in
set_option maxRecDepth 100000 in
theorem pchk_qlo (r0 r1 p0 p1 a0 a1 a2 : UInt64) (held : List UInt8) (hh : held.length = 16) (n : Int) (h0 : r0 &&& ~~~1152921487695413247 = 0) (h1 : r1 &&& ~~~1152921487695413244 = 0) (h2 : ¬ 3 < a2) (h3 : a2 = 3) (h4 : ¬ a1 = 18446744073709551615) (h6 : n < 0) :
 Ct Try.prog 15 [.w (.agg (polyC r0 r1 p0 p1 a0 a1 a2 held n))] (fun v m => v = .w (.one (.pl (.i (polyErr r0 r1 a0 a1 a2 held n))))) := by
 have hq3 := eq_true h3
 refine Ct.k Try.func15 rfl Try.ntmps15 (congrArg Array.toList Try.results15) (by simp) fun w0 ro => ?_
 refine seq_k fun N1 M1 hN1 hM1 => ?_
 refine region_k fun K2 hK2 => ?_
 simp only [go_sem, polyC, hh, h0, h1, h2, hq3, h4, h6]
 all_goals repeat' (first | apply And.intro | intro _)
 all_goals
  refine hK2 _ ?_
  refine hN1 _ ?_
  refine seq_k fun N3 M3 hN3 hM3 => ?_
  refine seq_k fun N4 M4 hN4 hM4 => ?_
  refine region_k fun K5 hK5 => ?_
  simp only [go_sem, polyC, hh, h0, h1, h2, hq3, h4, h6]
  all_goals repeat' (first | apply And.intro | intro _)
  all_goals
   refine hK5 _ ?_
   refine hN4 _ ?_
   refine cond_k rfl (fun hc => ?_) (fun hc => ?_)
   · try simp only [go_sem, polyC, hh, h0, h1, h2, hq3, h4, h6] at hc
     all_goals
      refine seq_k fun N6 M6 hN6 hM6 => ?_
      refine region_k fun K7 hK7 => ?_
      simp only [go_sem, polyC, hh, h0, h1, h2, hq3, h4, h6]
      all_goals repeat' (first | apply And.intro | intro _)
      all_goals
       refine hK7 _ ?_
       refine hN6 _ ?_
       refine ret_k ?_
       refine hM3 _ _ ?_
       simp only [go_sem, polyC, hh, h0, h1, h2, hq3, h4, h6]
       all_goals (rw [perr_no (fun h => absurd h.lo (by omega))])
   · exfalso; revert hc; simp [go_sem, polyC, hh, decide_true, decide_false, Bool.not_true, Bool.not_false, h0, h1, h2, hq3, h4, h6]
set_option maxHeartbeats 800000 in
set_option maxRecDepth 100000 in
theorem pchk_qhi (r0 r1 p0 p1 a0 a1 a2 : UInt64) (held : List UInt8) (hh : held.length = 16) (n : Int) (h0 : r0 &&& ~~~1152921487695413247 = 0) (h1 : r1 &&& ~~~1152921487695413244 = 0) (h2 : ¬ 3 < a2) (h3 : a2 = 3) (h4 : ¬ a1 = 18446744073709551615) (h6 : ¬ n < 0) (h7 : 15 < n) :
 Ct Try.prog 15 [.w (.agg (polyC r0 r1 p0 p1 a0 a1 a2 held n))] (fun v m => v = .w (.one (.pl (.i (polyErr r0 r1 a0 a1 a2 held n))))) := by
 have hq3 := eq_true h3
 refine Ct.k Try.func15 rfl Try.ntmps15 (congrArg Array.toList Try.results15) (by simp) fun w0 ro => ?_
 refine seq_k fun N1 M1 hN1 hM1 => ?_
 refine region_k fun K2 hK2 => ?_
 simp only [go_sem, polyC, hh, h0, h1, h2, hq3, h4, h6, h7]
 all_goals repeat' (first | apply And.intro | intro _)
 all_goals
  refine hK2 _ ?_
  refine hN1 _ ?_
  refine seq_k fun N3 M3 hN3 hM3 => ?_
  refine seq_k fun N4 M4 hN4 hM4 => ?_
  refine region_k fun K5 hK5 => ?_
  simp only [go_sem, polyC, hh, h0, h1, h2, hq3, h4, h6, h7]
  all_goals repeat' (first | apply And.intro | intro _)
  all_goals
   refine hK5 _ ?_
   refine hN4 _ ?_
   refine cond_k rfl (fun hc => ?_) (fun hc => ?_)
   · try simp only [go_sem, polyC, hh, h0, h1, h2, hq3, h4, h6, h7] at hc
     all_goals
      refine seq_k fun N6 M6 hN6 hM6 => ?_
      refine region_k fun K7 hK7 => ?_
      simp only [go_sem, polyC, hh, h0, h1, h2, hq3, h4, h6, h7]
      all_goals repeat' (first | apply And.intro | intro _)
      all_goals
       refine hK7 _ ?_
       refine hN6 _ ?_
       refine ret_k ?_
       refine hM3 _ _ ?_
       simp only [go_sem, polyC, hh, h0, h1, h2, hq3, h4, h6, h7]
       all_goals (rw [perr_no (fun h => absurd h.hi (by omega))])
   · exfalso; revert hc; simp [go_sem, polyC, hh, decide_true, decide_false, Bool.not_true, Bool.not_false, h0, h1, h2, hq3, h4, h6, h7]
set_option maxHeartbeats 1600000 in
set_option maxRecDepth 100000 in
theorem pchk_qok (r0 r1 p0 p1 a0 a1 a2 : UInt64) (held : List UInt8) (hh : held.length = 16) (k : Nat) (h0 : r0 &&& ~~~1152921487695413247 = 0) (h1 : r1 &&& ~~~1152921487695413244 = 0) (h2 : ¬ 3 < a2) (h3 : a2 = 3) (h4 : ¬ a1 = 18446744073709551615) (h7 : k ≤ 15) :
 Ct Try.prog 15 [.w (.agg (polyC r0 r1 p0 p1 a0 a1 a2 held (k : Int)))] (fun v m => v = .w (.one (.pl (.i (polyErr r0 r1 a0 a1 a2 held (k : Int)))))) := by
 have hq3 := eq_true h3
 have h6 : ¬ ((k : Nat) : Int) < 0 := by omega
 have h8 : ¬ (15 : Int) < ((k : Nat) : Int) := by omega
 have h9 : (0 : Int) ≤ ((k : Nat) : Int) := by omega
 have h10 : ((k : Nat) : Int) ≤ 16 := by omega
 refine Ct.k Try.func15 rfl Try.ntmps15 (congrArg Array.toList Try.results15) (by simp) fun w0 ro => ?_
 refine seq_k fun N1 M1 hN1 hM1 => ?_
 refine region_k fun K2 hK2 => ?_
 simp only [go_sem, polyC, hh, h0, h1, h2, hq3, h4, h6, h8, h9, h10]
 all_goals repeat' (first | apply And.intro | intro _)
 all_goals
  refine hK2 _ ?_
  refine hN1 _ ?_
  refine seq_k fun N3 M3 hN3 hM3 => ?_
  refine seq_k fun N4 M4 hN4 hM4 => ?_
  refine region_k fun K5 hK5 => ?_
  simp only [go_sem, polyC, hh, h0, h1, h2, hq3, h4, h6, h8, h9, h10]
  all_goals repeat' (first | apply And.intro | intro _)
  all_goals
   refine hK5 _ ?_
   refine hN4 _ ?_
   refine cond_k rfl (fun hc => ?_) (fun hc => ?_)
   · exfalso; revert hc; simp [go_sem, polyC, hh, decide_true, decide_false, Bool.not_true, Bool.not_false, h0, h1, h2, hq3, h4, h6, h8, h9, h10, Int.toNat_natCast]
   · try simp only [go_sem, polyC, hh, h0, h1, h2, hq3, h4, h6, h8, h9, h10] at hc
     all_goals
      refine skip_k ?_
      refine hN3 _ ?_
      refine seq_k fun N6 M6 hN6 hM6 => ?_
      refine seq_k fun N7 M7 hN7 hM7 => ?_
      refine region_k fun K8 hK8 => ?_
      simp only [go_sem, polyC, hh, h0, h1, h2, hq3, h4, h6, h8, h9, h10]
      all_goals repeat' (first | apply And.intro | intro _)
      all_goals
       refine hK8 _ ?_
       refine hN7 _ ?_
       refine block_k fun B9 bn9 bx9 br9 bi9 => ?_
       refine ht_dropE [0, 1, 5, 6, 7, 8, 9, 10, 11, 12, 13, 14, 15, 16, 17, 18, 19, 20, 21, 22, 23, 24, 25, 26, 27, 28, 29, 30, 31, 32, 33, 34, 35, 36, 37, 38, 39, 40, 41, 42, 43, 44, 45, 46, 47, 48, 49, 50, 51, 52, 53] ?_
       simp only [dropE_mk, fgt_nil, fgt_cons, List.contains_cons, List.contains_nil, Nat.reduceBEq, beq_self_eq_true, Bool.or_false, Bool.or_true, Bool.true_or, Bool.false_or, Bool.false_eq_true, reduceIte]
       refine loop_k (fun y => [(56, .w (.one (.pl (.i ((y.1 : Nat) : Int)))))]) (fun _ => []) (fun y => 16 - y.1) (⟨0, Nat.zero_le _, fun j hj => absurd hj (Nat.not_lt_zero j)⟩ : {y : Nat // y ≤ 16 - k ∧ ∀ j, j < y → held.getD (k + j) 0 = 0}) ?_ ?_ ?_
       · (simp only [go_sem, leX, List.cons_append, List.nil_append]; try simp)
       · (simp only [go_sem, leX, List.cons_append, List.nil_append]; try simp)
       intro yy N10 M10 hN10 hM10
       simp only [List.cons_append, List.nil_append]
       obtain ⟨i, hi, hz⟩ := yy
       have hd : (i < 16 - k ∧ ¬ held.getD (k + i) 0 = 0) ∨ (i < 16 - k ∧ held.getD (k + i) 0 = 0) ∨ i = 16 - k := by
        by_cases h : i = 16 - k
        · exact .inr (.inr h)
        · have : i < 16 - k := by omega
          by_cases h2 : held.getD (k + i) 0 = 0
          · exact .inr (.inl ⟨this, h2⟩)
          · exact .inl ⟨this, h2⟩
       rcases hd with ⟨hlt, hb⟩ | ⟨hlt, hb⟩ | rfl
       · have hcq : ((i : Nat) : Int) < ((16 - k : Nat) : Int) := by omega
         have hc0 : (0 : Int) ≤ ((i : Nat) : Int) := by omega
         have hk1 : k + i < held.length := by omega
         have hk2 : k + (16 - k) ≤ 16 := by omega
         have hk3 : i + 1 ≤ 16 - k := by omega
         have hk4 := one_at (m := 16 - k) hk1 (by omega)
         have hbq : (held.getD (k + i) 0 = 0) = False := eq_false hb
         refine seq_k fun N11 M11 hN11 hM11 => ?_
         refine region_k fun K12 hK12 => ?_
         simp only [go_sem, polyC, hh, h0, h1, h2, hq3, h4, h6, h8, h9, h10, hcq, hc0, hk2, hk3, hk4, hbq, bytesC_one]
         all_goals repeat' (first | apply And.intro | intro _)
         all_goals
          refine hK12 _ ?_
          refine hN11 _ ?_
          refine seq_k fun N13 M13 hN13 hM13 => ?_
          refine cond_k rfl (fun hc => ?_) (fun hc => ?_)
          · try simp only [go_sem, polyC, hh, h0, h1, h2, hq3, h4, h6, h8, h9, h10, hcq, hc0, hk2, hk3, hk4, hbq, bytesC_one] at hc
            all_goals
             refine skip_k ?_
             refine hN13 _ ?_
             refine seq_k fun N14 M14 hN14 hM14 => ?_
             refine block_k fun B15 bn15 bx15 br15 bi15 => ?_
             refine seq_k fun N16 M16 hN16 hM16 => ?_
             refine region_k fun K17 hK17 => ?_
             simp only [go_sem, polyC, hh, h0, h1, h2, hq3, h4, h6, h8, h9, h10, hcq, hc0, hk2, hk3, hk4, hbq, bytesC_one]
             all_goals repeat' (first | apply And.intro | intro _)
             all_goals
              refine hK17 _ ?_
              refine hN16 _ ?_
              refine seq_k fun N18 M18 hN18 hM18 => ?_
              refine region_k fun K19 hK19 => ?_
              simp only [go_sem, polyC, hh, h0, h1, h2, hq3, h4, h6, h8, h9, h10, hcq, hc0, hk2, hk3, hk4, hbq, bytesC_one]
              all_goals repeat' (first | apply And.intro | intro _)
              all_goals
               refine hK19 _ ?_
               refine hN18 _ ?_
               refine cond_k rfl (fun hc => ?_) (fun hc => ?_)
               · try simp only [go_sem, polyC, hh, h0, h1, h2, hq3, h4, h6, h8, h9, h10, hcq, hc0, hk2, hk3, hk4, hbq, bytesC_one] at hc
                 all_goals
                  refine seq_k fun N20 M20 hN20 hM20 => ?_
                  refine region_k fun K21 hK21 => ?_
                  simp only [go_sem, polyC, hh, h0, h1, h2, hq3, h4, h6, h8, h9, h10, hcq, hc0, hk2, hk3, hk4, hbq, bytesC_one]
                  all_goals repeat' (first | apply And.intro | intro _)
                  all_goals
                   refine hK21 _ ?_
                   refine hN20 _ ?_
                   refine ret_k ?_
                   refine br15 _ ?_
                   refine hM14 _ _ ?_
                   refine hM10 _ _ ?_
                   refine br9 _ ?_
                   refine hM6 _ _ ?_
                   simp only [go_sem, polyC, hh, h0, h1, h2, hq3, h4, h6, h8, h9, h10, hcq, hc0, hk2, hk3, hk4, hbq, bytesC_one]
                   all_goals (rw [perr_no (fun h => hb (h.rest (k + i) (by simp) (by omega)))])
               · exfalso; revert hc; simp [go_sem, polyC, hh, decide_true, decide_false, Bool.not_true, Bool.not_false, h0, h1, h2, hq3, h4, h6, h8, h9, h10, Int.toNat_natCast, hcq, hc0, hk2, hk3, hk4, hbq, bytesC_one, Int.toNat_natCast]
          · exfalso; revert hc; simp [go_sem, polyC, hh, decide_true, decide_false, Bool.not_true, Bool.not_false, h0, h1, h2, hq3, h4, h6, h8, h9, h10, Int.toNat_natCast, hcq, hc0, hk2, hk3, hk4, hbq, bytesC_one, Int.toNat_natCast]
       · have hcq : ((i : Nat) : Int) < ((16 - k : Nat) : Int) := by omega
         have hc0 : (0 : Int) ≤ ((i : Nat) : Int) := by omega
         have hk1 : k + i < held.length := by omega
         have hk2 : k + (16 - k) ≤ 16 := by omega
         have hk3 : i + 1 ≤ 16 - k := by omega
         have hk4 := one_at (m := 16 - k) hk1 (by omega)
         have hbq : (held.getD (k + i) 0 = 0) = True := eq_true hb
         have hs1 : Go.RowKit.wrap64 (((i : Nat) : Int) + 1) = ((i + 1 : Nat) : Int) := wnat (by omega) (by omega)
         refine seq_k fun N22 M22 hN22 hM22 => ?_
         refine region_k fun K23 hK23 => ?_
         simp only [go_sem, polyC, hh, h0, h1, h2, hq3, h4, h6, h8, h9, h10, hcq, hc0, hk2, hk3, hk4, hbq, bytesC_one, hs1]
         all_goals repeat' (first | apply And.intro | intro _)
         all_goals
          refine hK23 _ ?_
          refine hN22 _ ?_
          refine seq_k fun N24 M24 hN24 hM24 => ?_
          refine cond_k rfl (fun hc => ?_) (fun hc => ?_)
          · try simp only [go_sem, polyC, hh, h0, h1, h2, hq3, h4, h6, h8, h9, h10, hcq, hc0, hk2, hk3, hk4, hbq, bytesC_one, hs1] at hc
            all_goals
             refine skip_k ?_
             refine hN24 _ ?_
             refine seq_k fun N25 M25 hN25 hM25 => ?_
             refine block_k fun B26 bn26 bx26 br26 bi26 => ?_
             refine seq_k fun N27 M27 hN27 hM27 => ?_
             refine region_k fun K28 hK28 => ?_
             simp only [go_sem, polyC, hh, h0, h1, h2, hq3, h4, h6, h8, h9, h10, hcq, hc0, hk2, hk3, hk4, hbq, bytesC_one, hs1]
             all_goals repeat' (first | apply And.intro | intro _)
             all_goals
              refine hK28 _ ?_
              refine hN27 _ ?_
              refine seq_k fun N29 M29 hN29 hM29 => ?_
              refine region_k fun K30 hK30 => ?_
              simp only [go_sem, polyC, hh, h0, h1, h2, hq3, h4, h6, h8, h9, h10, hcq, hc0, hk2, hk3, hk4, hbq, bytesC_one, hs1]
              all_goals repeat' (first | apply And.intro | intro _)
              all_goals
               refine hK30 _ ?_
               refine hN29 _ ?_
               refine cond_k rfl (fun hc => ?_) (fun hc => ?_)
               · exfalso; revert hc; simp [go_sem, polyC, hh, decide_true, decide_false, Bool.not_true, Bool.not_false, h0, h1, h2, hq3, h4, h6, h8, h9, h10, Int.toNat_natCast, hcq, hc0, hk2, hk3, hk4, hbq, bytesC_one, Int.toNat_natCast, hs1]
               · try simp only [go_sem, polyC, hh, h0, h1, h2, hq3, h4, h6, h8, h9, h10, hcq, hc0, hk2, hk3, hk4, hbq, bytesC_one, hs1] at hc
                 all_goals
                  refine skip_k ?_
                  refine bn26 _ ?_
                  refine hN25 _ ?_
                  refine region_k fun K31 hK31 => ?_
                  simp only [go_sem, polyC, hh, h0, h1, h2, hq3, h4, h6, h8, h9, h10, hcq, hc0, hk2, hk3, hk4, hbq, bytesC_one, hs1]
                  all_goals repeat' (first | apply And.intro | intro _)
                  all_goals
                   refine hK31 _ ?_
                   refine hN10 ⟨i + 1, by omega, fun j hj => by rcases Nat.lt_succ_iff_lt_or_eq.mp hj with h | rfl; exact hz j h; exact hb⟩ _ ?_ ?_ ?_
                   · (show 16 - (i + 1) < 16 - i; clear hs1; omega)
                   · (simp only [go_sem, leX, List.cons_append, List.nil_append]; try simp)
                   · (simp only [go_sem, leX, List.cons_append, List.nil_append]; try simp)
          · exfalso; revert hc; simp [go_sem, polyC, hh, decide_true, decide_false, Bool.not_true, Bool.not_false, h0, h1, h2, hq3, h4, h6, h8, h9, h10, Int.toNat_natCast, hcq, hc0, hk2, hk3, hk4, hbq, bytesC_one, Int.toNat_natCast, hs1]
       · have hcq : ¬ ((16 - k : Nat) : Int) < ((16 - k : Nat) : Int) := by omega
         refine seq_k fun N32 M32 hN32 hM32 => ?_
         refine region_k fun K33 hK33 => ?_
         simp only [go_sem, polyC, hh, h0, h1, h2, hq3, h4, h6, h8, h9, h10, hcq]
         all_goals repeat' (first | apply And.intro | intro _)
         all_goals
          refine hK33 _ ?_
          refine hN32 _ ?_
          refine seq_k fun N34 M34 hN34 hM34 => ?_
          refine cond_k rfl (fun hc => ?_) (fun hc => ?_)
          · exfalso; revert hc; simp [go_sem, polyC, hh, decide_true, decide_false, Bool.not_true, Bool.not_false, h0, h1, h2, hq3, h4, h6, h8, h9, h10, Int.toNat_natCast, hcq]
          · try simp only [go_sem, polyC, hh, h0, h1, h2, hq3, h4, h6, h8, h9, h10, hcq] at hc
            all_goals
             refine exit_k ?_
             refine hM34 _ _ ?_
             refine hM10 _ _ ?_
             refine bx9 _ ?_
             refine hN6 _ ?_
             refine seq_k fun N35 M35 hN35 hM35 => ?_
             refine region_k fun K36 hK36 => ?_
             simp only [go_sem, polyC, hh, h0, h1, h2, hq3, h4, h6, h8, h9, h10, hcq]
             all_goals repeat' (first | apply And.intro | intro _)
             all_goals
              refine hK36 _ ?_
              refine hN35 _ ?_
              refine ret_k ?_
              simp only [go_sem, polyC, hh, h0, h1, h2, hq3, h4, h6, h8, h9, h10, hcq]
              all_goals (rw [perr_ok ⟨h0, h1, a2_lt h2, acc_lt (a2_lt h2) (.inr (.inl ⟨h3, h4⟩)), by omega, by omega, fun j hj hl => by have := hz (j - k) (by simp at hj; omega); rwa [show k + (j - k) = j from by simp at hj; omega] at this⟩])
set_option maxHeartbeats 800000 in
set_option maxRecDepth 100000 in
theorem pchk_rlo (r0 r1 p0 p1 a0 a1 a2 : UInt64) (held : List UInt8) (hh : held.length = 16) (n : Int) (h0 : r0 &&& ~~~1152921487695413247 = 0) (h1 : r1 &&& ~~~1152921487695413244 = 0) (h2 : ¬ 3 < a2) (h3 : a2 = 3) (h4 : a1 = 18446744073709551615) (h5 : ¬ 18446744073709551611 ≤ a0) (h6 : n < 0) :
 Ct Try.prog 15 [.w (.agg (polyC r0 r1 p0 p1 a0 a1 a2 held n))] (fun v m => v = .w (.one (.pl (.i (polyErr r0 r1 a0 a1 a2 held n))))) := by
 have hq3 := eq_true h3
 have hq4 := eq_true h4
 refine Ct.k Try.func15 rfl Try.ntmps15 (congrArg Array.toList Try.results15) (by simp) fun w0 ro => ?_
 refine seq_k fun N1 M1 hN1 hM1 => ?_
 refine region_k fun K2 hK2 => ?_
 simp only [go_sem, polyC, hh, h0, h1, h2, hq3, hq4, h5, h6]
 all_goals repeat' (first | apply And.intro | intro _)
 all_goals
  refine hK2 _ ?_
  refine hN1 _ ?_
  refine seq_k fun N3 M3 hN3 hM3 => ?_
  refine seq_k fun N4 M4 hN4 hM4 => ?_
  refine region_k fun K5 hK5 => ?_
  simp only [go_sem, polyC, hh, h0, h1, h2, hq3, hq4, h5, h6]
  all_goals repeat' (first | apply And.intro | intro _)
  all_goals
   refine hK5 _ ?_
   refine hN4 _ ?_
   refine cond_k rfl (fun hc => ?_) (fun hc => ?_)
   · try simp only [go_sem, polyC, hh, h0, h1, h2, hq3, hq4, h5, h6] at hc
     all_goals
      refine seq_k fun N6 M6 hN6 hM6 => ?_
      refine region_k fun K7 hK7 => ?_
      simp only [go_sem, polyC, hh, h0, h1, h2, hq3, hq4, h5, h6]
      all_goals repeat' (first | apply And.intro | intro _)
      all_goals
       refine hK7 _ ?_
       refine hN6 _ ?_
       refine ret_k ?_
       refine hM3 _ _ ?_
       simp only [go_sem, polyC, hh, h0, h1, h2, hq3, hq4, h5, h6]
       all_goals (rw [perr_no (fun h => absurd h.lo (by omega))])
   · exfalso; revert hc; simp [go_sem, polyC, hh, decide_true, decide_false, Bool.not_true, Bool.not_false, h0, h1, h2, hq3, hq4, h5, h6]
set_option maxHeartbeats 800000 in
set_option maxRecDepth 100000 in
theorem pchk_rhi (r0 r1 p0 p1 a0 a1 a2 : UInt64) (held : List UInt8) (hh : held.length = 16) (n : Int) (h0 : r0 &&& ~~~1152921487695413247 = 0) (h1 : r1 &&& ~~~1152921487695413244 = 0) (h2 : ¬ 3 < a2) (h3 : a2 = 3) (h4 : a1 = 18446744073709551615) (h5 : ¬ 18446744073709551611 ≤ a0) (h6 : ¬ n < 0) (h7 : 15 < n) :
 Ct Try.prog 15 [.w (.agg (polyC r0 r1 p0 p1 a0 a1 a2 held n))] (fun v m => v = .w (.one (.pl (.i (polyErr r0 r1 a0 a1 a2 held n))))) := by
 have hq3 := eq_true h3
 have hq4 := eq_true h4
 refine Ct.k Try.func15 rfl Try.ntmps15 (congrArg Array.toList Try.results15) (by simp) fun w0 ro => ?_
 refine seq_k fun N1 M1 hN1 hM1 => ?_
 refine region_k fun K2 hK2 => ?_
 simp only [go_sem, polyC, hh, h0, h1, h2, hq3, hq4, h5, h6, h7]
 all_goals repeat' (first | apply And.intro | intro _)
 all_goals
  refine hK2 _ ?_
  refine hN1 _ ?_
  refine seq_k fun N3 M3 hN3 hM3 => ?_
  refine seq_k fun N4 M4 hN4 hM4 => ?_
  refine region_k fun K5 hK5 => ?_
  simp only [go_sem, polyC, hh, h0, h1, h2, hq3, hq4, h5, h6, h7]
  all_goals repeat' (first | apply And.intro | intro _)
  all_goals
   refine hK5 _ ?_
   refine hN4 _ ?_
   refine cond_k rfl (fun hc => ?_) (fun hc => ?_)
   · try simp only [go_sem, polyC, hh, h0, h1, h2, hq3, hq4, h5, h6, h7] at hc
     all_goals
      refine seq_k fun N6 M6 hN6 hM6 => ?_
      refine region_k fun K7 hK7 => ?_
      simp only [go_sem, polyC, hh, h0, h1, h2, hq3, hq4, h5, h6, h7]
      all_goals repeat' (first | apply And.intro | intro _)
      all_goals
       refine hK7 _ ?_
       refine hN6 _ ?_
       refine ret_k ?_
       refine hM3 _ _ ?_
       simp only [go_sem, polyC, hh, h0, h1, h2, hq3, hq4, h5, h6, h7]
       all_goals (rw [perr_no (fun h => absurd h.hi (by omega))])
   · exfalso; revert hc; simp [go_sem, polyC, hh, decide_true, decide_false, Bool.not_true, Bool.not_false, h0, h1, h2, hq3, hq4, h5, h6, h7]
set_option maxHeartbeats 1600000 in
set_option maxRecDepth 100000 in
theorem pchk_rok (r0 r1 p0 p1 a0 a1 a2 : UInt64) (held : List UInt8) (hh : held.length = 16) (k : Nat) (h0 : r0 &&& ~~~1152921487695413247 = 0) (h1 : r1 &&& ~~~1152921487695413244 = 0) (h2 : ¬ 3 < a2) (h3 : a2 = 3) (h4 : a1 = 18446744073709551615) (h5 : ¬ 18446744073709551611 ≤ a0) (h7 : k ≤ 15) :
 Ct Try.prog 15 [.w (.agg (polyC r0 r1 p0 p1 a0 a1 a2 held (k : Int)))] (fun v m => v = .w (.one (.pl (.i (polyErr r0 r1 a0 a1 a2 held (k : Int)))))) := by
 have hq3 := eq_true h3
 have hq4 := eq_true h4
 have h6 : ¬ ((k : Nat) : Int) < 0 := by omega
 have h8 : ¬ (15 : Int) < ((k : Nat) : Int) := by omega
 have h9 : (0 : Int) ≤ ((k : Nat) : Int) := by omega
 have h10 : ((k : Nat) : Int) ≤ 16 := by omega
 refine Ct.k Try.func15 rfl Try.ntmps15 (congrArg Array.toList Try.results15) (by simp) fun w0 ro => ?_
 refine seq_k fun N1 M1 hN1 hM1 => ?_
 refine region_k fun K2 hK2 => ?_
 simp only [go_sem, polyC, hh, h0, h1, h2, hq3, hq4, h5, h6, h8, h9, h10]
 all_goals repeat' (first | apply And.intro | intro _)
 all_goals
  refine hK2 _ ?_
  refine hN1 _ ?_
  refine seq_k fun N3 M3 hN3 hM3 => ?_
  refine seq_k fun N4 M4 hN4 hM4 => ?_
  refine region_k fun K5 hK5 => ?_
  simp only [go_sem, polyC, hh, h0, h1, h2, hq3, hq4, h5, h6, h8, h9, h10]
  all_goals repeat' (first | apply And.intro | intro _)
  all_goals
   refine hK5 _ ?_
   refine hN4 _ ?_
   refine cond_k rfl (fun hc => ?_) (fun hc => ?_)
   · exfalso; revert hc; simp [go_sem, polyC, hh, decide_true, decide_false, Bool.not_true, Bool.not_false, h0, h1, h2, hq3, hq4, h5, h6, h8, h9, h10, Int.toNat_natCast]
   · try simp only [go_sem, polyC, hh, h0, h1, h2, hq3, hq4, h5, h6, h8, h9, h10] at hc
     all_goals
      refine skip_k ?_
      refine hN3 _ ?_
      refine seq_k fun N6 M6 hN6 hM6 => ?_
      refine seq_k fun N7 M7 hN7 hM7 => ?_
      refine region_k fun K8 hK8 => ?_
      simp only [go_sem, polyC, hh, h0, h1, h2, hq3, hq4, h5, h6, h8, h9, h10]
      all_goals repeat' (first | apply And.intro | intro _)
      all_goals
       refine hK8 _ ?_
       refine hN7 _ ?_
       refine block_k fun B9 bn9 bx9 br9 bi9 => ?_
       refine ht_dropE [0, 1, 5, 6, 7, 8, 9, 10, 11, 12, 13, 14, 15, 16, 17, 18, 19, 20, 21, 22, 23, 24, 25, 26, 27, 28, 29, 30, 31, 32, 33, 34, 35, 36, 37, 38, 39, 40, 41, 42, 43, 44, 45, 46, 47, 48, 49, 50, 51, 52, 53] ?_
       simp only [dropE_mk, fgt_nil, fgt_cons, List.contains_cons, List.contains_nil, Nat.reduceBEq, beq_self_eq_true, Bool.or_false, Bool.or_true, Bool.true_or, Bool.false_or, Bool.false_eq_true, reduceIte]
       refine loop_k (fun y => [(56, .w (.one (.pl (.i ((y.1 : Nat) : Int)))))]) (fun _ => []) (fun y => 16 - y.1) (⟨0, Nat.zero_le _, fun j hj => absurd hj (Nat.not_lt_zero j)⟩ : {y : Nat // y ≤ 16 - k ∧ ∀ j, j < y → held.getD (k + j) 0 = 0}) ?_ ?_ ?_
       · (simp only [go_sem, leX, List.cons_append, List.nil_append]; try simp)
       · (simp only [go_sem, leX, List.cons_append, List.nil_append]; try simp)
       intro yy N10 M10 hN10 hM10
       simp only [List.cons_append, List.nil_append]
       obtain ⟨i, hi, hz⟩ := yy
       have hd : (i < 16 - k ∧ ¬ held.getD (k + i) 0 = 0) ∨ (i < 16 - k ∧ held.getD (k + i) 0 = 0) ∨ i = 16 - k := by
        by_cases h : i = 16 - k
        · exact .inr (.inr h)
        · have : i < 16 - k := by omega
          by_cases h2 : held.getD (k + i) 0 = 0
          · exact .inr (.inl ⟨this, h2⟩)
          · exact .inl ⟨this, h2⟩
       rcases hd with ⟨hlt, hb⟩ | ⟨hlt, hb⟩ | rfl
       · have hcq : ((i : Nat) : Int) < ((16 - k : Nat) : Int) := by omega
         have hc0 : (0 : Int) ≤ ((i : Nat) : Int) := by omega
         have hk1 : k + i < held.length := by omega
         have hk2 : k + (16 - k) ≤ 16 := by omega
         have hk3 : i + 1 ≤ 16 - k := by omega
         have hk4 := one_at (m := 16 - k) hk1 (by omega)
         have hbq : (held.getD (k + i) 0 = 0) = False := eq_false hb
         refine seq_k fun N11 M11 hN11 hM11 => ?_
         refine region_k fun K12 hK12 => ?_
         simp only [go_sem, polyC, hh, h0, h1, h2, hq3, hq4, h5, h6, h8, h9, h10, hcq, hc0, hk2, hk3, hk4, hbq, bytesC_one]
         all_goals repeat' (first | apply And.intro | intro _)
         all_goals
          refine hK12 _ ?_
          refine hN11 _ ?_
          refine seq_k fun N13 M13 hN13 hM13 => ?_
          refine cond_k rfl (fun hc => ?_) (fun hc => ?_)
          · try simp only [go_sem, polyC, hh, h0, h1, h2, hq3, hq4, h5, h6, h8, h9, h10, hcq, hc0, hk2, hk3, hk4, hbq, bytesC_one] at hc
            all_goals
             refine skip_k ?_
             refine hN13 _ ?_
             refine seq_k fun N14 M14 hN14 hM14 => ?_
             refine block_k fun B15 bn15 bx15 br15 bi15 => ?_
             refine seq_k fun N16 M16 hN16 hM16 => ?_
             refine region_k fun K17 hK17 => ?_
             simp only [go_sem, polyC, hh, h0, h1, h2, hq3, hq4, h5, h6, h8, h9, h10, hcq, hc0, hk2, hk3, hk4, hbq, bytesC_one]
             all_goals repeat' (first | apply And.intro | intro _)
             all_goals
              refine hK17 _ ?_
              refine hN16 _ ?_
              refine seq_k fun N18 M18 hN18 hM18 => ?_
              refine region_k fun K19 hK19 => ?_
              simp only [go_sem, polyC, hh, h0, h1, h2, hq3, hq4, h5, h6, h8, h9, h10, hcq, hc0, hk2, hk3, hk4, hbq, bytesC_one]
              all_goals repeat' (first | apply And.intro | intro _)
              all_goals
               refine hK19 _ ?_
               refine hN18 _ ?_
               refine cond_k rfl (fun hc => ?_) (fun hc => ?_)
               · try simp only [go_sem, polyC, hh, h0, h1, h2, hq3, hq4, h5, h6, h8, h9, h10, hcq, hc0, hk2, hk3, hk4, hbq, bytesC_one] at hc
                 all_goals
                  refine seq_k fun N20 M20 hN20 hM20 => ?_
                  refine region_k fun K21 hK21 => ?_
                  simp only [go_sem, polyC, hh, h0, h1, h2, hq3, hq4, h5, h6, h8, h9, h10, hcq, hc0, hk2, hk3, hk4, hbq, bytesC_one]
                  all_goals repeat' (first | apply And.intro | intro _)
                  all_goals
                   refine hK21 _ ?_
                   refine hN20 _ ?_
                   refine ret_k ?_
                   refine br15 _ ?_
                   refine hM14 _ _ ?_
                   refine hM10 _ _ ?_
                   refine br9 _ ?_
                   refine hM6 _ _ ?_
                   simp only [go_sem, polyC, hh, h0, h1, h2, hq3, hq4, h5, h6, h8, h9, h10, hcq, hc0, hk2, hk3, hk4, hbq, bytesC_one]
                   all_goals (rw [perr_no (fun h => hb (h.rest (k + i) (by simp) (by omega)))])
               · exfalso; revert hc; simp [go_sem, polyC, hh, decide_true, decide_false, Bool.not_true, Bool.not_false, h0, h1, h2, hq3, hq4, h5, h6, h8, h9, h10, Int.toNat_natCast, hcq, hc0, hk2, hk3, hk4, hbq, bytesC_one, Int.toNat_natCast]
          · exfalso; revert hc; simp [go_sem, polyC, hh, decide_true, decide_false, Bool.not_true, Bool.not_false, h0, h1, h2, hq3, hq4, h5, h6, h8, h9, h10, Int.toNat_natCast, hcq, hc0, hk2, hk3, hk4, hbq, bytesC_one, Int.toNat_natCast]
       · have hcq : ((i : Nat) : Int) < ((16 - k : Nat) : Int) := by omega
         have hc0 : (0 : Int) ≤ ((i : Nat) : Int) := by omega
         have hk1 : k + i < held.length := by omega
         have hk2 : k + (16 - k) ≤ 16 := by omega
         have hk3 : i + 1 ≤ 16 - k := by omega
         have hk4 := one_at (m := 16 - k) hk1 (by omega)
         have hbq : (held.getD (k + i) 0 = 0) = True := eq_true hb
         have hs1 : Go.RowKit.wrap64 (((i : Nat) : Int) + 1) = ((i + 1 : Nat) : Int) := wnat (by omega) (by omega)
         refine seq_k fun N22 M22 hN22 hM22 => ?_
         refine region_k fun K23 hK23 => ?_
         simp only [go_sem, polyC, hh, h0, h1, h2, hq3, hq4, h5, h6, h8, h9, h10, hcq, hc0, hk2, hk3, hk4, hbq, bytesC_one, hs1]
         all_goals repeat' (first | apply And.intro | intro _)
         all_goals
          refine hK23 _ ?_
          refine hN22 _ ?_
          refine seq_k fun N24 M24 hN24 hM24 => ?_
          refine cond_k rfl (fun hc => ?_) (fun hc => ?_)
          · try simp only [go_sem, polyC, hh, h0, h1, h2, hq3, hq4, h5, h6, h8, h9, h10, hcq, hc0, hk2, hk3, hk4, hbq, bytesC_one, hs1] at hc
            all_goals
             refine skip_k ?_
             refine hN24 _ ?_
             refine seq_k fun N25 M25 hN25 hM25 => ?_
             refine block_k fun B26 bn26 bx26 br26 bi26 => ?_
             refine seq_k fun N27 M27 hN27 hM27 => ?_
             refine region_k fun K28 hK28 => ?_
             simp only [go_sem, polyC, hh, h0, h1, h2, hq3, hq4, h5, h6, h8, h9, h10, hcq, hc0, hk2, hk3, hk4, hbq, bytesC_one, hs1]
             all_goals repeat' (first | apply And.intro | intro _)
             all_goals
              refine hK28 _ ?_
              refine hN27 _ ?_
              refine seq_k fun N29 M29 hN29 hM29 => ?_
              refine region_k fun K30 hK30 => ?_
              simp only [go_sem, polyC, hh, h0, h1, h2, hq3, hq4, h5, h6, h8, h9, h10, hcq, hc0, hk2, hk3, hk4, hbq, bytesC_one, hs1]
              all_goals repeat' (first | apply And.intro | intro _)
              all_goals
               refine hK30 _ ?_
               refine hN29 _ ?_
               refine cond_k rfl (fun hc => ?_) (fun hc => ?_)
               · exfalso; revert hc; simp [go_sem, polyC, hh, decide_true, decide_false, Bool.not_true, Bool.not_false, h0, h1, h2, hq3, hq4, h5, h6, h8, h9, h10, Int.toNat_natCast, hcq, hc0, hk2, hk3, hk4, hbq, bytesC_one, Int.toNat_natCast, hs1]
               · try simp only [go_sem, polyC, hh, h0, h1, h2, hq3, hq4, h5, h6, h8, h9, h10, hcq, hc0, hk2, hk3, hk4, hbq, bytesC_one, hs1] at hc
                 all_goals
                  refine skip_k ?_
                  refine bn26 _ ?_
                  refine hN25 _ ?_
                  refine region_k fun K31 hK31 => ?_
                  simp only [go_sem, polyC, hh, h0, h1, h2, hq3, hq4, h5, h6, h8, h9, h10, hcq, hc0, hk2, hk3, hk4, hbq, bytesC_one, hs1]
                  all_goals repeat' (first | apply And.intro | intro _)
                  all_goals
                   refine hK31 _ ?_
                   refine hN10 ⟨i + 1, by omega, fun j hj => by rcases Nat.lt_succ_iff_lt_or_eq.mp hj with h | rfl; exact hz j h; exact hb⟩ _ ?_ ?_ ?_
                   · (show 16 - (i + 1) < 16 - i; clear hs1; omega)
                   · (simp only [go_sem, leX, List.cons_append, List.nil_append]; try simp)
                   · (simp only [go_sem, leX, List.cons_append, List.nil_append]; try simp)
          · exfalso; revert hc; simp [go_sem, polyC, hh, decide_true, decide_false, Bool.not_true, Bool.not_false, h0, h1, h2, hq3, hq4, h5, h6, h8, h9, h10, Int.toNat_natCast, hcq, hc0, hk2, hk3, hk4, hbq, bytesC_one, Int.toNat_natCast, hs1]
       · have hcq : ¬ ((16 - k : Nat) : Int) < ((16 - k : Nat) : Int) := by omega
         refine seq_k fun N32 M32 hN32 hM32 => ?_
         refine region_k fun K33 hK33 => ?_
         simp only [go_sem, polyC, hh, h0, h1, h2, hq3, hq4, h5, h6, h8, h9, h10, hcq]
         all_goals repeat' (first | apply And.intro | intro _)
         all_goals
          refine hK33 _ ?_
          refine hN32 _ ?_
          refine seq_k fun N34 M34 hN34 hM34 => ?_
          refine cond_k rfl (fun hc => ?_) (fun hc => ?_)
          · exfalso; revert hc; simp [go_sem, polyC, hh, decide_true, decide_false, Bool.not_true, Bool.not_false, h0, h1, h2, hq3, hq4, h5, h6, h8, h9, h10, Int.toNat_natCast, hcq]
          · try simp only [go_sem, polyC, hh, h0, h1, h2, hq3, hq4, h5, h6, h8, h9, h10, hcq] at hc
            all_goals
             refine exit_k ?_
             refine hM34 _ _ ?_
             refine hM10 _ _ ?_
             refine bx9 _ ?_
             refine hN6 _ ?_
             refine seq_k fun N35 M35 hN35 hM35 => ?_
             refine region_k fun K36 hK36 => ?_
             simp only [go_sem, polyC, hh, h0, h1, h2, hq3, hq4, h5, h6, h8, h9, h10, hcq]
             all_goals repeat' (first | apply And.intro | intro _)
             all_goals
              refine hK36 _ ?_
              refine hN35 _ ?_
              refine ret_k ?_
              simp only [go_sem, polyC, hh, h0, h1, h2, hq3, hq4, h5, h6, h8, h9, h10, hcq]
              all_goals (rw [perr_ok ⟨h0, h1, a2_lt h2, acc_lt (a2_lt h2) (.inr (.inr ⟨h3, h4, h5⟩)), by omega, by omega, fun j hj hl => by have := hz (j - k) (by simp at hj; omega); rwa [show k + (j - k) = j from by simp at hj; omega] at this⟩])
end Go.Sy
