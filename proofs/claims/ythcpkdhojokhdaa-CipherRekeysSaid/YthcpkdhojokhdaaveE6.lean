/- A sum that may be: in plain lists; the program's test. -/
import Derived.Test.YthcpkdhojokhdaaveE5
set_option linter.unusedVariables false
set_option linter.unusedSimpArgs false
namespace Go.Sy
open Go.Proofs
attribute [local irreducible] atCall HT runOps runD onC onE onO onG goV goA goS onSt onGuard
structure PolyOk (r0 r1 a0 a1 a2 : UInt64) (held : List UInt8) (n : Int) : Prop where
 f0 : r0 &&& ~~~1152921487695413247 = 0
 f1 : r1 &&& ~~~1152921487695413244 = 0
 f2 : a2.toNat < 4
 acc : val3 a0 a1 a2 < pP
 lo : 0 ≤ n
 hi : n ≤ 15
 rest : ∀ j, n.toNat ≤ j → j < 16 → held.getD j 0 = 0
noncomputable def polyErr (r0 r1 a0 a1 a2 : UInt64) (held : List UInt8) (n : Int) : Int := if Classical.propDecidable (PolyOk r0 r1 a0 a1 a2 held n) |>.decide then 0 else 9
section
variable {r0 r1 a0 a1 a2 : UInt64} {held : List UInt8} {n : Int}
theorem perr_ok (h : PolyOk r0 r1 a0 a1 a2 held n) : polyErr r0 r1 a0 a1 a2 held n = 0 := by unfold polyErr; simp [h]
theorem perr_no (h : ¬ PolyOk r0 r1 a0 a1 a2 held n) : polyErr r0 r1 a0 a1 a2 held n = 9 := by unfold polyErr; simp [h]
theorem one_at {l : List UInt8} {o m i : Nat} (h : o + i < l.length) (hi : i < m) : List.take 1 (List.drop i (List.take m (List.drop o l))) = [l.getD (o + i) 0] := by
 have hl : i < (List.take m (List.drop o l)).length := by rw [List.length_take, List.length_drop]; omega
 rw [List.drop_eq_getElem_cons hl, List.take_succ_cons, List.take_zero]
 simp [List.getElem_take, List.getElem_drop, List.getD, List.getElem?_eq_getElem h]
theorem bytesC_one (x : UInt8) : bytesC [x] = [.pl (.u8 x)] := rfl
theorem acc_lt (h2 : a2.toNat < 4) (h : ¬ a2 = 3 ∨ (a2 = 3 ∧ ¬ a1 = 18446744073709551615) ∨ (a2 = 3 ∧ a1 = 18446744073709551615 ∧ ¬ 18446744073709551611 ≤ a0)) : val3 a0 a1 a2 < pP := by
 have h0 := a0.toNat_lt; have h1 := a1.toNat_lt
 have e3 : (a2 = 3) ↔ a2.toNat = 3 := by rw [← UInt64.toNat_inj]; rfl
 have e1 : (a1 = 18446744073709551615) ↔ a1.toNat = 18446744073709551615 := by rw [← UInt64.toNat_inj]; rfl
 have e0 : (18446744073709551611 ≤ a0) ↔ 18446744073709551611 ≤ a0.toNat := by rw [UInt64.le_iff_toNat_le]; rfl
 rw [e3, e1, e0] at h
 simp only [val3, pP]; omega
theorem acc_ge (h2 : a2 = 3) (h1 : a1 = 18446744073709551615) (h0 : 18446744073709551611 ≤ a0) : ¬ val3 a0 a1 a2 < pP := by
 have e0 : 18446744073709551611 ≤ a0.toNat := UInt64.le_iff_toNat_le.mp h0
 subst h2; subst h1
 simp only [val3, pP, show UInt64.toNat 18446744073709551615 = 18446744073709551615 from rfl, show UInt64.toNat 3 = 3 from rfl]; omega
theorem a2_lt (h : ¬ (3 : UInt64) < a2) : a2.toNat < 4 := by
 have : ¬ 3 < a2.toNat := fun h2 => h (UInt64.lt_iff_toNat_lt.mpr h2)
 omega
theorem a2_ge (h : (3 : UInt64) < a2) : ¬ a2.toNat < 4 := by
 have : 3 < a2.toNat := UInt64.lt_iff_toNat_lt.mp h
 omega
end
set_option maxHeartbeats 800000 in
set_option maxRecDepth 100000 in
theorem pchk_bad0 (r0 r1 p0 p1 a0 a1 a2 : UInt64) (held : List UInt8) (hh : held.length = 16) (n : Int) (h0 : ¬ r0 &&& ~~~1152921487695413247 = 0) :
 Ct Try.prog 15 [.w (.agg (polyC r0 r1 p0 p1 a0 a1 a2 held n))] (fun v m => v = .w (.one (.pl (.i (polyErr r0 r1 a0 a1 a2 held n))))) := by
 refine Ct.k Try.func15 rfl Try.ntmps15 (congrArg Array.toList Try.results15) (by simp) fun w0 ro => ?_
 refine top_k fun zZ zhZ => ?_
 iterate 11 first
  | (refine sr_k fun zK zhK => ?_; simp only [go_sem, polyC, hh, h0]; (repeat' (first | apply And.intro | intro _)))
  | refine zhK _ ?_
  | refine ret_k ?_
  | (refine zhM _ _ ?_; clear zhN zhM)
  | (refine zhZ _ _ ?_; simp only [go_sem, polyC, hh, h0]; (all_goals (rw [perr_no (fun h => h0 h.f0)])))
  | refine seq_k fun zN zM zhN zhM => ?_
  | (refine condT_k ?_ ?_; focus (first | rfl | (simp [go_sem, polyC, hh, h0]; done)))
set_option maxHeartbeats 800000 in
set_option maxRecDepth 100000 in
theorem pchk_bad1 (r0 r1 p0 p1 a0 a1 a2 : UInt64) (held : List UInt8) (hh : held.length = 16) (n : Int) (h0 : r0 &&& ~~~1152921487695413247 = 0) (h1 : ¬ r1 &&& ~~~1152921487695413244 = 0) :
 Ct Try.prog 15 [.w (.agg (polyC r0 r1 p0 p1 a0 a1 a2 held n))] (fun v m => v = .w (.one (.pl (.i (polyErr r0 r1 a0 a1 a2 held n))))) := by
 have F0 := And.intro hh <| And.intro h0 <| h1
 refine Ct.k Try.func15 rfl Try.ntmps15 (congrArg Array.toList Try.results15) (by simp) fun w0 ro => ?_
 refine top_k fun zZ zhZ => ?_
 iterate 11 first
  | (refine sr_k fun zK zhK => ?_; simp only [go_sem, polyC, F0]; (repeat' (first | apply And.intro | intro _)))
  | refine zhK _ ?_
  | refine ret_k ?_
  | (refine zhM _ _ ?_; clear zhN zhM)
  | (refine zhZ _ _ ?_; simp only [go_sem, polyC, F0]; (all_goals (rw [perr_no (fun h => h1 h.f1)])))
  | refine seq_k fun zN zM zhN zhM => ?_
  | (refine condT_k ?_ ?_; focus (first | rfl | (simp [go_sem, polyC, F0]; done)))
set_option maxHeartbeats 800000 in
set_option maxRecDepth 100000 in
theorem pchk_bad2 (r0 r1 p0 p1 a0 a1 a2 : UInt64) (held : List UInt8) (hh : held.length = 16) (n : Int) (h0 : r0 &&& ~~~1152921487695413247 = 0) (h1 : r1 &&& ~~~1152921487695413244 = 0) (h2 : 3 < a2) :
 Ct Try.prog 15 [.w (.agg (polyC r0 r1 p0 p1 a0 a1 a2 held n))] (fun v m => v = .w (.one (.pl (.i (polyErr r0 r1 a0 a1 a2 held n))))) := by
 have F0 := And.intro hh <| And.intro h0 <| And.intro h1 <| h2
 refine Ct.k Try.func15 rfl Try.ntmps15 (congrArg Array.toList Try.results15) (by simp) fun w0 ro => ?_
 refine top_k fun zZ zhZ => ?_
 iterate 11 first
  | (refine sr_k fun zK zhK => ?_; simp only [go_sem, polyC, F0]; (repeat' (first | apply And.intro | intro _)))
  | refine zhK _ ?_
  | refine ret_k ?_
  | (refine zhM _ _ ?_; clear zhN zhM)
  | (refine zhZ _ _ ?_; simp only [go_sem, polyC, F0]; (all_goals (rw [perr_no (fun h => a2_ge h2 h.f2)])))
  | refine seq_k fun zN zM zhN zhM => ?_
  | (refine condT_k ?_ ?_; focus (first | rfl | (simp [go_sem, polyC, F0]; done)))
set_option maxHeartbeats 800000 in
set_option maxRecDepth 100000 in
theorem pchk_bad3 (r0 r1 p0 p1 a0 a1 a2 : UInt64) (held : List UInt8) (hh : held.length = 16) (n : Int) (h0 : r0 &&& ~~~1152921487695413247 = 0) (h1 : r1 &&& ~~~1152921487695413244 = 0) (h2 : ¬ 3 < a2) (h3 : a2 = 3) (h4 : a1 = 18446744073709551615) (h5 : 18446744073709551611 ≤ a0) :
 Ct Try.prog 15 [.w (.agg (polyC r0 r1 p0 p1 a0 a1 a2 held n))] (fun v m => v = .w (.one (.pl (.i (polyErr r0 r1 a0 a1 a2 held n))))) := by
 have hq3 := eq_true h3
 have hq4 := eq_true h4
 have F0 := And.intro hh <| And.intro h0 <| And.intro h1 <| And.intro h2 <| And.intro hq3 <| And.intro hq4 <| h5
 refine Ct.k Try.func15 rfl Try.ntmps15 (congrArg Array.toList Try.results15) (by simp) fun w0 ro => ?_
 refine top_k fun zZ zhZ => ?_
 iterate 11 first
  | (refine sr_k fun zK zhK => ?_; simp only [go_sem, polyC, F0]; (repeat' (first | apply And.intro | intro _)))
  | refine zhK _ ?_
  | refine ret_k ?_
  | (refine zhM _ _ ?_; clear zhN zhM)
  | (refine zhZ _ _ ?_; simp only [go_sem, polyC, F0]; (all_goals (rw [perr_no (fun h => acc_ge h3 h4 h5 h.acc)])))
  | refine seq_k fun zN zM zhN zhM => ?_
  | (refine condT_k ?_ ?_; focus (first | rfl | (simp [go_sem, polyC, F0]; done)))
set_option maxHeartbeats 800000 in
set_option maxRecDepth 100000 in
theorem pchk_plo (r0 r1 p0 p1 a0 a1 a2 : UInt64) (held : List UInt8) (hh : held.length = 16) (n : Int) (h0 : r0 &&& ~~~1152921487695413247 = 0) (h1 : r1 &&& ~~~1152921487695413244 = 0) (h2 : ¬ 3 < a2) (h3 : ¬ a2 = 3) (h6 : n < 0) :
 Ct Try.prog 15 [.w (.agg (polyC r0 r1 p0 p1 a0 a1 a2 held n))] (fun v m => v = .w (.one (.pl (.i (polyErr r0 r1 a0 a1 a2 held n))))) := by
 have F0 := And.intro hh <| And.intro h0 <| And.intro h1 <| And.intro h2 <| And.intro h3 <| h6
 refine Ct.k Try.func15 rfl Try.ntmps15 (congrArg Array.toList Try.results15) (by simp) fun w0 ro => ?_
 refine top_k fun zZ zhZ => ?_
 iterate 11 first
  | (refine sr_k fun zK zhK => ?_; simp only [go_sem, polyC, F0]; (repeat' (first | apply And.intro | intro _)))
  | refine zhK _ ?_
  | refine ret_k ?_
  | (refine zhM _ _ ?_; clear zhN zhM)
  | (refine zhZ _ _ ?_; simp only [go_sem, polyC, F0]; (all_goals (rw [perr_no (fun h => absurd h.lo (by omega))])))
  | refine seq_k fun zN zM zhN zhM => ?_
  | (refine condT_k ?_ ?_; focus (first | rfl | (simp [go_sem, polyC, F0]; done)))
set_option maxHeartbeats 800000 in
set_option maxRecDepth 100000 in
theorem pchk_phi (r0 r1 p0 p1 a0 a1 a2 : UInt64) (held : List UInt8) (hh : held.length = 16) (n : Int) (h0 : r0 &&& ~~~1152921487695413247 = 0) (h1 : r1 &&& ~~~1152921487695413244 = 0) (h2 : ¬ 3 < a2) (h3 : ¬ a2 = 3) (h6 : ¬ n < 0) (h7 : 15 < n) :
 Ct Try.prog 15 [.w (.agg (polyC r0 r1 p0 p1 a0 a1 a2 held n))] (fun v m => v = .w (.one (.pl (.i (polyErr r0 r1 a0 a1 a2 held n))))) := by
 have F0 := And.intro hh <| And.intro h0 <| And.intro h1 <| And.intro h2 <| And.intro h3 <| And.intro h6 <| h7
 refine Ct.k Try.func15 rfl Try.ntmps15 (congrArg Array.toList Try.results15) (by simp) fun w0 ro => ?_
 refine top_k fun zZ zhZ => ?_
 iterate 11 first
  | (refine sr_k fun zK zhK => ?_; simp only [go_sem, polyC, F0]; (repeat' (first | apply And.intro | intro _)))
  | refine zhK _ ?_
  | refine ret_k ?_
  | (refine zhM _ _ ?_; clear zhN zhM)
  | (refine zhZ _ _ ?_; simp only [go_sem, polyC, F0]; (all_goals (rw [perr_no (fun h => absurd h.hi (by omega))])))
  | refine seq_k fun zN zM zhN zhM => ?_
  | (refine condT_k ?_ ?_; focus (first | rfl | (simp [go_sem, polyC, F0]; done)))
set_option maxHeartbeats 1600000 in
set_option maxRecDepth 100000 in
theorem pchk_pok (r0 r1 p0 p1 a0 a1 a2 : UInt64) (held : List UInt8) (hh : held.length = 16) (k : Nat) (h0 : r0 &&& ~~~1152921487695413247 = 0) (h1 : r1 &&& ~~~1152921487695413244 = 0) (h2 : ¬ 3 < a2) (h3 : ¬ a2 = 3) (h7 : k ≤ 15) :
 Ct Try.prog 15 [.w (.agg (polyC r0 r1 p0 p1 a0 a1 a2 held (k : Int)))] (fun v m => v = .w (.one (.pl (.i (polyErr r0 r1 a0 a1 a2 held (k : Int)))))) := by

 have h6 : ¬ ((k : Nat) : Int) < 0 := by omega
 have h8 : ¬ (15 : Int) < ((k : Nat) : Int) := by omega
 have h9 : (0 : Int) ≤ ((k : Nat) : Int) := by omega
 have h10 : ((k : Nat) : Int) ≤ 16 := by omega
 have F0 := And.intro hh <| And.intro h0 <| And.intro h1 <| And.intro h2 <| And.intro h3 <| And.intro h6 <| And.intro h8 <| And.intro h9 <| h10
 refine Ct.k Try.func15 rfl Try.ntmps15 (congrArg Array.toList Try.results15) (by simp) fun w0 ro => ?_
 refine top_k fun zZ zhZ => ?_
 iterate 12 first
  | (refine sr_k fun zK zhK => ?_; simp only [go_sem, polyC, F0]; (repeat' (first | apply And.intro | intro _)))
  | refine zhK _ ?_
  | refine skip_k ?_
  | (refine zhN _ ?_; clear zhN zhM)
  | refine block_k fun zB zbn zbx zbr zbi => ?_
  | refine seq_k fun zN zM zhN zhM => ?_
  | (refine condF_k ?_ ?_; focus (first | rfl | (simp [go_sem, polyC, F0]; done)))
 refine ht_dropE [0, 1, 5, 6, 7, 8, 9, 10, 11, 12, 13, 14, 15, 16, 17, 18, 19, 20, 21, 22, 23, 24, 25, 26, 27, 28, 29, 30, 31, 32, 33, 34, 35, 36, 37, 38, 39, 40, 41, 42, 43, 44, 45, 46, 47, 48, 49, 50, 51, 52, 53] ?_
 simp only [dropE_mk, fgt_nil, fgt_cons, List.contains_cons, List.contains_nil, Nat.reduceBEq, beq_self_eq_true, Bool.or_false, Bool.or_true, Bool.true_or, Bool.false_or, Bool.false_eq_true, reduceIte]
 refine loop_k (fun y => [(56, .w (.one (.pl (.i ((y.1 : Nat) : Int)))))]) (fun _ => []) (fun y => 16 - y.1) (⟨0, Nat.zero_le _, fun j hj => absurd hj (Nat.not_lt_zero j)⟩ : {y : Nat // y ≤ 16 - k ∧ ∀ j, j < y → held.getD (k + j) 0 = 0}) ?_ ?_ ?_
 · (simp only [go_sem, leX, List.cons_append, List.nil_append]; try simp)
 · (simp only [go_sem, leX, List.cons_append, List.nil_append]; try simp)
 intro yy zN zM zhN zhM
 simp only [List.cons_append, List.nil_append]
 obtain ⟨i, hi, hz⟩ := yy
 have hd : (i < 16 - k ∧ ¬ held.getD (k + i) 0 = 0) ∨ (i < 16 - k ∧ held.getD (k + i) 0 = 0) ∨ i = 16 - k := by
  by_cases h : i = 16 - k
  · exact .inr (.inr h)
  · have : i < 16 - k := by omega
    by_cases h2 : held.getD (k + i) 0 = 0
    · exact .inr (.inl ⟨this, h2⟩)
    · exact .inl ⟨this, h2⟩
 rcases hd with ⟨hlt, hb⟩ | ⟨hlt, hb⟩ | rfl
 · have hcq : ((i : Nat) : Int) < ((16 - k : Nat) : Int) := by omega
   have hc0 : (0 : Int) ≤ ((i : Nat) : Int) := by omega
   have hk1 : k + i < held.length := by omega
   have hk2 : k + (16 - k) ≤ 16 := by omega
   have hk3 : i + 1 ≤ 16 - k := by omega
   have hk4 := one_at (m := 16 - k) hk1 (by omega)
   have hbq : (held.getD (k + i) 0 = 0) = False := eq_false hb
   have F7 := And.intro hcq <| And.intro hc0 <| And.intro hk2 <| And.intro hk3 <| And.intro hk4 <| hbq
   iterate 22 first
    | (refine sr_k fun zK zhK => ?_; simp only [go_sem, polyC, F0, bytesC_one, F7]; (repeat' (first | apply And.intro | intro _)))
    | refine zhK _ ?_
    | (refine zhM _ _ ?_; clear zhN zhM)
    | (refine zbr _ ?_; clear zbn zbx zbr zbi)
    | refine skip_k ?_
    | (refine zhN _ ?_; clear zhN zhM)
    | refine block_k fun zB zbn zbx zbr zbi => ?_
    | refine ret_k ?_
    | (refine zhZ _ _ ?_; simp only [go_sem, polyC, F0, bytesC_one, F7]; (all_goals (rw [perr_no (fun h => hb (h.rest (k + i) (by simp) (by omega)))])))
    | refine seq_k fun zN zM zhN zhM => ?_
    | (refine condT_k ?_ ?_; focus (first | rfl | (simp [go_sem, polyC, F0, bytesC_one, F7]; done)))
 · have hcq : ((i : Nat) : Int) < ((16 - k : Nat) : Int) := by omega
   have hc0 : (0 : Int) ≤ ((i : Nat) : Int) := by omega
   have hk1 : k + i < held.length := by omega
   have hk2 : k + (16 - k) ≤ 16 := by omega
   have hk3 : i + 1 ≤ 16 - k := by omega
   have hk4 := one_at (m := 16 - k) hk1 (by omega)
   have hbq : (held.getD (k + i) 0 = 0) = True := eq_true hb
   have hs1 : Go.RowKit.wrap64 (((i : Nat) : Int) + 1) = ((i + 1 : Nat) : Int) := wnat (by omega) (by omega)
   have F14 := And.intro hcq <| And.intro hc0 <| And.intro hk2 <| And.intro hk3 <| And.intro hk4 <| And.intro hbq <| hs1
   iterate 18 first
    | refine zhK _ ?_
    | (refine sr_k fun zK zhK => ?_; simp only [go_sem, polyC, F0, bytesC_one, F14]; (repeat' (first | apply And.intro | intro _)))
    | refine skip_k ?_
    | (refine zhN _ ?_; clear zhN zhM)
    | refine block_k fun zB zbn zbx zbr zbi => ?_
    | (refine zbn _ ?_; clear zbn zbx zbr zbi)
    | (refine region_k fun zK zhK => ?_; simp only [go_sem, polyC, F0, bytesC_one, F14]; (repeat' (first | apply And.intro | intro _)))
    | refine seq_k fun zN zM zhN zhM => ?_
    | (refine condT_k ?_ ?_; focus (first | rfl | (simp [go_sem, polyC, F0, bytesC_one, F14]; done)))
    | (refine condF_k ?_ ?_; focus (first | rfl | (simp [go_sem, polyC, F0, bytesC_one, F14]; done)))
   refine zhN ⟨i + 1, by omega, fun j hj => by rcases Nat.lt_succ_iff_lt_or_eq.mp hj with h | rfl; exact hz j h; exact hb⟩ _ ?_ ?_ ?_
   · (show 16 - (i + 1) < 16 - i; clear hs1; omega)
   · (simp only [go_sem, leX, List.cons_append, List.nil_append]; try simp)
   · (simp only [go_sem, leX, List.cons_append, List.nil_append]; try simp)
 · have hcq : ¬ ((16 - k : Nat) : Int) < ((16 - k : Nat) : Int) := by omega
   refine sr_k fun zK zhK => ?_
   simp only [go_sem, polyC, F0, hcq]
   repeat' (first | apply And.intro | intro _)
   refine zhK _ ?_
   refine seq_k fun zN zM zhN zhM => ?_
   (refine condF_k ?_ ?_; focus (first | rfl | (simp [go_sem, polyC, F0, hcq]; done)))
   refine exit_k ?_
   refine zhM _ _ ?_; clear zhN zhM
   refine zhM _ _ ?_; clear zhN zhM
   refine zbx _ ?_; clear zbn zbx zbr zbi
   refine zhN _ ?_; clear zhN zhM
   refine sr_k fun zK zhK => ?_
   simp only [go_sem, polyC, F0, hcq]
   repeat' (first | apply And.intro | intro _)
   refine zhK _ ?_
   refine ret_k ?_
   refine zhZ _ _ ?_
   simp only [go_sem, polyC, F0, hcq]
   all_goals (rw [perr_ok ⟨h0, h1, a2_lt h2, acc_lt (a2_lt h2) (.inl h3), by omega, by omega, fun j hj hl => by have := hz (j - k) (by simp at hj; omega); rwa [show k + (j - k) = j from by simp at hj; omega] at this⟩])
set_option maxHeartbeats 800000 in
set_option maxRecDepth 100000 in
theorem pchk_qlo (r0 r1 p0 p1 a0 a1 a2 : UInt64) (held : List UInt8) (hh : held.length = 16) (n : Int) (h0 : r0 &&& ~~~1152921487695413247 = 0) (h1 : r1 &&& ~~~1152921487695413244 = 0) (h2 : ¬ 3 < a2) (h3 : a2 = 3) (h4 : ¬ a1 = 18446744073709551615) (h6 : n < 0) :
 Ct Try.prog 15 [.w (.agg (polyC r0 r1 p0 p1 a0 a1 a2 held n))] (fun v m => v = .w (.one (.pl (.i (polyErr r0 r1 a0 a1 a2 held n))))) := by
 have hq3 := eq_true h3
 have F0 := And.intro hh <| And.intro h0 <| And.intro h1 <| And.intro h2 <| And.intro hq3 <| And.intro h4 <| h6
 refine Ct.k Try.func15 rfl Try.ntmps15 (congrArg Array.toList Try.results15) (by simp) fun w0 ro => ?_
 refine top_k fun zZ zhZ => ?_
 iterate 11 first
  | (refine sr_k fun zK zhK => ?_; simp only [go_sem, polyC, F0]; (repeat' (first | apply And.intro | intro _)))
  | refine zhK _ ?_
  | refine ret_k ?_
  | (refine zhM _ _ ?_; clear zhN zhM)
  | (refine zhZ _ _ ?_; simp only [go_sem, polyC, F0]; (all_goals (rw [perr_no (fun h => absurd h.lo (by omega))])))
  | refine seq_k fun zN zM zhN zhM => ?_
  | (refine condT_k ?_ ?_; focus (first | rfl | (simp [go_sem, polyC, F0]; done)))
set_option maxHeartbeats 800000 in
set_option maxRecDepth 100000 in
theorem pchk_qhi (r0 r1 p0 p1 a0 a1 a2 : UInt64) (held : List UInt8) (hh : held.length = 16) (n : Int) (h0 : r0 &&& ~~~1152921487695413247 = 0) (h1 : r1 &&& ~~~1152921487695413244 = 0) (h2 : ¬ 3 < a2) (h3 : a2 = 3) (h4 : ¬ a1 = 18446744073709551615) (h6 : ¬ n < 0) (h7 : 15 < n) :
 Ct Try.prog 15 [.w (.agg (polyC r0 r1 p0 p1 a0 a1 a2 held n))] (fun v m => v = .w (.one (.pl (.i (polyErr r0 r1 a0 a1 a2 held n))))) := by
 have hq3 := eq_true h3
 have F0 := And.intro hh <| And.intro h0 <| And.intro h1 <| And.intro h2 <| And.intro hq3 <| And.intro h4 <| And.intro h6 <| h7
 refine Ct.k Try.func15 rfl Try.ntmps15 (congrArg Array.toList Try.results15) (by simp) fun w0 ro => ?_
 refine top_k fun zZ zhZ => ?_
 iterate 11 first
  | (refine sr_k fun zK zhK => ?_; simp only [go_sem, polyC, F0]; (repeat' (first | apply And.intro | intro _)))
  | refine zhK _ ?_
  | refine ret_k ?_
  | (refine zhM _ _ ?_; clear zhN zhM)
  | (refine zhZ _ _ ?_; simp only [go_sem, polyC, F0]; (all_goals (rw [perr_no (fun h => absurd h.hi (by omega))])))
  | refine seq_k fun zN zM zhN zhM => ?_
  | (refine condT_k ?_ ?_; focus (first | rfl | (simp [go_sem, polyC, F0]; done)))
set_option maxHeartbeats 1600000 in
set_option maxRecDepth 100000 in
theorem pchk_qok (r0 r1 p0 p1 a0 a1 a2 : UInt64) (held : List UInt8) (hh : held.length = 16) (k : Nat) (h0 : r0 &&& ~~~1152921487695413247 = 0) (h1 : r1 &&& ~~~1152921487695413244 = 0) (h2 : ¬ 3 < a2) (h3 : a2 = 3) (h4 : ¬ a1 = 18446744073709551615) (h7 : k ≤ 15) :
 Ct Try.prog 15 [.w (.agg (polyC r0 r1 p0 p1 a0 a1 a2 held (k : Int)))] (fun v m => v = .w (.one (.pl (.i (polyErr r0 r1 a0 a1 a2 held (k : Int)))))) := by
 have hq3 := eq_true h3
 have h6 : ¬ ((k : Nat) : Int) < 0 := by omega
 have h8 : ¬ (15 : Int) < ((k : Nat) : Int) := by omega
 have h9 : (0 : Int) ≤ ((k : Nat) : Int) := by omega
 have h10 : ((k : Nat) : Int) ≤ 16 := by omega
 have F0 := And.intro hh <| And.intro h0 <| And.intro h1 <| And.intro h2 <| And.intro hq3 <| And.intro h4 <| And.intro h6 <| And.intro h8 <| And.intro h9 <| h10
 refine Ct.k Try.func15 rfl Try.ntmps15 (congrArg Array.toList Try.results15) (by simp) fun w0 ro => ?_
 refine top_k fun zZ zhZ => ?_
 iterate 12 first
  | (refine sr_k fun zK zhK => ?_; simp only [go_sem, polyC, F0]; (repeat' (first | apply And.intro | intro _)))
  | refine zhK _ ?_
  | refine skip_k ?_
  | (refine zhN _ ?_; clear zhN zhM)
  | refine block_k fun zB zbn zbx zbr zbi => ?_
  | refine seq_k fun zN zM zhN zhM => ?_
  | (refine condF_k ?_ ?_; focus (first | rfl | (simp [go_sem, polyC, F0]; done)))
 refine ht_dropE [0, 1, 5, 6, 7, 8, 9, 10, 11, 12, 13, 14, 15, 16, 17, 18, 19, 20, 21, 22, 23, 24, 25, 26, 27, 28, 29, 30, 31, 32, 33, 34, 35, 36, 37, 38, 39, 40, 41, 42, 43, 44, 45, 46, 47, 48, 49, 50, 51, 52, 53] ?_
 simp only [dropE_mk, fgt_nil, fgt_cons, List.contains_cons, List.contains_nil, Nat.reduceBEq, beq_self_eq_true, Bool.or_false, Bool.or_true, Bool.true_or, Bool.false_or, Bool.false_eq_true, reduceIte]
 refine loop_k (fun y => [(56, .w (.one (.pl (.i ((y.1 : Nat) : Int)))))]) (fun _ => []) (fun y => 16 - y.1) (⟨0, Nat.zero_le _, fun j hj => absurd hj (Nat.not_lt_zero j)⟩ : {y : Nat // y ≤ 16 - k ∧ ∀ j, j < y → held.getD (k + j) 0 = 0}) ?_ ?_ ?_
 · (simp only [go_sem, leX, List.cons_append, List.nil_append]; try simp)
 · (simp only [go_sem, leX, List.cons_append, List.nil_append]; try simp)
 intro yy zN zM zhN zhM
 simp only [List.cons_append, List.nil_append]
 obtain ⟨i, hi, hz⟩ := yy
 have hd : (i < 16 - k ∧ ¬ held.getD (k + i) 0 = 0) ∨ (i < 16 - k ∧ held.getD (k + i) 0 = 0) ∨ i = 16 - k := by
  by_cases h : i = 16 - k
  · exact .inr (.inr h)
  · have : i < 16 - k := by omega
    by_cases h2 : held.getD (k + i) 0 = 0
    · exact .inr (.inl ⟨this, h2⟩)
    · exact .inl ⟨this, h2⟩
 rcases hd with ⟨hlt, hb⟩ | ⟨hlt, hb⟩ | rfl
 · have hcq : ((i : Nat) : Int) < ((16 - k : Nat) : Int) := by omega
   have hc0 : (0 : Int) ≤ ((i : Nat) : Int) := by omega
   have hk1 : k + i < held.length := by omega
   have hk2 : k + (16 - k) ≤ 16 := by omega
   have hk3 : i + 1 ≤ 16 - k := by omega
   have hk4 := one_at (m := 16 - k) hk1 (by omega)
   have hbq : (held.getD (k + i) 0 = 0) = False := eq_false hb
   have F7 := And.intro hcq <| And.intro hc0 <| And.intro hk2 <| And.intro hk3 <| And.intro hk4 <| hbq
   iterate 22 first
    | (refine sr_k fun zK zhK => ?_; simp only [go_sem, polyC, F0, bytesC_one, F7]; (repeat' (first | apply And.intro | intro _)))
    | refine zhK _ ?_
    | (refine zhM _ _ ?_; clear zhN zhM)
    | (refine zbr _ ?_; clear zbn zbx zbr zbi)
    | refine skip_k ?_
    | (refine zhN _ ?_; clear zhN zhM)
    | refine block_k fun zB zbn zbx zbr zbi => ?_
    | refine ret_k ?_
    | (refine zhZ _ _ ?_; simp only [go_sem, polyC, F0, bytesC_one, F7]; (all_goals (rw [perr_no (fun h => hb (h.rest (k + i) (by simp) (by omega)))])))
    | refine seq_k fun zN zM zhN zhM => ?_
    | (refine condT_k ?_ ?_; focus (first | rfl | (simp [go_sem, polyC, F0, bytesC_one, F7]; done)))
 · have hcq : ((i : Nat) : Int) < ((16 - k : Nat) : Int) := by omega
   have hc0 : (0 : Int) ≤ ((i : Nat) : Int) := by omega
   have hk1 : k + i < held.length := by omega
   have hk2 : k + (16 - k) ≤ 16 := by omega
   have hk3 : i + 1 ≤ 16 - k := by omega
   have hk4 := one_at (m := 16 - k) hk1 (by omega)
   have hbq : (held.getD (k + i) 0 = 0) = True := eq_true hb
   have hs1 : Go.RowKit.wrap64 (((i : Nat) : Int) + 1) = ((i + 1 : Nat) : Int) := wnat (by omega) (by omega)
   have F14 := And.intro hcq <| And.intro hc0 <| And.intro hk2 <| And.intro hk3 <| And.intro hk4 <| And.intro hbq <| hs1
   iterate 18 first
    | refine zhK _ ?_
    | (refine sr_k fun zK zhK => ?_; simp only [go_sem, polyC, F0, bytesC_one, F14]; (repeat' (first | apply And.intro | intro _)))
    | refine skip_k ?_
    | (refine zhN _ ?_; clear zhN zhM)
    | refine block_k fun zB zbn zbx zbr zbi => ?_
    | (refine zbn _ ?_; clear zbn zbx zbr zbi)
    | (refine region_k fun zK zhK => ?_; simp only [go_sem, polyC, F0, bytesC_one, F14]; (repeat' (first | apply And.intro | intro _)))
    | refine seq_k fun zN zM zhN zhM => ?_
    | (refine condT_k ?_ ?_; focus (first | rfl | (simp [go_sem, polyC, F0, bytesC_one, F14]; done)))
    | (refine condF_k ?_ ?_; focus (first | rfl | (simp [go_sem, polyC, F0, bytesC_one, F14]; done)))
   refine zhN ⟨i + 1, by omega, fun j hj => by rcases Nat.lt_succ_iff_lt_or_eq.mp hj with h | rfl; exact hz j h; exact hb⟩ _ ?_ ?_ ?_
   · (show 16 - (i + 1) < 16 - i; clear hs1; omega)
   · (simp only [go_sem, leX, List.cons_append, List.nil_append]; try simp)
   · (simp only [go_sem, leX, List.cons_append, List.nil_append]; try simp)
 · have hcq : ¬ ((16 - k : Nat) : Int) < ((16 - k : Nat) : Int) := by omega
   refine sr_k fun zK zhK => ?_
   simp only [go_sem, polyC, F0, hcq]
   repeat' (first | apply And.intro | intro _)
   refine zhK _ ?_
   refine seq_k fun zN zM zhN zhM => ?_
   (refine condF_k ?_ ?_; focus (first | rfl | (simp [go_sem, polyC, F0, hcq]; done)))
   refine exit_k ?_
   refine zhM _ _ ?_; clear zhN zhM
   refine zhM _ _ ?_; clear zhN zhM
   refine zbx _ ?_; clear zbn zbx zbr zbi
   refine zhN _ ?_; clear zhN zhM
   refine sr_k fun zK zhK => ?_
   simp only [go_sem, polyC, F0, hcq]
   repeat' (first | apply And.intro | intro _)
   refine zhK _ ?_
   refine ret_k ?_
   refine zhZ _ _ ?_
   simp only [go_sem, polyC, F0, hcq]
   all_goals (rw [perr_ok ⟨h0, h1, a2_lt h2, acc_lt (a2_lt h2) (.inr (.inl ⟨h3, h4⟩)), by omega, by omega, fun j hj hl => by have := hz (j - k) (by simp at hj; omega); rwa [show k + (j - k) = j from by simp at hj; omega] at this⟩])
set_option maxHeartbeats 800000 in
set_option maxRecDepth 100000 in
theorem pchk_rlo (r0 r1 p0 p1 a0 a1 a2 : UInt64) (held : List UInt8) (hh : held.length = 16) (n : Int) (h0 : r0 &&& ~~~1152921487695413247 = 0) (h1 : r1 &&& ~~~1152921487695413244 = 0) (h2 : ¬ 3 < a2) (h3 : a2 = 3) (h4 : a1 = 18446744073709551615) (h5 : ¬ 18446744073709551611 ≤ a0) (h6 : n < 0) :
 Ct Try.prog 15 [.w (.agg (polyC r0 r1 p0 p1 a0 a1 a2 held n))] (fun v m => v = .w (.one (.pl (.i (polyErr r0 r1 a0 a1 a2 held n))))) := by
 have hq3 := eq_true h3
 have hq4 := eq_true h4
 have F0 := And.intro hh <| And.intro h0 <| And.intro h1 <| And.intro h2 <| And.intro hq3 <| And.intro hq4 <| And.intro h5 <| h6
 refine Ct.k Try.func15 rfl Try.ntmps15 (congrArg Array.toList Try.results15) (by simp) fun w0 ro => ?_
 refine top_k fun zZ zhZ => ?_
 iterate 11 first
  | (refine sr_k fun zK zhK => ?_; simp only [go_sem, polyC, F0]; (repeat' (first | apply And.intro | intro _)))
  | refine zhK _ ?_
  | refine ret_k ?_
  | (refine zhM _ _ ?_; clear zhN zhM)
  | (refine zhZ _ _ ?_; simp only [go_sem, polyC, F0]; (all_goals (rw [perr_no (fun h => absurd h.lo (by omega))])))
  | refine seq_k fun zN zM zhN zhM => ?_
  | (refine condT_k ?_ ?_; focus (first | rfl | (simp [go_sem, polyC, F0]; done)))
set_option maxHeartbeats 800000 in
set_option maxRecDepth 100000 in
theorem pchk_rhi (r0 r1 p0 p1 a0 a1 a2 : UInt64) (held : List UInt8) (hh : held.length = 16) (n : Int) (h0 : r0 &&& ~~~1152921487695413247 = 0) (h1 : r1 &&& ~~~1152921487695413244 = 0) (h2 : ¬ 3 < a2) (h3 : a2 = 3) (h4 : a1 = 18446744073709551615) (h5 : ¬ 18446744073709551611 ≤ a0) (h6 : ¬ n < 0) (h7 : 15 < n) :
 Ct Try.prog 15 [.w (.agg (polyC r0 r1 p0 p1 a0 a1 a2 held n))] (fun v m => v = .w (.one (.pl (.i (polyErr r0 r1 a0 a1 a2 held n))))) := by
 have hq3 := eq_true h3
 have hq4 := eq_true h4
 have F0 := And.intro hh <| And.intro h0 <| And.intro h1 <| And.intro h2 <| And.intro hq3 <| And.intro hq4 <| And.intro h5 <| And.intro h6 <| h7
 refine Ct.k Try.func15 rfl Try.ntmps15 (congrArg Array.toList Try.results15) (by simp) fun w0 ro => ?_
 refine top_k fun zZ zhZ => ?_
 iterate 11 first
  | (refine sr_k fun zK zhK => ?_; simp only [go_sem, polyC, F0]; (repeat' (first | apply And.intro | intro _)))
  | refine zhK _ ?_
  | refine ret_k ?_
  | (refine zhM _ _ ?_; clear zhN zhM)
  | (refine zhZ _ _ ?_; simp only [go_sem, polyC, F0]; (all_goals (rw [perr_no (fun h => absurd h.hi (by omega))])))
  | refine seq_k fun zN zM zhN zhM => ?_
  | (refine condT_k ?_ ?_; focus (first | rfl | (simp [go_sem, polyC, F0]; done)))
set_option maxHeartbeats 1600000 in
set_option maxRecDepth 100000 in
theorem pchk_rok (r0 r1 p0 p1 a0 a1 a2 : UInt64) (held : List UInt8) (hh : held.length = 16) (k : Nat) (h0 : r0 &&& ~~~1152921487695413247 = 0) (h1 : r1 &&& ~~~1152921487695413244 = 0) (h2 : ¬ 3 < a2) (h3 : a2 = 3) (h4 : a1 = 18446744073709551615) (h5 : ¬ 18446744073709551611 ≤ a0) (h7 : k ≤ 15) :
 Ct Try.prog 15 [.w (.agg (polyC r0 r1 p0 p1 a0 a1 a2 held (k : Int)))] (fun v m => v = .w (.one (.pl (.i (polyErr r0 r1 a0 a1 a2 held (k : Int)))))) := by
 have hq3 := eq_true h3
 have hq4 := eq_true h4
 have h6 : ¬ ((k : Nat) : Int) < 0 := by omega
 have h8 : ¬ (15 : Int) < ((k : Nat) : Int) := by omega
 have h9 : (0 : Int) ≤ ((k : Nat) : Int) := by omega
 have h10 : ((k : Nat) : Int) ≤ 16 := by omega
 have F0 := And.intro hh <| And.intro h0 <| And.intro h1 <| And.intro h2 <| And.intro hq3 <| And.intro hq4 <| And.intro h5 <| And.intro h6 <| And.intro h8 <| And.intro h9 <| h10
 refine Ct.k Try.func15 rfl Try.ntmps15 (congrArg Array.toList Try.results15) (by simp) fun w0 ro => ?_
 refine top_k fun zZ zhZ => ?_
 iterate 12 first
  | (refine sr_k fun zK zhK => ?_; simp only [go_sem, polyC, F0]; (repeat' (first | apply And.intro | intro _)))
  | refine zhK _ ?_
  | refine skip_k ?_
  | (refine zhN _ ?_; clear zhN zhM)
  | refine block_k fun zB zbn zbx zbr zbi => ?_
  | refine seq_k fun zN zM zhN zhM => ?_
  | (refine condF_k ?_ ?_; focus (first | rfl | (simp [go_sem, polyC, F0]; done)))
 refine ht_dropE [0, 1, 5, 6, 7, 8, 9, 10, 11, 12, 13, 14, 15, 16, 17, 18, 19, 20, 21, 22, 23, 24, 25, 26, 27, 28, 29, 30, 31, 32, 33, 34, 35, 36, 37, 38, 39, 40, 41, 42, 43, 44, 45, 46, 47, 48, 49, 50, 51, 52, 53] ?_
 simp only [dropE_mk, fgt_nil, fgt_cons, List.contains_cons, List.contains_nil, Nat.reduceBEq, beq_self_eq_true, Bool.or_false, Bool.or_true, Bool.true_or, Bool.false_or, Bool.false_eq_true, reduceIte]
 refine loop_k (fun y => [(56, .w (.one (.pl (.i ((y.1 : Nat) : Int)))))]) (fun _ => []) (fun y => 16 - y.1) (⟨0, Nat.zero_le _, fun j hj => absurd hj (Nat.not_lt_zero j)⟩ : {y : Nat // y ≤ 16 - k ∧ ∀ j, j < y → held.getD (k + j) 0 = 0}) ?_ ?_ ?_
 · (simp only [go_sem, leX, List.cons_append, List.nil_append]; try simp)
 · (simp only [go_sem, leX, List.cons_append, List.nil_append]; try simp)
 intro yy zN zM zhN zhM
 simp only [List.cons_append, List.nil_append]
 obtain ⟨i, hi, hz⟩ := yy
 have hd : (i < 16 - k ∧ ¬ held.getD (k + i) 0 = 0) ∨ (i < 16 - k ∧ held.getD (k + i) 0 = 0) ∨ i = 16 - k := by
  by_cases h : i = 16 - k
  · exact .inr (.inr h)
  · have : i < 16 - k := by omega
    by_cases h2 : held.getD (k + i) 0 = 0
    · exact .inr (.inl ⟨this, h2⟩)
    · exact .inl ⟨this, h2⟩
 rcases hd with ⟨hlt, hb⟩ | ⟨hlt, hb⟩ | rfl
 · have hcq : ((i : Nat) : Int) < ((16 - k : Nat) : Int) := by omega
   have hc0 : (0 : Int) ≤ ((i : Nat) : Int) := by omega
   have hk1 : k + i < held.length := by omega
   have hk2 : k + (16 - k) ≤ 16 := by omega
   have hk3 : i + 1 ≤ 16 - k := by omega
   have hk4 := one_at (m := 16 - k) hk1 (by omega)
   have hbq : (held.getD (k + i) 0 = 0) = False := eq_false hb
   have F7 := And.intro hcq <| And.intro hc0 <| And.intro hk2 <| And.intro hk3 <| And.intro hk4 <| hbq
   iterate 22 first
    | (refine sr_k fun zK zhK => ?_; simp only [go_sem, polyC, F0, bytesC_one, F7]; (repeat' (first | apply And.intro | intro _)))
    | refine zhK _ ?_
    | (refine zhM _ _ ?_; clear zhN zhM)
    | (refine zbr _ ?_; clear zbn zbx zbr zbi)
    | refine skip_k ?_
    | (refine zhN _ ?_; clear zhN zhM)
    | refine block_k fun zB zbn zbx zbr zbi => ?_
    | refine ret_k ?_
    | (refine zhZ _ _ ?_; simp only [go_sem, polyC, F0, bytesC_one, F7]; (all_goals (rw [perr_no (fun h => hb (h.rest (k + i) (by simp) (by omega)))])))
    | refine seq_k fun zN zM zhN zhM => ?_
    | (refine condT_k ?_ ?_; focus (first | rfl | (simp [go_sem, polyC, F0, bytesC_one, F7]; done)))
 · have hcq : ((i : Nat) : Int) < ((16 - k : Nat) : Int) := by omega
   have hc0 : (0 : Int) ≤ ((i : Nat) : Int) := by omega
   have hk1 : k + i < held.length := by omega
   have hk2 : k + (16 - k) ≤ 16 := by omega
   have hk3 : i + 1 ≤ 16 - k := by omega
   have hk4 := one_at (m := 16 - k) hk1 (by omega)
   have hbq : (held.getD (k + i) 0 = 0) = True := eq_true hb
   have hs1 : Go.RowKit.wrap64 (((i : Nat) : Int) + 1) = ((i + 1 : Nat) : Int) := wnat (by omega) (by omega)
   have F14 := And.intro hcq <| And.intro hc0 <| And.intro hk2 <| And.intro hk3 <| And.intro hk4 <| And.intro hbq <| hs1
   iterate 18 first
    | refine zhK _ ?_
    | (refine sr_k fun zK zhK => ?_; simp only [go_sem, polyC, F0, bytesC_one, F14]; (repeat' (first | apply And.intro | intro _)))
    | refine skip_k ?_
    | (refine zhN _ ?_; clear zhN zhM)
    | refine block_k fun zB zbn zbx zbr zbi => ?_
    | (refine zbn _ ?_; clear zbn zbx zbr zbi)
    | (refine region_k fun zK zhK => ?_; simp only [go_sem, polyC, F0, bytesC_one, F14]; (repeat' (first | apply And.intro | intro _)))
    | refine seq_k fun zN zM zhN zhM => ?_
    | (refine condT_k ?_ ?_; focus (first | rfl | (simp [go_sem, polyC, F0, bytesC_one, F14]; done)))
    | (refine condF_k ?_ ?_; focus (first | rfl | (simp [go_sem, polyC, F0, bytesC_one, F14]; done)))
   refine zhN ⟨i + 1, by omega, fun j hj => by rcases Nat.lt_succ_iff_lt_or_eq.mp hj with h | rfl; exact hz j h; exact hb⟩ _ ?_ ?_ ?_
   · (show 16 - (i + 1) < 16 - i; clear hs1; omega)
   · (simp only [go_sem, leX, List.cons_append, List.nil_append]; try simp)
   · (simp only [go_sem, leX, List.cons_append, List.nil_append]; try simp)
 · have hcq : ¬ ((16 - k : Nat) : Int) < ((16 - k : Nat) : Int) := by omega
   refine sr_k fun zK zhK => ?_
   simp only [go_sem, polyC, F0, hcq]
   repeat' (first | apply And.intro | intro _)
   refine zhK _ ?_
   refine seq_k fun zN zM zhN zhM => ?_
   (refine condF_k ?_ ?_; focus (first | rfl | (simp [go_sem, polyC, F0, hcq]; done)))
   refine exit_k ?_
   refine zhM _ _ ?_; clear zhN zhM
   refine zhM _ _ ?_; clear zhN zhM
   refine zbx _ ?_; clear zbn zbx zbr zbi
   refine zhN _ ?_; clear zhN zhM
   refine sr_k fun zK zhK => ?_
   simp only [go_sem, polyC, F0, hcq]
   repeat' (first | apply And.intro | intro _)
   refine zhK _ ?_
   refine ret_k ?_
   refine zhZ _ _ ?_
   simp only [go_sem, polyC, F0, hcq]
   all_goals (rw [perr_ok ⟨h0, h1, a2_lt h2, acc_lt (a2_lt h2) (.inr (.inr ⟨h3, h4, h5⟩)), by omega, by omega, fun j hj hl => by have := hz (j - k) (by simp at hj; omega); rwa [show k + (j - k) = j from by simp at hj; omega] at this⟩])
end Go.Sy

