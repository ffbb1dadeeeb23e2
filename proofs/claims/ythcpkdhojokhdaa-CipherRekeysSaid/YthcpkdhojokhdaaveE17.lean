/- Walks: the end of a sum. -/
import Derived.Test.YthcpkdhojokhdaaveE14
import Derived.Test.YthcpkdhojokhdaavP8
set_option linter.unusedVariables false
set_option linter.unusedSimpArgs false
namespace Go.Sy
open Go.Proofs
attribute [local irreducible] atCall HT runOps runD onC onE onO onG goV goA goS onSt onGuard
theorem soak_part (r0 r1 p0 p1 a0 a1 a2 : UInt64) (held : List UInt8) (hh : held.length = 16) (ha : val3 a0 a1 a2 < pP) (hr : r1.toNat < 1152921504606846976) (k : Nat) (hk : k < 16) (hz : ∀ j, k ≤ j → j < 16 → held.getD j 0 = 0) : Ct Try.prog 44 [.w (.agg (polyC r0 r1 p0 p1 a0 a1 a2 held (k : Int)))] (fun v m => v = .w (.agg (polyC r0 r1 p0 p1 (sp0 (soakV a0 a1 a2 r0 r1 (held.take k))) (sp1 (soakV a0 a1 a2 r0 r1 (held.take k))) (sp2 (soakV a0 a1 a2 r0 r1 (held.take k))) (List.replicate 16 0) 0))) := by
 rcases Nat.lt_or_ge k 8 with h8 | h8
 · exact soak_lo r0 r1 p0 p1 a0 a1 a2 held hh ha hr k hk hz h8
 · exact soak_hi r0 r1 p0 p1 a0 a1 a2 held hh ha hr k hk hz h8
theorem z16 : bytesC (List.replicate 16 0) = [.pl (.u8 0), .pl (.u8 0), .pl (.u8 0), .pl (.u8 0), .pl (.u8 0), .pl (.u8 0), .pl (.u8 0), .pl (.u8 0), .pl (.u8 0), .pl (.u8 0), .pl (.u8 0), .pl (.u8 0), .pl (.u8 0), .pl (.u8 0), .pl (.u8 0), .pl (.u8 0)] := rfl
set_option maxHeartbeats 1600000 in
set_option maxRecDepth 100000 in
theorem pend_z (r0 r1 p0 p1 : UInt64) (s : PSt) (hs : s.ok) (hr0 : r0 &&& ~~~1152921487695413247 = 0) (hr1 : r1 &&& ~~~1152921487695413244 = 0) (h0 : s.rest.length = 0) :
 Ct Try.prog 20 [.w (.agg (polyC r0 r1 p0 p1 s.acc.a s.acc.b s.acc.c (pad16 s.rest) (s.rest.length : Nat)))] (fun v m => v = .tup [.agg (bytesC (endV (finA r0 r1 s).a (finA r0 r1 s).b p0 p1)), .one (.pl (.i 0))]) := by
 have h15 := hs.1
 have hpl := pad16_length (r := s.rest) (by omega)
 have hpt := pad16_take s.rest
 have hpz := pad16_rest (r := s.rest) (by omega)
 have he := perr_ok (st_ok hs hr0 hr1)
 have hr := r1_lt hr1
 have hfa : finA r0 r1 s = s.acc := if_pos h0
 have hn0 : ¬ (0 : Int) < ((s.rest.length : Nat) : Int) := by omega
 have F0 := And.intro hpl <| And.intro hpt <| And.intro he <| hn0
 refine Ct.k Try.func20 rfl Try.ntmps20 (congrArg Array.toList Try.results20) (by simp) fun w0 ro => ?_
 refine top_k fun zZ zhZ => ?_
 iterate 188 first
  | (refine rnd_forget (x := .seq (.region 10 _ _) _) [10, 44, 45, 46, 47, 48, 49, 50, 51, 52, 53, 54, 55, 56, 57, 58, 59, 60, 61] ?_; simp only [go_sem, St.forget, fgt]; refine rnd_k fun zN zM zhN zhM => ?_)
  | refine zhK _ ?_
  | (refine zhN _ ?_; clear zhN zhM)
  | (refine sr_k fun zK zhK => ?_; simp only [go_sem, polyC, z16, ic0, ic1, ic2, ic3, ic4, ic5, F0]; (repeat' (first | apply And.intro | intro _)))
  | refine skip_k ?_
  | refine block_k fun zB zbn zbx zbr zbi => ?_
  | (refine draw_k (id := 12) [46, 47, 48, 49, 50, 51, 52, 53, 54, 55, 56, 57, 58, 59, 60] [0, 0, 2, 0, 0, 16, 56, 120, 0, 0, 512, 1792, 3840, 249, 8441, 32767, 65535] [(1, 14), (2, 14), (8, 14), (9, 14), (10, 14), (11, 14), (12, 14)] mixed (by kernel_rfl) (by simp only [go_sem]) fun zK zhK => ?_; simp only [go_sem, polyC, z16, ic0, ic1, ic2, ic3, ic4, ic5, F0]; (repeat' (first | apply And.intro | intro _)))
  | (refine zhK _ _ ?_ ?_; (focus (first | trivial | (simp only [go_sem]; done) | (simp only [go_sem]; simp; done) | (simp only [go_sem]; simp; simp only [go_sem]))))
  | (refine zbn _ ?_; clear zbn zbx zbr zbi)
  | (refine region_k fun zK zhK => ?_; simp only [go_sem, polyC, z16, ic0, ic1, ic2, ic3, ic4, ic5, F0]; (repeat' (first | apply And.intro | intro _)))
  | (refine zhM _ _ ?_; clear zhN zhM)
  | refine rounds_k (x := .seq (.region 10 _ _) _) 9 ?_
  | refine rnd_k fun zN zM zhN zhM => ?_
  | refine exit_k ?_
  | (refine zbx _ ?_; clear zbn zbx zbr zbi)
  | refine ret_k ?_
  | (refine zhZ _ _ ?_; simp only [go_sem, polyC, z16, ic0, ic1, ic2, ic3, ic4, ic5, F0]; (all_goals (rw [hfa, ← end_main, lowB_shr, lowB_shr]; rfl)))
  | ((all_goals refine call_now (by first | rfl | (simp only [go_sem, polyC, z16, ic0, ic1, ic2, ic3, ic4, ic5, F0] <;> rfl)) (now_add64 _ _ _ (by first | decide | exact (ad_val _ _ (by decide)).2 | exact (ad_val _ _ ((ad_val _ _ (by decide)).2)).2)) ?_); (all_goals simp only [go_sem, polyC, z16, ic0, ic1, ic2, ic3, ic4, ic5, F0]); (all_goals repeat' (first | apply And.intro | intro _)))
  | ((all_goals (refine call_view (fun k => k) (fun _ _ => rfl) ?_ ((poly_check r0 r1 p0 p1 s.acc.a s.acc.b s.acc.c (pad16 s.rest) hpl (s.rest.length : Nat)).plain fun _ _ h => h) ?_; focus (first | rfl | (simp only [go_sem, polyC, z16, ic0, ic1, ic2, ic3, ic4, ic5, F0] <;> rfl)))); (all_goals (rintro v m ⟨hR, hm⟩; subst hR; subst hm)); (all_goals refine And.intro (by first | rfl | simp only [go_sem, polyC, z16, ic0, ic1, ic2, ic3, ic4, ic5, F0]) (And.intro (by first | rfl | simp only [go_sem, polyC, z16, ic0, ic1, ic2, ic3, ic4, ic5, F0]) ?_)); (all_goals simp only [go_sem, polyC, z16, ic0, ic1, ic2, ic3, ic4, ic5, F0]); (all_goals repeat' (first | apply And.intro | intro _)))
  | refine seq_k fun zN zM zhN zhM => ?_
  | (refine condT_k ?_ ?_; focus (first | rfl | (simp [go_sem, polyC, z16, ic0, ic1, ic2, ic3, ic4, ic5, F0]; done)))
  | (refine condF_k ?_ ?_; focus (first | rfl | (simp [go_sem, polyC, z16, ic0, ic1, ic2, ic3, ic4, ic5, F0]; done)))
set_option maxHeartbeats 1600000 in
set_option maxRecDepth 100000 in
theorem pend_p (r0 r1 p0 p1 : UInt64) (s : PSt) (hs : s.ok) (hr0 : r0 &&& ~~~1152921487695413247 = 0) (hr1 : r1 &&& ~~~1152921487695413244 = 0) (h0 : 0 < s.rest.length) :
 Ct Try.prog 20 [.w (.agg (polyC r0 r1 p0 p1 s.acc.a s.acc.b s.acc.c (pad16 s.rest) (s.rest.length : Nat)))] (fun v m => v = .tup [.agg (bytesC (endV (finA r0 r1 s).a (finA r0 r1 s).b p0 p1)), .one (.pl (.i 0))]) := by
 have h15 := hs.1
 have hpl := pad16_length (r := s.rest) (by omega)
 have hpt := pad16_take s.rest
 have hpz := pad16_rest (r := s.rest) (by omega)
 have he := perr_ok (st_ok hs hr0 hr1)
 have hr := r1_lt hr1
 have hfa : finA r0 r1 s = soakT r0 r1 s.acc s.rest := if_neg (by omega)
 have hn0 : (0 : Int) < ((s.rest.length : Nat) : Int) := by omega
 have F0 := And.intro hpl <| And.intro hpt <| And.intro he <| hn0
 refine Ct.k Try.func20 rfl Try.ntmps20 (congrArg Array.toList Try.results20) (by simp) fun w0 ro => ?_
 refine top_k fun zZ zhZ => ?_
 iterate 190 first
  | (refine rnd_forget (x := .seq (.region 10 _ _) _) [10, 44, 45, 46, 47, 48, 49, 50, 51, 52, 53, 54, 55, 56, 57, 58, 59, 60, 61] ?_; simp only [go_sem, St.forget, fgt]; refine rnd_k fun zN zM zhN zhM => ?_)
  | refine zhK _ ?_
  | (refine zhN _ ?_; clear zhN zhM)
  | (refine sr_k fun zK zhK => ?_; simp only [go_sem, polyC, z16, ic0, ic1, ic2, ic3, ic4, ic5, F0]; (repeat' (first | apply And.intro | intro _)))
  | refine skip_k ?_
  | (refine region_k fun zK zhK => ?_; simp only [go_sem, polyC, z16, ic0, ic1, ic2, ic3, ic4, ic5, F0]; (repeat' (first | apply And.intro | intro _)))
  | refine block_k fun zB zbn zbx zbr zbi => ?_
  | (refine draw_k (id := 12) [46, 47, 48, 49, 50, 51, 52, 53, 54, 55, 56, 57, 58, 59, 60] [0, 0, 2, 0, 0, 16, 56, 120, 0, 0, 512, 1792, 3840, 249, 8441, 32767, 65535] [(1, 14), (2, 14), (8, 14), (9, 14), (10, 14), (11, 14), (12, 14)] mixed (by kernel_rfl) (by simp only [go_sem]) fun zK zhK => ?_; simp only [go_sem, polyC, z16, ic0, ic1, ic2, ic3, ic4, ic5, F0]; (repeat' (first | apply And.intro | intro _)))
  | (refine zhK _ _ ?_ ?_; (focus (first | trivial | (simp only [go_sem]; done) | (simp only [go_sem]; simp; done) | (simp only [go_sem]; simp; simp only [go_sem]))))
  | (refine zbn _ ?_; clear zbn zbx zbr zbi)
  | (refine zhM _ _ ?_; clear zhN zhM)
  | refine rounds_k (x := .seq (.region 10 _ _) _) 9 ?_
  | refine rnd_k fun zN zM zhN zhM => ?_
  | refine exit_k ?_
  | (refine zbx _ ?_; clear zbn zbx zbr zbi)
  | refine ret_k ?_
  | (refine zhZ _ _ ?_; simp only [go_sem, polyC, z16, ic0, ic1, ic2, ic3, ic4, ic5, F0]; (all_goals (rw [hfa, ← end_main, lowB_shr, lowB_shr]; rfl)))
  | ((all_goals refine call_now (by first | rfl | (simp only [go_sem, polyC, z16, ic0, ic1, ic2, ic3, ic4, ic5, F0] <;> rfl)) (now_add64 _ _ _ (by first | decide | exact (ad_val _ _ (by decide)).2 | exact (ad_val _ _ ((ad_val _ _ (by decide)).2)).2)) ?_); (all_goals simp only [go_sem, polyC, z16, ic0, ic1, ic2, ic3, ic4, ic5, F0]); (all_goals repeat' (first | apply And.intro | intro _)))
  | ((all_goals (refine call_view (fun k => k) (fun _ _ => rfl) ?_ ((poly_check r0 r1 p0 p1 s.acc.a s.acc.b s.acc.c (pad16 s.rest) hpl (s.rest.length : Nat)).plain fun _ _ h => h) ?_; focus (first | rfl | (simp only [go_sem, polyC, z16, ic0, ic1, ic2, ic3, ic4, ic5, F0] <;> rfl)))); (all_goals (rintro v m ⟨hR, hm⟩; subst hR; subst hm)); (all_goals refine And.intro (by first | rfl | simp only [go_sem, polyC, z16, ic0, ic1, ic2, ic3, ic4, ic5, F0]) (And.intro (by first | rfl | simp only [go_sem, polyC, z16, ic0, ic1, ic2, ic3, ic4, ic5, F0]) ?_)); (all_goals simp only [go_sem, polyC, z16, ic0, ic1, ic2, ic3, ic4, ic5, F0]); (all_goals repeat' (first | apply And.intro | intro _)))
  | ((all_goals (refine call_view (fun k => k) (fun _ _ => rfl) ?_ ((soak_part r0 r1 p0 p1 s.acc.a s.acc.b s.acc.c (pad16 s.rest) hpl hs.2 hr s.rest.length (by omega) hpz).plain fun _ _ h => h) ?_; focus (first | rfl | (simp only [go_sem, polyC, z16, ic0, ic1, ic2, ic3, ic4, ic5, F0] <;> rfl)))); (all_goals (rintro v m ⟨hR, hm⟩; subst hR; subst hm)); (all_goals refine And.intro (by first | rfl | simp only [go_sem, polyC, z16, ic0, ic1, ic2, ic3, ic4, ic5, F0]) (And.intro (by first | rfl | simp only [go_sem, polyC, z16, ic0, ic1, ic2, ic3, ic4, ic5, F0]) ?_)); (all_goals simp only [go_sem, polyC, z16, ic0, ic1, ic2, ic3, ic4, ic5, F0]); (all_goals repeat' (first | apply And.intro | intro _)))
  | refine seq_k fun zN zM zhN zhM => ?_
  | (refine condT_k ?_ ?_; focus (first | rfl | (simp [go_sem, polyC, z16, ic0, ic1, ic2, ic3, ic4, ic5, F0]; done)))
  | (refine condF_k ?_ ?_; focus (first | rfl | (simp [go_sem, polyC, z16, ic0, ic1, ic2, ic3, ic4, ic5, F0]; done)))
set_option maxHeartbeats 1600000 in
set_option maxRecDepth 100000 in
theorem pended_z (r0 r1 p0 p1 : UInt64) (s : PSt) (hs : s.ok) (hr0 : r0 &&& ~~~1152921487695413247 = 0) (hr1 : r1 &&& ~~~1152921487695413244 = 0) (h0 : s.rest.length = 0) :
 Ct Try.prog 21 [.w (.agg (polyC r0 r1 p0 p1 s.acc.a s.acc.b s.acc.c (pad16 s.rest) (s.rest.length : Nat)))] (fun v m => v = .tup [.agg (bytesC (endV (finA r0 r1 s).a (finA r0 r1 s).b p0 p1)), .one (.pl (.i 0))]) := by
 have h15 := hs.1
 have hpl := pad16_length (r := s.rest) (by omega)
 have hpt := pad16_take s.rest
 have hpz := pad16_rest (r := s.rest) (by omega)
 have he := perr_ok (st_ok hs hr0 hr1)
 have hr := r1_lt hr1
 have ha4 : s.acc.c.toNat < 4 := by
  have hv := hs.2
  simp only [val3, pP] at hv
  have := s.acc.a.toNat_lt; have := s.acc.b.toNat_lt
  omega
 have hc1 : (0 : Int) ≤ ((s.rest.length : Nat) : Int) := by omega
 have hc2 : ((s.rest.length : Nat) : Int) ≤ 16 := by omega
 have hle : s.rest.length ≤ 16 := by omega
 have hfa : finA r0 r1 s = s.acc := if_pos h0
 have hn0 : ¬ (0 : Int) < ((s.rest.length : Nat) : Int) := by omega
 have F0 := And.intro hpl <| And.intro hpt <| And.intro he <| And.intro hn0 <| And.intro hc1 <| And.intro hc2 <| hle
 refine Ct.k Try.func21 rfl Try.ntmps21 (congrArg Array.toList Try.results21) (by simp) fun w0 ro => ?_
 refine top_k fun zZ zhZ => ?_
 iterate 35 first
  | (refine sr_k fun zK zhK => ?_; simp only [go_sem, polyC, lowB_length, Nat.sub_zero, Nat.zero_add, F0]; (repeat' (first | apply And.intro | intro _)))
  | refine zhK _ ?_
  | refine skip_k ?_
  | (refine zhN _ ?_; clear zhN zhM)
  | refine zhK _ _ trivial ?_
  | (refine sd_k (id := 8) [28, 29, 30, 31, 32, 33, 34, 35, 36, 7] [0, 1, 3, 7, 0, 16, 48, 127, 255, 511] [] mixed (by kernel_rfl) (by simp only [go_sem]) fun zK zhK => ?_; simp only [go_sem, polyC, lowB_length, Nat.sub_zero, Nat.zero_add, F0]; (repeat' (first | apply And.intro | intro _)))
  | (refine sd_k (id := 9) [37, 38, 39, 40, 41, 42, 43, 44, 45, 8] [0, 1, 3, 7, 0, 16, 48, 127, 255, 511] [] mixed (by kernel_rfl) (by simp only [go_sem]) fun zK zhK => ?_; simp only [go_sem, polyC, lowB_length, Nat.sub_zero, Nat.zero_add, F0]; (repeat' (first | apply And.intro | intro _)))
  | refine block_k fun zB zbn zbx zbr zbi => ?_
  | ((all_goals refine call_draw (fun k => k) _ [] (fun _ _ => rfl) (by first | rfl | (simp only [go_sem, polyC, lowB_length, Nat.sub_zero, Nat.zero_add, F0] <;> rfl)) ((low_ _ 8 (by decide)).plain fun _ _ h => h) ?_ ?_); (all_goals try (refine And.intro ?_ (And.intro ?_ (And.intro ?_ ?_)) <;> first | rfl | simp only [go_sem])); (all_goals simp only [go_sem, polyC, lowB_length, Nat.sub_zero, Nat.zero_add, F0]); (all_goals repeat' (first | apply And.intro | intro _)))
  | ((all_goals (refine call_view (fun k => k) (fun _ _ => rfl) ?_ ((poly_fault r0 r1 p0 p1 s.acc.a s.acc.b s.acc.c (pad16 s.rest) hpl (s.rest.length : Nat)).plain fun _ _ h => h) ?_; focus (first | rfl | (simp only [go_sem, polyC, lowB_length, Nat.sub_zero, Nat.zero_add, F0] <;> rfl)))); (all_goals (rintro v m ⟨hR, hm⟩; subst hR; subst hm)); (all_goals refine And.intro (by first | rfl | simp only [go_sem, polyC, lowB_length, Nat.sub_zero, Nat.zero_add, F0]) (And.intro (by first | rfl | simp only [go_sem, polyC, lowB_length, Nat.sub_zero, Nat.zero_add, F0]) ?_)); (all_goals simp only [go_sem, polyC, lowB_length, Nat.sub_zero, Nat.zero_add, F0]); (all_goals repeat' (first | apply And.intro | intro _)))
  | refine seq_k fun zN zM zhN zhM => ?_
  | (refine condF_k ?_ ?_; focus (first | rfl | (simp [go_sem, polyC, lowB_length, Nat.sub_zero, Nat.zero_add, F0]; done)))
 refine ht_dropE [0, 1, 4, 5, 11, 12, 13, 14, 15, 16, 17, 18, 19, 20, 21, 22, 23, 24, 25, 26, 27, 28, 29, 30, 31, 32, 33, 34, 35, 36, 37, 38, 39, 40, 41, 42, 43, 44, 45] ?_
 simp only [dropE_mk, fgt_nil, fgt_cons, List.contains_cons, List.contains_nil, Nat.reduceBEq, beq_self_eq_true, Bool.or_false, Bool.or_true, Bool.true_or, Bool.false_or, Bool.false_eq_true, reduceIte]
 refine loop_k (fun y => [(46, .w (.one (.pl (.i ((y.1.1 : Nat) : Int))))), (9, .w (.one (.pl (.i ((y.1.2.1 : Nat) : Int)))))]) (fun y => [(6, ⟨false, bytesC y.1.2.2⟩)]) (fun y => 16 - y.1.1) (⟨(0, 0, List.replicate 16 0), Nat.zero_le _, Nat.zero_le _, by simp, rfl⟩ : {y : Nat × Nat × List UInt8 // y.1 ≤ 16 ∧ y.2.1 ≤ 1 ∧ y.2.2.length = 16 ∧ y.2.2.take y.1 ++ addB y.2.1 ((lowB s.acc.a 8 ++ lowB s.acc.b 8).drop y.1) ((lowB p0 8 ++ lowB p1 8).drop y.1) = addB 0 (lowB s.acc.a 8 ++ lowB s.acc.b 8) (lowB p0 8 ++ lowB p1 8)}) ?_ ?_ ?_
 · (simp only [go_sem, leX, List.cons_append, List.nil_append]; try simp)
 · (simp only [go_sem, leX, List.cons_append, List.nil_append]; try simp)
 intro yy zN zM zhN zhM
 simp only [List.cons_append, List.nil_append]
 obtain ⟨⟨i, c, q⟩, hi, hc, hq, hv⟩ := yy
 simp only at hi hc hq hv
 have hev := end_ref s.acc.a s.acc.b p0 p1
 obtain ⟨al, hal⟩ : ∃ al, lowB s.acc.a 8 ++ lowB s.acc.b 8 = al := ⟨_, rfl⟩
 obtain ⟨bl, hbl⟩ : ∃ bl, lowB p0 8 ++ lowB p1 8 = bl := ⟨_, rfl⟩
 have lal : al.length = 16 := by rw [← hal]; simp [lowB_length]
 have lbl : bl.length = 16 := by rw [← hbl]; simp [lowB_length]
 rw [hal, hbl] at hv hev
 simp only [hal, hbl]
 rcases Nat.lt_or_ge i 16 with hlt | hge
 · obtain ⟨a, ha⟩ : ∃ a, al.getD i 0 = a := ⟨_, rfl⟩
   obtain ⟨b, hb⟩ : ∃ b, bl.getD i 0 = b := ⟨_, rfl⟩
   have hda := drop_cons (l := al) (j := i) (by omega)
   have hdb := drop_cons (l := bl) (j := i) (by omega)
   rw [ha] at hda
   rw [hb] at hdb
   rw [hda, hdb, addB] at hv
   have a1 := a.toNat_lt
   have b1 := b.toNat_lt
   obtain ⟨x, hx⟩ : ∃ x, UInt8.ofNat (c + a.toNat + b.toNat) = x := ⟨_, rfl⟩
   rw [hx] at hv
   have hcq : ((i : Nat) : Int) < 16 := by omega
   have hc0 : (0 : Int) ≤ ((i : Nat) : Int) := by omega
   have hk2 : i + 1 ≤ 16 := by omega
   have hput : bytesC (List.take i q) ++ [L.pl (PL.u8 x)] ++ bytesC (List.drop (i + 1) q) = bytesC (q.take i ++ x :: q.drop (i + 1)) := by simp [bytesC]
   have hmo : UInt8.ofNat ((((c + (a.toNat + b.toNat) : Nat) : Int) % 256).toNat) = x := by
    rw [← hx, show (((c + (a.toNat + b.toNat) : Nat) : Int) % 256).toNat = (c + (a.toNat + b.toNat)) % 256 from by omega]
    apply UInt8.toNat_inj.mp
    simp only [UInt8.toNat_ofNat']; omega
   have htd : ((c + (a.toNat + b.toNat) : Nat) : Int).tdiv 256 = (((c + a.toNat + b.toNat) / 256 : Nat) : Int) := by
    rw [show ((c + (a.toNat + b.toNat) : Nat) : Int).tdiv 256 = (((c + (a.toNat + b.toNat)) / 256 : Nat) : Int) from rfl, Nat.add_assoc]
   have n1 : (c + a.toNat + b.toNat) / 256 ≤ 1 := by omega
   have n2 : (q.take i ++ x :: q.drop (i + 1)).length = 16 := by rw [List.length_append, List.length_cons, List.length_take, List.length_drop]; omega
   have htl : (q.take i).length = i := by rw [List.length_take]; omega
   have n3 : (q.take i ++ x :: q.drop (i + 1)).take (i + 1) ++ addB ((c + a.toNat + b.toNat) / 256) (al.drop (i + 1)) (bl.drop (i + 1)) = addB 0 al bl := by
    rw [← hv, List.take_append, htl, List.take_of_length_le (by omega), show i + 1 - i = 1 from by omega, List.take_succ_cons, List.take_zero, List.append_assoc]; rfl
   obtain ⟨hw1, hw2, hw4, hs1⟩ : Go.RowKit.wrap64 (((a.toNat : Nat) : Int) + ((b.toNat : Nat) : Int)) = ((a.toNat + b.toNat : Nat) : Int) ∧ Go.RowKit.wrap64 (((c : Nat) : Int) + ((a.toNat + b.toNat : Nat) : Int)) = ((c + (a.toNat + b.toNat) : Nat) : Int) ∧ Go.RowKit.wrap64 ((((c + a.toNat + b.toNat) / 256 : Nat) : Int)) = (((c + a.toNat + b.toNat) / 256 : Nat) : Int) ∧ Go.RowKit.wrap64 (((i : Nat) : Int) + 1) = ((i + 1 : Nat) : Int) := ⟨wnat (by omega) (by omega), wnat (by omega) (by omega), wnat rfl (by omega), wnat (by omega) (by omega)⟩
   have F15 := And.intro hcq <| And.intro hc0 <| And.intro hk2 <| And.intro hq <| And.intro lal <| And.intro lbl <| And.intro ha <| And.intro hb <| And.intro hput <| And.intro hmo <| And.intro htd <| And.intro hw1 <| And.intro hw2 <| And.intro hw4 <| hs1
   iterate 20 first
    | refine zhK _ ?_
    | (refine sr_k fun zK zhK => ?_; simp only [go_sem, polyC, lowB_length, Nat.sub_zero, Nat.zero_add, F0, F15]; (repeat' (first | apply And.intro | intro _)))
    | (refine zhN _ ?_; clear zhN zhM)
    | (refine region_k fun zK zhK => ?_; simp only [go_sem, polyC, lowB_length, Nat.sub_zero, Nat.zero_add, F0, F15]; (repeat' (first | apply And.intro | intro _)))
    | refine skip_k ?_
    | refine block_k fun zB zbn zbx zbr zbi => ?_
    | (refine sd_k (id := 14) [49, 50, 51, 52, 53, 54, 55, 56, 57, 58, 59, 9] [0, 0, 0, 6, 14, 0, 0, 96, 224, 510, 1023, 2047] [] mixed (by kernel_rfl) (by simp only [go_sem]) fun zK zhK => ?_; simp only [go_sem, polyC, lowB_length, Nat.sub_zero, Nat.zero_add, F0, F15]; (repeat' (first | apply And.intro | intro _)))
    | refine zhK _ _ trivial ?_
    | (refine zbn _ ?_; clear zbn zbx zbr zbi)
    | refine seq_k fun zN zM zhN zhM => ?_
    | (refine condT_k ?_ ?_; focus (first | rfl | (simp [go_sem, polyC, lowB_length, Nat.sub_zero, Nat.zero_add, F0, F15]; done)))
   refine zhN ⟨(i + 1, (c + a.toNat + b.toNat) / 256, q.take i ++ x :: q.drop (i + 1)), hlt, n1, n2, by rw [hal, hbl]; exact n3⟩ _ ?_ ?_ ?_
   · (exact Nat.sub_lt_sub_left hlt (Nat.lt_succ_self i))
   · (simp only [go_sem, leX, List.cons_append, List.nil_append]; try simp [hal, hbl])
   · (simp only [go_sem, leX, List.cons_append, List.nil_append]; try simp)
 · obtain rfl : i = 16 := by omega
   have hcq : ¬ ((16 : Nat) : Int) < 16 := by omega
   have hfin : q = endV s.acc.a s.acc.b p0 p1 := by
    rw [← hev, ← hv, List.drop_of_length_le (by omega), List.take_of_length_le (by omega)]; simp [addB]
   iterate 13 first
    | (refine sr_k fun zK zhK => ?_; simp only [go_sem, polyC, lowB_length, Nat.sub_zero, Nat.zero_add, F0, hcq, hq]; (repeat' (first | apply And.intro | intro _)))
    | refine zhK _ ?_
    | (refine zhM _ _ ?_; clear zhN zhM)
    | refine exit_k ?_
    | (refine zbx _ ?_; clear zbn zbx zbr zbi)
    | (refine zhN _ ?_; clear zhN zhM)
    | refine ret_k ?_
    | (refine zhZ _ _ ?_; simp only [go_sem, polyC, lowB_length, Nat.sub_zero, Nat.zero_add, F0, hcq, hq]; (all_goals (first | (rw [hfa, hfin]; done) | (rw [hfa, hfin]; rfl))))
    | refine seq_k fun zN zM zhN zhM => ?_
    | (refine condF_k ?_ ?_; focus (first | rfl | (simp [go_sem, polyC, lowB_length, Nat.sub_zero, Nat.zero_add, F0, hcq, hq]; done)))
set_option maxHeartbeats 1600000 in
set_option maxRecDepth 100000 in
theorem pended_p (r0 r1 p0 p1 : UInt64) (s : PSt) (hs : s.ok) (hr0 : r0 &&& ~~~1152921487695413247 = 0) (hr1 : r1 &&& ~~~1152921487695413244 = 0) (h0 : 0 < s.rest.length) :
 Ct Try.prog 21 [.w (.agg (polyC r0 r1 p0 p1 s.acc.a s.acc.b s.acc.c (pad16 s.rest) (s.rest.length : Nat)))] (fun v m => v = .tup [.agg (bytesC (endV (finA r0 r1 s).a (finA r0 r1 s).b p0 p1)), .one (.pl (.i 0))]) := by
 have h15 := hs.1
 have hpl := pad16_length (r := s.rest) (by omega)
 have hpt := pad16_take s.rest
 have hpz := pad16_rest (r := s.rest) (by omega)
 have he := perr_ok (st_ok hs hr0 hr1)
 have hr := r1_lt hr1
 have ha4 : s.acc.c.toNat < 4 := by
  have hv := hs.2
  simp only [val3, pP] at hv
  have := s.acc.a.toNat_lt; have := s.acc.b.toNat_lt
  omega
 have hc1 : (0 : Int) ≤ ((s.rest.length : Nat) : Int) := by omega
 have hc2 : ((s.rest.length : Nat) : Int) ≤ 16 := by omega
 have hle : s.rest.length ≤ 16 := by omega
 have hfa : finA r0 r1 s = soakT r0 r1 s.acc s.rest := if_neg (by omega)
 have hn0 : (0 : Int) < ((s.rest.length : Nat) : Int) := by omega
 have F0 := And.intro hpl <| And.intro hpt <| And.intro he <| And.intro hn0 <| And.intro hc1 <| And.intro hc2 <| hle
 refine Ct.k Try.func21 rfl Try.ntmps21 (congrArg Array.toList Try.results21) (by simp) fun w0 ro => ?_
 refine top_k fun zZ zhZ => ?_
 iterate 37 first
  | (refine sr_k fun zK zhK => ?_; simp only [go_sem, polyC, lowB_length, Nat.sub_zero, Nat.zero_add, F0]; (repeat' (first | apply And.intro | intro _)))
  | refine zhK _ ?_
  | refine zhK _ _ trivial ?_
  | (refine zhN _ ?_; clear zhN zhM)
  | refine skip_k ?_
  | (refine draw_k (id := 6) [22, 23, 24, 25, 26, 27] [0, 0, 2, 6, 14, 31, 63] [] mixed (by kernel_rfl) (by simp only [go_sem]) fun zK zhK => ?_; simp only [go_sem, polyC, lowB_length, Nat.sub_zero, Nat.zero_add, F0]; (repeat' (first | apply And.intro | intro _)))
  | (refine sd_k (id := 8) [28, 29, 30, 31, 32, 33, 34, 35, 36, 7] [0, 1, 3, 7, 0, 16, 48, 127, 255, 511] [] mixed (by kernel_rfl) (by simp only [go_sem]) fun zK zhK => ?_; simp only [go_sem, polyC, lowB_length, Nat.sub_zero, Nat.zero_add, F0]; (repeat' (first | apply And.intro | intro _)))
  | (refine sd_k (id := 9) [37, 38, 39, 40, 41, 42, 43, 44, 45, 8] [0, 1, 3, 7, 0, 16, 48, 127, 255, 511] [] mixed (by kernel_rfl) (by simp only [go_sem]) fun zK zhK => ?_; simp only [go_sem, polyC, lowB_length, Nat.sub_zero, Nat.zero_add, F0]; (repeat' (first | apply And.intro | intro _)))
  | refine block_k fun zB zbn zbx zbr zbi => ?_
  | ((all_goals refine call_draw (fun k => k) _ [] (fun _ _ => rfl) (by first | rfl | (simp only [go_sem, polyC, lowB_length, Nat.sub_zero, Nat.zero_add, F0] <;> rfl)) ((low_ _ 8 (by decide)).plain fun _ _ h => h) ?_ ?_); (all_goals try (refine And.intro ?_ (And.intro ?_ (And.intro ?_ ?_)) <;> first | rfl | simp only [go_sem])); (all_goals simp only [go_sem, polyC, lowB_length, Nat.sub_zero, Nat.zero_add, F0]); (all_goals repeat' (first | apply And.intro | intro _)))
  | ((all_goals (refine call_view (fun k => k) (fun _ _ => rfl) ?_ ((poly_fault r0 r1 p0 p1 s.acc.a s.acc.b s.acc.c (pad16 s.rest) hpl (s.rest.length : Nat)).plain fun _ _ h => h) ?_; focus (first | rfl | (simp only [go_sem, polyC, lowB_length, Nat.sub_zero, Nat.zero_add, F0] <;> rfl)))); (all_goals (rintro v m ⟨hR, hm⟩; subst hR; subst hm)); (all_goals refine And.intro (by first | rfl | simp only [go_sem, polyC, lowB_length, Nat.sub_zero, Nat.zero_add, F0]) (And.intro (by first | rfl | simp only [go_sem, polyC, lowB_length, Nat.sub_zero, Nat.zero_add, F0]) ?_)); (all_goals simp only [go_sem, polyC, lowB_length, Nat.sub_zero, Nat.zero_add, F0]); (all_goals repeat' (first | apply And.intro | intro _)))
  | ((all_goals (refine call_draw (fun k => k) _ [] (fun _ _ => rfl) ?_ ((psoaked_ r0 r1 p0 p1 s.acc.a s.acc.b s.acc.c (pad16 s.rest) hpl (s.rest.length : Nat) ha4 s.rest (by omega)).plain fun _ _ h => h) ?_ ?_; focus (first | rfl | (simp only [go_sem, polyC, lowB_length, Nat.sub_zero, Nat.zero_add, F0] <;> rfl)))); (all_goals try (refine And.intro ?_ (And.intro ?_ (And.intro ?_ ?_)) <;> first | rfl | simp only [go_sem])); (all_goals simp only [go_sem, polyC, lowB_length, Nat.sub_zero, Nat.zero_add, F0]); (all_goals repeat' (first | apply And.intro | intro _)))
  | refine seq_k fun zN zM zhN zhM => ?_
  | (refine condF_k ?_ ?_; focus (first | rfl | (simp [go_sem, polyC, lowB_length, Nat.sub_zero, Nat.zero_add, F0]; done)))
  | (refine condT_k ?_ ?_; focus (first | rfl | (simp [go_sem, polyC, lowB_length, Nat.sub_zero, Nat.zero_add, F0]; done)))
 refine ht_dropE [0, 1, 4, 5, 11, 12, 13, 14, 15, 16, 17, 18, 19, 20, 21, 22, 23, 24, 25, 26, 27, 28, 29, 30, 31, 32, 33, 34, 35, 36, 37, 38, 39, 40, 41, 42, 43, 44, 45] ?_
 simp only [dropE_mk, fgt_nil, fgt_cons, List.contains_cons, List.contains_nil, Nat.reduceBEq, beq_self_eq_true, Bool.or_false, Bool.or_true, Bool.true_or, Bool.false_or, Bool.false_eq_true, reduceIte]
 refine loop_k (fun y => [(46, .w (.one (.pl (.i ((y.1.1 : Nat) : Int))))), (9, .w (.one (.pl (.i ((y.1.2.1 : Nat) : Int)))))]) (fun y => [(6, ⟨false, bytesC y.1.2.2⟩)]) (fun y => 16 - y.1.1) (⟨(0, 0, List.replicate 16 0), Nat.zero_le _, Nat.zero_le _, by simp, rfl⟩ : {y : Nat × Nat × List UInt8 // y.1 ≤ 16 ∧ y.2.1 ≤ 1 ∧ y.2.2.length = 16 ∧ y.2.2.take y.1 ++ addB y.2.1 ((lowB (sp0 (soakV s.acc.a s.acc.b s.acc.c r0 r1 s.rest)) 8 ++ lowB (sp1 (soakV s.acc.a s.acc.b s.acc.c r0 r1 s.rest)) 8).drop y.1) ((lowB p0 8 ++ lowB p1 8).drop y.1) = addB 0 (lowB (sp0 (soakV s.acc.a s.acc.b s.acc.c r0 r1 s.rest)) 8 ++ lowB (sp1 (soakV s.acc.a s.acc.b s.acc.c r0 r1 s.rest)) 8) (lowB p0 8 ++ lowB p1 8)}) ?_ ?_ ?_
 · (simp only [go_sem, leX, List.cons_append, List.nil_append]; try simp)
 · (simp only [go_sem, leX, List.cons_append, List.nil_append]; try simp)
 intro yy zN zM zhN zhM
 simp only [List.cons_append, List.nil_append]
 obtain ⟨⟨i, c, q⟩, hi, hc, hq, hv⟩ := yy
 simp only at hi hc hq hv
 have hev := end_ref (sp0 (soakV s.acc.a s.acc.b s.acc.c r0 r1 s.rest)) (sp1 (soakV s.acc.a s.acc.b s.acc.c r0 r1 s.rest)) p0 p1
 obtain ⟨al, hal⟩ : ∃ al, lowB (sp0 (soakV s.acc.a s.acc.b s.acc.c r0 r1 s.rest)) 8 ++ lowB (sp1 (soakV s.acc.a s.acc.b s.acc.c r0 r1 s.rest)) 8 = al := ⟨_, rfl⟩
 obtain ⟨bl, hbl⟩ : ∃ bl, lowB p0 8 ++ lowB p1 8 = bl := ⟨_, rfl⟩
 have lal : al.length = 16 := by rw [← hal]; simp [lowB_length]
 have lbl : bl.length = 16 := by rw [← hbl]; simp [lowB_length]
 rw [hal, hbl] at hv hev
 simp only [hal, hbl]
 rcases Nat.lt_or_ge i 16 with hlt | hge
 · obtain ⟨a, ha⟩ : ∃ a, al.getD i 0 = a := ⟨_, rfl⟩
   obtain ⟨b, hb⟩ : ∃ b, bl.getD i 0 = b := ⟨_, rfl⟩
   have hda := drop_cons (l := al) (j := i) (by omega)
   have hdb := drop_cons (l := bl) (j := i) (by omega)
   rw [ha] at hda
   rw [hb] at hdb
   rw [hda, hdb, addB] at hv
   have a1 := a.toNat_lt
   have b1 := b.toNat_lt
   obtain ⟨x, hx⟩ : ∃ x, UInt8.ofNat (c + a.toNat + b.toNat) = x := ⟨_, rfl⟩
   rw [hx] at hv
   have hcq : ((i : Nat) : Int) < 16 := by omega
   have hc0 : (0 : Int) ≤ ((i : Nat) : Int) := by omega
   have hk2 : i + 1 ≤ 16 := by omega
   have hput : bytesC (List.take i q) ++ [L.pl (PL.u8 x)] ++ bytesC (List.drop (i + 1) q) = bytesC (q.take i ++ x :: q.drop (i + 1)) := by simp [bytesC]
   have hmo : UInt8.ofNat ((((c + (a.toNat + b.toNat) : Nat) : Int) % 256).toNat) = x := by
    rw [← hx, show (((c + (a.toNat + b.toNat) : Nat) : Int) % 256).toNat = (c + (a.toNat + b.toNat)) % 256 from by omega]
    apply UInt8.toNat_inj.mp
    simp only [UInt8.toNat_ofNat']; omega
   have htd : ((c + (a.toNat + b.toNat) : Nat) : Int).tdiv 256 = (((c + a.toNat + b.toNat) / 256 : Nat) : Int) := by
    rw [show ((c + (a.toNat + b.toNat) : Nat) : Int).tdiv 256 = (((c + (a.toNat + b.toNat)) / 256 : Nat) : Int) from rfl, Nat.add_assoc]
   have n1 : (c + a.toNat + b.toNat) / 256 ≤ 1 := by omega
   have n2 : (q.take i ++ x :: q.drop (i + 1)).length = 16 := by rw [List.length_append, List.length_cons, List.length_take, List.length_drop]; omega
   have htl : (q.take i).length = i := by rw [List.length_take]; omega
   have n3 : (q.take i ++ x :: q.drop (i + 1)).take (i + 1) ++ addB ((c + a.toNat + b.toNat) / 256) (al.drop (i + 1)) (bl.drop (i + 1)) = addB 0 al bl := by
    rw [← hv, List.take_append, htl, List.take_of_length_le (by omega), show i + 1 - i = 1 from by omega, List.take_succ_cons, List.take_zero, List.append_assoc]; rfl
   obtain ⟨hw1, hw2, hw4, hs1⟩ : Go.RowKit.wrap64 (((a.toNat : Nat) : Int) + ((b.toNat : Nat) : Int)) = ((a.toNat + b.toNat : Nat) : Int) ∧ Go.RowKit.wrap64 (((c : Nat) : Int) + ((a.toNat + b.toNat : Nat) : Int)) = ((c + (a.toNat + b.toNat) : Nat) : Int) ∧ Go.RowKit.wrap64 ((((c + a.toNat + b.toNat) / 256 : Nat) : Int)) = (((c + a.toNat + b.toNat) / 256 : Nat) : Int) ∧ Go.RowKit.wrap64 (((i : Nat) : Int) + 1) = ((i + 1 : Nat) : Int) := ⟨wnat (by omega) (by omega), wnat (by omega) (by omega), wnat rfl (by omega), wnat (by omega) (by omega)⟩
   have F16 := And.intro hcq <| And.intro hc0 <| And.intro hk2 <| And.intro hq <| And.intro lal <| And.intro lbl <| And.intro ha <| And.intro hb <| And.intro hput <| And.intro hmo <| And.intro htd <| And.intro hw1 <| And.intro hw2 <| And.intro hw4 <| hs1
   iterate 20 first
    | refine zhK _ ?_
    | (refine sr_k fun zK zhK => ?_; simp only [go_sem, polyC, lowB_length, Nat.sub_zero, Nat.zero_add, F0, F16]; (repeat' (first | apply And.intro | intro _)))
    | (refine zhN _ ?_; clear zhN zhM)
    | (refine region_k fun zK zhK => ?_; simp only [go_sem, polyC, lowB_length, Nat.sub_zero, Nat.zero_add, F0, F16]; (repeat' (first | apply And.intro | intro _)))
    | refine skip_k ?_
    | refine block_k fun zB zbn zbx zbr zbi => ?_
    | (refine sd_k (id := 14) [49, 50, 51, 52, 53, 54, 55, 56, 57, 58, 59, 9] [0, 0, 0, 6, 14, 0, 0, 96, 224, 510, 1023, 2047] [] mixed (by kernel_rfl) (by simp only [go_sem]) fun zK zhK => ?_; simp only [go_sem, polyC, lowB_length, Nat.sub_zero, Nat.zero_add, F0, F16]; (repeat' (first | apply And.intro | intro _)))
    | refine zhK _ _ trivial ?_
    | (refine zbn _ ?_; clear zbn zbx zbr zbi)
    | refine seq_k fun zN zM zhN zhM => ?_
    | (refine condT_k ?_ ?_; focus (first | rfl | (simp [go_sem, polyC, lowB_length, Nat.sub_zero, Nat.zero_add, F0, F16]; done)))
   refine zhN ⟨(i + 1, (c + a.toNat + b.toNat) / 256, q.take i ++ x :: q.drop (i + 1)), hlt, n1, n2, by rw [hal, hbl]; exact n3⟩ _ ?_ ?_ ?_
   · (exact Nat.sub_lt_sub_left hlt (Nat.lt_succ_self i))
   · (simp only [go_sem, leX, List.cons_append, List.nil_append]; try simp [hal, hbl])
   · (simp only [go_sem, leX, List.cons_append, List.nil_append]; try simp)
 · obtain rfl : i = 16 := by omega
   have hcq : ¬ ((16 : Nat) : Int) < 16 := by omega
   have hfin : q = endV (sp0 (soakV s.acc.a s.acc.b s.acc.c r0 r1 s.rest)) (sp1 (soakV s.acc.a s.acc.b s.acc.c r0 r1 s.rest)) p0 p1 := by
    rw [← hev, ← hv, List.drop_of_length_le (by omega), List.take_of_length_le (by omega)]; simp [addB]
   iterate 13 first
    | (refine sr_k fun zK zhK => ?_; simp only [go_sem, polyC, lowB_length, Nat.sub_zero, Nat.zero_add, F0, hcq, hq]; (repeat' (first | apply And.intro | intro _)))
    | refine zhK _ ?_
    | (refine zhM _ _ ?_; clear zhN zhM)
    | refine exit_k ?_
    | (refine zbx _ ?_; clear zbn zbx zbr zbi)
    | (refine zhN _ ?_; clear zhN zhM)
    | refine ret_k ?_
    | (refine zhZ _ _ ?_; simp only [go_sem, polyC, lowB_length, Nat.sub_zero, Nat.zero_add, F0, hcq, hq]; (all_goals (first | (rw [hfa, hfin]; done) | (rw [hfa, hfin]; rfl))))
    | refine seq_k fun zN zM zhN zhM => ?_
    | (refine condF_k ?_ ?_; focus (first | rfl | (simp [go_sem, polyC, lowB_length, Nat.sub_zero, Nat.zero_add, F0, hcq, hq]; done)))
end Go.Sy

