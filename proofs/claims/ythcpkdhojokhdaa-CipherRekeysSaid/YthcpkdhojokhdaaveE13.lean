/- Walks: a block taken in, as the document tells it. -/
import Derived.Test.YthcpkdhojokhdaaveE12
set_option linter.unusedVariables false
set_option linter.unusedSimpArgs false
namespace Go.Sy
open Go.Proofs
attribute [local irreducible] atCall HT runOps runD onC onE onO onG goV goA goS onSt onGuard
theorem leN_one (n : Nat) : leN (1 :: List.replicate n 0) = 1 := by simp only [leN, leN_zeros]; rfl
theorem blk_val {l b : List UInt8} {y : Nat} (h : l ++ 1 :: List.replicate y 0 = b) (hl : b.length = 24) : val3 (lev (b.take 8)) (lev ((b.drop 8).take 8)) (lev ((b.drop 16).take 8)) = leN l + 256 ^ l.length := by
 rw [pieces24 hl, ← h, leN_append, leN_one, Nat.mul_one]
set_option maxHeartbeats 3200000 in
set_option maxRecDepth 100000 in
theorem psoaked_ (r0 r1 p0 p1 a0 a1 a2 : UInt64) (held : List UInt8) (hh : held.length = 16) (n : Int) (ha : a2.toNat < 4) (l : List UInt8) (hl : l.length ≤ 16) :
 Ct Try.prog 45 [.w (.agg (polyC r0 r1 p0 p1 a0 a1 a2 held n)), .w (.one (.pl (.str l)))] (fun v m => v = .w (.agg (polyC r0 r1 p0 p1 (sp0 (soakV a0 a1 a2 r0 r1 l)) (sp1 (soakV a0 a1 a2 r0 r1 l)) (sp2 (soakV a0 a1 a2 r0 r1 l)) (List.replicate 16 0) 0))) := by
 have hm1 : l.length + 1 ≤ 9223372036854775807 := by omega
 refine Ct.k Try.func45 rfl Try.ntmps45 (congrArg Array.toList Try.results45) (by simp) fun w0 ro => ?_
 refine top_k fun zZ zhZ => ?_
 iterate 6 first
  | (refine sr_k fun zK zhK => ?_; simp only [go_sem, polyC, W3, P5.ls, hh, hm1, Int.toNat_one]; (repeat' (first | apply And.intro | intro _)))
  | refine zhK _ ?_
  | refine block_k fun zB zbn zbx zbr zbi => ?_
  | refine seq_k fun zN zM zhN zhM => ?_
 refine ht_dropE [0, 1, 9, 10] ?_
 simp only [dropE_mk, fgt_nil, fgt_cons, List.contains_cons, List.contains_nil, Nat.reduceBEq, beq_self_eq_true, Bool.or_false, Bool.or_true, Bool.true_or, Bool.false_or, Bool.false_eq_true, reduceIte]
 refine loop_k (fun y => [(5, .w (.one (.pl (.str (l ++ 1 :: List.replicate y.1 0)))))]) (fun _ => []) (fun y => 23 - l.length - y.1) (⟨0, Nat.zero_le _⟩ : {y : Nat // y ≤ 23 - l.length}) ?_ ?_ ?_
 · (simp only [go_sem, leX, List.cons_append, List.nil_append, List.replicate_zero]; try simp)
 · (simp only [go_sem, leX, List.cons_append, List.nil_append]; try simp)
 intro yy zN zM zhN zhM
 simp only [List.cons_append, List.nil_append]
 obtain ⟨y, hy⟩ := yy
 obtain ⟨b, hb⟩ : ∃ b, l ++ 1 :: List.replicate y 0 = b := ⟨_, rfl⟩
 have hbl : b.length = l.length + 1 + y := by rw [← hb]; simp; omega
 simp only [hb]
 rcases Nat.lt_or_ge y (23 - l.length) with hlt | hge
 · have hcq : ((b.length : Nat) : Int) < 24 := by omega
   have hml : b.length + 1 ≤ 9223372036854775807 := by omega
   have hnx : b ++ [0] = l ++ 1 :: List.replicate (y + 1) 0 := by rw [← hb, List.append_assoc, List.cons_append, ← List.replicate_succ']
   refine seq_k fun zN zM zhN zhM => ?_
   refine sr_k fun zK zhK => ?_
   simp only [go_sem, polyC, W3, P5.ls, hh, hm1, Int.toNat_one, hcq, hml]
   repeat' (first | apply And.intro | intro _)
   refine zhK _ ?_
   (refine condT_k ?_ ?_; focus (first | rfl | (simp [go_sem, polyC, W3, P5.ls, hh, hm1, Int.toNat_one, hcq, hml]; done)))
   refine skip_k ?_
   refine zhN _ ?_; clear zhN zhM
   refine block_k fun zB zbn zbx zbr zbi => ?_
   refine region_k fun zK zhK => ?_
   simp only [go_sem, polyC, W3, P5.ls, hh, hm1, Int.toNat_one, hcq, hml]
   repeat' (first | apply And.intro | intro _)
   refine zhK _ ?_
   refine zbn _ ?_; clear zbn zbx zbr zbi
   refine zhN ⟨y + 1, hlt⟩ _ ?_ ?_ ?_
   · (show 23 - l.length - (y + 1) < 23 - l.length - y; omega)
   · (simp only [hnx, go_sem, leX, List.cons_append, List.nil_append]; try simp [hnx])
   · (simp only [go_sem, leX, List.cons_append, List.nil_append]; try simp)
 · have hbl : b.length = 24 := by omega
   have hn := blk_val hb hbl
   have hcq : ¬ ((24 : Nat) : Int) < 24 := by omega
   obtain ⟨ps0, ps1, ps2⟩ := psoak_of (r0 := r0) (r1 := r1) (a0 := a0) (a1 := a1) hn hl ha
   iterate 135 first
    | (refine rnd_forget (x := .seq (.region 7 _ _) _) [8, 31, 32, 33, 34, 35, 36, 37, 38, 39, 40, 41] ?_; simp only [go_sem, St.forget, fgt]; refine rnd_k fun zN zM zhN zhM => ?_)
    | refine zhK _ ?_
    | (refine zhN _ ?_; clear zhN zhM)
    | (refine sr_k fun zK zhK => ?_; simp only [go_sem, polyC, W3, P5.ls, hh, hm1, Int.toNat_one, hcq, hbl]; (repeat' (first | apply And.intro | intro _)))
    | refine zhK _ _ trivial ?_
    | refine block_k fun zB zbn zbx zbr zbi => ?_
    | refine skip_k ?_
    | (refine draw_k (id := 9) [33, 34, 35, 36, 37, 38, 39, 40] [0, 1, 3, 0, 8, 24, 63, 127, 255] [] mixed (by kernel_rfl) (by simp only [go_sem]) fun zK zhK => ?_; simp only [go_sem, polyC, W3, P5.ls, hh, hm1, Int.toNat_one, hcq, hbl]; (repeat' (first | apply And.intro | intro _)))
    | (refine zbn _ ?_; clear zbn zbx zbr zbi)
    | (refine region_k fun zK zhK => ?_; simp only [go_sem, polyC, W3, P5.ls, hh, hm1, Int.toNat_one, hcq, hbl]; (repeat' (first | apply And.intro | intro _)))
    | (refine zhM _ _ ?_; clear zhN zhM)
    | refine exit_k ?_
    | (refine zbx _ ?_; clear zbn zbx zbr zbi)
    | (refine sd_k (id := 4) [16, 17, 18, 19, 20, 21, 22, 23, 24, 25, 26, 6] [0, 1, 3, 0, 8, 31, 0, 64, 255, 511, 1023, 0, 4095] [] mixed (by kernel_rfl) (by simp only [go_sem]) fun zK zhK => ?_; simp only [go_sem, polyC, W3, P5.ls, hh, hm1, Int.toNat_one, hcq, hbl]; (repeat' (first | apply And.intro | intro _)))
    | refine rounds_k (x := .seq (.region 7 _ _) _) 6 ?_
    | refine rnd_k fun zN zM zhN zhM => ?_
    | (refine sd_k (id := 11) [42, 43, 44, 45, 46, 47, 48, 49, 50, 51, 52, 53, 54] [0, 1, 0, 4, 12, 0, 32, 96, 252, 511, 1023, 2047, 4095, 8191] [] mixed (by kernel_rfl) (by simp only [go_sem]) fun zK zhK => ?_; simp only [go_sem, polyC, W3, P5.ls, hh, hm1, Int.toNat_one, hcq, hbl]; (repeat' (first | apply And.intro | intro _)))
    | refine ret_k ?_
    | (refine zhZ _ _ ?_; simp only [go_sem, polyC, W3, P5.ls, hh, hm1, Int.toNat_one, hcq, hbl]; (all_goals (rw [ps0, ps1, ps2])))
    | ((all_goals refine call_draw (fun k => k) _ [] (fun _ _ => rfl) (by first | rfl | (simp only [go_sem, polyC, W3, P5.ls, hh, hm1, Int.toNat_one, hcq, hbl] <;> rfl)) ((number_ _ (by first | (simp [List.length_take, List.length_drop]; done) | (simp [List.length_take, List.length_drop]; omega))).plain fun _ _ h => h) ?_ ?_); (all_goals try (refine And.intro ?_ (And.intro ?_ (And.intro ?_ ?_)) <;> first | rfl | simp only [go_sem])); (all_goals simp only [go_sem, polyC, W3, P5.ls, hh, hm1, Int.toNat_one, hcq, hbl]); (all_goals repeat' (first | apply And.intro | intro _)))
    | ((all_goals (refine call_draw (fun k => k) _ [] (fun _ _ => rfl) ?_ ((parts_of (lev (b.take 8)) (lev ((b.drop 8).take 8)) (lev ((b.drop 16).take 8))).plain fun _ _ h => h) ?_ ?_; focus (first | rfl | (simp only [go_sem, polyC, W3, P5.ls, hh, hm1, Int.toNat_one, hcq, hbl] <;> rfl)))); (all_goals try (refine And.intro ?_ (And.intro ?_ (And.intro ?_ ?_)) <;> first | rfl | simp only [go_sem])); (all_goals simp only [go_sem, polyC, W3, P5.ls, hh, hm1, Int.toNat_one, hcq, hbl]); (all_goals repeat' (first | apply And.intro | intro _)))
    | ((all_goals (refine call_view (fun k => k) (fun _ _ => rfl) ?_ ((parts_of a0 a1 a2).plain fun _ _ h => h) ?_; focus (first | rfl | (simp only [go_sem, polyC, W3, P5.ls, hh, hm1, Int.toNat_one, hcq, hbl] <;> rfl)))); (all_goals (rintro v m ⟨hR, hm⟩; subst hR; subst hm)); (all_goals refine And.intro (by first | rfl | simp only [go_sem, polyC, W3, P5.ls, hh, hm1, Int.toNat_one, hcq, hbl]) (And.intro (by first | rfl | simp only [go_sem, polyC, W3, P5.ls, hh, hm1, Int.toNat_one, hcq, hbl]) ?_)); (all_goals simp only [go_sem, polyC, W3, P5.ls, hh, hm1, Int.toNat_one, hcq, hbl]); (all_goals repeat' (first | apply And.intro | intro _)))
    | ((all_goals (refine call_draw (fun k => k) _ [] (fun _ _ => rfl) ?_ ((carried_of ((parts3 a0 a1 a2).addP (parts3 (lev (b.take 8)) (lev ((b.drop 8).take 8)) (lev ((b.drop 16).take 8))))).plain fun _ _ h => h) ?_ ?_; focus (first | rfl | (simp only [go_sem, polyC, W3, P5.ls, hh, hm1, Int.toNat_one, hcq, hbl] <;> rfl)))); (all_goals try (refine And.intro ?_ (And.intro ?_ (And.intro ?_ ?_)) <;> first | rfl | simp only [go_sem])); (all_goals simp only [go_sem, polyC, W3, P5.ls, hh, hm1, Int.toNat_one, hcq, hbl]); (all_goals repeat' (first | apply And.intro | intro _)))
    | ((all_goals (refine call_draw (fun k => k) _ [] (fun _ _ => rfl) ?_ ((parts_of r0 r1 0).plain fun _ _ h => h) ?_ ?_; focus (first | rfl | (simp only [go_sem, polyC, W3, P5.ls, hh, hm1, Int.toNat_one, hcq, hbl] <;> rfl)))); (all_goals try (refine And.intro ?_ (And.intro ?_ (And.intro ?_ ?_)) <;> first | rfl | simp only [go_sem])); (all_goals simp only [go_sem, polyC, W3, P5.ls, hh, hm1, Int.toNat_one, hcq, hbl]); (all_goals repeat' (first | apply And.intro | intro _)))
    | ((all_goals (refine call_draw (fun k => k) _ [] (fun _ _ => rfl) ?_ ((ptimes_ ((parts3 a0 a1 a2).addP (parts3 (lev (b.take 8)) (lev ((b.drop 8).take 8)) (lev ((b.drop 16).take 8)))).carried (parts3 r0 r1 0)).plain fun _ _ h => h) ?_ ?_; focus (first | rfl | (simp only [go_sem, polyC, W3, P5.ls, hh, hm1, Int.toNat_one, hcq, hbl] <;> rfl)))); (all_goals try (refine And.intro ?_ (And.intro ?_ (And.intro ?_ ?_)) <;> first | rfl | simp only [go_sem])); (all_goals simp only [go_sem, polyC, W3, P5.ls, hh, hm1, Int.toNat_one, hcq, hbl]); (all_goals repeat' (first | apply And.intro | intro _)))
    | ((all_goals (refine call_draw (fun k => k) _ [] (fun _ _ => rfl) ?_ ((whole_of (mul5 ((parts3 a0 a1 a2).addP (parts3 (lev (b.take 8)) (lev ((b.drop 8).take 8)) (lev ((b.drop 16).take 8)))).carried (parts3 r0 r1 0)).carried).plain fun _ _ h => h) ?_ ?_; focus (first | rfl | (simp only [go_sem, polyC, W3, P5.ls, hh, hm1, Int.toNat_one, hcq, hbl] <;> rfl)))); (all_goals try (refine And.intro ?_ (And.intro ?_ (And.intro ?_ ?_)) <;> first | rfl | simp only [go_sem])); (all_goals simp only [go_sem, polyC, W3, P5.ls, hh, hm1, Int.toNat_one, hcq, hbl]); (all_goals repeat' (first | apply And.intro | intro _)))
    | refine seq_k fun zN zM zhN zhM => ?_
    | (refine condT_k ?_ ?_; focus (first | rfl | (simp [go_sem, polyC, W3, P5.ls, hh, hm1, Int.toNat_one, hcq, hbl]; done)))
    | (refine condF_k ?_ ?_; focus (first | rfl | (simp [go_sem, polyC, W3, P5.ls, hh, hm1, Int.toNat_one, hcq, hbl]; done)))
end Go.Sy

