/- The end of a sum: the walks of both. -/
import Derived.Test.YtcmcnfjdfcianaaDoorvqgB11
import Derived.Test.YtcmcnfjdfcianaaDoorvqgB4
import Derived.Test.YtcmcnfjdfcianaaDoorvqgB7
set_option linter.unusedVariables false
set_option linter.unusedSimpArgs false
namespace Go.Sy
namespace Bk
open Go.Proofs
attribute [local irreducible] atCall HT runOps runD onC onE onO onG goV goA goS onSt onGuard
set_option maxHeartbeats 800000 in
set_option maxRecDepth 100000 in
theorem hend_bad (h0 h1 h2 h3 h4 h5 h6 h7 : UInt32) (held : List UInt8) (hh : held.length = 64) (n len : Int) (hno : ¬ HashOk held n len) :
 CtM Tryd.prog 39 [.w (.agg (hashC ⟨h0, h1, h2, h3, h4, h5, h6, h7⟩ held n len))] [(1000000, ⟨false, [.pl (.u32 1779033703), .pl (.u32 3144134277), .pl (.u32 1013904242), .pl (.u32 2773480762), .pl (.u32 1359893119), .pl (.u32 2600822924), .pl (.u32 528734635), .pl (.u32 1541459225)]⟩), (1000002, ⟨false, ordC⟩)] (Told (fun v m => v = .tup [.agg (bytesC (List.replicate 32 0)), .one (.pl (.i 9))] ∧ m = [])) := by
 have he := herr_no hno
 refine CtM.k Tryd.func39 rfl Tryd.ntmps39 (congrArg Array.toList Tryd.results39) (by simp) fun w0 ro may fx => ?_
 refine top_k fun zZ zhZ => ?_
 iterate 14 first
  | (refine sr_k fun zK zhK => ?_; simp only [go_sem, hashC, H8.ls, hh, he]; (repeat' (first | apply And.intro | intro _)))
  | refine zhK _ ?_
  | refine ret_k ?_
  | (refine zhM _ _ ?_; clear zhN zhM)
  | (refine zhZ _ _ ?_; simp only [go_sem, hashC, H8.ls, hh, he]; (all_goals (exact told_plain rfl ⟨rfl, rfl⟩)))
  | ((all_goals (refine call_view (fun k => k) (fun _ _ => rfl) ?_ ((hash_check h0 h1 h2 h3 h4 h5 h6 h7 held hh n len).plain fun _ _ h => h) ?_; focus (first | rfl | (simp only [go_sem, hashC, H8.ls, hh, he] <;> rfl)))); (all_goals (rintro v m ⟨hR, hm⟩; subst hR; subst hm)); (all_goals refine And.intro (by first | rfl | simp only [go_sem, hashC, H8.ls, hh, he]) (And.intro (by first | rfl | simp only [go_sem, hashC, H8.ls, hh, he]) ?_)); (all_goals simp only [go_sem, hashC, H8.ls, hh, he]); (all_goals repeat' (first | apply And.intro | intro _)))
  | refine seq_k fun zN zM zhN zhM => ?_
  | (refine condT_k ?_ ?_; focus (first | rfl | (simp [go_sem, hashC, H8.ls, hh, he]; done)))
set_option maxHeartbeats 800000 in
set_option maxRecDepth 100000 in
theorem hended_bad (h0 h1 h2 h3 h4 h5 h6 h7 : UInt32) (held : List UInt8) (hh : held.length = 64) (n len : Int) (hno : ¬ HashOk held n len) :
 CtM Tryd.prog 45 [.w (.agg (hashC ⟨h0, h1, h2, h3, h4, h5, h6, h7⟩ held n len))] [(1000001, ⟨false, [.pl (.u32 1779033703), .pl (.u32 3144134277), .pl (.u32 1013904242), .pl (.u32 2773480762), .pl (.u32 1359893119), .pl (.u32 2600822924), .pl (.u32 528734635), .pl (.u32 1541459225)]⟩)] (Told (fun v m => v = .tup [.agg (bytesC (List.replicate 32 0)), .one (.pl (.i 9))] ∧ m = [])) := by
 have he := hbad_no hno
 refine CtM.k Tryd.func45 rfl Tryd.ntmps45 (congrArg Array.toList Tryd.results45) (by simp) fun w0 ro may fx => ?_
 refine top_k fun zZ zhZ => ?_
 iterate 12 first
  | (refine sr_k fun zK zhK => ?_; simp only [go_sem, hashC, H8.ls, hh, he]; (repeat' (first | apply And.intro | intro _)))
  | refine zhK _ ?_
  | refine ret_k ?_
  | (refine zhM _ _ ?_; clear zhN zhM)
  | (refine zhZ _ _ ?_; simp only [go_sem, hashC, H8.ls, hh, he]; (all_goals (exact told_plain rfl ⟨rfl, rfl⟩)))
  | ((all_goals (refine call_view (fun k => k) (fun _ _ => rfl) ?_ ((hash_bad h0 h1 h2 h3 h4 h5 h6 h7 held hh n len).plain fun _ _ h => h) ?_; focus (first | rfl | (simp only [go_sem, hashC, H8.ls, hh, he] <;> rfl)))); (all_goals (rintro v m ⟨hR, hm⟩; subst hR; subst hm)); (all_goals refine And.intro (by first | rfl | simp only [go_sem, hashC, H8.ls, hh, he]) (And.intro (by first | rfl | simp only [go_sem, hashC, H8.ls, hh, he]) ?_)); (all_goals simp only [go_sem, hashC, H8.ls, hh, he]); (all_goals repeat' (first | apply And.intro | intro _)))
  | refine seq_k fun zN zM zhN zhM => ?_
  | (refine condT_k ?_ ?_; focus (first | rfl | (simp [go_sem, hashC, H8.ls, hh, he]; done)))
set_option maxHeartbeats 1600000 in
set_option maxRecDepth 100000 in
theorem hend_ok (h0 h1 h2 h3 h4 h5 h6 h7 : UInt32) (held : List UInt8) (hh : held.length = 64) (k l : Nat) (hok : HashOk held (k : Int) (l : Int)) :
 CtM Tryd.prog 39 [.w (.agg (hashC ⟨h0, h1, h2, h3, h4, h5, h6, h7⟩ held (k : Int) (l : Int)))] [(1000000, ⟨false, [.pl (.u32 1779033703), .pl (.u32 3144134277), .pl (.u32 1013904242), .pl (.u32 2773480762), .pl (.u32 1359893119), .pl (.u32 2600822924), .pl (.u32 528734635), .pl (.u32 1541459225)]⟩), (1000002, ⟨false, ordC⟩)] (Told (fun v m => v = .tup [.agg (bytesC (keyB (soakB ⟨h0, h1, h2, h3, h4, h5, h6, h7⟩ held l true).l)), .one (.pl (.i 0))] ∧ m = [])) := by
 have he := herr_ok hok
 have hb := hbad_ok hok
 have hl3 : l ≤ 1073741824 := by have := hok.mx; omega
 obtain ⟨s, hs⟩ : ∃ s, soakB ⟨h0, h1, h2, h3, h4, h5, h6, h7⟩ held l true = s := ⟨_, rfl⟩
 have hlsl := s.ls_l
 have hl8 := s.l_length
 have hul := u32_len s.l
 rw [hl8] at hul
 have hsq := squeeze_ h0 h1 h2 h3 h4 h5 h6 h7 held hh (k : Int) l hl3 true
 rw [hs, hlsl] at hsq
 have F0 := And.intro hh <| And.intro he <| hul
 refine CtM.k Tryd.func39 rfl Tryd.ntmps39 (congrArg Array.toList Tryd.results39) (by simp) fun w0 ro may fx => ?_
 refine top_k fun zZ zhZ => ?_
 iterate 20 first
  | (refine sr_k fun zK zhK => ?_; simp only [go_sem, hashC, H8.ls, F0]; (repeat' (first | apply And.intro | intro _)))
  | refine zhK _ ?_
  | refine skip_k ?_
  | (refine zhN _ ?_; clear zhN zhM)
  | refine block_k fun zB zbn zbx zbr zbi => ?_
  | ((all_goals (refine call_view (fun k => k) (fun _ _ => rfl) ?_ ((hash_check h0 h1 h2 h3 h4 h5 h6 h7 held hh (k : Int) (l : Int)).plain fun _ _ h => h) ?_; focus (first | rfl | (simp only [go_sem, hashC, H8.ls, F0] <;> rfl)))); (all_goals (rintro v m ⟨hR, hm⟩; subst hR; subst hm)); (all_goals refine And.intro (by first | rfl | simp only [go_sem, hashC, H8.ls, F0]) (And.intro (by first | rfl | simp only [go_sem, hashC, H8.ls, F0]) ?_)); (all_goals simp only [go_sem, hashC, H8.ls, F0]); (all_goals repeat' (first | apply And.intro | intro _)))
  | ((all_goals (refine call_hand false [] (fun k => k) (fun _ _ => rfl) ?_ (by decide) ?_ hsq.told ?_; iterate 2 (focus (first | rfl | (simp only [go_sem, hashC, H8.ls, F0] <;> first | done | rfl | simp))))); (all_goals (rintro v m ⟨hR, hm⟩; subst hR; subst hm)); (all_goals (refine And.intro ?_ (And.intro ?_ (And.intro ?_ ?_)); iterate 3 (focus (first | rfl | (simp only [go_sem, hashC, H8.ls, F0]; done) | (simp [go_sem, look, hashC, H8.ls, F0]; done))))); (all_goals (try simp only [go_sem, hashC, H8.ls, F0])); (all_goals (try simp only [go_sem, hashC, H8.ls, F0])); (all_goals repeat' (first | apply And.intro | intro _)))
  | refine seq_k fun zN zM zhN zhM => ?_
  | (refine condF_k ?_ ?_; focus (first | rfl | (simp [go_sem, hashC, H8.ls, F0]; done)))
 refine ht_dropE [0, 1, 4, 8, 9, 10, 11, 12, 13, 14, 15] ?_
 simp only [dropE_mk, fgt_nil, fgt_cons, List.contains_cons, List.contains_nil, Nat.reduceBEq, beq_self_eq_true, Bool.or_false, Bool.or_true, Bool.true_or, Bool.false_or, Bool.false_eq_true, reduceIte]
 refine loop_k (fun y => [(16, .w (.one (.pl (.i ((y.1.1 : Nat) : Int)))))]) (fun y => [(6, ⟨false, bytesC y.1.2⟩)]) (fun y => 32 - y.1.1) (⟨(0, List.replicate 32 0), Nat.zero_le _, by simp, rfl⟩ : {y : Nat × List UInt8 // y.1 ≤ 32 ∧ y.2.length = 32 ∧ y.2.take y.1 = (keyB s.l).take y.1}) ?_ ?_ ?_
 · (simp only [go_sem, leX, List.cons_append, List.nil_append]; try simp)
 · (simp only [go_sem, leX, List.cons_append, List.nil_append]; try simp)
 intro yy zN zM zhN zhM
 simp only [List.cons_append, List.nil_append]
 obtain ⟨⟨i, q⟩, hi, hq, hv⟩ := yy
 simp only at hi hq hv
 rcases Nat.lt_or_ge i 32 with hlt | hge
 · have hcq : ((i : Nat) : Int) < 32 := by omega
   have hc0 : (0 : Int) ≤ ((i : Nat) : Int) ∧ (0 : Int) ≤ ((i / 4 : Nat) : Int) ∧ ((i / 4 : Nat) : Int) < 8 ∧ (0 : Int) ≤ ((8 * (i % 4) : Nat) : Int) ∧ i + 1 ≤ 32 ∧ i / 4 + 1 ≤ 8 := by omega
   have hdv : ((i : Nat) : Int).tdiv 4 = ((i / 4 : Nat) : Int) := rfl
   have hmv : ((i : Nat) : Int).tmod 4 = ((i % 4 : Nat) : Int) := rfl
   have hu1 := u32_one (l := s.l) (i := i / 4) (by omega)
   have hke := keyB_at s i hlt
   obtain ⟨x, hx⟩ : ∃ x, (keyB s.l).getD i 0 = x := ⟨_, rfl⟩
   have hst := set_take hq (keyB_length s) hlt hv
   rw [hx] at hke hst
   obtain ⟨hwd, hw8, hs1⟩ : Go.RowKit.wrap64 ((i / 4 : Nat) : Int) = ((i / 4 : Nat) : Int) ∧ Go.RowKit.wrap64 (8 * ((i % 4 : Nat) : Int)) = ((8 * (i % 4) : Nat) : Int) ∧ Go.RowKit.wrap64 (((i : Nat) : Int) + 1) = ((i + 1 : Nat) : Int) := ⟨wnat rfl (by omega), wnat (by omega) (by omega), wnat (by omega) (by omega)⟩
   have hput : bytesC (List.take i q) ++ [L.pl (PL.u8 x)] ++ bytesC (List.drop (i + 1) q) = bytesC (q.take i ++ x :: q.drop (i + 1)) := by simp [bytesC]
   have n2 := put_len hq hlt x
   have F10 := And.intro hq <| And.intro hcq <| And.intro hc0 <| And.intro hdv <| And.intro hmv <| And.intro hwd <| And.intro hw8 <| And.intro hs1 <| And.intro hu1 <| And.intro hke <| hput
   iterate 16 first
    | refine zhK _ ?_
    | (refine sr_k fun zK zhK => ?_; simp only [go_sem, hashC, H8.ls, F0, F10]; (repeat' (first | apply And.intro | intro _)))
    | (refine zhN _ ?_; clear zhN zhM)
    | (refine region_k fun zK zhK => ?_; simp only [go_sem, hashC, H8.ls, F0, F10]; (repeat' (first | apply And.intro | intro _)))
    | refine skip_k ?_
    | refine block_k fun zB zbn zbx zbr zbi => ?_
    | (refine zbn _ ?_; clear zbn zbx zbr zbi)
    | refine seq_k fun zN zM zhN zhM => ?_
    | (refine condT_k ?_ ?_; focus (first | rfl | (simp [go_sem, hashC, H8.ls, F0, F10]; done)))
   refine zhN ⟨(i + 1, q.take i ++ x :: q.drop (i + 1)), hlt, n2, hst⟩ _ ?_ ?_ ?_
   · (exact Nat.sub_lt_sub_left hlt (Nat.lt_succ_self i))
   · (simp only [go_sem, leX, List.cons_append, List.nil_append]; try simp)
   · (simp only [go_sem, leX, List.cons_append, List.nil_append]; try simp)
 · obtain rfl : i = 32 := by omega
   have hcq : ¬ ((32 : Nat) : Int) < 32 := by omega
   have hqe : q = keyB s.l := by rw [List.take_of_length_le (by omega), List.take_of_length_le (by rw [keyB_length]; omega)] at hv; exact hv
   iterate 13 first
    | (refine sr_k fun zK zhK => ?_; simp only [go_sem, hashC, H8.ls, F0, hq, hcq]; (repeat' (first | apply And.intro | intro _)))
    | refine zhK _ ?_
    | (refine zhM _ _ ?_; clear zhN zhM)
    | refine exit_k ?_
    | (refine zbx _ ?_; clear zbn zbx zbr zbi)
    | (refine zhN _ ?_; clear zhN zhM)
    | refine ret_k ?_
    | (refine zhZ _ _ ?_; simp only [go_sem, hashC, H8.ls, F0, hq, hcq]; (all_goals (exact told_plain (plain_key _ _) ⟨by rw [hqe, hs], rfl⟩)))
    | refine seq_k fun zN zM zhN zhM => ?_
    | (refine condF_k ?_ ?_; focus (first | rfl | (simp [go_sem, hashC, H8.ls, F0, hq, hcq]; done)))
set_option maxHeartbeats 1600000 in
set_option maxRecDepth 100000 in
theorem hended_ok (h0 h1 h2 h3 h4 h5 h6 h7 : UInt32) (held : List UInt8) (hh : held.length = 64) (k l : Nat) (hok : HashOk held (k : Int) (l : Int)) :
 CtM Tryd.prog 45 [.w (.agg (hashC ⟨h0, h1, h2, h3, h4, h5, h6, h7⟩ held (k : Int) (l : Int)))] [(1000001, ⟨false, [.pl (.u32 1779033703), .pl (.u32 3144134277), .pl (.u32 1013904242), .pl (.u32 2773480762), .pl (.u32 1359893119), .pl (.u32 2600822924), .pl (.u32 528734635), .pl (.u32 1541459225)]⟩)] (Told (fun v m => v = .tup [.agg (bytesC (keyB (soakB ⟨h0, h1, h2, h3, h4, h5, h6, h7⟩ held l true).l)), .one (.pl (.i 0))] ∧ m = [])) := by
 have he := herr_ok hok
 have hb := hbad_ok hok
 have hl3 : l ≤ 1073741824 := by have := hok.mx; omega
 obtain ⟨s, hs⟩ : ∃ s, soakB ⟨h0, h1, h2, h3, h4, h5, h6, h7⟩ held l true = s := ⟨_, rfl⟩
 obtain ⟨s0, s1, s2, s3, s4, s5, s6, s7⟩ := s
 have F0 := And.intro hh <| And.intro hb <| hs
 refine CtM.k Tryd.func45 rfl Tryd.ntmps45 (congrArg Array.toList Tryd.results45) (by simp) fun w0 ro may fx => ?_
 refine top_k fun zZ zhZ => ?_
 iterate 186 first
  | (refine rnd_forget (x := .seq (.region 6 _ _) _) [7, 21, 22, 23, 24, 25, 26, 27, 28] ?_; simp only [go_sem, St.forget, fgt]; refine rnd_k fun zN zM zhN zhM => ?_)
  | refine rnd_k fun zN zM zhN zhM => ?_
  | refine zhK _ ?_
  | (refine zhN _ ?_; clear zhN zhM)
  | (refine sr_k fun zK zhK => ?_; simp only [go_sem, hashC, H8.ls, lowB_length, F0]; (repeat' (first | apply And.intro | intro _)))
  | (refine region_k fun zK zhK => ?_; simp only [go_sem, hashC, H8.ls, lowB_length, F0]; (repeat' (first | apply And.intro | intro _)))
  | refine skip_k ?_
  | refine block_k fun zB zbn zbx zbr zbi => ?_
  | (refine zbn _ ?_; clear zbn zbx zbr zbi)
  | (refine zhM _ _ ?_; clear zhN zhM)
  | refine rounds_k (x := .seq (.region 6 _ _) _) 9 ?_
  | refine exit_k ?_
  | (refine zbx _ ?_; clear zbn zbx zbr zbi)
  | refine ret_k ?_
  | (refine zhZ _ _ ?_; simp only [go_sem, hashC, H8.ls, lowB_length, F0]; (all_goals (exact told_plain (plain_key _ _) ⟨by simp [keyB, H8.l, List.append_assoc], rfl⟩)))
  | ((all_goals refine call_view (fun k => k) (fun _ _ => rfl) (by first | rfl | (simp only [go_sem, hashC, H8.ls, lowB_length, F0] <;> rfl)) ((low_ _ 4 (by decide)).plain fun _ _ h => h) ?_); (all_goals (rintro v m ⟨hR, hm⟩; subst hR; subst hm)); (all_goals refine And.intro (by first | rfl | simp only [go_sem, hashC, H8.ls, lowB_length, F0]) (And.intro (by first | rfl | simp only [go_sem, hashC, H8.ls, lowB_length, F0]) ?_)); (all_goals simp only [go_sem, hashC, H8.ls, lowB_length, F0]); (all_goals repeat' (first | apply And.intro | intro _)))
  | ((all_goals (refine call_view (fun k => k) (fun _ _ => rfl) ?_ ((hash_bad h0 h1 h2 h3 h4 h5 h6 h7 held hh (k : Int) (l : Int)).plain fun _ _ h => h) ?_; focus (first | rfl | (simp only [go_sem, hashC, H8.ls, lowB_length, F0] <;> rfl)))); (all_goals (rintro v m ⟨hR, hm⟩; subst hR; subst hm)); (all_goals refine And.intro (by first | rfl | simp only [go_sem, hashC, H8.ls, lowB_length, F0]) (And.intro (by first | rfl | simp only [go_sem, hashC, H8.ls, lowB_length, F0]) ?_)); (all_goals simp only [go_sem, hashC, H8.ls, lowB_length, F0]); (all_goals repeat' (first | apply And.intro | intro _)))
  | (refine dr_k (id := 5) mixed fun zE zhE => ?_; refine dr_piece_k (p := 0) 8 [13, 14, 15, 16, 17, 18, 19, 20] [0, 1, 0, 4, 0, 16, 63, 0] [] rfl (by kernel_rfl) rfl (by simp only [go_sem]) fun zR zK zhR zhK => ?_; simp only [go_sem, hashC, H8.ls, lowB_length, F0]; (repeat' (first | apply And.intro | intro _)); (all_goals (refine call_drawhand (fun k => k) _ [] (fun _ _ => rfl) ?_ ?_ ?_ (squeezed_ h0 h1 h2 h3 h4 h5 h6 h7 held hh l hl3 true).told ?_ ?_; (iterate 2 (focus (first | rfl | (simp only [go_sem, hashC, H8.ls, lowB_length, F0] <;> first | done | rfl | simp)))); (first | kernel_rfl | rfl | simp [fixO, fixL, pls]))); (all_goals try (refine And.intro ?_ (And.intro ?_ (And.intro ?_ ?_)) <;> (first | rfl | (simp only [go_sem, hashC, H8.ls, lowB_length, F0]; done) | (simp [go_sem, look, hashC, H8.ls, lowB_length, F0]; done)))); (all_goals (try simp only [go_sem, hashC, H8.ls, lowB_length, F0])); (all_goals (try simp only [go_sem, hashC, H8.ls, lowB_length, F0])); (all_goals repeat' (first | apply And.intro | intro _)); refine zhK _ _ trivial (zhR _ ?_); refine dr_end rfl (zhE _ ?_))
  | ((all_goals refine call_view (fun k => k) (fun _ _ => rfl) (by first | rfl | (simp only [go_sem, hashC, H8.ls, lowB_length, F0] <;> rfl)) ((key_ _ (by first | rfl | simp [lowB_length])).plain fun _ _ h => h) ?_); (all_goals (rintro v m ⟨hR, hm⟩; subst hR; subst hm)); (all_goals refine And.intro (by first | rfl | simp only [go_sem, hashC, H8.ls, lowB_length, F0]) (And.intro (by first | rfl | simp only [go_sem, hashC, H8.ls, lowB_length, F0]) ?_)); (all_goals simp only [go_sem, hashC, H8.ls, lowB_length, F0]); (all_goals repeat' (first | apply And.intro | intro _)))
  | refine seq_k fun zN zM zhN zhM => ?_
  | (refine condT_k ?_ ?_; focus (first | rfl | (simp [go_sem, hashC, H8.ls, lowB_length, F0]; done)))
  | (refine condF_k ?_ ?_; focus (first | rfl | (simp [go_sem, hashC, H8.ls, lowB_length, F0]; done)))
end Bk
end Go.Sy
