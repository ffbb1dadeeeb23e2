/- The end of a sum: the walks of both. -/
import Derived.Test.YtojdgfocpmlpfaaDoorvgB11
import Derived.Test.YtojdgfocpmlpfaaDoorvgB4
import Derived.Test.YtojdgfocpmlpfaaDoorvgB7
set_option linter.unusedVariables false
set_option linter.unusedSimpArgs false
namespace Go.Sy
open Go.Proofs
attribute [local irreducible] atCall HT runOps runD onC onE onO onG goV goA goS onSt onGuard
set_option maxHeartbeats 1600000 in
set_option maxRecDepth 100000 in
theorem hend_ok (h0 h1 h2 h3 h4 h5 h6 h7 : UInt32) (held : List UInt8) (hh : held.length = 64) (k l : Nat) (hok : HashOk held (k : Int) (l : Int)) :
 CtM Tryd.prog 10 [.w (.agg (hashC ⟨h0, h1, h2, h3, h4, h5, h6, h7⟩ held (k : Int) (l : Int)))] [(1000000, ⟨false, [.pl (.u32 1779033703), .pl (.u32 3144134277), .pl (.u32 1013904242), .pl (.u32 2773480762), .pl (.u32 1359893119), .pl (.u32 2600822924), .pl (.u32 528734635), .pl (.u32 1541459225)]⟩), (1000002, ⟨false, ordC⟩)] (Told (fun v m => v = .tup [.agg (bytesC (keyB (soakB ⟨h0, h1, h2, h3, h4, h5, h6, h7⟩ held l true).l)), .one (.pl (.i 0))] ∧ m = [])) := by
 have he := herr_ok hok
 have hb := hbad_ok hok
 have hl3 : l ≤ 1073741824 := by have := hok.mx; omega
 obtain ⟨s, hs⟩ : ∃ s, soakB ⟨h0, h1, h2, h3, h4, h5, h6, h7⟩ held l true = s := ⟨_, rfl⟩
 have hlsl := s.ls_l
 have hl8 := s.l_length
 have hul := u32_len s.l
 rw [hl8] at hul
 have hsq := squeeze_ h0 h1 h2 h3 h4 h5 h6 h7 held hh (k : Int) l hl3 true
 rw [hs, hlsl] at hsq
 have F0 := And.intro hh <| And.intro he <| hul
 refine CtM.k Tryd.func10 rfl Tryd.ntmps10 (congrArg Array.toList Tryd.results10) (by simp) fun w0 ro may fx => ?_
 refine sr_k fun K1 hK1 => ?_
 simp only [go_sem, hashC, H8.ls, F0]
 repeat' (first | apply And.intro | intro _)
 refine hK1 _ ?_
 refine seq_k fun N2 M2 hN2 hM2 => ?_
 refine sr_k fun K3 hK3 => ?_
 simp only [go_sem, hashC, H8.ls, F0]
 repeat' (first | apply And.intro | intro _)
 all_goals refine call_view (fun k => k) (fun _ _ => rfl) (by first | rfl | (simp only [go_sem, hashC, H8.ls, F0] <;> rfl)) ((hash_check h0 h1 h2 h3 h4 h5 h6 h7 held hh (k : Int) (l : Int)).plain fun _ _ h => h) ?_
 all_goals (rintro v m ⟨hR, hm⟩; subst hR; subst hm)
 all_goals refine And.intro (by first | rfl | simp only [go_sem, hashC, H8.ls, F0]) (And.intro (by first | rfl | simp only [go_sem, hashC, H8.ls, F0]) ?_)
 all_goals simp only [go_sem, hashC, H8.ls, F0]
 all_goals repeat' (first | apply And.intro | intro _)
 refine hK3 _ ?_
 refine sr_k fun K4 hK4 => ?_
 simp only [go_sem, hashC, H8.ls, F0]
 repeat' (first | apply And.intro | intro _)
 refine hK4 _ ?_
 refine condF_k (by first | rfl | (simp [go_sem, hashC, H8.ls, F0]; done)) ?_
 refine skip_k ?_
 refine hN2 _ ?_
 refine sr_k fun K5 hK5 => ?_
 simp only [go_sem, hashC, H8.ls, F0]
 repeat' (first | apply And.intro | intro _)
 all_goals (refine call_hand false [] (fun k => k) (fun _ _ => rfl) ?_ (by decide) ?_ hsq.told ?_; iterate 2 (focus (first | rfl | (simp only [go_sem, hashC, H8.ls, F0] <;> first | done | rfl | simp))))
 all_goals (rintro v m ⟨hR, hm⟩; subst hR; subst hm)
 all_goals (refine And.intro ?_ (And.intro ?_ (And.intro ?_ ?_)); iterate 3 (focus (first | rfl | (simp only [go_sem, hashC, H8.ls, F0]; done) | (simp [go_sem, look, hashC, H8.ls, F0]; done))))
 all_goals (try simp only [go_sem, hashC, H8.ls, F0])
 all_goals (try simp only [go_sem, hashC, H8.ls, F0])
 all_goals repeat' (first | apply And.intro | intro _)
 refine hK5 _ ?_
 refine sr_k fun K6 hK6 => ?_
 simp only [go_sem, hashC, H8.ls, F0]
 repeat' (first | apply And.intro | intro _)
 refine hK6 _ ?_
 refine seq_k fun N7 M7 hN7 hM7 => ?_
 refine sr_k fun K8 hK8 => ?_
 simp only [go_sem, hashC, H8.ls, F0]
 repeat' (first | apply And.intro | intro _)
 refine hK8 _ ?_
 refine block_k fun B9 bn9 bx9 br9 bi9 => ?_
 refine ht_dropE [0, 1, 4, 8, 9, 10, 11, 12, 13, 14, 15] ?_
 simp only [dropE_mk, fgt_nil, fgt_cons, List.contains_cons, List.contains_nil, Nat.reduceBEq, beq_self_eq_true, Bool.or_false, Bool.or_true, Bool.true_or, Bool.false_or, Bool.false_eq_true, reduceIte]
 refine loop_k (fun y => [(16, .w (.one (.pl (.i ((y.1.1 : Nat) : Int)))))]) (fun y => [(6, ⟨false, bytesC y.1.2⟩)]) (fun y => 32 - y.1.1) (⟨(0, List.replicate 32 0), Nat.zero_le _, by simp, rfl⟩ : {y : Nat × List UInt8 // y.1 ≤ 32 ∧ y.2.length = 32 ∧ y.2.take y.1 = (keyB s.l).take y.1}) ?_ ?_ ?_
 · (simp only [go_sem, leX, List.cons_append, List.nil_append]; try simp)
 · (simp only [go_sem, leX, List.cons_append, List.nil_append]; try simp)
 intro yy N10 M10 hN10 hM10
 simp only [List.cons_append, List.nil_append]
 obtain ⟨⟨i, q⟩, hi, hq, hv⟩ := yy
 simp only at hi hq hv
 rcases Nat.lt_or_ge i 32 with hlt | hge
 · have hcq : ((i : Nat) : Int) < 32 := by omega
   have hc0 : (0 : Int) ≤ ((i : Nat) : Int) ∧ (0 : Int) ≤ ((i / 4 : Nat) : Int) ∧ ((i / 4 : Nat) : Int) < 8 ∧ (0 : Int) ≤ ((8 * (i % 4) : Nat) : Int) ∧ i + 1 ≤ 32 ∧ i / 4 + 1 ≤ 8 := by omega
   have hdv : ((i : Nat) : Int).tdiv 4 = ((i / 4 : Nat) : Int) := rfl
   have hmv : ((i : Nat) : Int).tmod 4 = ((i % 4 : Nat) : Int) := rfl
   have hu1 := u32_one (l := s.l) (i := i / 4) (by omega)
   have hke := keyB_at s i hlt
   obtain ⟨x, hx⟩ : ∃ x, (keyB s.l).getD i 0 = x := ⟨_, rfl⟩
   have hst := set_take hq (keyB_length s) hlt hv
   rw [hx] at hke hst
   obtain ⟨hwd, hw8, hs1⟩ : Go.RowKit.wrap64 ((i / 4 : Nat) : Int) = ((i / 4 : Nat) : Int) ∧ Go.RowKit.wrap64 (8 * ((i % 4 : Nat) : Int)) = ((8 * (i % 4) : Nat) : Int) ∧ Go.RowKit.wrap64 (((i : Nat) : Int) + 1) = ((i + 1 : Nat) : Int) := ⟨wnat rfl (by omega), wnat (by omega) (by omega), wnat (by omega) (by omega)⟩
   have hput : bytesC (List.take i q) ++ [L.pl (PL.u8 x)] ++ bytesC (List.drop (i + 1) q) = bytesC (q.take i ++ x :: q.drop (i + 1)) := by simp [bytesC]
   have n2 := put_len hq hlt x
   have F10 := And.intro hq <| And.intro hcq <| And.intro hc0 <| And.intro hdv <| And.intro hmv <| And.intro hwd <| And.intro hw8 <| And.intro hs1 <| And.intro hu1 <| And.intro hke <| hput
   refine sr_k fun K11 hK11 => ?_
   simp only [go_sem, hashC, H8.ls, F0, F10]
   repeat' (first | apply And.intro | intro _)
   refine hK11 _ ?_
   refine seq_k fun N12 M12 hN12 hM12 => ?_
   refine condT_k (by first | rfl | (simp [go_sem, hashC, H8.ls, F0, F10]; done)) ?_
   refine skip_k ?_
   refine hN12 _ ?_
   refine seq_k fun N13 M13 hN13 hM13 => ?_
   refine block_k fun B14 bn14 bx14 br14 bi14 => ?_
   refine sr_k fun K15 hK15 => ?_
   simp only [go_sem, hashC, H8.ls, F0, F10]
   repeat' (first | apply And.intro | intro _)
   refine hK15 _ ?_
   refine region_k fun K16 hK16 => ?_
   simp only [go_sem, hashC, H8.ls, F0, F10]
   repeat' (first | apply And.intro | intro _)
   refine hK16 _ ?_
   refine bn14 _ ?_
   refine hN13 _ ?_
   refine region_k fun K17 hK17 => ?_
   simp only [go_sem, hashC, H8.ls, F0, F10]
   repeat' (first | apply And.intro | intro _)
   refine hK17 _ ?_
   refine hN10 ⟨(i + 1, q.take i ++ x :: q.drop (i + 1)), hlt, n2, hst⟩ _ ?_ ?_ ?_
   · (exact Nat.sub_lt_sub_left hlt (Nat.lt_succ_self i))
   · (simp only [go_sem, leX, List.cons_append, List.nil_append]; try simp)
   · (simp only [go_sem, leX, List.cons_append, List.nil_append]; try simp)
 · obtain rfl : i = 32 := by omega
   have hcq : ¬ ((32 : Nat) : Int) < 32 := by omega
   have hqe : q = keyB s.l := by rw [List.take_of_length_le (by omega), List.take_of_length_le (by rw [keyB_length]; omega)] at hv; exact hv
   refine sr_k fun K18 hK18 => ?_
   simp only [go_sem, hashC, H8.ls, F0, hq, hcq]
   repeat' (first | apply And.intro | intro _)
   refine hK18 _ ?_
   refine seq_k fun N19 M19 hN19 hM19 => ?_
   refine condF_k (by first | rfl | (simp [go_sem, hashC, H8.ls, F0, hq, hcq]; done)) ?_
   refine exit_k ?_
   refine hM19 _ _ ?_
   refine hM10 _ _ ?_
   refine bx9 _ ?_
   refine hN7 _ ?_
   refine sr_k fun K20 hK20 => ?_
   simp only [go_sem, hashC, H8.ls, F0, hq, hcq]
   repeat' (first | apply And.intro | intro _)
   refine hK20 _ ?_
   refine ret_k ?_
   simp only [go_sem, hashC, H8.ls, F0, hq, hcq]
   all_goals (exact told_plain (plain_key _ _) ⟨by rw [hqe, hs], rfl⟩)
set_option maxHeartbeats 1600000 in
set_option maxRecDepth 100000 in
theorem hended_ok (h0 h1 h2 h3 h4 h5 h6 h7 : UInt32) (held : List UInt8) (hh : held.length = 64) (k l : Nat) (hok : HashOk held (k : Int) (l : Int)) :
 CtM Tryd.prog 11 [.w (.agg (hashC ⟨h0, h1, h2, h3, h4, h5, h6, h7⟩ held (k : Int) (l : Int)))] [(1000001, ⟨false, [.pl (.u32 1779033703), .pl (.u32 3144134277), .pl (.u32 1013904242), .pl (.u32 2773480762), .pl (.u32 1359893119), .pl (.u32 2600822924), .pl (.u32 528734635), .pl (.u32 1541459225)]⟩)] (Told (fun v m => v = .tup [.agg (bytesC (keyB (soakB ⟨h0, h1, h2, h3, h4, h5, h6, h7⟩ held l true).l)), .one (.pl (.i 0))] ∧ m = [])) := by
 have he := herr_ok hok
 have hb := hbad_ok hok
 have hl3 : l ≤ 1073741824 := by have := hok.mx; omega
 obtain ⟨s, hs⟩ : ∃ s, soakB ⟨h0, h1, h2, h3, h4, h5, h6, h7⟩ held l true = s := ⟨_, rfl⟩
 obtain ⟨s0, s1, s2, s3, s4, s5, s6, s7⟩ := s
 have F0 := And.intro hh <| And.intro hb <| hs
 refine CtM.k Tryd.func11 rfl Tryd.ntmps11 (congrArg Array.toList Tryd.results11) (by simp) fun w0 ro may fx => ?_
 refine sr_k fun K1 hK1 => ?_
 simp only [go_sem, hashC, H8.ls, lowB_length, F0]
 repeat' (first | apply And.intro | intro _)
 refine hK1 _ ?_
 refine seq_k fun N2 M2 hN2 hM2 => ?_
 refine sr_k fun K3 hK3 => ?_
 simp only [go_sem, hashC, H8.ls, lowB_length, F0]
 repeat' (first | apply And.intro | intro _)
 all_goals refine call_view (fun k => k) (fun _ _ => rfl) (by first | rfl | (simp only [go_sem, hashC, H8.ls, lowB_length, F0] <;> rfl)) ((hash_bad h0 h1 h2 h3 h4 h5 h6 h7 held hh (k : Int) (l : Int)).plain fun _ _ h => h) ?_
 all_goals (rintro v m ⟨hR, hm⟩; subst hR; subst hm)
 all_goals refine And.intro (by first | rfl | simp only [go_sem, hashC, H8.ls, lowB_length, F0]) (And.intro (by first | rfl | simp only [go_sem, hashC, H8.ls, lowB_length, F0]) ?_)
 all_goals simp only [go_sem, hashC, H8.ls, lowB_length, F0]
 all_goals repeat' (first | apply And.intro | intro _)
 refine hK3 _ ?_
 refine condF_k (by first | rfl | (simp [go_sem, hashC, H8.ls, lowB_length, F0]; done)) ?_
 refine skip_k ?_
 refine hN2 _ ?_
 refine sr_k fun K4 hK4 => ?_
 simp only [go_sem, hashC, H8.ls, lowB_length, F0]
 repeat' (first | apply And.intro | intro _)
 refine hK4 _ ?_
 refine sr_k fun K5 hK5 => ?_
 simp only [go_sem, hashC, H8.ls, lowB_length, F0]
 repeat' (first | apply And.intro | intro _)
 refine hK5 _ ?_
 refine seq_k fun N6 M6 hN6 hM6 => ?_
 refine seq_k fun N7 M7 hN7 hM7 => ?_
 refine dr_k mixed fun K8 hK8 => ?_
 refine dr_piece_k 8 [13, 14, 15, 16, 17, 18, 19, 20] [0, 1, 0, 4, 0, 16, 63, 0] [] rfl (by kernel_rfl) rfl (by simp only [go_sem]) fun N9 K9 hN9 hK9 => ?_
 simp only [go_sem, hashC, H8.ls, lowB_length, F0]
 repeat' (first | apply And.intro | intro _)
 all_goals (refine call_drawhand (fun k => k) _ [] (fun _ _ => rfl) ?_ ?_ ?_ (squeezed_ h0 h1 h2 h3 h4 h5 h6 h7 held hh l hl3 true).told ?_ ?_; (iterate 2 (focus (first | rfl | (simp only [go_sem, hashC, H8.ls, lowB_length, F0] <;> first | done | rfl | simp)))); (first | kernel_rfl | rfl | simp [fixO, fixL, pls]))
 all_goals try (refine And.intro ?_ (And.intro ?_ (And.intro ?_ ?_)) <;> (first | rfl | (simp only [go_sem, hashC, H8.ls, lowB_length, F0]; done) | (simp [go_sem, look, hashC, H8.ls, lowB_length, F0]; done)))
 all_goals (try simp only [go_sem, hashC, H8.ls, lowB_length, F0])
 all_goals (try simp only [go_sem, hashC, H8.ls, lowB_length, F0])
 all_goals repeat' (first | apply And.intro | intro _)
 all_goals
  refine hK9 _ _ trivial (hN9 _ ?_)
  refine dr_end rfl (hK8 _ ?_)
  refine hN7 _ ?_
  refine block_k fun B10 bn10 bx10 br10 bi10 => ?_
  refine rounds_k 9 ?_
  refine rnd_k fun N12 M12 hN12 hM12 => ?_
  refine sr_k fun K13 hK13 => ?_
  simp only [go_sem, hashC, H8.ls, lowB_length, F0]
  repeat' (first | apply And.intro | intro _)
  refine hK13 _ ?_
  refine seq_k fun N14 M14 hN14 hM14 => ?_
  refine condT_k (by first | rfl | (simp [go_sem, hashC, H8.ls, lowB_length, F0]; done)) ?_
  refine skip_k ?_
  refine hN14 _ ?_
  refine seq_k fun N15 M15 hN15 hM15 => ?_
  refine block_k fun B16 bn16 bx16 br16 bi16 => ?_
  refine sr_k fun K17 hK17 => ?_
  simp only [go_sem, hashC, H8.ls, lowB_length, F0]
  repeat' (first | apply And.intro | intro _)
  refine hK17 _ ?_
  refine region_k fun K18 hK18 => ?_
  simp only [go_sem, hashC, H8.ls, lowB_length, F0]
  repeat' (first | apply And.intro | intro _)
  all_goals refine call_view (fun k => k) (fun _ _ => rfl) (by first | rfl | (simp only [go_sem, hashC, H8.ls, lowB_length, F0] <;> rfl)) ((low_ _ 4 (by decide)).plain fun _ _ h => h) ?_
  all_goals (rintro v m ⟨hR, hm⟩; subst hR; subst hm)
  all_goals refine And.intro (by first | rfl | simp only [go_sem, hashC, H8.ls, lowB_length, F0]) (And.intro (by first | rfl | simp only [go_sem, hashC, H8.ls, lowB_length, F0]) ?_)
  all_goals simp only [go_sem, hashC, H8.ls, lowB_length, F0]
  all_goals repeat' (first | apply And.intro | intro _)
  refine hK18 _ ?_
  refine bn16 _ ?_
  refine hN15 _ ?_
  refine region_k fun K19 hK19 => ?_
  simp only [go_sem, hashC, H8.ls, lowB_length, F0]
  repeat' (first | apply And.intro | intro _)
  refine hK19 _ ?_
  refine hN12 _ ?_
  refine rnd_forget [7, 21, 22, 23, 24, 25, 26, 27, 28] ?_
  simp only [go_sem, St.forget, fgt]
  refine rnd_k fun N20 M20 hN20 hM20 => ?_
  refine sr_k fun K21 hK21 => ?_
  simp only [go_sem, hashC, H8.ls, lowB_length, F0]
  repeat' (first | apply And.intro | intro _)
  refine hK21 _ ?_
  refine seq_k fun N22 M22 hN22 hM22 => ?_
  refine condT_k (by first | rfl | (simp [go_sem, hashC, H8.ls, lowB_length, F0]; done)) ?_
  refine skip_k ?_
  refine hN22 _ ?_
  refine seq_k fun N23 M23 hN23 hM23 => ?_
  refine block_k fun B24 bn24 bx24 br24 bi24 => ?_
  refine sr_k fun K25 hK25 => ?_
  simp only [go_sem, hashC, H8.ls, lowB_length, F0]
  repeat' (first | apply And.intro | intro _)
  refine hK25 _ ?_
  refine region_k fun K26 hK26 => ?_
  simp only [go_sem, hashC, H8.ls, lowB_length, F0]
  repeat' (first | apply And.intro | intro _)
  all_goals refine call_view (fun k => k) (fun _ _ => rfl) (by first | rfl | (simp only [go_sem, hashC, H8.ls, lowB_length, F0] <;> rfl)) ((low_ _ 4 (by decide)).plain fun _ _ h => h) ?_
  all_goals (rintro v m ⟨hR, hm⟩; subst hR; subst hm)
  all_goals refine And.intro (by first | rfl | simp only [go_sem, hashC, H8.ls, lowB_length, F0]) (And.intro (by first | rfl | simp only [go_sem, hashC, H8.ls, lowB_length, F0]) ?_)
  all_goals simp only [go_sem, hashC, H8.ls, lowB_length, F0]
  all_goals repeat' (first | apply And.intro | intro _)
  refine hK26 _ ?_
  refine bn24 _ ?_
  refine hN23 _ ?_
  refine region_k fun K27 hK27 => ?_
  simp only [go_sem, hashC, H8.ls, lowB_length, F0]
  repeat' (first | apply And.intro | intro _)
  refine hK27 _ ?_
  refine hN20 _ ?_
  refine rnd_forget [7, 21, 22, 23, 24, 25, 26, 27, 28] ?_
  simp only [go_sem, St.forget, fgt]
  refine rnd_k fun N28 M28 hN28 hM28 => ?_
  refine sr_k fun K29 hK29 => ?_
  simp only [go_sem, hashC, H8.ls, lowB_length, F0]
  repeat' (first | apply And.intro | intro _)
  refine hK29 _ ?_
  refine seq_k fun N30 M30 hN30 hM30 => ?_
  refine condT_k (by first | rfl | (simp [go_sem, hashC, H8.ls, lowB_length, F0]; done)) ?_
  refine skip_k ?_
  refine hN30 _ ?_
  refine seq_k fun N31 M31 hN31 hM31 => ?_
  refine block_k fun B32 bn32 bx32 br32 bi32 => ?_
  refine sr_k fun K33 hK33 => ?_
  simp only [go_sem, hashC, H8.ls, lowB_length, F0]
  repeat' (first | apply And.intro | intro _)
  refine hK33 _ ?_
  refine region_k fun K34 hK34 => ?_
  simp only [go_sem, hashC, H8.ls, lowB_length, F0]
  repeat' (first | apply And.intro | intro _)
  all_goals refine call_view (fun k => k) (fun _ _ => rfl) (by first | rfl | (simp only [go_sem, hashC, H8.ls, lowB_length, F0] <;> rfl)) ((low_ _ 4 (by decide)).plain fun _ _ h => h) ?_
  all_goals (rintro v m ⟨hR, hm⟩; subst hR; subst hm)
  all_goals refine And.intro (by first | rfl | simp only [go_sem, hashC, H8.ls, lowB_length, F0]) (And.intro (by first | rfl | simp only [go_sem, hashC, H8.ls, lowB_length, F0]) ?_)
  all_goals simp only [go_sem, hashC, H8.ls, lowB_length, F0]
  all_goals repeat' (first | apply And.intro | intro _)
  refine hK34 _ ?_
  refine bn32 _ ?_
  refine hN31 _ ?_
  refine region_k fun K35 hK35 => ?_
  simp only [go_sem, hashC, H8.ls, lowB_length, F0]
  repeat' (first | apply And.intro | intro _)
  refine hK35 _ ?_
  refine hN28 _ ?_
  refine rnd_forget [7, 21, 22, 23, 24, 25, 26, 27, 28] ?_
  simp only [go_sem, St.forget, fgt]
  refine rnd_k fun N36 M36 hN36 hM36 => ?_
  refine sr_k fun K37 hK37 => ?_
  simp only [go_sem, hashC, H8.ls, lowB_length, F0]
  repeat' (first | apply And.intro | intro _)
  refine hK37 _ ?_
  refine seq_k fun N38 M38 hN38 hM38 => ?_
  refine condT_k (by first | rfl | (simp [go_sem, hashC, H8.ls, lowB_length, F0]; done)) ?_
  refine skip_k ?_
  refine hN38 _ ?_
  refine seq_k fun N39 M39 hN39 hM39 => ?_
  refine block_k fun B40 bn40 bx40 br40 bi40 => ?_
  refine sr_k fun K41 hK41 => ?_
  simp only [go_sem, hashC, H8.ls, lowB_length, F0]
  repeat' (first | apply And.intro | intro _)
  refine hK41 _ ?_
  refine region_k fun K42 hK42 => ?_
  simp only [go_sem, hashC, H8.ls, lowB_length, F0]
  repeat' (first | apply And.intro | intro _)
  all_goals refine call_view (fun k => k) (fun _ _ => rfl) (by first | rfl | (simp only [go_sem, hashC, H8.ls, lowB_length, F0] <;> rfl)) ((low_ _ 4 (by decide)).plain fun _ _ h => h) ?_
  all_goals (rintro v m ⟨hR, hm⟩; subst hR; subst hm)
  all_goals refine And.intro (by first | rfl | simp only [go_sem, hashC, H8.ls, lowB_length, F0]) (And.intro (by first | rfl | simp only [go_sem, hashC, H8.ls, lowB_length, F0]) ?_)
  all_goals simp only [go_sem, hashC, H8.ls, lowB_length, F0]
  all_goals repeat' (first | apply And.intro | intro _)
  refine hK42 _ ?_
  refine bn40 _ ?_
  refine hN39 _ ?_
  refine region_k fun K43 hK43 => ?_
  simp only [go_sem, hashC, H8.ls, lowB_length, F0]
  repeat' (first | apply And.intro | intro _)
  refine hK43 _ ?_
  refine hN36 _ ?_
  refine rnd_forget [7, 21, 22, 23, 24, 25, 26, 27, 28] ?_
  simp only [go_sem, St.forget, fgt]
  refine rnd_k fun N44 M44 hN44 hM44 => ?_
  refine sr_k fun K45 hK45 => ?_
  simp only [go_sem, hashC, H8.ls, lowB_length, F0]
  repeat' (first | apply And.intro | intro _)
  refine hK45 _ ?_
  refine seq_k fun N46 M46 hN46 hM46 => ?_
  refine condT_k (by first | rfl | (simp [go_sem, hashC, H8.ls, lowB_length, F0]; done)) ?_
  refine skip_k ?_
  refine hN46 _ ?_
  refine seq_k fun N47 M47 hN47 hM47 => ?_
  refine block_k fun B48 bn48 bx48 br48 bi48 => ?_
  refine sr_k fun K49 hK49 => ?_
  simp only [go_sem, hashC, H8.ls, lowB_length, F0]
  repeat' (first | apply And.intro | intro _)
  refine hK49 _ ?_
  refine region_k fun K50 hK50 => ?_
  simp only [go_sem, hashC, H8.ls, lowB_length, F0]
  repeat' (first | apply And.intro | intro _)
  all_goals refine call_view (fun k => k) (fun _ _ => rfl) (by first | rfl | (simp only [go_sem, hashC, H8.ls, lowB_length, F0] <;> rfl)) ((low_ _ 4 (by decide)).plain fun _ _ h => h) ?_
  all_goals (rintro v m ⟨hR, hm⟩; subst hR; subst hm)
  all_goals refine And.intro (by first | rfl | simp only [go_sem, hashC, H8.ls, lowB_length, F0]) (And.intro (by first | rfl | simp only [go_sem, hashC, H8.ls, lowB_length, F0]) ?_)
  all_goals simp only [go_sem, hashC, H8.ls, lowB_length, F0]
  all_goals repeat' (first | apply And.intro | intro _)
  refine hK50 _ ?_
  refine bn48 _ ?_
  refine hN47 _ ?_
  refine region_k fun K51 hK51 => ?_
  simp only [go_sem, hashC, H8.ls, lowB_length, F0]
  repeat' (first | apply And.intro | intro _)
  refine hK51 _ ?_
  refine hN44 _ ?_
  refine rnd_forget [7, 21, 22, 23, 24, 25, 26, 27, 28] ?_
  simp only [go_sem, St.forget, fgt]
  refine rnd_k fun N52 M52 hN52 hM52 => ?_
  refine sr_k fun K53 hK53 => ?_
  simp only [go_sem, hashC, H8.ls, lowB_length, F0]
  repeat' (first | apply And.intro | intro _)
  refine hK53 _ ?_
  refine seq_k fun N54 M54 hN54 hM54 => ?_
  refine condT_k (by first | rfl | (simp [go_sem, hashC, H8.ls, lowB_length, F0]; done)) ?_
  refine skip_k ?_
  refine hN54 _ ?_
  refine seq_k fun N55 M55 hN55 hM55 => ?_
  refine block_k fun B56 bn56 bx56 br56 bi56 => ?_
  refine sr_k fun K57 hK57 => ?_
  simp only [go_sem, hashC, H8.ls, lowB_length, F0]
  repeat' (first | apply And.intro | intro _)
  refine hK57 _ ?_
  refine region_k fun K58 hK58 => ?_
  simp only [go_sem, hashC, H8.ls, lowB_length, F0]
  repeat' (first | apply And.intro | intro _)
  all_goals refine call_view (fun k => k) (fun _ _ => rfl) (by first | rfl | (simp only [go_sem, hashC, H8.ls, lowB_length, F0] <;> rfl)) ((low_ _ 4 (by decide)).plain fun _ _ h => h) ?_
  all_goals (rintro v m ⟨hR, hm⟩; subst hR; subst hm)
  all_goals refine And.intro (by first | rfl | simp only [go_sem, hashC, H8.ls, lowB_length, F0]) (And.intro (by first | rfl | simp only [go_sem, hashC, H8.ls, lowB_length, F0]) ?_)
  all_goals simp only [go_sem, hashC, H8.ls, lowB_length, F0]
  all_goals repeat' (first | apply And.intro | intro _)
  refine hK58 _ ?_
  refine bn56 _ ?_
  refine hN55 _ ?_
  refine region_k fun K59 hK59 => ?_
  simp only [go_sem, hashC, H8.ls, lowB_length, F0]
  repeat' (first | apply And.intro | intro _)
  refine hK59 _ ?_
  refine hN52 _ ?_
  refine rnd_forget [7, 21, 22, 23, 24, 25, 26, 27, 28] ?_
  simp only [go_sem, St.forget, fgt]
  refine rnd_k fun N60 M60 hN60 hM60 => ?_
  refine sr_k fun K61 hK61 => ?_
  simp only [go_sem, hashC, H8.ls, lowB_length, F0]
  repeat' (first | apply And.intro | intro _)
  refine hK61 _ ?_
  refine seq_k fun N62 M62 hN62 hM62 => ?_
  refine condT_k (by first | rfl | (simp [go_sem, hashC, H8.ls, lowB_length, F0]; done)) ?_
  refine skip_k ?_
  refine hN62 _ ?_
  refine seq_k fun N63 M63 hN63 hM63 => ?_
  refine block_k fun B64 bn64 bx64 br64 bi64 => ?_
  refine sr_k fun K65 hK65 => ?_
  simp only [go_sem, hashC, H8.ls, lowB_length, F0]
  repeat' (first | apply And.intro | intro _)
  refine hK65 _ ?_
  refine region_k fun K66 hK66 => ?_
  simp only [go_sem, hashC, H8.ls, lowB_length, F0]
  repeat' (first | apply And.intro | intro _)
  all_goals refine call_view (fun k => k) (fun _ _ => rfl) (by first | rfl | (simp only [go_sem, hashC, H8.ls, lowB_length, F0] <;> rfl)) ((low_ _ 4 (by decide)).plain fun _ _ h => h) ?_
  all_goals (rintro v m ⟨hR, hm⟩; subst hR; subst hm)
  all_goals refine And.intro (by first | rfl | simp only [go_sem, hashC, H8.ls, lowB_length, F0]) (And.intro (by first | rfl | simp only [go_sem, hashC, H8.ls, lowB_length, F0]) ?_)
  all_goals simp only [go_sem, hashC, H8.ls, lowB_length, F0]
  all_goals repeat' (first | apply And.intro | intro _)
  refine hK66 _ ?_
  refine bn64 _ ?_
  refine hN63 _ ?_
  refine region_k fun K67 hK67 => ?_
  simp only [go_sem, hashC, H8.ls, lowB_length, F0]
  repeat' (first | apply And.intro | intro _)
  refine hK67 _ ?_
  refine hN60 _ ?_
  refine rnd_forget [7, 21, 22, 23, 24, 25, 26, 27, 28] ?_
  simp only [go_sem, St.forget, fgt]
  refine rnd_k fun N68 M68 hN68 hM68 => ?_
  refine sr_k fun K69 hK69 => ?_
  simp only [go_sem, hashC, H8.ls, lowB_length, F0]
  repeat' (first | apply And.intro | intro _)
  refine hK69 _ ?_
  refine seq_k fun N70 M70 hN70 hM70 => ?_
  refine condT_k (by first | rfl | (simp [go_sem, hashC, H8.ls, lowB_length, F0]; done)) ?_
  refine skip_k ?_
  refine hN70 _ ?_
  refine seq_k fun N71 M71 hN71 hM71 => ?_
  refine block_k fun B72 bn72 bx72 br72 bi72 => ?_
  refine sr_k fun K73 hK73 => ?_
  simp only [go_sem, hashC, H8.ls, lowB_length, F0]
  repeat' (first | apply And.intro | intro _)
  refine hK73 _ ?_
  refine region_k fun K74 hK74 => ?_
  simp only [go_sem, hashC, H8.ls, lowB_length, F0]
  repeat' (first | apply And.intro | intro _)
  all_goals refine call_view (fun k => k) (fun _ _ => rfl) (by first | rfl | (simp only [go_sem, hashC, H8.ls, lowB_length, F0] <;> rfl)) ((low_ _ 4 (by decide)).plain fun _ _ h => h) ?_
  all_goals (rintro v m ⟨hR, hm⟩; subst hR; subst hm)
  all_goals refine And.intro (by first | rfl | simp only [go_sem, hashC, H8.ls, lowB_length, F0]) (And.intro (by first | rfl | simp only [go_sem, hashC, H8.ls, lowB_length, F0]) ?_)
  all_goals simp only [go_sem, hashC, H8.ls, lowB_length, F0]
  all_goals repeat' (first | apply And.intro | intro _)
  refine hK74 _ ?_
  refine bn72 _ ?_
  refine hN71 _ ?_
  refine region_k fun K75 hK75 => ?_
  simp only [go_sem, hashC, H8.ls, lowB_length, F0]
  repeat' (first | apply And.intro | intro _)
  refine hK75 _ ?_
  refine hN68 _ ?_
  refine rnd_forget [7, 21, 22, 23, 24, 25, 26, 27, 28] ?_
  simp only [go_sem, St.forget, fgt]
  refine rnd_k fun N76 M76 hN76 hM76 => ?_
  refine sr_k fun K77 hK77 => ?_
  simp only [go_sem, hashC, H8.ls, lowB_length, F0]
  repeat' (first | apply And.intro | intro _)
  refine hK77 _ ?_
  refine seq_k fun N78 M78 hN78 hM78 => ?_
  refine condF_k (by first | rfl | (simp [go_sem, hashC, H8.ls, lowB_length, F0]; done)) ?_
  refine exit_k ?_
  refine hM78 _ _ ?_
  refine hM76 _ _ ?_
  refine bx10 _ ?_
  refine hN6 _ ?_
  refine sr_k fun K79 hK79 => ?_
  simp only [go_sem, hashC, H8.ls, lowB_length, F0]
  repeat' (first | apply And.intro | intro _)
  all_goals refine call_view (fun k => k) (fun _ _ => rfl) (by first | rfl | (simp only [go_sem, hashC, H8.ls, lowB_length, F0] <;> rfl)) ((key_ _ (by first | rfl | simp [lowB_length])).plain fun _ _ h => h) ?_
  all_goals (rintro v m ⟨hR, hm⟩; subst hR; subst hm)
  all_goals refine And.intro (by first | rfl | simp only [go_sem, hashC, H8.ls, lowB_length, F0]) (And.intro (by first | rfl | simp only [go_sem, hashC, H8.ls, lowB_length, F0]) ?_)
  all_goals simp only [go_sem, hashC, H8.ls, lowB_length, F0]
  all_goals repeat' (first | apply And.intro | intro _)
  refine hK79 _ ?_
  refine ret_k ?_
  simp only [go_sem, hashC, H8.ls, lowB_length, F0]
  all_goals (exact told_plain (plain_key _ _) ⟨by simp [keyB, H8.l, List.append_assoc], rfl⟩)
end Go.Sy

