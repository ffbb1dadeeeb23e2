/- Macs of bytes, as the document tells them: the walks. -/
import Derived.Test.YtcmcnfjdfcianaaDoorvqgB23
set_option linter.unusedVariables false
set_option linter.unusedSimpArgs false
namespace Go.Sy
namespace Bk
open Go.Proofs
attribute [local irreducible] atCall HT runOps runD onC onE onO onG goV goA goS onSt onGuard
set_option maxHeartbeats 3200000 in
set_option maxRecDepth 100000 in
theorem macof_short (k b : List UInt8) (hk : k.length ≤ 140737488351232) (hb : b.length ≤ 140737488351232) (h64 : ¬ 64 < k.length) :
 CtM Tryd.prog 47 [.w (.one (.pl (.str k))), .w (.one (.pl (.str b)))] [(1000001, ⟨false, [.pl (.u32 1779033703), .pl (.u32 3144134277), .pl (.u32 1013904242), .pl (.u32 2773480762), .pl (.u32 1359893119), .pl (.u32 2600822924), .pl (.u32 528734635), .pl (.u32 1541459225)]⟩)] (Told (fun v m => v = .w (.agg (bytesC (macB k b))) ∧ m = [])) := by
 have hlk : ¬ (64 : Int) < ((k.length : Nat) : Int) := by omega
 have hmk : macK k = k := by rw [macK, if_neg h64]
 obtain ⟨w, hw⟩ : ∃ w, k = w := ⟨_, rfl⟩
 rw [hw] at hlk hmk
 have hwl := macK_le k
 obtain ⟨p, hpk⟩ : ∃ p, pad64 (macK k) = p := ⟨_, rfl⟩
 have hp : p.length = 64 := by rw [← hpk]; exact pad64_length (macK_le k)
 subst hw
 rw [hmk] at hwl
 have hpd : k ++ List.replicate (64 - k.length) 0 = p := by rw [← hpk, hmk, pad64]
 have hml0 : k.length + (64 - k.length) ≤ 9223372036854775807 := by omega
 have hN9 := noughts_ (64 - k.length) (by omega)
 have hw1 : Go.RowKit.wrap64 (64 - ((k.length : Nat) : Int)) = ((64 - k.length : Nat) : Int) := wnat (by omega) (by omega)
 have F0 := And.intro hlk <| And.intro hp <| And.intro hpd <| And.intro hml0 <| hw1
 refine CtM.k Tryd.func47 rfl Tryd.ntmps47 (congrArg Array.toList Tryd.results47) (by simp) fun w0 ro may fx => ?_
 refine top_k fun zZ zhZ => ?_
 iterate 17 first
  | (refine sr_k fun zK zhK => ?_; simp only [go_sem, F0]; (repeat' (first | apply And.intro | intro _)))
  | refine zhK _ ?_
  | refine skip_k ?_
  | (refine zhN _ ?_; clear zhN zhM)
  | refine block_k fun zB zbn zbx zbr zbi => ?_
  | ((all_goals (refine call_view (fun k => k) (fun _ _ => rfl) ?_ (hN9.plain fun _ _ h => h) ?_; focus (first | rfl | (simp only [go_sem, F0] <;> rfl)))); (all_goals (rintro v m ⟨hR, hm⟩; subst hR; subst hm)); (all_goals refine And.intro (by first | rfl | simp only [go_sem, F0]) (And.intro (by first | rfl | simp only [go_sem, F0]) ?_)); (all_goals simp only [go_sem, F0]); (all_goals repeat' (first | apply And.intro | intro _)))
  | refine seq_k fun zN zM zhN zhM => ?_
  | (refine condF_k ?_ ?_; focus (first | rfl | (simp [go_sem, F0]; done)))
 refine ht_dropE [0, 8, 9, 10, 11, 12, 13, 14, 15, 16, 17, 18, 19, 20, 21, 22, 23, 24] ?_
 simp only [dropE_mk, fgt_nil, fgt_cons, List.contains_cons, List.contains_nil, Nat.reduceBEq, beq_self_eq_true, Bool.or_false, Bool.or_true, Bool.true_or, Bool.false_or, Bool.false_eq_true, reduceIte]
 refine loop_k (fun y => [(26, .w (.one (.pl (.i ((y.1 : Nat) : Int)))))]) (fun y => [(23, ⟨true, bytesC (xorP 92 p y.1)⟩), (21, ⟨true, bytesC (xorP 54 p y.1)⟩)]) (fun y => 64 - y.1) (⟨0, Nat.zero_le _⟩ : {y : Nat // y ≤ 64}) ?_ ?_ ?_
 · (simp only [go_sem, leX, List.cons_append, List.nil_append]; try simp)
 · (simp only [xorP_zero, go_sem, leX, List.cons_append, List.nil_append]; try simp)
 intro ⟨i, hi⟩ zN zM zhN zhM
 simp only [List.cons_append, List.nil_append]
 rcases Nat.lt_or_ge i 64 with hlt | hge
 · have hcq : ((i : Nat) : Int) < 64 := by omega
   have hc0 : (0 : Int) ≤ ((i : Nat) : Int) ∧ i + 1 ≤ 64 := by omega
   have hxl := xorP_length (c := 54) (l := p) (i := i)
   have hyl := xorP_length (c := 92) (l := p) (i := i)
   rw [hp] at hxl hyl
   have hx1 := u8_one (q := xorP 54 p i) (i := i) (by omega)
   have hy1 := u8_one (q := xorP 92 p i) (i := i) (by omega)
   rw [xorP_getD (by omega)] at hx1 hy1
   have hxs := xorP_step (c := 54) (l := p) (i := i) (by omega)
   have hys := xorP_step (c := 92) (l := p) (i := i) (by omega)
   have hs1 : Go.RowKit.wrap64 (((i : Nat) : Int) + 1) = ((i + 1 : Nat) : Int) := wnat (by omega) (by omega)
   have F9 := And.intro hcq <| And.intro hc0 <| And.intro hxl <| And.intro hyl <| And.intro hx1 <| And.intro hy1 <| And.intro hxs <| And.intro hys <| hs1
   iterate 18 first
    | refine zhK _ ?_
    | (refine sr_k fun zK zhK => ?_; simp only [go_sem, F0, bytesC_1, F9]; (repeat' (first | apply And.intro | intro _)))
    | (refine zhN _ ?_; clear zhN zhM)
    | (refine region_k fun zK zhK => ?_; simp only [go_sem, F0, bytesC_1, F9]; (repeat' (first | apply And.intro | intro _)))
    | refine skip_k ?_
    | refine block_k fun zB zbn zbx zbr zbi => ?_
    | (refine zbn _ ?_; clear zbn zbx zbr zbi)
    | refine seq_k fun zN zM zhN zhM => ?_
    | (refine condT_k ?_ ?_; focus (first | rfl | (simp [go_sem, F0, bytesC_1, F9]; done)))
   refine zhN ⟨i + 1, hlt⟩ _ ?_ ?_ ?_
   · (exact Nat.sub_lt_sub_left hlt (Nat.lt_succ_self i))
   · (simp only [go_sem, leX, List.cons_append, List.nil_append]; try simp)
   · (simp only [go_sem, leX, List.cons_append, List.nil_append]; try simp)
 · obtain rfl : i = 64 := by omega
   have hcq : ¬ ((64 : Nat) : Int) < 64 := by omega
   have hx := xorP_all (c := 54) hp
   have hy := xorP_all (c := 92) hp
   obtain ⟨px, hpx⟩ : ∃ q, p.map (· ^^^ (54 : UInt8)) = q := ⟨_, rfl⟩
   obtain ⟨py, hpy⟩ : ∃ q, p.map (· ^^^ (92 : UInt8)) = q := ⟨_, rfl⟩
   have hpxl : px.length = 64 := by rw [← hpx, List.length_map, hp]
   have hpyl : py.length = 64 := by rw [← hpy, List.length_map, hp]
   rw [hpx] at hx
   rw [hpy] at hy
   have hmac : macB k b = sumB (py ++ sumB (px ++ b)) := by rw [macB, hpk, hpx, hpy]
   simp only [hx, hy]
   have hkl := sumB_length (px ++ b)
   have hml : 64 + b.length ≤ 9223372036854775807 := by omega
   have hF0 := hashof_ (px ++ b) (by rw [List.length_append]; omega)
   have hT0 := text_ (sumB (px ++ b)) hkl
   have hml2 : 64 + 32 ≤ 9223372036854775807 := by omega
   obtain ⟨z, hz⟩ : ∃ z, py ++ sumB (px ++ b) = z := ⟨_, rfl⟩
   have hF1 := hashof_ z (by rw [← hz, List.length_append, hkl]; omega)
   have hkz := sumB_length z
   rw [hz] at hmac
   have F17 := And.intro hcq <| And.intro hpxl <| And.intro hpyl <| And.intro hml <| And.intro hkl <| And.intro hml2 <| And.intro hz <| hkz
   refine sr_k fun zK zhK => ?_
   simp only [go_sem, F0, F17]
   repeat' (first | apply And.intro | intro _)
   refine zhK _ ?_
   refine seq_k fun zN zM zhN zhM => ?_
   (refine condF_k ?_ ?_; focus (first | rfl | (simp [go_sem, F0, F17]; done)))
   refine exit_k ?_
   refine zhM _ _ ?_; clear zhN zhM
   refine zhM _ _ ?_; clear zhN zhM
   refine zbx _ ?_; clear zbn zbx zbr zbi
   refine zhN _ ?_; clear zhN zhM
   refine seq_k fun zN zM zhN zhM => ?_
   refine dr_k (id := 11) mixed fun zE zhE => ?_
   refine dr_piece_k (p := 0) 8 [42, 43, 44, 45, 46, 47, 48, 49] [0, 1, 0, 4, 0, 28, 60, 124, 255, 511, 1023] [] rfl (by kernel_rfl) rfl (by simp only [go_sem]) fun zR zK zhR zhK => ?_
   simp only [go_sem, F0, F17]
   repeat' (first | apply And.intro | intro _)
   all_goals (refine call_drawhand (fun k => k) (.w (.agg (bytesC (sumB (px ++ b))))) [] (fun _ _ => rfl) ?_ ?_ ?_ hF0.told ?_ ?_; (iterate 2 (focus (first | rfl | (simp only [go_sem, F0, F17] <;> first | done | rfl | simp)))); (first | kernel_rfl | rfl | simp [fixO, fixL, pls]))
   all_goals try (refine And.intro ?_ (And.intro ?_ (And.intro ?_ ?_)) <;> (first | rfl | (simp only [go_sem, F0, F17]; done) | (simp [go_sem, look, F0, F17]; done)))
   all_goals (try simp only [go_sem, F0, F17])
   all_goals (try simp only [go_sem, F0, F17])
   all_goals repeat' (first | apply And.intro | intro _)
   all_goals (refine call_draw (fun k => k) (.w (.one (.pl (.str (sumB (px ++ b)))))) [] (fun _ _ => rfl) ?_ (hT0.plain fun _ _ h => h) ?_ ?_; focus (first | rfl | (simp only [go_sem, F0, F17] <;> rfl)))
   all_goals try (refine And.intro ?_ (And.intro ?_ (And.intro ?_ ?_)) <;> first | rfl | simp only [go_sem])
   all_goals simp only [go_sem, F0, F17]
   all_goals repeat' (first | apply And.intro | intro _)
   refine zhK _ _ trivial (zhR _ ?_)
   refine dr_runs_k 3 11 rfl (by kernel_rfl) rfl rfl fun zR zhR => ?_
   simp only [go_sem, F0, F17]
   repeat' (first | apply And.intro | intro _)
   all_goals (refine call_hand false [] (fun k => k) (fun _ _ => rfl) ?_ (by decide) ?_ hF1.told ?_; iterate 2 (focus (first | rfl | (simp only [go_sem, F0, F17] <;> first | done | rfl | simp))))
   all_goals (rintro v m ⟨hR, hm⟩; subst hR; subst hm)
   all_goals (refine And.intro ?_ (And.intro ?_ (And.intro ?_ ?_)); iterate 3 (focus (first | rfl | (simp only [go_sem, F0, F17]; done) | (simp [go_sem, look, F0, F17]; done))))
   all_goals (try simp only [go_sem, F0, F17])
   all_goals (try simp only [go_sem, F0, F17])
   all_goals repeat' (first | apply And.intro | intro _)
   refine zhR _ ?_
   refine dr_end rfl (zhE _ ?_)
   refine zhN _ ?_; clear zhN zhM
   refine ret_k ?_
   refine zhZ _ _ ?_
   simp only [go_sem, F0, F17]
   all_goals (rw [hmac]; exact told_plain (plain_bytesV _) ⟨rfl, rfl⟩)
set_option maxHeartbeats 3200000 in
set_option maxRecDepth 100000 in
theorem macof_long (k b : List UInt8) (hk : k.length ≤ 140737488351232) (hb : b.length ≤ 140737488351232) (h64 : 64 < k.length) :
 CtM Tryd.prog 47 [.w (.one (.pl (.str k))), .w (.one (.pl (.str b)))] [(1000001, ⟨false, [.pl (.u32 1779033703), .pl (.u32 3144134277), .pl (.u32 1013904242), .pl (.u32 2773480762), .pl (.u32 1359893119), .pl (.u32 2600822924), .pl (.u32 528734635), .pl (.u32 1541459225)]⟩)] (Told (fun v m => v = .w (.agg (bytesC (macB k b))) ∧ m = [])) := by
 have hlk : (64 : Int) < ((k.length : Nat) : Int) := by omega
 have hmk : macK k = sumB k := by rw [macK, if_pos h64]
 have hF9 := hashof_ k (by omega)
 have hT9 := text_ (sumB k) (sumB_length k)
 have hskl := sumB_length k
 obtain ⟨w, hw⟩ : ∃ w, sumB k = w := ⟨_, rfl⟩
 rw [hw] at hF9 hT9 hmk hskl
 have hwl := macK_le k
 obtain ⟨p, hpk⟩ : ∃ p, pad64 (macK k) = p := ⟨_, rfl⟩
 have hp : p.length = 64 := by rw [← hpk]; exact pad64_length (macK_le k)
 rw [hmk] at hwl
 have hpd : w ++ List.replicate (64 - w.length) 0 = p := by rw [← hpk, hmk, pad64]
 have hml0 : w.length + (64 - w.length) ≤ 9223372036854775807 := by omega
 have hN9 := noughts_ (64 - w.length) (by omega)
 have hw1 : Go.RowKit.wrap64 (64 - ((w.length : Nat) : Int)) = ((64 - w.length : Nat) : Int) := wnat (by omega) (by omega)
 have F0 := And.intro hlk <| And.intro hp <| And.intro hpd <| And.intro hml0 <| hw1
 refine CtM.k Tryd.func47 rfl Tryd.ntmps47 (congrArg Array.toList Tryd.results47) (by simp) fun w0 ro may fx => ?_
 refine top_k fun zZ zhZ => ?_
 iterate 20 first
  | refine zhK _ ?_
  | (refine sr_k fun zK zhK => ?_; simp only [go_sem, F0]; (repeat' (first | apply And.intro | intro _)))
  | (refine region_k fun zK zhK => ?_; simp only [go_sem, F0]; (repeat' (first | apply And.intro | intro _)))
  | (refine zhN _ ?_; clear zhN zhM)
  | refine block_k fun zB zbn zbx zbr zbi => ?_
  | ((all_goals (refine call_hand false [] (fun k => k) (fun _ _ => rfl) ?_ (by decide) ?_ hF9.told ?_; iterate 2 (focus (first | rfl | (simp only [go_sem, F0] <;> first | done | rfl | simp))))); (all_goals (rintro v m ⟨hR, hm⟩; subst hR; subst hm)); (all_goals (refine And.intro ?_ (And.intro ?_ (And.intro ?_ ?_)); iterate 3 (focus (first | rfl | (simp only [go_sem, F0]; done) | (simp [go_sem, look, F0]; done))))); (all_goals (try simp only [go_sem, F0])); (all_goals (try simp only [go_sem, F0])); (all_goals repeat' (first | apply And.intro | intro _)))
  | ((all_goals (refine call_view (fun k => k) (fun _ _ => rfl) ?_ (hT9.plain fun _ _ h => h) ?_; focus (first | rfl | (simp only [go_sem, F0] <;> rfl)))); (all_goals (rintro v m ⟨hR, hm⟩; subst hR; subst hm)); (all_goals refine And.intro (by first | rfl | simp only [go_sem, F0]) (And.intro (by first | rfl | simp only [go_sem, F0]) ?_)); (all_goals simp only [go_sem, F0]); (all_goals repeat' (first | apply And.intro | intro _)))
  | ((all_goals (refine call_view (fun k => k) (fun _ _ => rfl) ?_ (hN9.plain fun _ _ h => h) ?_; focus (first | rfl | (simp only [go_sem, F0] <;> rfl)))); (all_goals (rintro v m ⟨hR, hm⟩; subst hR; subst hm)); (all_goals refine And.intro (by first | rfl | simp only [go_sem, F0]) (And.intro (by first | rfl | simp only [go_sem, F0]) ?_)); (all_goals simp only [go_sem, F0]); (all_goals repeat' (first | apply And.intro | intro _)))
  | refine seq_k fun zN zM zhN zhM => ?_
  | (refine condT_k ?_ ?_; focus (first | rfl | (simp [go_sem, F0]; done)))
 refine ht_dropE [0, 8, 9, 10, 11, 12, 13, 14, 15, 16, 17, 18, 19, 20, 21, 22, 23, 24] ?_
 simp only [dropE_mk, fgt_nil, fgt_cons, List.contains_cons, List.contains_nil, Nat.reduceBEq, beq_self_eq_true, Bool.or_false, Bool.or_true, Bool.true_or, Bool.false_or, Bool.false_eq_true, reduceIte]
 refine loop_k (fun y => [(26, .w (.one (.pl (.i ((y.1 : Nat) : Int)))))]) (fun y => [(23, ⟨true, bytesC (xorP 92 p y.1)⟩), (21, ⟨true, bytesC (xorP 54 p y.1)⟩)]) (fun y => 64 - y.1) (⟨0, Nat.zero_le _⟩ : {y : Nat // y ≤ 64}) ?_ ?_ ?_
 · (simp only [go_sem, leX, List.cons_append, List.nil_append]; try simp)
 · (simp only [xorP_zero, go_sem, leX, List.cons_append, List.nil_append]; try simp)
 intro ⟨i, hi⟩ zN zM zhN zhM
 simp only [List.cons_append, List.nil_append]
 rcases Nat.lt_or_ge i 64 with hlt | hge
 · have hcq : ((i : Nat) : Int) < 64 := by omega
   have hc0 : (0 : Int) ≤ ((i : Nat) : Int) ∧ i + 1 ≤ 64 := by omega
   have hxl := xorP_length (c := 54) (l := p) (i := i)
   have hyl := xorP_length (c := 92) (l := p) (i := i)
   rw [hp] at hxl hyl
   have hx1 := u8_one (q := xorP 54 p i) (i := i) (by omega)
   have hy1 := u8_one (q := xorP 92 p i) (i := i) (by omega)
   rw [xorP_getD (by omega)] at hx1 hy1
   have hxs := xorP_step (c := 54) (l := p) (i := i) (by omega)
   have hys := xorP_step (c := 92) (l := p) (i := i) (by omega)
   have hs1 : Go.RowKit.wrap64 (((i : Nat) : Int) + 1) = ((i + 1 : Nat) : Int) := wnat (by omega) (by omega)
   have F10 := And.intro hcq <| And.intro hc0 <| And.intro hxl <| And.intro hyl <| And.intro hx1 <| And.intro hy1 <| And.intro hxs <| And.intro hys <| hs1
   iterate 18 first
    | refine zhK _ ?_
    | (refine sr_k fun zK zhK => ?_; simp only [go_sem, F0, bytesC_1, F10]; (repeat' (first | apply And.intro | intro _)))
    | (refine zhN _ ?_; clear zhN zhM)
    | (refine region_k fun zK zhK => ?_; simp only [go_sem, F0, bytesC_1, F10]; (repeat' (first | apply And.intro | intro _)))
    | refine skip_k ?_
    | refine block_k fun zB zbn zbx zbr zbi => ?_
    | (refine zbn _ ?_; clear zbn zbx zbr zbi)
    | refine seq_k fun zN zM zhN zhM => ?_
    | (refine condT_k ?_ ?_; focus (first | rfl | (simp [go_sem, F0, bytesC_1, F10]; done)))
   refine zhN ⟨i + 1, hlt⟩ _ ?_ ?_ ?_
   · (exact Nat.sub_lt_sub_left hlt (Nat.lt_succ_self i))
   · (simp only [go_sem, leX, List.cons_append, List.nil_append]; try simp)
   · (simp only [go_sem, leX, List.cons_append, List.nil_append]; try simp)
 · obtain rfl : i = 64 := by omega
   have hcq : ¬ ((64 : Nat) : Int) < 64 := by omega
   have hx := xorP_all (c := 54) hp
   have hy := xorP_all (c := 92) hp
   obtain ⟨px, hpx⟩ : ∃ q, p.map (· ^^^ (54 : UInt8)) = q := ⟨_, rfl⟩
   obtain ⟨py, hpy⟩ : ∃ q, p.map (· ^^^ (92 : UInt8)) = q := ⟨_, rfl⟩
   have hpxl : px.length = 64 := by rw [← hpx, List.length_map, hp]
   have hpyl : py.length = 64 := by rw [← hpy, List.length_map, hp]
   rw [hpx] at hx
   rw [hpy] at hy
   have hmac : macB k b = sumB (py ++ sumB (px ++ b)) := by rw [macB, hpk, hpx, hpy]
   simp only [hx, hy]
   have hkl := sumB_length (px ++ b)
   have hml : 64 + b.length ≤ 9223372036854775807 := by omega
   have hF0 := hashof_ (px ++ b) (by rw [List.length_append]; omega)
   have hT0 := text_ (sumB (px ++ b)) hkl
   have hml2 : 64 + 32 ≤ 9223372036854775807 := by omega
   obtain ⟨z, hz⟩ : ∃ z, py ++ sumB (px ++ b) = z := ⟨_, rfl⟩
   have hF1 := hashof_ z (by rw [← hz, List.length_append, hkl]; omega)
   have hkz := sumB_length z
   rw [hz] at hmac
   have F18 := And.intro hcq <| And.intro hpxl <| And.intro hpyl <| And.intro hml <| And.intro hkl <| And.intro hml2 <| And.intro hz <| hkz
   refine sr_k fun zK zhK => ?_
   simp only [go_sem, F0, F18]
   repeat' (first | apply And.intro | intro _)
   refine zhK _ ?_
   refine seq_k fun zN zM zhN zhM => ?_
   (refine condF_k ?_ ?_; focus (first | rfl | (simp [go_sem, F0, F18]; done)))
   refine exit_k ?_
   refine zhM _ _ ?_; clear zhN zhM
   refine zhM _ _ ?_; clear zhN zhM
   refine zbx _ ?_; clear zbn zbx zbr zbi
   refine zhN _ ?_; clear zhN zhM
   refine seq_k fun zN zM zhN zhM => ?_
   refine dr_k (id := 11) mixed fun zE zhE => ?_
   refine dr_piece_k (p := 0) 8 [42, 43, 44, 45, 46, 47, 48, 49] [0, 1, 0, 4, 0, 28, 60, 124, 255, 511, 1023] [] rfl (by kernel_rfl) rfl (by simp only [go_sem]) fun zR zK zhR zhK => ?_
   simp only [go_sem, F0, F18]
   repeat' (first | apply And.intro | intro _)
   all_goals (refine call_drawhand (fun k => k) (.w (.agg (bytesC (sumB (px ++ b))))) [] (fun _ _ => rfl) ?_ ?_ ?_ hF0.told ?_ ?_; (iterate 2 (focus (first | rfl | (simp only [go_sem, F0, F18] <;> first | done | rfl | simp)))); (first | kernel_rfl | rfl | simp [fixO, fixL, pls]))
   all_goals try (refine And.intro ?_ (And.intro ?_ (And.intro ?_ ?_)) <;> (first | rfl | (simp only [go_sem, F0, F18]; done) | (simp [go_sem, look, F0, F18]; done)))
   all_goals (try simp only [go_sem, F0, F18])
   all_goals (try simp only [go_sem, F0, F18])
   all_goals repeat' (first | apply And.intro | intro _)
   all_goals (refine call_draw (fun k => k) (.w (.one (.pl (.str (sumB (px ++ b)))))) [] (fun _ _ => rfl) ?_ (hT0.plain fun _ _ h => h) ?_ ?_; focus (first | rfl | (simp only [go_sem, F0, F18] <;> rfl)))
   all_goals try (refine And.intro ?_ (And.intro ?_ (And.intro ?_ ?_)) <;> first | rfl | simp only [go_sem])
   all_goals simp only [go_sem, F0, F18]
   all_goals repeat' (first | apply And.intro | intro _)
   refine zhK _ _ trivial (zhR _ ?_)
   refine dr_runs_k 3 11 rfl (by kernel_rfl) rfl rfl fun zR zhR => ?_
   simp only [go_sem, F0, F18]
   repeat' (first | apply And.intro | intro _)
   all_goals (refine call_hand false [] (fun k => k) (fun _ _ => rfl) ?_ (by decide) ?_ hF1.told ?_; iterate 2 (focus (first | rfl | (simp only [go_sem, F0, F18] <;> first | done | rfl | simp))))
   all_goals (rintro v m ⟨hR, hm⟩; subst hR; subst hm)
   all_goals (refine And.intro ?_ (And.intro ?_ (And.intro ?_ ?_)); iterate 3 (focus (first | rfl | (simp only [go_sem, F0, F18]; done) | (simp [go_sem, look, F0, F18]; done))))
   all_goals (try simp only [go_sem, F0, F18])
   all_goals (try simp only [go_sem, F0, F18])
   all_goals repeat' (first | apply And.intro | intro _)
   refine zhR _ ?_
   refine dr_end rfl (zhE _ ?_)
   refine zhN _ ?_; clear zhN zhM
   refine ret_k ?_
   refine zhZ _ _ ?_
   simp only [go_sem, F0, F18]
   all_goals (rw [hmac]; exact told_plain (plain_bytesV _) ⟨rfl, rfl⟩)
end Bk
end Go.Sy
