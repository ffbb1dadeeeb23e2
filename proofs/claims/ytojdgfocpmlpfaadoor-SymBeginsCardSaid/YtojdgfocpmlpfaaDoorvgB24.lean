/- Macs of bytes, as the document tells them: the walks. -/
import Derived.Test.YtojdgfocpmlpfaaDoorvgB23
set_option linter.unusedVariables false
set_option linter.unusedSimpArgs false
namespace Go.Sy
open Go.Proofs
attribute [local irreducible] atCall HT runOps runD onC onE onO onG goV goA goS onSt onGuard
set_option maxHeartbeats 3200000 in
set_option maxRecDepth 100000 in
theorem macof_short (k b : List UInt8) (hk : k.length ≤ 140737488351232) (hb : b.length ≤ 140737488351232) (h64 : ¬ 64 < k.length) :
 CtM Tryd.prog 19 [.w (.one (.pl (.str k))), .w (.one (.pl (.str b)))] [(1000001, ⟨false, [.pl (.u32 1779033703), .pl (.u32 3144134277), .pl (.u32 1013904242), .pl (.u32 2773480762), .pl (.u32 1359893119), .pl (.u32 2600822924), .pl (.u32 528734635), .pl (.u32 1541459225)]⟩)] (Told (fun v m => v = .w (.agg (bytesC (macB k b))) ∧ m = [])) := by
 have hlk : ¬ (64 : Int) < ((k.length : Nat) : Int) := by omega
 have hmk : macK k = k := by rw [macK, if_neg h64]
 obtain ⟨w, hw⟩ : ∃ w, k = w := ⟨_, rfl⟩
 rw [hw] at hlk hmk
 have hwl := macK_le k
 obtain ⟨p, hpk⟩ : ∃ p, pad64 (macK k) = p := ⟨_, rfl⟩
 have hp : p.length = 64 := by rw [← hpk]; exact pad64_length (macK_le k)
 subst hw
 rw [hmk] at hwl
 have hpd : k ++ List.replicate (64 - k.length) 0 = p := by rw [← hpk, hmk, pad64]
 have hml0 : k.length + (64 - k.length) ≤ 9223372036854775807 := by omega
 have hN9 := noughts_ (64 - k.length) (by omega)
 have hw1 : Go.RowKit.wrap64 (64 - ((k.length : Nat) : Int)) = ((64 - k.length : Nat) : Int) := wnat (by omega) (by omega)
 have F0 := And.intro hlk <| And.intro hp <| And.intro hpd <| And.intro hml0 <| hw1
 refine CtM.k Tryd.func19 rfl Tryd.ntmps19 (congrArg Array.toList Tryd.results19) (by simp) fun w0 ro may fx => ?_
 refine sr_k fun K1 hK1 => ?_
 simp only [go_sem, F0]
 repeat' (first | apply And.intro | intro _)
 refine hK1 _ ?_
 refine seq_k fun N2 M2 hN2 hM2 => ?_
 refine sr_k fun K3 hK3 => ?_
 simp only [go_sem, F0]
 repeat' (first | apply And.intro | intro _)
 refine hK3 _ ?_
 refine condF_k (by first | rfl | (simp [go_sem, F0]; done)) ?_
 refine skip_k ?_
 refine hN2 _ ?_
 refine sr_k fun K4 hK4 => ?_
 simp only [go_sem, F0]
 repeat' (first | apply And.intro | intro _)
 all_goals refine call_view (fun k => k) (fun _ _ => rfl) (by first | rfl | (simp only [go_sem, F0] <;> rfl)) (hN9.plain fun _ _ h => h) ?_
 all_goals (rintro v m ⟨hR, hm⟩; subst hR; subst hm)
 all_goals refine And.intro (by first | rfl | simp only [go_sem, F0]) (And.intro (by first | rfl | simp only [go_sem, F0]) ?_)
 all_goals simp only [go_sem, F0]
 all_goals repeat' (first | apply And.intro | intro _)
 refine hK4 _ ?_
 refine sr_k fun K5 hK5 => ?_
 simp only [go_sem, F0]
 repeat' (first | apply And.intro | intro _)
 refine hK5 _ ?_
 refine seq_k fun N6 M6 hN6 hM6 => ?_
 refine sr_k fun K7 hK7 => ?_
 simp only [go_sem, F0]
 repeat' (first | apply And.intro | intro _)
 refine hK7 _ ?_
 refine block_k fun B8 bn8 bx8 br8 bi8 => ?_
 refine ht_dropE [0, 8, 9, 10, 11, 12, 13, 14, 15, 16, 17, 18, 19, 20, 21, 22, 23, 24] ?_
 simp only [dropE_mk, fgt_nil, fgt_cons, List.contains_cons, List.contains_nil, Nat.reduceBEq, beq_self_eq_true, Bool.or_false, Bool.or_true, Bool.true_or, Bool.false_or, Bool.false_eq_true, reduceIte]
 refine loop_k (fun y => [(26, .w (.one (.pl (.i ((y.1 : Nat) : Int)))))]) (fun y => [(23, ⟨true, bytesC (xorP 92 p y.1)⟩), (21, ⟨true, bytesC (xorP 54 p y.1)⟩)]) (fun y => 64 - y.1) (⟨0, Nat.zero_le _⟩ : {y : Nat // y ≤ 64}) ?_ ?_ ?_
 · (simp only [go_sem, leX, List.cons_append, List.nil_append]; try simp)
 · (simp only [xorP_zero, go_sem, leX, List.cons_append, List.nil_append]; try simp)
 intro ⟨i, hi⟩ N9 M9 hN9 hM9
 simp only [List.cons_append, List.nil_append]
 rcases Nat.lt_or_ge i 64 with hlt | hge
 · have hcq : ((i : Nat) : Int) < 64 := by omega
   have hc0 : (0 : Int) ≤ ((i : Nat) : Int) ∧ i + 1 ≤ 64 := by omega
   have hxl := xorP_length (c := 54) (l := p) (i := i)
   have hyl := xorP_length (c := 92) (l := p) (i := i)
   rw [hp] at hxl hyl
   have hx1 := u8_one (q := xorP 54 p i) (i := i) (by omega)
   have hy1 := u8_one (q := xorP 92 p i) (i := i) (by omega)
   rw [xorP_getD (by omega)] at hx1 hy1
   have hxs := xorP_step (c := 54) (l := p) (i := i) (by omega)
   have hys := xorP_step (c := 92) (l := p) (i := i) (by omega)
   have hs1 : Go.RowKit.wrap64 (((i : Nat) : Int) + 1) = ((i + 1 : Nat) : Int) := wnat (by omega) (by omega)
   have F9 := And.intro hcq <| And.intro hc0 <| And.intro hxl <| And.intro hyl <| And.intro hx1 <| And.intro hy1 <| And.intro hxs <| And.intro hys <| hs1
   refine sr_k fun K10 hK10 => ?_
   simp only [go_sem, F0, bytesC_1, F9]
   repeat' (first | apply And.intro | intro _)
   refine hK10 _ ?_
   refine seq_k fun N11 M11 hN11 hM11 => ?_
   refine condT_k (by first | rfl | (simp [go_sem, F0, bytesC_1, F9]; done)) ?_
   refine skip_k ?_
   refine hN11 _ ?_
   refine seq_k fun N12 M12 hN12 hM12 => ?_
   refine block_k fun B13 bn13 bx13 br13 bi13 => ?_
   refine sr_k fun K14 hK14 => ?_
   simp only [go_sem, F0, bytesC_1, F9]
   repeat' (first | apply And.intro | intro _)
   refine hK14 _ ?_
   refine sr_k fun K15 hK15 => ?_
   simp only [go_sem, F0, bytesC_1, F9]
   repeat' (first | apply And.intro | intro _)
   refine hK15 _ ?_
   refine region_k fun K16 hK16 => ?_
   simp only [go_sem, F0, bytesC_1, F9]
   repeat' (first | apply And.intro | intro _)
   refine hK16 _ ?_
   refine bn13 _ ?_
   refine hN12 _ ?_
   refine region_k fun K17 hK17 => ?_
   simp only [go_sem, F0, bytesC_1, F9]
   repeat' (first | apply And.intro | intro _)
   refine hK17 _ ?_
   refine hN9 ⟨i + 1, hlt⟩ _ ?_ ?_ ?_
   · (exact Nat.sub_lt_sub_left hlt (Nat.lt_succ_self i))
   · (simp only [go_sem, leX, List.cons_append, List.nil_append]; try simp)
   · (simp only [go_sem, leX, List.cons_append, List.nil_append]; try simp)
 · obtain rfl : i = 64 := by omega
   have hcq : ¬ ((64 : Nat) : Int) < 64 := by omega
   have hx := xorP_all (c := 54) hp
   have hy := xorP_all (c := 92) hp
   obtain ⟨px, hpx⟩ : ∃ q, p.map (· ^^^ (54 : UInt8)) = q := ⟨_, rfl⟩
   obtain ⟨py, hpy⟩ : ∃ q, p.map (· ^^^ (92 : UInt8)) = q := ⟨_, rfl⟩
   have hpxl : px.length = 64 := by rw [← hpx, List.length_map, hp]
   have hpyl : py.length = 64 := by rw [← hpy, List.length_map, hp]
   rw [hpx] at hx
   rw [hpy] at hy
   have hmac : macB k b = sumB (py ++ sumB (px ++ b)) := by rw [macB, hpk, hpx, hpy]
   simp only [hx, hy]
   have hkl := sumB_length (px ++ b)
   have hml : 64 + b.length ≤ 9223372036854775807 := by omega
   have hF0 := hashof_ (px ++ b) (by rw [List.length_append]; omega)
   have hT0 := text_ (sumB (px ++ b)) hkl
   have hml2 : 64 + 32 ≤ 9223372036854775807 := by omega
   obtain ⟨z, hz⟩ : ∃ z, py ++ sumB (px ++ b) = z := ⟨_, rfl⟩
   have hF1 := hashof_ z (by rw [← hz, List.length_append, hkl]; omega)
   have hkz := sumB_length z
   rw [hz] at hmac
   have F17 := And.intro hcq <| And.intro hpxl <| And.intro hpyl <| And.intro hml <| And.intro hkl <| And.intro hml2 <| And.intro hz <| hkz
   refine sr_k fun K18 hK18 => ?_
   simp only [go_sem, F0, F17]
   repeat' (first | apply And.intro | intro _)
   refine hK18 _ ?_
   refine seq_k fun N19 M19 hN19 hM19 => ?_
   refine condF_k (by first | rfl | (simp [go_sem, F0, F17]; done)) ?_
   refine exit_k ?_
   refine hM19 _ _ ?_
   refine hM9 _ _ ?_
   refine bx8 _ ?_
   refine hN6 _ ?_
   refine seq_k fun N20 M20 hN20 hM20 => ?_
   refine dr_k mixed fun K21 hK21 => ?_
   refine dr_piece_k 8 [42, 43, 44, 45, 46, 47, 48, 49] [0, 1, 0, 4, 0, 28, 60, 124, 255, 511, 1023] [] rfl (by kernel_rfl) rfl (by simp only [go_sem]) fun N22 K22 hN22 hK22 => ?_
   simp only [go_sem, F0, F17]
   repeat' (first | apply And.intro | intro _)
   all_goals (refine call_drawhand (fun k => k) (.w (.agg (bytesC (sumB (px ++ b))))) [] (fun _ _ => rfl) ?_ ?_ ?_ hF0.told ?_ ?_; (iterate 2 (focus (first | rfl | (simp only [go_sem, F0, F17] <;> first | done | rfl | simp)))); (first | kernel_rfl | rfl | simp [fixO, fixL, pls]))
   all_goals try (refine And.intro ?_ (And.intro ?_ (And.intro ?_ ?_)) <;> (first | rfl | (simp only [go_sem, F0, F17]; done) | (simp [go_sem, look, F0, F17]; done)))
   all_goals (try simp only [go_sem, F0, F17])
   all_goals (try simp only [go_sem, F0, F17])
   all_goals repeat' (first | apply And.intro | intro _)
   all_goals refine call_draw (fun k => k) (.w (.one (.pl (.str (sumB (px ++ b)))))) [] (fun _ _ => rfl) (by first | rfl | (simp only [go_sem, F0, F17] <;> rfl)) (hT0.plain fun _ _ h => h) ?_ ?_
   all_goals try (refine And.intro ?_ (And.intro ?_ (And.intro ?_ ?_)) <;> first | rfl | simp only [go_sem])
   all_goals simp only [go_sem, F0, F17]
   all_goals repeat' (first | apply And.intro | intro _)
   all_goals
    refine hK22 _ _ trivial (hN22 _ ?_)
    refine dr_runs_k 3 11 rfl (by kernel_rfl) rfl rfl fun N23 hN23 => ?_
    simp only [go_sem, F0, F17]
    repeat' (first | apply And.intro | intro _)
    all_goals (refine call_hand false [] (fun k => k) (fun _ _ => rfl) ?_ (by decide) ?_ hF1.told ?_; iterate 2 (focus (first | rfl | (simp only [go_sem, F0, F17] <;> first | done | rfl | simp))))
    all_goals (rintro v m ⟨hR, hm⟩; subst hR; subst hm)
    all_goals (refine And.intro ?_ (And.intro ?_ (And.intro ?_ ?_)); iterate 3 (focus (first | rfl | (simp only [go_sem, F0, F17]; done) | (simp [go_sem, look, F0, F17]; done))))
    all_goals (try simp only [go_sem, F0, F17])
    all_goals (try simp only [go_sem, F0, F17])
    all_goals repeat' (first | apply And.intro | intro _)
    all_goals
     refine hN23 _ ?_
     refine dr_end rfl (hK21 _ ?_)
     refine hN20 _ ?_
     refine ret_k ?_
     simp only [go_sem, F0, F17]
     all_goals (rw [hmac]; exact told_plain (plain_bytesV _) ⟨rfl, rfl⟩)
set_option maxHeartbeats 3200000 in
set_option maxRecDepth 100000 in
theorem macof_long (k b : List UInt8) (hk : k.length ≤ 140737488351232) (hb : b.length ≤ 140737488351232) (h64 : 64 < k.length) :
 CtM Tryd.prog 19 [.w (.one (.pl (.str k))), .w (.one (.pl (.str b)))] [(1000001, ⟨false, [.pl (.u32 1779033703), .pl (.u32 3144134277), .pl (.u32 1013904242), .pl (.u32 2773480762), .pl (.u32 1359893119), .pl (.u32 2600822924), .pl (.u32 528734635), .pl (.u32 1541459225)]⟩)] (Told (fun v m => v = .w (.agg (bytesC (macB k b))) ∧ m = [])) := by
 have hlk : (64 : Int) < ((k.length : Nat) : Int) := by omega
 have hmk : macK k = sumB k := by rw [macK, if_pos h64]
 have hF9 := hashof_ k (by omega)
 have hT9 := text_ (sumB k) (sumB_length k)
 have hskl := sumB_length k
 obtain ⟨w, hw⟩ : ∃ w, sumB k = w := ⟨_, rfl⟩
 rw [hw] at hF9 hT9 hmk hskl
 have hwl := macK_le k
 obtain ⟨p, hpk⟩ : ∃ p, pad64 (macK k) = p := ⟨_, rfl⟩
 have hp : p.length = 64 := by rw [← hpk]; exact pad64_length (macK_le k)
 rw [hmk] at hwl
 have hpd : w ++ List.replicate (64 - w.length) 0 = p := by rw [← hpk, hmk, pad64]
 have hml0 : w.length + (64 - w.length) ≤ 9223372036854775807 := by omega
 have hN9 := noughts_ (64 - w.length) (by omega)
 have hw1 : Go.RowKit.wrap64 (64 - ((w.length : Nat) : Int)) = ((64 - w.length : Nat) : Int) := wnat (by omega) (by omega)
 have F0 := And.intro hlk <| And.intro hp <| And.intro hpd <| And.intro hml0 <| hw1
 refine CtM.k Tryd.func19 rfl Tryd.ntmps19 (congrArg Array.toList Tryd.results19) (by simp) fun w0 ro may fx => ?_
 refine sr_k fun K1 hK1 => ?_
 simp only [go_sem, F0]
 repeat' (first | apply And.intro | intro _)
 refine hK1 _ ?_
 refine seq_k fun N2 M2 hN2 hM2 => ?_
 refine sr_k fun K3 hK3 => ?_
 simp only [go_sem, F0]
 repeat' (first | apply And.intro | intro _)
 refine hK3 _ ?_
 refine condT_k (by first | rfl | (simp [go_sem, F0]; done)) ?_
 refine region_k fun K4 hK4 => ?_
 simp only [go_sem, F0]
 repeat' (first | apply And.intro | intro _)
 all_goals (refine call_hand false [] (fun k => k) (fun _ _ => rfl) ?_ (by decide) ?_ hF9.told ?_; iterate 2 (focus (first | rfl | (simp only [go_sem, F0] <;> first | done | rfl | simp))))
 all_goals (rintro v m ⟨hR, hm⟩; subst hR; subst hm)
 all_goals (refine And.intro ?_ (And.intro ?_ (And.intro ?_ ?_)); iterate 3 (focus (first | rfl | (simp only [go_sem, F0]; done) | (simp [go_sem, look, F0]; done))))
 all_goals (try simp only [go_sem, F0])
 all_goals (try simp only [go_sem, F0])
 all_goals repeat' (first | apply And.intro | intro _)
 all_goals refine call_view (fun k => k) (fun _ _ => rfl) (by first | rfl | (simp only [go_sem, F0] <;> rfl)) (hT9.plain fun _ _ h => h) ?_
 all_goals (rintro v m ⟨hR, hm⟩; subst hR; subst hm)
 all_goals refine And.intro (by first | rfl | simp only [go_sem, F0]) (And.intro (by first | rfl | simp only [go_sem, F0]) ?_)
 all_goals simp only [go_sem, F0]
 all_goals repeat' (first | apply And.intro | intro _)
 refine hK4 _ ?_
 refine hN2 _ ?_
 refine sr_k fun K5 hK5 => ?_
 simp only [go_sem, F0]
 repeat' (first | apply And.intro | intro _)
 all_goals refine call_view (fun k => k) (fun _ _ => rfl) (by first | rfl | (simp only [go_sem, F0] <;> rfl)) (hN9.plain fun _ _ h => h) ?_
 all_goals (rintro v m ⟨hR, hm⟩; subst hR; subst hm)
 all_goals refine And.intro (by first | rfl | simp only [go_sem, F0]) (And.intro (by first | rfl | simp only [go_sem, F0]) ?_)
 all_goals simp only [go_sem, F0]
 all_goals repeat' (first | apply And.intro | intro _)
 refine hK5 _ ?_
 refine sr_k fun K6 hK6 => ?_
 simp only [go_sem, F0]
 repeat' (first | apply And.intro | intro _)
 refine hK6 _ ?_
 refine seq_k fun N7 M7 hN7 hM7 => ?_
 refine sr_k fun K8 hK8 => ?_
 simp only [go_sem, F0]
 repeat' (first | apply And.intro | intro _)
 refine hK8 _ ?_
 refine block_k fun B9 bn9 bx9 br9 bi9 => ?_
 refine ht_dropE [0, 8, 9, 10, 11, 12, 13, 14, 15, 16, 17, 18, 19, 20, 21, 22, 23, 24] ?_
 simp only [dropE_mk, fgt_nil, fgt_cons, List.contains_cons, List.contains_nil, Nat.reduceBEq, beq_self_eq_true, Bool.or_false, Bool.or_true, Bool.true_or, Bool.false_or, Bool.false_eq_true, reduceIte]
 refine loop_k (fun y => [(26, .w (.one (.pl (.i ((y.1 : Nat) : Int)))))]) (fun y => [(23, ⟨true, bytesC (xorP 92 p y.1)⟩), (21, ⟨true, bytesC (xorP 54 p y.1)⟩)]) (fun y => 64 - y.1) (⟨0, Nat.zero_le _⟩ : {y : Nat // y ≤ 64}) ?_ ?_ ?_
 · (simp only [go_sem, leX, List.cons_append, List.nil_append]; try simp)
 · (simp only [xorP_zero, go_sem, leX, List.cons_append, List.nil_append]; try simp)
 intro ⟨i, hi⟩ N10 M10 hN10 hM10
 simp only [List.cons_append, List.nil_append]
 rcases Nat.lt_or_ge i 64 with hlt | hge
 · have hcq : ((i : Nat) : Int) < 64 := by omega
   have hc0 : (0 : Int) ≤ ((i : Nat) : Int) ∧ i + 1 ≤ 64 := by omega
   have hxl := xorP_length (c := 54) (l := p) (i := i)
   have hyl := xorP_length (c := 92) (l := p) (i := i)
   rw [hp] at hxl hyl
   have hx1 := u8_one (q := xorP 54 p i) (i := i) (by omega)
   have hy1 := u8_one (q := xorP 92 p i) (i := i) (by omega)
   rw [xorP_getD (by omega)] at hx1 hy1
   have hxs := xorP_step (c := 54) (l := p) (i := i) (by omega)
   have hys := xorP_step (c := 92) (l := p) (i := i) (by omega)
   have hs1 : Go.RowKit.wrap64 (((i : Nat) : Int) + 1) = ((i + 1 : Nat) : Int) := wnat (by omega) (by omega)
   have F10 := And.intro hcq <| And.intro hc0 <| And.intro hxl <| And.intro hyl <| And.intro hx1 <| And.intro hy1 <| And.intro hxs <| And.intro hys <| hs1
   refine sr_k fun K11 hK11 => ?_
   simp only [go_sem, F0, bytesC_1, F10]
   repeat' (first | apply And.intro | intro _)
   refine hK11 _ ?_
   refine seq_k fun N12 M12 hN12 hM12 => ?_
   refine condT_k (by first | rfl | (simp [go_sem, F0, bytesC_1, F10]; done)) ?_
   refine skip_k ?_
   refine hN12 _ ?_
   refine seq_k fun N13 M13 hN13 hM13 => ?_
   refine block_k fun B14 bn14 bx14 br14 bi14 => ?_
   refine sr_k fun K15 hK15 => ?_
   simp only [go_sem, F0, bytesC_1, F10]
   repeat' (first | apply And.intro | intro _)
   refine hK15 _ ?_
   refine sr_k fun K16 hK16 => ?_
   simp only [go_sem, F0, bytesC_1, F10]
   repeat' (first | apply And.intro | intro _)
   refine hK16 _ ?_
   refine region_k fun K17 hK17 => ?_
   simp only [go_sem, F0, bytesC_1, F10]
   repeat' (first | apply And.intro | intro _)
   refine hK17 _ ?_
   refine bn14 _ ?_
   refine hN13 _ ?_
   refine region_k fun K18 hK18 => ?_
   simp only [go_sem, F0, bytesC_1, F10]
   repeat' (first | apply And.intro | intro _)
   refine hK18 _ ?_
   refine hN10 ⟨i + 1, hlt⟩ _ ?_ ?_ ?_
   · (exact Nat.sub_lt_sub_left hlt (Nat.lt_succ_self i))
   · (simp only [go_sem, leX, List.cons_append, List.nil_append]; try simp)
   · (simp only [go_sem, leX, List.cons_append, List.nil_append]; try simp)
 · obtain rfl : i = 64 := by omega
   have hcq : ¬ ((64 : Nat) : Int) < 64 := by omega
   have hx := xorP_all (c := 54) hp
   have hy := xorP_all (c := 92) hp
   obtain ⟨px, hpx⟩ : ∃ q, p.map (· ^^^ (54 : UInt8)) = q := ⟨_, rfl⟩
   obtain ⟨py, hpy⟩ : ∃ q, p.map (· ^^^ (92 : UInt8)) = q := ⟨_, rfl⟩
   have hpxl : px.length = 64 := by rw [← hpx, List.length_map, hp]
   have hpyl : py.length = 64 := by rw [← hpy, List.length_map, hp]
   rw [hpx] at hx
   rw [hpy] at hy
   have hmac : macB k b = sumB (py ++ sumB (px ++ b)) := by rw [macB, hpk, hpx, hpy]
   simp only [hx, hy]
   have hkl := sumB_length (px ++ b)
   have hml : 64 + b.length ≤ 9223372036854775807 := by omega
   have hF0 := hashof_ (px ++ b) (by rw [List.length_append]; omega)
   have hT0 := text_ (sumB (px ++ b)) hkl
   have hml2 : 64 + 32 ≤ 9223372036854775807 := by omega
   obtain ⟨z, hz⟩ : ∃ z, py ++ sumB (px ++ b) = z := ⟨_, rfl⟩
   have hF1 := hashof_ z (by rw [← hz, List.length_append, hkl]; omega)
   have hkz := sumB_length z
   rw [hz] at hmac
   have F18 := And.intro hcq <| And.intro hpxl <| And.intro hpyl <| And.intro hml <| And.intro hkl <| And.intro hml2 <| And.intro hz <| hkz
   refine sr_k fun K19 hK19 => ?_
   simp only [go_sem, F0, F18]
   repeat' (first | apply And.intro | intro _)
   refine hK19 _ ?_
   refine seq_k fun N20 M20 hN20 hM20 => ?_
   refine condF_k (by first | rfl | (simp [go_sem, F0, F18]; done)) ?_
   refine exit_k ?_
   refine hM20 _ _ ?_
   refine hM10 _ _ ?_
   refine bx9 _ ?_
   refine hN7 _ ?_
   refine seq_k fun N21 M21 hN21 hM21 => ?_
   refine dr_k mixed fun K22 hK22 => ?_
   refine dr_piece_k 8 [42, 43, 44, 45, 46, 47, 48, 49] [0, 1, 0, 4, 0, 28, 60, 124, 255, 511, 1023] [] rfl (by kernel_rfl) rfl (by simp only [go_sem]) fun N23 K23 hN23 hK23 => ?_
   simp only [go_sem, F0, F18]
   repeat' (first | apply And.intro | intro _)
   all_goals (refine call_drawhand (fun k => k) (.w (.agg (bytesC (sumB (px ++ b))))) [] (fun _ _ => rfl) ?_ ?_ ?_ hF0.told ?_ ?_; (iterate 2 (focus (first | rfl | (simp only [go_sem, F0, F18] <;> first | done | rfl | simp)))); (first | kernel_rfl | rfl | simp [fixO, fixL, pls]))
   all_goals try (refine And.intro ?_ (And.intro ?_ (And.intro ?_ ?_)) <;> (first | rfl | (simp only [go_sem, F0, F18]; done) | (simp [go_sem, look, F0, F18]; done)))
   all_goals (try simp only [go_sem, F0, F18])
   all_goals (try simp only [go_sem, F0, F18])
   all_goals repeat' (first | apply And.intro | intro _)
   all_goals refine call_draw (fun k => k) (.w (.one (.pl (.str (sumB (px ++ b)))))) [] (fun _ _ => rfl) (by first | rfl | (simp only [go_sem, F0, F18] <;> rfl)) (hT0.plain fun _ _ h => h) ?_ ?_
   all_goals try (refine And.intro ?_ (And.intro ?_ (And.intro ?_ ?_)) <;> first | rfl | simp only [go_sem])
   all_goals simp only [go_sem, F0, F18]
   all_goals repeat' (first | apply And.intro | intro _)
   all_goals
    refine hK23 _ _ trivial (hN23 _ ?_)
    refine dr_runs_k 3 11 rfl (by kernel_rfl) rfl rfl fun N24 hN24 => ?_
    simp only [go_sem, F0, F18]
    repeat' (first | apply And.intro | intro _)
    all_goals (refine call_hand false [] (fun k => k) (fun _ _ => rfl) ?_ (by decide) ?_ hF1.told ?_; iterate 2 (focus (first | rfl | (simp only [go_sem, F0, F18] <;> first | done | rfl | simp))))
    all_goals (rintro v m ⟨hR, hm⟩; subst hR; subst hm)
    all_goals (refine And.intro ?_ (And.intro ?_ (And.intro ?_ ?_)); iterate 3 (focus (first | rfl | (simp only [go_sem, F0, F18]; done) | (simp [go_sem, look, F0, F18]; done))))
    all_goals (try simp only [go_sem, F0, F18])
    all_goals (try simp only [go_sem, F0, F18])
    all_goals repeat' (first | apply And.intro | intro _)
    all_goals
     refine hN24 _ ?_
     refine dr_end rfl (hK22 _ ?_)
     refine hN21 _ ?_
     refine ret_k ?_
     simp only [go_sem, F0, F18]
     all_goals (rw [hmac]; exact told_plain (plain_bytesV _) ⟨rfl, rfl⟩)
end Go.Sy

