/- Macs of bytes: the walks. -/
import Derived.Test.YtcmcnfjdfcianaaDoorvqgB22
set_option linter.unusedVariables false
set_option linter.unusedSimpArgs false
namespace Go.Sy
namespace Bk
open Go.Proofs
attribute [local irreducible] atCall HT runOps runD onC onE onO onG goV goA goS onSt onGuard
def xorP (c : UInt8) (l : List UInt8) (i : Nat) : List UInt8 := (l.take i).map (· ^^^ c) ++ l.drop i
section
variable {c : UInt8} {l : List UInt8} {i : Nat}
theorem xorP_length : (xorP c l i).length = l.length := by simp [xorP]; omega
theorem xorP_zero : xorP c l 0 = l := rfl
theorem xorP_getD (h : i < l.length) : (xorP c l i).getD i 0 = l.getD i 0 := by
 rw [xorP, List.getD, List.getElem?_append_right (by rw [List.length_map, List.length_take]; omega), List.getD]
 simp only [List.length_map, List.length_take, List.getElem?_drop]
 congr 2; omega
theorem xorP_take : (xorP c l i).take i = (l.take i).map (· ^^^ c) := by
 by_cases h : i ≤ l.length
 · rw [xorP, List.take_append_of_le_length (by rw [List.length_map, List.length_take]; omega), List.take_of_length_le (by rw [List.length_map, List.length_take]; omega)]
 · rw [xorP, List.drop_of_length_le (by omega), List.append_nil, List.take_of_length_le (by rw [List.length_map, List.length_take]; omega)]
theorem xorP_drop : (xorP c l i).drop (i + 1) = l.drop (i + 1) := by
 by_cases h : i ≤ l.length
 · have hl : ((l.take i).map (· ^^^ c)).length = i := by simp; omega
   rw [xorP, List.drop_append, List.drop_of_length_le (by omega), List.nil_append, List.drop_drop, hl]
   congr 1; omega
 · rw [List.drop_of_length_le (by rw [xorP_length]; omega), List.drop_of_length_le (by omega)]
theorem xorP_step (h : i < l.length) : bytesC ((xorP c l i).take i) ++ [L.pl (PL.u8 (l.getD i 0 ^^^ c))] ++ bytesC ((xorP c l i).drop (i + 1)) = bytesC (xorP c l (i + 1)) := by
 have e : l.take (i + 1) = l.take i ++ [l.getD i 0] := by
  rw [List.take_succ_eq_append_getElem h]; simp [List.getD, List.getElem?_eq_getElem h]
 rw [xorP_take, xorP_drop, xorP, e]
 simp [bytesC]
theorem xorP_all (h : l.length = i) : xorP c l i = l.map (· ^^^ c) := by rw [xorP, List.take_of_length_le (by omega), List.drop_of_length_le (by omega), List.append_nil]
end
def macK (k : List UInt8) : List UInt8 := if 64 < k.length then sumB k else k
theorem macK_le (k : List UInt8) : (macK k).length ≤ 64 := by
 unfold macK
 split
 · rw [sumB_length]; omega
 · omega
def macB (k b : List UInt8) : List UInt8 := sumB ((pad64 (macK k)).map (· ^^^ 92) ++ sumB ((pad64 (macK k)).map (· ^^^ 54) ++ b))
theorem macB_length (k b : List UInt8) : (macB k b).length = 32 := sumB_length _
theorem flat_two (e1 e2 : Bool) (x y : List UInt8) : flatB [(e1, x), (e2, y)] = x ++ y := by simp [flatB]
theorem flat_one (e1 : Bool) (x : List UInt8) : flatB [(e1, x)] = x := by simp [flatB]
theorem drop_rep {n k : Nat} : List.drop k (List.replicate n (0 : UInt8)) = List.replicate (n - k) 0 := List.drop_replicate
theorem pad64_def (r : List UInt8) : r ++ List.replicate (64 - r.length) 0 = pad64 r := rfl
set_option maxHeartbeats 3200000 in
set_option maxRecDepth 100000 in
theorem mac_short (k b : List UInt8) (exk ex : Bool) (hk : k.length ≤ 140737488351232) (hb : b.length ≤ 140737488351232) (h64 : ¬ 64 < k.length) :
 CtM Tryd.prog 61 [.w (.one (.pl (.R exk 1 (byteRows k)))), .w (.one (.pl (.R ex 1 (byteRows b))))] [(1000000, ⟨false, [.pl (.u32 1779033703), .pl (.u32 3144134277), .pl (.u32 1013904242), .pl (.u32 2773480762), .pl (.u32 1359893119), .pl (.u32 2600822924), .pl (.u32 528734635), .pl (.u32 1541459225)]⟩), (1000002, ⟨false, ordC⟩)] (Told (fun v m => v = .w (.agg (bytesC (macB k b))) ∧ m = [])) := by
 have hlk : ¬ (64 : Int) < ((k.length : Nat) : Int) := by omega
 obtain ⟨p, hpk⟩ : ∃ p, pad64 (macK k) = p := ⟨_, rfl⟩
 have hmk : macK k = k := by rw [macK, if_neg h64]
 have hp : p.length = 64 := by rw [← hpk]; exact pad64_length (macK_le k)
 have hbp : bytesC k ++ bytesC (List.replicate (64 - k.length) 0) = bytesC p := by rw [← hpk, hmk, pad64]; simp [bytesC]
 have hmi : min k.length 64 = k.length := by omega
 have hmi2 : min 64 k.length = k.length := by omega
 have htk : List.take k.length k = k := List.take_length
 have hdz : List.drop k.length (List.replicate 64 (0 : UInt8)) = List.replicate (64 - k.length) 0 := List.drop_replicate
 have hk64 : k.length ≤ 64 := by omega
 have F0 := And.intro hlk <| And.intro hp <| And.intro hbp <| And.intro hmi <| And.intro hmi2 <| And.intro htk <| And.intro hdz <| hk64
 refine CtM.k Tryd.func61 rfl Tryd.ntmps61 (congrArg Array.toList Tryd.results61) (by simp) fun w0 ro may fx => ?_
 refine top_k fun zZ zhZ => ?_
 refine sr_k fun zK zhK => ?_
 simp only [go_sem, F0]
 repeat' (first | apply And.intro | intro _)
 refine zhK _ ?_
 refine seq_k fun zN zM zhN zhM => ?_
 iterate 7 first
  | (refine sr_k fun zK zhK => ?_; simp only [go_sem, F0]; (repeat' (first | apply And.intro | intro _)))
  | refine zhK _ ?_
  | refine skip_k ?_
  | (refine zhN _ ?_; clear zhN zhM)
  | (refine condF_k ?_ ?_; focus (first | rfl | (simp [go_sem, F0]; done)))
 refine seq_k fun zN zM zhN zhM => ?_
 refine text_k (id := 4) [14, 15, 16] (by simp only [go_sem]) fun zK zhK => ?_
 simp only [go_sem, F0]
 repeat' (first | apply And.intro | intro _)
 refine zhK _ _ ?_
 refine zhN _ ?_; clear zhN zhM
 refine seq_k fun zN zM zhN zhM => ?_
 refine text_k (id := 5) [17, 18, 19] (by simp only [go_sem]) fun zK zhK => ?_
 simp only [go_sem, F0]
 repeat' (first | apply And.intro | intro _)
 refine zhK _ _ ?_
 refine zhN _ ?_; clear zhN zhM
 refine seq_k fun zN zM zhN zhM => ?_
 refine sr_k fun zK zhK => ?_
 simp only [go_sem, F0]
 repeat' (first | apply And.intro | intro _)
 refine zhK _ ?_
 refine block_k fun zB zbn zbx zbr zbi => ?_
 refine ht_dropE [0, 8, 9, 10, 11, 12, 13, 14, 15, 16, 17, 18, 19] ?_
 simp only [dropE_mk, fgt_nil, fgt_cons, List.contains_cons, List.contains_nil, Nat.reduceBEq, beq_self_eq_true, Bool.or_false, Bool.or_true, Bool.true_or, Bool.false_or, Bool.false_eq_true, reduceIte]
 refine loop_k (fun y => [(20, .w (.one (.pl (.i ((y.1 : Nat) : Int)))))]) (fun y => [(6, ⟨false, bytesC (xorP 92 p y.1)⟩), (5, ⟨false, bytesC (xorP 54 p y.1)⟩)]) (fun y => 64 - y.1) (⟨0, Nat.zero_le _⟩ : {y : Nat // y ≤ 64}) ?_ ?_ ?_
 · (simp only [go_sem, leX, List.cons_append, List.nil_append]; try simp)
 · (simp only [xorP_zero, go_sem, leX, List.cons_append, List.nil_append]; try simp)
 intro ⟨i, hi⟩ zN zM zhN zhM
 simp only [List.cons_append, List.nil_append]
 rcases Nat.lt_or_ge i 64 with hlt | hge
 · have hcq : ((i : Nat) : Int) < 64 := by omega
   have hc0 : (0 : Int) ≤ ((i : Nat) : Int) ∧ i + 1 ≤ 64 := by omega
   have hxl := xorP_length (c := 54) (l := p) (i := i)
   have hyl := xorP_length (c := 92) (l := p) (i := i)
   rw [hp] at hxl hyl
   have hx1 := u8_one (q := xorP 54 p i) (i := i) (by omega)
   have hy1 := u8_one (q := xorP 92 p i) (i := i) (by omega)
   rw [xorP_getD (by omega)] at hx1 hy1
   have hxs := xorP_step (c := 54) (l := p) (i := i) (by omega)
   have hys := xorP_step (c := 92) (l := p) (i := i) (by omega)
   have hs1 : Go.RowKit.wrap64 (((i : Nat) : Int) + 1) = ((i + 1 : Nat) : Int) := wnat (by omega) (by omega)
   have F12 := And.intro hcq <| And.intro hc0 <| And.intro hxl <| And.intro hyl <| And.intro hx1 <| And.intro hy1 <| And.intro hxs <| And.intro hys <| hs1
   iterate 18 first
    | refine zhK _ ?_
    | (refine sr_k fun zK zhK => ?_; simp only [go_sem, F0, bytesC_1, F12]; (repeat' (first | apply And.intro | intro _)))
    | (refine zhN _ ?_; clear zhN zhM)
    | (refine region_k fun zK zhK => ?_; simp only [go_sem, F0, bytesC_1, F12]; (repeat' (first | apply And.intro | intro _)))
    | refine skip_k ?_
    | refine block_k fun zB zbn zbx zbr zbi => ?_
    | (refine zbn _ ?_; clear zbn zbx zbr zbi)
    | refine seq_k fun zN zM zhN zhM => ?_
    | (refine condT_k ?_ ?_; focus (first | rfl | (simp [go_sem, F0, bytesC_1, F12]; done)))
   refine zhN ⟨i + 1, hlt⟩ _ ?_ ?_ ?_
   · (exact Nat.sub_lt_sub_left hlt (Nat.lt_succ_self i))
   · (simp only [go_sem, leX, List.cons_append, List.nil_append]; try simp)
   · (simp only [go_sem, leX, List.cons_append, List.nil_append]; try simp)
 · obtain rfl : i = 64 := by omega
   have hcq : ¬ ((64 : Nat) : Int) < 64 := by omega
   have hx := xorP_all (c := 54) hp
   have hy := xorP_all (c := 92) hp
   obtain ⟨px, hpx⟩ : ∃ q, p.map (· ^^^ (54 : UInt8)) = q := ⟨_, rfl⟩
   obtain ⟨py, hpy⟩ : ∃ q, p.map (· ^^^ (92 : UInt8)) = q := ⟨_, rfl⟩
   have hpxl : px.length = 64 := by rw [← hpx, List.length_map, hp]
   have hpyl : py.length = 64 := by rw [← hpy, List.length_map, hp]
   rw [hpx] at hx
   rw [hpy] at hy
   have hmac : macB k b = sumB (py ++ sumB (px ++ b)) := by rw [macB, hpk, hpx, hpy]
   simp only [hx, hy]
   have hkl := sumB_length (px ++ b)
   have hS1 := ksum_ [(false, px), (ex, b)] false (by rw [flat_two]; intro e; have := congrArg List.length e; rw [List.length_append, hpxl, List.length_nil] at this; omega) (by rw [flat_two, List.length_append]; omega) (by simp)
   rw [flat_two] at hS1
   have hC1 := cat_ [(false, py), (false, sumB (px ++ b))] false (by rw [flat_two]; intro e; have := congrArg List.length e; rw [List.length_append, hpyl, List.length_nil] at this; omega) (by rw [flat_two, List.length_append, hkl]; omega) (by simp)
   rw [flat_two] at hC1
   have hF1 := sum_ (py ++ sumB (px ++ b)) (by rw [List.length_append, hkl]; omega) false
   have hal : (py ++ sumB (px ++ b)).length = 96 := by rw [List.length_append, hkl, hpyl]
   obtain ⟨z, hz⟩ : ∃ z, py ++ sumB (px ++ b) = z := ⟨_, rfl⟩
   rw [hz] at hC1 hF1 hal hmac
   have hkz := sumB_length z
   have F20 := And.intro hcq <| And.intro hpxl <| And.intro hpyl <| And.intro hkl <| And.intro hal <| hkz
   refine sr_k fun zK zhK => ?_
   simp only [go_sem, F0, nest, F20]
   repeat' (first | apply And.intro | intro _)
   refine zhK _ ?_
   refine seq_k fun zN zM zhN zhM => ?_
   (refine condF_k ?_ ?_; focus (first | rfl | (simp [go_sem, F0, nest, F20]; done)))
   refine exit_k ?_
   refine zhM _ _ ?_; clear zhN zhM
   refine zhM _ _ ?_; clear zhN zhM
   refine zbx _ ?_; clear zbn zbx zbr zbi
   refine zhN _ ?_; clear zhN zhM
   refine seq_k fun zN zM zhN zhM => ?_
   refine dr_k (id := 12) mixed fun zE zhE => ?_
   refine dr_piece_k (p := 0) 5 [34, 35, 36, 37, 38] [0, 0, 0, 6, 14, 31, 63, 127, 255] [] rfl (by kernel_rfl) rfl (by simp only [go_sem]) fun zR zK zhR zhK => ?_
   simp only [go_sem, F0, nest, F20]
   repeat' (first | apply And.intro | intro _)
   all_goals (refine call_drawdeep rfl (fun _ => 38) (.w (.one (.s 0 [(0, 32)] 32 1))) [(0, ⟨false, bytesC (sumB (px ++ b))⟩)] (fun _ _ => rfl) ?_ ?_ ?_ hS1.told ?_ ?_; (iterate 2 (focus (first | rfl | (simp only [go_sem, F0, nest, F20] <;> first | done | rfl | simp)))); (first | kernel_rfl | rfl | simp [fixO, fixL, pls]))
   all_goals try (refine And.intro ?_ (And.intro ?_ (And.intro ?_ ?_)) <;> (first | rfl | (simp only [go_sem, F0, nest, F20]; done) | (simp [go_sem, look, F0, nest, F20]; done)))
   all_goals (try simp only [go_sem, F0, nest, F20])
   all_goals (try simp only [go_sem, F0, nest, F20])
   all_goals repeat' (first | apply And.intro | intro _)
   refine zhK _ _ trivial (zhR _ ?_)
   refine dr_runs_k 4 9 rfl (by kernel_rfl) rfl rfl fun zR zhR => ?_
   simp only [go_sem, F0, nest, F20]
   repeat' (first | apply And.intro | intro _)
   all_goals (refine call_deep (fun _ => 40) (fun _ _ => rfl) ?_ ?_ hC1.told ?_; iterate 2 (focus (first | rfl | (simp only [go_sem, F0, nest, F20] <;> first | done | rfl | simp))))
   all_goals (rintro v m ⟨hR, hm⟩; subst hR; subst hm)
   all_goals (refine And.intro ?_ (And.intro ?_ ?_); iterate 2 (focus (first | rfl | (simp only [go_sem, F0, nest, F20]; done) | (simp [go_sem, look, F0, nest, F20]; done))))
   all_goals (try simp only [go_sem, F0, nest, F20])
   all_goals (try simp only [go_sem, F0, nest, F20])
   all_goals repeat' (first | apply And.intro | intro _)
   all_goals (refine call_hand true [] (fun k => k) (fun _ _ => rfl) ?_ (by decide) ?_ hF1.told ?_; iterate 2 (focus (first | rfl | (simp only [go_sem, F0, nest, F20] <;> first | done | rfl | simp))))
   all_goals (rintro v m ⟨hR, hm⟩; subst hR; subst hm)
   all_goals (refine And.intro ?_ (And.intro ?_ (And.intro ?_ ?_)); iterate 3 (focus (first | rfl | (simp only [go_sem, F0, nest, F20]; done) | (simp [go_sem, look, F0, nest, F20]; done))))
   all_goals (try simp only [go_sem, F0, nest, F20])
   all_goals (try simp only [go_sem, F0, nest, F20])
   all_goals repeat' (first | apply And.intro | intro _)
   refine zhR _ ?_
   refine dr_end rfl (zhE _ ?_)
   refine zhN _ ?_; clear zhN zhM
   refine ret_k ?_
   refine zhZ _ _ ?_
   simp only [go_sem, F0, nest, F20]
   all_goals (rw [hmac]; exact told_plain (plain_bytesV _) ⟨rfl, rfl⟩)
set_option maxHeartbeats 3200000 in
set_option maxRecDepth 100000 in
theorem mac_long (k b : List UInt8) (exk ex : Bool) (hk : k.length ≤ 140737488351232) (hb : b.length ≤ 140737488351232) (h64 : 64 < k.length) :
 CtM Tryd.prog 61 [.w (.one (.pl (.R exk 1 (byteRows k)))), .w (.one (.pl (.R ex 1 (byteRows b))))] [(1000000, ⟨false, [.pl (.u32 1779033703), .pl (.u32 3144134277), .pl (.u32 1013904242), .pl (.u32 2773480762), .pl (.u32 1359893119), .pl (.u32 2600822924), .pl (.u32 528734635), .pl (.u32 1541459225)]⟩), (1000002, ⟨false, ordC⟩)] (Told (fun v m => v = .w (.agg (bytesC (macB k b))) ∧ m = [])) := by
 have hlk : (64 : Int) < ((k.length : Nat) : Int) := by omega
 obtain ⟨p, hpk⟩ : ∃ p, pad64 (macK k) = p := ⟨_, rfl⟩
 have hmk : macK k = sumB k := by rw [macK, if_pos h64]
 have hp : p.length = 64 := by rw [← hpk]; exact pad64_length (macK_le k)
 have hskl := sumB_length k
 have hpp : sumB k ++ List.replicate 32 0 = p := by rw [← hpk, hmk, pad64, hskl]
 have hbp : bytesC (sumB k) ++ bytesC (List.replicate 32 0) = bytesC p := by rw [← hpp]; simp [bytesC]
 have hS0 := ksum_ [(exk, k)] false (by rw [flat_one]; intro e; rw [e] at h64; simp at h64) (by rw [flat_one]; omega) (by simp)
 rw [flat_one] at hS0
 have htk : List.take 32 (sumB k) = sumB k := List.take_of_length_le (by omega)
 have hdz : List.drop 32 (List.replicate 64 (0 : UInt8)) = List.replicate 32 0 := rfl
 have F0 := And.intro hlk <| And.intro hp <| And.intro hskl <| And.intro hbp <| And.intro htk <| hdz
 refine CtM.k Tryd.func61 rfl Tryd.ntmps61 (congrArg Array.toList Tryd.results61) (by simp) fun w0 ro may fx => ?_
 refine top_k fun zZ zhZ => ?_
 refine sr_k fun zK zhK => ?_
 simp only [go_sem, nest, F0]
 repeat' (first | apply And.intro | intro _)
 refine zhK _ ?_
 refine seq_k fun zN zM zhN zhM => ?_
 refine sr_k fun zK zhK => ?_
 simp only [go_sem, nest, F0]
 repeat' (first | apply And.intro | intro _)
 refine zhK _ ?_
 (refine condT_k ?_ ?_; focus (first | rfl | (simp [go_sem, nest, F0]; done)))
 refine region_k fun zK zhK => ?_
 simp only [go_sem, nest, F0]
 repeat' (first | apply And.intro | intro _)
 all_goals (refine call_deep (fun _ => 13) (fun _ _ => rfl) ?_ ?_ hS0.told ?_; iterate 2 (focus (first | rfl | (simp only [go_sem, nest, F0] <;> first | done | rfl | simp))))
 all_goals (rintro v m ⟨hR, hm⟩; subst hR; subst hm)
 all_goals (refine And.intro ?_ (And.intro ?_ ?_); iterate 2 (focus (first | rfl | (simp only [go_sem, nest, F0]; done) | (simp [go_sem, look, nest, F0]; done))))
 all_goals (try simp only [go_sem, nest, F0])
 all_goals (try simp only [go_sem, nest, F0])
 all_goals repeat' (first | apply And.intro | intro _)
 refine zhK _ ?_
 refine zhN _ ?_; clear zhN zhM
 refine sr_k fun zK zhK => ?_
 simp only [go_sem, nest, F0]
 repeat' (first | apply And.intro | intro _)
 refine zhK _ ?_
 refine seq_k fun zN zM zhN zhM => ?_
 refine text_k (id := 4) [14, 15, 16] (by simp only [go_sem]) fun zK zhK => ?_
 simp only [go_sem, nest, F0]
 repeat' (first | apply And.intro | intro _)
 refine zhK _ _ ?_
 refine zhN _ ?_; clear zhN zhM
 refine seq_k fun zN zM zhN zhM => ?_
 refine text_k (id := 5) [17, 18, 19] (by simp only [go_sem]) fun zK zhK => ?_
 simp only [go_sem, nest, F0]
 repeat' (first | apply And.intro | intro _)
 refine zhK _ _ ?_
 refine zhN _ ?_; clear zhN zhM
 refine seq_k fun zN zM zhN zhM => ?_
 refine sr_k fun zK zhK => ?_
 simp only [go_sem, nest, F0]
 repeat' (first | apply And.intro | intro _)
 refine zhK _ ?_
 refine block_k fun zB zbn zbx zbr zbi => ?_
 refine ht_dropE [0, 8, 9, 10, 11, 12, 13, 14, 15, 16, 17, 18, 19] ?_
 simp only [dropE_mk, fgt_nil, fgt_cons, List.contains_cons, List.contains_nil, Nat.reduceBEq, beq_self_eq_true, Bool.or_false, Bool.or_true, Bool.true_or, Bool.false_or, Bool.false_eq_true, reduceIte]
 refine loop_k (fun y => [(20, .w (.one (.pl (.i ((y.1 : Nat) : Int)))))]) (fun y => [(6, ⟨false, bytesC (xorP 92 p y.1)⟩), (5, ⟨false, bytesC (xorP 54 p y.1)⟩)]) (fun y => 64 - y.1) (⟨0, Nat.zero_le _⟩ : {y : Nat // y ≤ 64}) ?_ ?_ ?_
 · (simp only [go_sem, leX, List.cons_append, List.nil_append]; try simp)
 · (simp only [xorP_zero, go_sem, leX, List.cons_append, List.nil_append]; (try simp); try (rw [htk]; exact congrArg bytesC hpp))
 intro ⟨i, hi⟩ zN zM zhN zhM
 simp only [List.cons_append, List.nil_append]
 rcases Nat.lt_or_ge i 64 with hlt | hge
 · have hcq : ((i : Nat) : Int) < 64 := by omega
   have hc0 : (0 : Int) ≤ ((i : Nat) : Int) ∧ i + 1 ≤ 64 := by omega
   have hxl := xorP_length (c := 54) (l := p) (i := i)
   have hyl := xorP_length (c := 92) (l := p) (i := i)
   rw [hp] at hxl hyl
   have hx1 := u8_one (q := xorP 54 p i) (i := i) (by omega)
   have hy1 := u8_one (q := xorP 92 p i) (i := i) (by omega)
   rw [xorP_getD (by omega)] at hx1 hy1
   have hxs := xorP_step (c := 54) (l := p) (i := i) (by omega)
   have hys := xorP_step (c := 92) (l := p) (i := i) (by omega)
   have hs1 : Go.RowKit.wrap64 (((i : Nat) : Int) + 1) = ((i + 1 : Nat) : Int) := wnat (by omega) (by omega)
   have F13 := And.intro hcq <| And.intro hc0 <| And.intro hxl <| And.intro hyl <| And.intro hx1 <| And.intro hy1 <| And.intro hxs <| And.intro hys <| hs1
   iterate 18 first
    | refine zhK _ ?_
    | (refine sr_k fun zK zhK => ?_; simp only [go_sem, nest, F0, bytesC_1, F13]; (repeat' (first | apply And.intro | intro _)))
    | (refine zhN _ ?_; clear zhN zhM)
    | (refine region_k fun zK zhK => ?_; simp only [go_sem, nest, F0, bytesC_1, F13]; (repeat' (first | apply And.intro | intro _)))
    | refine skip_k ?_
    | refine block_k fun zB zbn zbx zbr zbi => ?_
    | (refine zbn _ ?_; clear zbn zbx zbr zbi)
    | refine seq_k fun zN zM zhN zhM => ?_
    | (refine condT_k ?_ ?_; focus (first | rfl | (simp [go_sem, nest, F0, bytesC_1, F13]; done)))
   refine zhN ⟨i + 1, hlt⟩ _ ?_ ?_ ?_
   · (exact Nat.sub_lt_sub_left hlt (Nat.lt_succ_self i))
   · (simp only [go_sem, leX, List.cons_append, List.nil_append]; try simp)
   · (simp only [go_sem, leX, List.cons_append, List.nil_append]; try simp)
 · obtain rfl : i = 64 := by omega
   have hcq : ¬ ((64 : Nat) : Int) < 64 := by omega
   have hx := xorP_all (c := 54) hp
   have hy := xorP_all (c := 92) hp
   obtain ⟨px, hpx⟩ : ∃ q, p.map (· ^^^ (54 : UInt8)) = q := ⟨_, rfl⟩
   obtain ⟨py, hpy⟩ : ∃ q, p.map (· ^^^ (92 : UInt8)) = q := ⟨_, rfl⟩
   have hpxl : px.length = 64 := by rw [← hpx, List.length_map, hp]
   have hpyl : py.length = 64 := by rw [← hpy, List.length_map, hp]
   rw [hpx] at hx
   rw [hpy] at hy
   have hmac : macB k b = sumB (py ++ sumB (px ++ b)) := by rw [macB, hpk, hpx, hpy]
   simp only [hx, hy]
   have hkl := sumB_length (px ++ b)
   have hS1 := ksum_ [(false, px), (ex, b)] false (by rw [flat_two]; intro e; have := congrArg List.length e; rw [List.length_append, hpxl, List.length_nil] at this; omega) (by rw [flat_two, List.length_append]; omega) (by simp)
   rw [flat_two] at hS1
   have hC1 := cat_ [(false, py), (false, sumB (px ++ b))] false (by rw [flat_two]; intro e; have := congrArg List.length e; rw [List.length_append, hpyl, List.length_nil] at this; omega) (by rw [flat_two, List.length_append, hkl]; omega) (by simp)
   rw [flat_two] at hC1
   have hF1 := sum_ (py ++ sumB (px ++ b)) (by rw [List.length_append, hkl]; omega) false
   have hal : (py ++ sumB (px ++ b)).length = 96 := by rw [List.length_append, hkl, hpyl]
   obtain ⟨z, hz⟩ : ∃ z, py ++ sumB (px ++ b) = z := ⟨_, rfl⟩
   rw [hz] at hC1 hF1 hal hmac
   have hkz := sumB_length z
   have F21 := And.intro hcq <| And.intro hpxl <| And.intro hpyl <| And.intro hkl <| And.intro hal <| hkz
   refine sr_k fun zK zhK => ?_
   simp only [go_sem, nest, F0, F21]
   repeat' (first | apply And.intro | intro _)
   refine zhK _ ?_
   refine seq_k fun zN zM zhN zhM => ?_
   (refine condF_k ?_ ?_; focus (first | rfl | (simp [go_sem, nest, F0, F21]; done)))
   refine exit_k ?_
   refine zhM _ _ ?_; clear zhN zhM
   refine zhM _ _ ?_; clear zhN zhM
   refine zbx _ ?_; clear zbn zbx zbr zbi
   refine zhN _ ?_; clear zhN zhM
   refine seq_k fun zN zM zhN zhM => ?_
   refine dr_k (id := 12) mixed fun zE zhE => ?_
   refine dr_piece_k (p := 0) 5 [34, 35, 36, 37, 38] [0, 0, 0, 6, 14, 31, 63, 127, 255] [] rfl (by kernel_rfl) rfl (by simp only [go_sem]) fun zR zK zhR zhK => ?_
   simp only [go_sem, nest, F0, F21]
   repeat' (first | apply And.intro | intro _)
   all_goals (refine call_drawdeep rfl (fun _ => 38) (.w (.one (.s 0 [(0, 32)] 32 1))) [(0, ⟨false, bytesC (sumB (px ++ b))⟩)] (fun _ _ => rfl) ?_ ?_ ?_ hS1.told ?_ ?_; (iterate 2 (focus (first | rfl | (simp only [go_sem, nest, F0, F21] <;> first | done | rfl | simp)))); (first | kernel_rfl | rfl | simp [fixO, fixL, pls]))
   all_goals try (refine And.intro ?_ (And.intro ?_ (And.intro ?_ ?_)) <;> (first | rfl | (simp only [go_sem, nest, F0, F21]; done) | (simp [go_sem, look, nest, F0, F21]; done)))
   all_goals (try simp only [go_sem, nest, F0, F21])
   all_goals (try simp only [go_sem, nest, F0, F21])
   all_goals repeat' (first | apply And.intro | intro _)
   refine zhK _ _ trivial (zhR _ ?_)
   refine dr_runs_k 4 9 rfl (by kernel_rfl) rfl rfl fun zR zhR => ?_
   simp only [go_sem, nest, F0, F21]
   repeat' (first | apply And.intro | intro _)
   all_goals (refine call_deep (fun _ => 40) (fun _ _ => rfl) ?_ ?_ hC1.told ?_; iterate 2 (focus (first | rfl | (simp only [go_sem, nest, F0, F21] <;> first | done | rfl | simp))))
   all_goals (rintro v m ⟨hR, hm⟩; subst hR; subst hm)
   all_goals (refine And.intro ?_ (And.intro ?_ ?_); iterate 2 (focus (first | rfl | (simp only [go_sem, nest, F0, F21]; done) | (simp [go_sem, look, nest, F0, F21]; done))))
   all_goals (try simp only [go_sem, nest, F0, F21])
   all_goals (try simp only [go_sem, nest, F0, F21])
   all_goals repeat' (first | apply And.intro | intro _)
   all_goals (refine call_hand true [] (fun k => k) (fun _ _ => rfl) ?_ (by decide) ?_ hF1.told ?_; iterate 2 (focus (first | rfl | (simp only [go_sem, nest, F0, F21] <;> first | done | rfl | simp))))
   all_goals (rintro v m ⟨hR, hm⟩; subst hR; subst hm)
   all_goals (refine And.intro ?_ (And.intro ?_ (And.intro ?_ ?_)); iterate 3 (focus (first | rfl | (simp only [go_sem, nest, F0, F21]; done) | (simp [go_sem, look, nest, F0, F21]; done))))
   all_goals (try simp only [go_sem, nest, F0, F21])
   all_goals (try simp only [go_sem, nest, F0, F21])
   all_goals repeat' (first | apply And.intro | intro _)
   refine zhR _ ?_
   refine dr_end rfl (zhE _ ?_)
   refine zhN _ ?_; clear zhN zhM
   refine ret_k ?_
   refine zhZ _ _ ?_
   simp only [go_sem, nest, F0, F21]
   all_goals (rw [hmac]; exact told_plain (plain_bytesV _) ⟨rfl, rfl⟩)
end Bk
end Go.Sy
