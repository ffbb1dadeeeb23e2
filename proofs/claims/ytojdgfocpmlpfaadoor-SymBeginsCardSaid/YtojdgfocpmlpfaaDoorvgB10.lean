/- The document's test of a sum of a blake. -/
import Derived.Test.YtojdgfocpmlpfaaDoorvgB9
set_option linter.unusedVariables false
set_option linter.unusedSimpArgs false
namespace Go.Sy
open Go.Proofs
attribute [local irreducible] atCall HT runOps runD onC onE onO onG goV goA goS onSt onGuard
set_option maxHeartbeats 800000 in
set_option maxRecDepth 100000 in
theorem hbad_c1 (h0 h1 h2 h3 h4 h5 h6 h7 : UInt32) (held : List UInt8) (hh : held.length = 64) (n len : Int) (g1 : n < 0) :
 Ct Tryd.prog 35 [.w (.agg (hashC ⟨h0, h1, h2, h3, h4, h5, h6, h7⟩ held n len))] (fun v m => v = .w (.one (.pl (.b (hashBad held n len))))) := by
 refine Ct.k Tryd.func35 rfl Tryd.ntmps35 (congrArg Array.toList Tryd.results35) (by simp) fun w0 ro => ?_
 refine sr_k fun K1 hK1 => ?_
 simp only [go_sem, hashC, H8.ls, hh, g1]
 repeat' (first | apply And.intro | intro _)
 refine hK1 _ ?_
 refine seq_k fun N2 M2 hN2 hM2 => ?_
 refine sr_k fun K3 hK3 => ?_
 simp only [go_sem, hashC, H8.ls, hh, g1]
 repeat' (first | apply And.intro | intro _)
 refine hK3 _ ?_
 refine condT_k (by first | rfl | (simp [go_sem, hashC, H8.ls, hh, g1]; done)) ?_
 refine sr_k fun K4 hK4 => ?_
 simp only [go_sem, hashC, H8.ls, hh, g1]
 repeat' (first | apply And.intro | intro _)
 refine hK4 _ ?_
 refine ret_k ?_
 refine hM2 _ _ ?_
 simp only [go_sem, hashC, H8.ls, hh, g1]
 all_goals (rw [hbad_no (fun h => absurd h.lo (by omega))])
set_option maxHeartbeats 800000 in
set_option maxRecDepth 100000 in
theorem hbad_c2 (h0 h1 h2 h3 h4 h5 h6 h7 : UInt32) (held : List UInt8) (hh : held.length = 64) (n len : Int) (g1 : ¬ n < 0) (g2 : 64 < n) :
 Ct Tryd.prog 35 [.w (.agg (hashC ⟨h0, h1, h2, h3, h4, h5, h6, h7⟩ held n len))] (fun v m => v = .w (.one (.pl (.b (hashBad held n len))))) := by
 have F0 := And.intro hh <| And.intro g1 <| g2
 refine Ct.k Tryd.func35 rfl Tryd.ntmps35 (congrArg Array.toList Tryd.results35) (by simp) fun w0 ro => ?_
 refine sr_k fun K1 hK1 => ?_
 simp only [go_sem, hashC, H8.ls, F0]
 repeat' (first | apply And.intro | intro _)
 refine hK1 _ ?_
 refine seq_k fun N2 M2 hN2 hM2 => ?_
 refine sr_k fun K3 hK3 => ?_
 simp only [go_sem, hashC, H8.ls, F0]
 repeat' (first | apply And.intro | intro _)
 refine hK3 _ ?_
 refine condT_k (by first | rfl | (simp [go_sem, hashC, H8.ls, F0]; done)) ?_
 refine sr_k fun K4 hK4 => ?_
 simp only [go_sem, hashC, H8.ls, F0]
 repeat' (first | apply And.intro | intro _)
 refine hK4 _ ?_
 refine ret_k ?_
 refine hM2 _ _ ?_
 simp only [go_sem, hashC, H8.ls, F0]
 all_goals (rw [hbad_no (fun h => absurd h.hi (by omega))])
set_option maxHeartbeats 800000 in
set_option maxRecDepth 100000 in
theorem hbad_c3 (h0 h1 h2 h3 h4 h5 h6 h7 : UInt32) (held : List UInt8) (hh : held.length = 64) (n len : Int) (g1 : ¬ n < 0) (g2 : ¬ 64 < n) (g3 : len < 0) :
 Ct Tryd.prog 35 [.w (.agg (hashC ⟨h0, h1, h2, h3, h4, h5, h6, h7⟩ held n len))] (fun v m => v = .w (.one (.pl (.b (hashBad held n len))))) := by
 have F0 := And.intro hh <| And.intro g1 <| And.intro g2 <| g3
 refine Ct.k Tryd.func35 rfl Tryd.ntmps35 (congrArg Array.toList Tryd.results35) (by simp) fun w0 ro => ?_
 refine sr_k fun K1 hK1 => ?_
 simp only [go_sem, hashC, H8.ls, F0]
 repeat' (first | apply And.intro | intro _)
 refine hK1 _ ?_
 refine seq_k fun N2 M2 hN2 hM2 => ?_
 refine sr_k fun K3 hK3 => ?_
 simp only [go_sem, hashC, H8.ls, F0]
 repeat' (first | apply And.intro | intro _)
 refine hK3 _ ?_
 refine condT_k (by first | rfl | (simp [go_sem, hashC, H8.ls, F0]; done)) ?_
 refine sr_k fun K4 hK4 => ?_
 simp only [go_sem, hashC, H8.ls, F0]
 repeat' (first | apply And.intro | intro _)
 refine hK4 _ ?_
 refine ret_k ?_
 refine hM2 _ _ ?_
 simp only [go_sem, hashC, H8.ls, F0]
 all_goals (rw [hbad_no (fun h => absurd h.le (by omega))])
set_option maxHeartbeats 800000 in
set_option maxRecDepth 100000 in
theorem hbad_c4 (h0 h1 h2 h3 h4 h5 h6 h7 : UInt32) (held : List UInt8) (hh : held.length = 64) (n len : Int) (g1 : ¬ n < 0) (g2 : ¬ 64 < n) (g3 : ¬ len < 0) (g4 : 1073741824 < len) :
 Ct Tryd.prog 35 [.w (.agg (hashC ⟨h0, h1, h2, h3, h4, h5, h6, h7⟩ held n len))] (fun v m => v = .w (.one (.pl (.b (hashBad held n len))))) := by
 have F0 := And.intro hh <| And.intro g1 <| And.intro g2 <| And.intro g3 <| g4
 refine Ct.k Tryd.func35 rfl Tryd.ntmps35 (congrArg Array.toList Tryd.results35) (by simp) fun w0 ro => ?_
 refine sr_k fun K1 hK1 => ?_
 simp only [go_sem, hashC, H8.ls, F0]
 repeat' (first | apply And.intro | intro _)
 refine hK1 _ ?_
 refine seq_k fun N2 M2 hN2 hM2 => ?_
 refine sr_k fun K3 hK3 => ?_
 simp only [go_sem, hashC, H8.ls, F0]
 repeat' (first | apply And.intro | intro _)
 refine hK3 _ ?_
 refine condT_k (by first | rfl | (simp [go_sem, hashC, H8.ls, F0]; done)) ?_
 refine sr_k fun K4 hK4 => ?_
 simp only [go_sem, hashC, H8.ls, F0]
 repeat' (first | apply And.intro | intro _)
 refine hK4 _ ?_
 refine ret_k ?_
 refine hM2 _ _ ?_
 simp only [go_sem, hashC, H8.ls, F0]
 all_goals (rw [hbad_no (fun h => absurd h.mx (by omega))])
set_option maxHeartbeats 1600000 in
set_option maxRecDepth 100000 in
theorem hbad_a (h0 h1 h2 h3 h4 h5 h6 h7 : UInt32) (held : List UInt8) (hh : held.length = 64) (k l : Nat) (e1 : k ≤ 64) (e3 : l ≤ 1073741824) (e4 : l % 64 = 0) (e5 : 0 < l) :
 Ct Tryd.prog 35 [.w (.agg (hashC ⟨h0, h1, h2, h3, h4, h5, h6, h7⟩ held (k : Int) (l : Int)))] (fun v m => v = .w (.one (.pl (.b (hashBad held (k : Int) (l : Int)))))) := by
 have g1 : ¬ ((k : Nat) : Int) < 0 := by omega
 have g2 : ¬ (64 : Int) < ((k : Nat) : Int) := by omega
 have g3 : ¬ ((l : Nat) : Int) < 0 := by omega
 have g4 : ¬ (1073741824 : Int) < ((l : Nat) : Int) := by omega
 have gm : (((l : Nat) : Int)).tmod 64 = ((l % 64 : Nat) : Int) := rfl
 have g5 : ((l % 64 : Nat) : Int) = 0 := by omega
 have g6 : (0 : Int) < ((l : Nat) : Int) := by omega
 have F0 := And.intro hh <| And.intro g1 <| And.intro g2 <| And.intro g3 <| And.intro g4 <| And.intro gm <| And.intro g5 <| g6
 refine Ct.k Tryd.func35 rfl Tryd.ntmps35 (congrArg Array.toList Tryd.results35) (by simp) fun w0 ro => ?_
 refine sr_k fun K1 hK1 => ?_
 simp only [go_sem, hashC, H8.ls, F0]
 repeat' (first | apply And.intro | intro _)
 refine hK1 _ ?_
 refine seq_k fun N2 M2 hN2 hM2 => ?_
 refine sr_k fun K3 hK3 => ?_
 simp only [go_sem, hashC, H8.ls, F0]
 repeat' (first | apply And.intro | intro _)
 refine hK3 _ ?_
 refine condF_k (by first | rfl | (simp [go_sem, hashC, H8.ls, F0]; done)) ?_
 refine skip_k ?_
 refine hN2 _ ?_
 refine sr_k fun K4 hK4 => ?_
 simp only [go_sem, hashC, H8.ls, F0]
 repeat' (first | apply And.intro | intro _)
 refine hK4 _ ?_
 refine seq_k fun N5 M5 hN5 hM5 => ?_
 refine sr_k fun K6 hK6 => ?_
 simp only [go_sem, hashC, H8.ls, F0]
 repeat' (first | apply And.intro | intro _)
 refine hK6 _ ?_
 refine condT_k (by first | rfl | (simp [go_sem, hashC, H8.ls, F0]; done)) ?_
 refine region_k fun K7 hK7 => ?_
 simp only [go_sem, hashC, H8.ls, F0]
 repeat' (first | apply And.intro | intro _)
 refine hK7 _ ?_
 refine hN5 _ ?_
 refine seq_k fun N8 M8 hN8 hM8 => ?_
 refine sr_k fun K9 hK9 => ?_
 simp only [go_sem, hashC, H8.ls, F0]
 repeat' (first | apply And.intro | intro _)
 refine hK9 _ ?_
 refine block_k fun B10 bn10 bx10 br10 bi10 => ?_
 refine ht_dropE [0, 6, 7, 8, 9, 10, 11, 12, 13, 14, 15, 16, 17, 18, 19, 20, 21, 22, 23, 24, 25, 26, 27, 28, 29, 30, 31, 32, 33, 34] ?_
 simp only [dropE_mk, fgt_nil, fgt_cons, List.contains_cons, List.contains_nil, Nat.reduceBEq, beq_self_eq_true, Bool.or_false, Bool.or_true, Bool.true_or, Bool.false_or, Bool.false_eq_true, reduceIte]
 refine loop_k (fun y => [(36, .w (.one (.pl (.i ((y.1 : Nat) : Int)))))]) (fun _ => []) (fun y => 64 - y.1) (⟨0, Nat.zero_le _, fun j hj => absurd hj (Nat.not_lt_zero j)⟩ : {y : Nat // y ≤ 64 ∧ ∀ j, j < y → k ≤ j → held.getD j 0 = 0}) ?_ ?_ ?_
 · (simp only [go_sem, leX, List.cons_append, List.nil_append]; try simp)
 · (simp only [go_sem, leX, List.cons_append, List.nil_append]; try simp)
 intro yy N11 M11 hN11 hM11
 simp only [List.cons_append, List.nil_append]
 obtain ⟨i, hi, hz⟩ := yy
 have hd : (i < 64 ∧ i < k) ∨ (i < 64 ∧ ¬ i < k ∧ held.getD i 0 = 0) ∨ (i < 64 ∧ ¬ i < k ∧ ¬ held.getD i 0 = 0) ∨ i = 64 := by
  generalize held.getD i 0 = z
  by_cases g1 : i = 64
  · simp [g1]
  · have g2 : i < 64 := by omega
    by_cases g3 : i < k
    · exact .inl ⟨g2, g3⟩
    · by_cases g4 : z = 0
      · exact .inr (.inl ⟨g2, g3, g4⟩)
      · exact .inr (.inr (.inl ⟨g2, g3, g4⟩))
 rcases hd with ⟨hlt, hin⟩ | ⟨hlt, hin, hb⟩ | ⟨hlt, hin, hb⟩ | rfl
 · have hcq : ((i : Nat) : Int) < 64 := by omega
   have hc0 : (0 : Int) ≤ ((i : Nat) : Int) := by omega
   have hs1 : Go.RowKit.wrap64 (((i : Nat) : Int) + 1) = ((i + 1 : Nat) : Int) := wnat (by omega) (by omega)
   have hk1 := u8_one (q := held) (i := i) (by omega)
   have hk2 : i + 1 ≤ 64 := by omega
   have hni : ¬ ((k : Nat) : Int) ≤ ((i : Nat) : Int) := by omega
   have F11 := And.intro hcq <| And.intro hc0 <| And.intro hs1 <| And.intro hk1 <| And.intro hk2 <| hni
   refine sr_k fun K12 hK12 => ?_
   simp only [go_sem, hashC, H8.ls, F0, bytesC_1, F11]
   repeat' (first | apply And.intro | intro _)
   refine hK12 _ ?_
   refine seq_k fun N13 M13 hN13 hM13 => ?_
   refine condT_k (by first | rfl | (simp [go_sem, hashC, H8.ls, F0, bytesC_1, F11]; done)) ?_
   refine skip_k ?_
   refine hN13 _ ?_
   refine seq_k fun N14 M14 hN14 hM14 => ?_
   refine block_k fun B15 bn15 bx15 br15 bi15 => ?_
   refine sr_k fun K16 hK16 => ?_
   simp only [go_sem, hashC, H8.ls, F0, bytesC_1, F11]
   repeat' (first | apply And.intro | intro _)
   refine hK16 _ ?_
   refine sr_k fun K17 hK17 => ?_
   simp only [go_sem, hashC, H8.ls, F0, bytesC_1, F11]
   repeat' (first | apply And.intro | intro _)
   refine hK17 _ ?_
   refine condF_k (by first | rfl | (simp [go_sem, hashC, H8.ls, F0, bytesC_1, F11]; done)) ?_
   refine skip_k ?_
   refine bn15 _ ?_
   refine hN14 _ ?_
   refine region_k fun K18 hK18 => ?_
   simp only [go_sem, hashC, H8.ls, F0, bytesC_1, F11]
   repeat' (first | apply And.intro | intro _)
   refine hK18 _ ?_
   refine hN11 ⟨i + 1, by omega, fun j hj hk => by rcases Nat.lt_succ_iff_lt_or_eq.mp hj with h | rfl; exact hz j h hk; omega⟩ _ ?_ ?_ ?_
   · (show 64 - (i + 1) < 64 - i; clear hs1; omega)
   · (simp only [go_sem, leX, List.cons_append, List.nil_append]; try simp)
   · (simp only [go_sem, leX, List.cons_append, List.nil_append]; try simp)
 · have hcq : ((i : Nat) : Int) < 64 := by omega
   have hc0 : (0 : Int) ≤ ((i : Nat) : Int) := by omega
   have hs1 : Go.RowKit.wrap64 (((i : Nat) : Int) + 1) = ((i + 1 : Nat) : Int) := wnat (by omega) (by omega)
   have hk1 := u8_one (q := held) (i := i) (by omega)
   have hk2 : i + 1 ≤ 64 := by omega
   have hni : ((k : Nat) : Int) ≤ ((i : Nat) : Int) := by omega
   have hbq := eq_true hb
   have F18 := And.intro hcq <| And.intro hc0 <| And.intro hs1 <| And.intro hk1 <| And.intro hk2 <| And.intro hni <| hbq
   refine sr_k fun K19 hK19 => ?_
   simp only [go_sem, hashC, H8.ls, F0, bytesC_1, F18]
   repeat' (first | apply And.intro | intro _)
   refine hK19 _ ?_
   refine seq_k fun N20 M20 hN20 hM20 => ?_
   refine condT_k (by first | rfl | (simp [go_sem, hashC, H8.ls, F0, bytesC_1, F18]; done)) ?_
   refine skip_k ?_
   refine hN20 _ ?_
   refine seq_k fun N21 M21 hN21 hM21 => ?_
   refine block_k fun B22 bn22 bx22 br22 bi22 => ?_
   refine sr_k fun K23 hK23 => ?_
   simp only [go_sem, hashC, H8.ls, F0, bytesC_1, F18]
   repeat' (first | apply And.intro | intro _)
   refine hK23 _ ?_
   refine sr_k fun K24 hK24 => ?_
   simp only [go_sem, hashC, H8.ls, F0, bytesC_1, F18]
   repeat' (first | apply And.intro | intro _)
   refine hK24 _ ?_
   refine condF_k (by first | rfl | (simp [go_sem, hashC, H8.ls, F0, bytesC_1, F18]; done)) ?_
   refine skip_k ?_
   refine bn22 _ ?_
   refine hN21 _ ?_
   refine region_k fun K25 hK25 => ?_
   simp only [go_sem, hashC, H8.ls, F0, bytesC_1, F18]
   repeat' (first | apply And.intro | intro _)
   refine hK25 _ ?_
   refine hN11 ⟨i + 1, by omega, fun j hj hk => by rcases Nat.lt_succ_iff_lt_or_eq.mp hj with h | rfl; exact hz j h hk; exact hb⟩ _ ?_ ?_ ?_
   · (show 64 - (i + 1) < 64 - i; clear hs1; omega)
   · (simp only [go_sem, leX, List.cons_append, List.nil_append]; try simp)
   · (simp only [go_sem, leX, List.cons_append, List.nil_append]; try simp)
 · have hcq : ((i : Nat) : Int) < 64 := by omega
   have hc0 : (0 : Int) ≤ ((i : Nat) : Int) := by omega
   have hs1 : Go.RowKit.wrap64 (((i : Nat) : Int) + 1) = ((i + 1 : Nat) : Int) := wnat (by omega) (by omega)
   have hk1 := u8_one (q := held) (i := i) (by omega)
   have hk2 : i + 1 ≤ 64 := by omega
   have hni : ((k : Nat) : Int) ≤ ((i : Nat) : Int) := by omega
   have hbq := eq_false hb
   have F25 := And.intro hcq <| And.intro hc0 <| And.intro hs1 <| And.intro hk1 <| And.intro hk2 <| And.intro hni <| hbq
   refine sr_k fun K26 hK26 => ?_
   simp only [go_sem, hashC, H8.ls, F0, bytesC_1, F25]
   repeat' (first | apply And.intro | intro _)
   refine hK26 _ ?_
   refine seq_k fun N27 M27 hN27 hM27 => ?_
   refine condT_k (by first | rfl | (simp [go_sem, hashC, H8.ls, F0, bytesC_1, F25]; done)) ?_
   refine skip_k ?_
   refine hN27 _ ?_
   refine seq_k fun N28 M28 hN28 hM28 => ?_
   refine block_k fun B29 bn29 bx29 br29 bi29 => ?_
   refine sr_k fun K30 hK30 => ?_
   simp only [go_sem, hashC, H8.ls, F0, bytesC_1, F25]
   repeat' (first | apply And.intro | intro _)
   refine hK30 _ ?_
   refine sr_k fun K31 hK31 => ?_
   simp only [go_sem, hashC, H8.ls, F0, bytesC_1, F25]
   repeat' (first | apply And.intro | intro _)
   refine hK31 _ ?_
   refine condT_k (by first | rfl | (simp [go_sem, hashC, H8.ls, F0, bytesC_1, F25]; done)) ?_
   refine sr_k fun K32 hK32 => ?_
   simp only [go_sem, hashC, H8.ls, F0, bytesC_1, F25]
   repeat' (first | apply And.intro | intro _)
   refine hK32 _ ?_
   refine ret_k ?_
   refine br29 _ ?_
   refine hM28 _ _ ?_
   refine hM11 _ _ ?_
   refine br10 _ ?_
   refine hM8 _ _ ?_
   simp only [go_sem, hashC, H8.ls, F0, bytesC_1, F25]
   all_goals (rw [hbad_no (fun h => hb (h.rest i (by simp; omega) (by omega)))])
 · have hcq : ¬ ((64 : Nat) : Int) < 64 := by omega
   have hbd : hashBad held ((k : Nat) : Int) ((l : Nat) : Int) = !(decide (((k : Nat) : Int) = 64)) := by
    by_cases e : ((k : Nat) : Int) = 64
    · rw [hbad_ok ⟨by omega, by omega, by omega, by omega, by omega, by omega, fun j hj hl => hz j hl (by simpa using hj)⟩]; rw [decide_eq_true e]; rfl
    · rw [hbad_no (fun h => e (by have := h.md; have := h.le; have := h.nz; have := h.lo; omega))]; rw [decide_eq_false e]; rfl
   refine sr_k fun K33 hK33 => ?_
   simp only [go_sem, hashC, H8.ls, F0, hcq]
   repeat' (first | apply And.intro | intro _)
   refine hK33 _ ?_
   refine seq_k fun N34 M34 hN34 hM34 => ?_
   refine condF_k (by first | rfl | (simp [go_sem, hashC, H8.ls, F0, hcq]; done)) ?_
   refine exit_k ?_
   refine hM34 _ _ ?_
   refine hM11 _ _ ?_
   refine bx10 _ ?_
   refine hN8 _ ?_
   refine sr_k fun K35 hK35 => ?_
   simp only [go_sem, hashC, H8.ls, F0, hcq]
   repeat' (first | apply And.intro | intro _)
   refine hK35 _ ?_
   refine ret_k ?_
   simp only [go_sem, hashC, H8.ls, F0, hcq]
   all_goals (rw [hbd])
set_option maxHeartbeats 1600000 in
set_option maxRecDepth 100000 in
theorem hbad_b (h0 h1 h2 h3 h4 h5 h6 h7 : UInt32) (held : List UInt8) (hh : held.length = 64) (k l : Nat) (e1 : k ≤ 64) (e3 : l ≤ 1073741824) (e4 : l % 64 = 0) (e5 : l = 0) :
 Ct Tryd.prog 35 [.w (.agg (hashC ⟨h0, h1, h2, h3, h4, h5, h6, h7⟩ held (k : Int) (l : Int)))] (fun v m => v = .w (.one (.pl (.b (hashBad held (k : Int) (l : Int)))))) := by
 have g1 : ¬ ((k : Nat) : Int) < 0 := by omega
 have g2 : ¬ (64 : Int) < ((k : Nat) : Int) := by omega
 have g3 : ¬ ((l : Nat) : Int) < 0 := by omega
 have g4 : ¬ (1073741824 : Int) < ((l : Nat) : Int) := by omega
 have gm : (((l : Nat) : Int)).tmod 64 = ((l % 64 : Nat) : Int) := rfl
 have g5 : ((l % 64 : Nat) : Int) = 0 := by omega
 have g6 : ¬ (0 : Int) < ((l : Nat) : Int) := by omega
 have F0 := And.intro hh <| And.intro g1 <| And.intro g2 <| And.intro g3 <| And.intro g4 <| And.intro gm <| And.intro g5 <| g6
 refine Ct.k Tryd.func35 rfl Tryd.ntmps35 (congrArg Array.toList Tryd.results35) (by simp) fun w0 ro => ?_
 refine sr_k fun K1 hK1 => ?_
 simp only [go_sem, hashC, H8.ls, F0]
 repeat' (first | apply And.intro | intro _)
 refine hK1 _ ?_
 refine seq_k fun N2 M2 hN2 hM2 => ?_
 refine sr_k fun K3 hK3 => ?_
 simp only [go_sem, hashC, H8.ls, F0]
 repeat' (first | apply And.intro | intro _)
 refine hK3 _ ?_
 refine condF_k (by first | rfl | (simp [go_sem, hashC, H8.ls, F0]; done)) ?_
 refine skip_k ?_
 refine hN2 _ ?_
 refine sr_k fun K4 hK4 => ?_
 simp only [go_sem, hashC, H8.ls, F0]
 repeat' (first | apply And.intro | intro _)
 refine hK4 _ ?_
 refine seq_k fun N5 M5 hN5 hM5 => ?_
 refine sr_k fun K6 hK6 => ?_
 simp only [go_sem, hashC, H8.ls, F0]
 repeat' (first | apply And.intro | intro _)
 refine hK6 _ ?_
 refine condF_k (by first | rfl | (simp [go_sem, hashC, H8.ls, F0]; done)) ?_
 refine skip_k ?_
 refine hN5 _ ?_
 refine seq_k fun N7 M7 hN7 hM7 => ?_
 refine sr_k fun K8 hK8 => ?_
 simp only [go_sem, hashC, H8.ls, F0]
 repeat' (first | apply And.intro | intro _)
 refine hK8 _ ?_
 refine block_k fun B9 bn9 bx9 br9 bi9 => ?_
 refine ht_dropE [0, 6, 7, 8, 9, 10, 11, 12, 13, 14, 15, 16, 17, 18, 19, 20, 21, 22, 23, 24, 25, 26, 27, 28, 29, 30, 31, 32, 33, 34] ?_
 simp only [dropE_mk, fgt_nil, fgt_cons, List.contains_cons, List.contains_nil, Nat.reduceBEq, beq_self_eq_true, Bool.or_false, Bool.or_true, Bool.true_or, Bool.false_or, Bool.false_eq_true, reduceIte]
 refine loop_k (fun y => [(36, .w (.one (.pl (.i ((y.1 : Nat) : Int)))))]) (fun _ => []) (fun y => 64 - y.1) (⟨0, Nat.zero_le _, fun j hj => absurd hj (Nat.not_lt_zero j)⟩ : {y : Nat // y ≤ 64 ∧ ∀ j, j < y → k ≤ j → held.getD j 0 = 0}) ?_ ?_ ?_
 · (simp only [go_sem, leX, List.cons_append, List.nil_append]; try simp)
 · (simp only [go_sem, leX, List.cons_append, List.nil_append]; try simp)
 intro yy N10 M10 hN10 hM10
 simp only [List.cons_append, List.nil_append]
 obtain ⟨i, hi, hz⟩ := yy
 have hd : (i < 64 ∧ i < k) ∨ (i < 64 ∧ ¬ i < k ∧ held.getD i 0 = 0) ∨ (i < 64 ∧ ¬ i < k ∧ ¬ held.getD i 0 = 0) ∨ i = 64 := by
  generalize held.getD i 0 = z
  by_cases g1 : i = 64
  · simp [g1]
  · have g2 : i < 64 := by omega
    by_cases g3 : i < k
    · exact .inl ⟨g2, g3⟩
    · by_cases g4 : z = 0
      · exact .inr (.inl ⟨g2, g3, g4⟩)
      · exact .inr (.inr (.inl ⟨g2, g3, g4⟩))
 rcases hd with ⟨hlt, hin⟩ | ⟨hlt, hin, hb⟩ | ⟨hlt, hin, hb⟩ | rfl
 · have hcq : ((i : Nat) : Int) < 64 := by omega
   have hc0 : (0 : Int) ≤ ((i : Nat) : Int) := by omega
   have hs1 : Go.RowKit.wrap64 (((i : Nat) : Int) + 1) = ((i + 1 : Nat) : Int) := wnat (by omega) (by omega)
   have hk1 := u8_one (q := held) (i := i) (by omega)
   have hk2 : i + 1 ≤ 64 := by omega
   have hni : ¬ ((k : Nat) : Int) ≤ ((i : Nat) : Int) := by omega
   have F10 := And.intro hcq <| And.intro hc0 <| And.intro hs1 <| And.intro hk1 <| And.intro hk2 <| hni
   refine sr_k fun K11 hK11 => ?_
   simp only [go_sem, hashC, H8.ls, F0, bytesC_1, F10]
   repeat' (first | apply And.intro | intro _)
   refine hK11 _ ?_
   refine seq_k fun N12 M12 hN12 hM12 => ?_
   refine condT_k (by first | rfl | (simp [go_sem, hashC, H8.ls, F0, bytesC_1, F10]; done)) ?_
   refine skip_k ?_
   refine hN12 _ ?_
   refine seq_k fun N13 M13 hN13 hM13 => ?_
   refine block_k fun B14 bn14 bx14 br14 bi14 => ?_
   refine sr_k fun K15 hK15 => ?_
   simp only [go_sem, hashC, H8.ls, F0, bytesC_1, F10]
   repeat' (first | apply And.intro | intro _)
   refine hK15 _ ?_
   refine sr_k fun K16 hK16 => ?_
   simp only [go_sem, hashC, H8.ls, F0, bytesC_1, F10]
   repeat' (first | apply And.intro | intro _)
   refine hK16 _ ?_
   refine condF_k (by first | rfl | (simp [go_sem, hashC, H8.ls, F0, bytesC_1, F10]; done)) ?_
   refine skip_k ?_
   refine bn14 _ ?_
   refine hN13 _ ?_
   refine region_k fun K17 hK17 => ?_
   simp only [go_sem, hashC, H8.ls, F0, bytesC_1, F10]
   repeat' (first | apply And.intro | intro _)
   refine hK17 _ ?_
   refine hN10 ⟨i + 1, by omega, fun j hj hk => by rcases Nat.lt_succ_iff_lt_or_eq.mp hj with h | rfl; exact hz j h hk; omega⟩ _ ?_ ?_ ?_
   · (show 64 - (i + 1) < 64 - i; clear hs1; omega)
   · (simp only [go_sem, leX, List.cons_append, List.nil_append]; try simp)
   · (simp only [go_sem, leX, List.cons_append, List.nil_append]; try simp)
 · have hcq : ((i : Nat) : Int) < 64 := by omega
   have hc0 : (0 : Int) ≤ ((i : Nat) : Int) := by omega
   have hs1 : Go.RowKit.wrap64 (((i : Nat) : Int) + 1) = ((i + 1 : Nat) : Int) := wnat (by omega) (by omega)
   have hk1 := u8_one (q := held) (i := i) (by omega)
   have hk2 : i + 1 ≤ 64 := by omega
   have hni : ((k : Nat) : Int) ≤ ((i : Nat) : Int) := by omega
   have hbq := eq_true hb
   have F17 := And.intro hcq <| And.intro hc0 <| And.intro hs1 <| And.intro hk1 <| And.intro hk2 <| And.intro hni <| hbq
   refine sr_k fun K18 hK18 => ?_
   simp only [go_sem, hashC, H8.ls, F0, bytesC_1, F17]
   repeat' (first | apply And.intro | intro _)
   refine hK18 _ ?_
   refine seq_k fun N19 M19 hN19 hM19 => ?_
   refine condT_k (by first | rfl | (simp [go_sem, hashC, H8.ls, F0, bytesC_1, F17]; done)) ?_
   refine skip_k ?_
   refine hN19 _ ?_
   refine seq_k fun N20 M20 hN20 hM20 => ?_
   refine block_k fun B21 bn21 bx21 br21 bi21 => ?_
   refine sr_k fun K22 hK22 => ?_
   simp only [go_sem, hashC, H8.ls, F0, bytesC_1, F17]
   repeat' (first | apply And.intro | intro _)
   refine hK22 _ ?_
   refine sr_k fun K23 hK23 => ?_
   simp only [go_sem, hashC, H8.ls, F0, bytesC_1, F17]
   repeat' (first | apply And.intro | intro _)
   refine hK23 _ ?_
   refine condF_k (by first | rfl | (simp [go_sem, hashC, H8.ls, F0, bytesC_1, F17]; done)) ?_
   refine skip_k ?_
   refine bn21 _ ?_
   refine hN20 _ ?_
   refine region_k fun K24 hK24 => ?_
   simp only [go_sem, hashC, H8.ls, F0, bytesC_1, F17]
   repeat' (first | apply And.intro | intro _)
   refine hK24 _ ?_
   refine hN10 ⟨i + 1, by omega, fun j hj hk => by rcases Nat.lt_succ_iff_lt_or_eq.mp hj with h | rfl; exact hz j h hk; exact hb⟩ _ ?_ ?_ ?_
   · (show 64 - (i + 1) < 64 - i; clear hs1; omega)
   · (simp only [go_sem, leX, List.cons_append, List.nil_append]; try simp)
   · (simp only [go_sem, leX, List.cons_append, List.nil_append]; try simp)
 · have hcq : ((i : Nat) : Int) < 64 := by omega
   have hc0 : (0 : Int) ≤ ((i : Nat) : Int) := by omega
   have hs1 : Go.RowKit.wrap64 (((i : Nat) : Int) + 1) = ((i + 1 : Nat) : Int) := wnat (by omega) (by omega)
   have hk1 := u8_one (q := held) (i := i) (by omega)
   have hk2 : i + 1 ≤ 64 := by omega
   have hni : ((k : Nat) : Int) ≤ ((i : Nat) : Int) := by omega
   have hbq := eq_false hb
   have F24 := And.intro hcq <| And.intro hc0 <| And.intro hs1 <| And.intro hk1 <| And.intro hk2 <| And.intro hni <| hbq
   refine sr_k fun K25 hK25 => ?_
   simp only [go_sem, hashC, H8.ls, F0, bytesC_1, F24]
   repeat' (first | apply And.intro | intro _)
   refine hK25 _ ?_
   refine seq_k fun N26 M26 hN26 hM26 => ?_
   refine condT_k (by first | rfl | (simp [go_sem, hashC, H8.ls, F0, bytesC_1, F24]; done)) ?_
   refine skip_k ?_
   refine hN26 _ ?_
   refine seq_k fun N27 M27 hN27 hM27 => ?_
   refine block_k fun B28 bn28 bx28 br28 bi28 => ?_
   refine sr_k fun K29 hK29 => ?_
   simp only [go_sem, hashC, H8.ls, F0, bytesC_1, F24]
   repeat' (first | apply And.intro | intro _)
   refine hK29 _ ?_
   refine sr_k fun K30 hK30 => ?_
   simp only [go_sem, hashC, H8.ls, F0, bytesC_1, F24]
   repeat' (first | apply And.intro | intro _)
   refine hK30 _ ?_
   refine condT_k (by first | rfl | (simp [go_sem, hashC, H8.ls, F0, bytesC_1, F24]; done)) ?_
   refine sr_k fun K31 hK31 => ?_
   simp only [go_sem, hashC, H8.ls, F0, bytesC_1, F24]
   repeat' (first | apply And.intro | intro _)
   refine hK31 _ ?_
   refine ret_k ?_
   refine br28 _ ?_
   refine hM27 _ _ ?_
   refine hM10 _ _ ?_
   refine br9 _ ?_
   refine hM7 _ _ ?_
   simp only [go_sem, hashC, H8.ls, F0, bytesC_1, F24]
   all_goals (rw [hbad_no (fun h => hb (h.rest i (by simp; omega) (by omega)))])
 · have hcq : ¬ ((64 : Nat) : Int) < 64 := by omega
   have hbd : hashBad held ((k : Nat) : Int) ((l : Nat) : Int) = !(decide (((k : Nat) : Int) = 0)) := by
    by_cases e : ((k : Nat) : Int) = 0
    · rw [hbad_ok ⟨by omega, by omega, by omega, by omega, by omega, by omega, fun j hj hl => hz j hl (by simpa using hj)⟩]; rw [decide_eq_true e]; rfl
    · rw [hbad_no (fun h => e (by have := h.md; have := h.le; have := h.nz; have := h.lo; omega))]; rw [decide_eq_false e]; rfl
   refine sr_k fun K32 hK32 => ?_
   simp only [go_sem, hashC, H8.ls, F0, hcq]
   repeat' (first | apply And.intro | intro _)
   refine hK32 _ ?_
   refine seq_k fun N33 M33 hN33 hM33 => ?_
   refine condF_k (by first | rfl | (simp [go_sem, hashC, H8.ls, F0, hcq]; done)) ?_
   refine exit_k ?_
   refine hM33 _ _ ?_
   refine hM10 _ _ ?_
   refine bx9 _ ?_
   refine hN7 _ ?_
   refine sr_k fun K34 hK34 => ?_
   simp only [go_sem, hashC, H8.ls, F0, hcq]
   repeat' (first | apply And.intro | intro _)
   refine hK34 _ ?_
   refine ret_k ?_
   simp only [go_sem, hashC, H8.ls, F0, hcq]
   all_goals (rw [hbd])
set_option maxHeartbeats 1600000 in
set_option maxRecDepth 100000 in
theorem hbad_c (h0 h1 h2 h3 h4 h5 h6 h7 : UInt32) (held : List UInt8) (hh : held.length = 64) (k l : Nat) (e1 : k ≤ 64) (e3 : l ≤ 1073741824) (e4 : ¬ l % 64 = 0) :
 Ct Tryd.prog 35 [.w (.agg (hashC ⟨h0, h1, h2, h3, h4, h5, h6, h7⟩ held (k : Int) (l : Int)))] (fun v m => v = .w (.one (.pl (.b (hashBad held (k : Int) (l : Int)))))) := by
 have g1 : ¬ ((k : Nat) : Int) < 0 := by omega
 have g2 : ¬ (64 : Int) < ((k : Nat) : Int) := by omega
 have g3 : ¬ ((l : Nat) : Int) < 0 := by omega
 have g4 : ¬ (1073741824 : Int) < ((l : Nat) : Int) := by omega
 have gm : (((l : Nat) : Int)).tmod 64 = ((l % 64 : Nat) : Int) := rfl
 have g5 : ¬ ((l % 64 : Nat) : Int) = 0 := by omega
 have F0 := And.intro hh <| And.intro g1 <| And.intro g2 <| And.intro g3 <| And.intro g4 <| And.intro gm <| g5
 refine Ct.k Tryd.func35 rfl Tryd.ntmps35 (congrArg Array.toList Tryd.results35) (by simp) fun w0 ro => ?_
 refine sr_k fun K1 hK1 => ?_
 simp only [go_sem, hashC, H8.ls, F0]
 repeat' (first | apply And.intro | intro _)
 refine hK1 _ ?_
 refine seq_k fun N2 M2 hN2 hM2 => ?_
 refine sr_k fun K3 hK3 => ?_
 simp only [go_sem, hashC, H8.ls, F0]
 repeat' (first | apply And.intro | intro _)
 refine hK3 _ ?_
 refine condF_k (by first | rfl | (simp [go_sem, hashC, H8.ls, F0]; done)) ?_
 refine skip_k ?_
 refine hN2 _ ?_
 refine sr_k fun K4 hK4 => ?_
 simp only [go_sem, hashC, H8.ls, F0]
 repeat' (first | apply And.intro | intro _)
 refine hK4 _ ?_
 refine seq_k fun N5 M5 hN5 hM5 => ?_
 refine sr_k fun K6 hK6 => ?_
 simp only [go_sem, hashC, H8.ls, F0]
 repeat' (first | apply And.intro | intro _)
 refine hK6 _ ?_
 refine condF_k (by first | rfl | (simp [go_sem, hashC, H8.ls, F0]; done)) ?_
 refine skip_k ?_
 refine hN5 _ ?_
 refine seq_k fun N7 M7 hN7 hM7 => ?_
 refine sr_k fun K8 hK8 => ?_
 simp only [go_sem, hashC, H8.ls, F0]
 repeat' (first | apply And.intro | intro _)
 refine hK8 _ ?_
 refine block_k fun B9 bn9 bx9 br9 bi9 => ?_
 refine ht_dropE [0, 6, 7, 8, 9, 10, 11, 12, 13, 14, 15, 16, 17, 18, 19, 20, 21, 22, 23, 24, 25, 26, 27, 28, 29, 30, 31, 32, 33, 34] ?_
 simp only [dropE_mk, fgt_nil, fgt_cons, List.contains_cons, List.contains_nil, Nat.reduceBEq, beq_self_eq_true, Bool.or_false, Bool.or_true, Bool.true_or, Bool.false_or, Bool.false_eq_true, reduceIte]
 refine loop_k (fun y => [(36, .w (.one (.pl (.i ((y.1 : Nat) : Int)))))]) (fun _ => []) (fun y => 64 - y.1) (⟨0, Nat.zero_le _, fun j hj => absurd hj (Nat.not_lt_zero j)⟩ : {y : Nat // y ≤ 64 ∧ ∀ j, j < y → k ≤ j → held.getD j 0 = 0}) ?_ ?_ ?_
 · (simp only [go_sem, leX, List.cons_append, List.nil_append]; try simp)
 · (simp only [go_sem, leX, List.cons_append, List.nil_append]; try simp)
 intro yy N10 M10 hN10 hM10
 simp only [List.cons_append, List.nil_append]
 obtain ⟨i, hi, hz⟩ := yy
 have hd : (i < 64 ∧ i < k) ∨ (i < 64 ∧ ¬ i < k ∧ held.getD i 0 = 0) ∨ (i < 64 ∧ ¬ i < k ∧ ¬ held.getD i 0 = 0) ∨ i = 64 := by
  generalize held.getD i 0 = z
  by_cases g1 : i = 64
  · simp [g1]
  · have g2 : i < 64 := by omega
    by_cases g3 : i < k
    · exact .inl ⟨g2, g3⟩
    · by_cases g4 : z = 0
      · exact .inr (.inl ⟨g2, g3, g4⟩)
      · exact .inr (.inr (.inl ⟨g2, g3, g4⟩))
 rcases hd with ⟨hlt, hin⟩ | ⟨hlt, hin, hb⟩ | ⟨hlt, hin, hb⟩ | rfl
 · have hcq : ((i : Nat) : Int) < 64 := by omega
   have hc0 : (0 : Int) ≤ ((i : Nat) : Int) := by omega
   have hs1 : Go.RowKit.wrap64 (((i : Nat) : Int) + 1) = ((i + 1 : Nat) : Int) := wnat (by omega) (by omega)
   have hk1 := u8_one (q := held) (i := i) (by omega)
   have hk2 : i + 1 ≤ 64 := by omega
   have hni : ¬ ((k : Nat) : Int) ≤ ((i : Nat) : Int) := by omega
   have F10 := And.intro hcq <| And.intro hc0 <| And.intro hs1 <| And.intro hk1 <| And.intro hk2 <| hni
   refine sr_k fun K11 hK11 => ?_
   simp only [go_sem, hashC, H8.ls, F0, bytesC_1, F10]
   repeat' (first | apply And.intro | intro _)
   refine hK11 _ ?_
   refine seq_k fun N12 M12 hN12 hM12 => ?_
   refine condT_k (by first | rfl | (simp [go_sem, hashC, H8.ls, F0, bytesC_1, F10]; done)) ?_
   refine skip_k ?_
   refine hN12 _ ?_
   refine seq_k fun N13 M13 hN13 hM13 => ?_
   refine block_k fun B14 bn14 bx14 br14 bi14 => ?_
   refine sr_k fun K15 hK15 => ?_
   simp only [go_sem, hashC, H8.ls, F0, bytesC_1, F10]
   repeat' (first | apply And.intro | intro _)
   refine hK15 _ ?_
   refine sr_k fun K16 hK16 => ?_
   simp only [go_sem, hashC, H8.ls, F0, bytesC_1, F10]
   repeat' (first | apply And.intro | intro _)
   refine hK16 _ ?_
   refine condF_k (by first | rfl | (simp [go_sem, hashC, H8.ls, F0, bytesC_1, F10]; done)) ?_
   refine skip_k ?_
   refine bn14 _ ?_
   refine hN13 _ ?_
   refine region_k fun K17 hK17 => ?_
   simp only [go_sem, hashC, H8.ls, F0, bytesC_1, F10]
   repeat' (first | apply And.intro | intro _)
   refine hK17 _ ?_
   refine hN10 ⟨i + 1, by omega, fun j hj hk => by rcases Nat.lt_succ_iff_lt_or_eq.mp hj with h | rfl; exact hz j h hk; omega⟩ _ ?_ ?_ ?_
   · (show 64 - (i + 1) < 64 - i; clear hs1; omega)
   · (simp only [go_sem, leX, List.cons_append, List.nil_append]; try simp)
   · (simp only [go_sem, leX, List.cons_append, List.nil_append]; try simp)
 · have hcq : ((i : Nat) : Int) < 64 := by omega
   have hc0 : (0 : Int) ≤ ((i : Nat) : Int) := by omega
   have hs1 : Go.RowKit.wrap64 (((i : Nat) : Int) + 1) = ((i + 1 : Nat) : Int) := wnat (by omega) (by omega)
   have hk1 := u8_one (q := held) (i := i) (by omega)
   have hk2 : i + 1 ≤ 64 := by omega
   have hni : ((k : Nat) : Int) ≤ ((i : Nat) : Int) := by omega
   have hbq := eq_true hb
   have F17 := And.intro hcq <| And.intro hc0 <| And.intro hs1 <| And.intro hk1 <| And.intro hk2 <| And.intro hni <| hbq
   refine sr_k fun K18 hK18 => ?_
   simp only [go_sem, hashC, H8.ls, F0, bytesC_1, F17]
   repeat' (first | apply And.intro | intro _)
   refine hK18 _ ?_
   refine seq_k fun N19 M19 hN19 hM19 => ?_
   refine condT_k (by first | rfl | (simp [go_sem, hashC, H8.ls, F0, bytesC_1, F17]; done)) ?_
   refine skip_k ?_
   refine hN19 _ ?_
   refine seq_k fun N20 M20 hN20 hM20 => ?_
   refine block_k fun B21 bn21 bx21 br21 bi21 => ?_
   refine sr_k fun K22 hK22 => ?_
   simp only [go_sem, hashC, H8.ls, F0, bytesC_1, F17]
   repeat' (first | apply And.intro | intro _)
   refine hK22 _ ?_
   refine sr_k fun K23 hK23 => ?_
   simp only [go_sem, hashC, H8.ls, F0, bytesC_1, F17]
   repeat' (first | apply And.intro | intro _)
   refine hK23 _ ?_
   refine condF_k (by first | rfl | (simp [go_sem, hashC, H8.ls, F0, bytesC_1, F17]; done)) ?_
   refine skip_k ?_
   refine bn21 _ ?_
   refine hN20 _ ?_
   refine region_k fun K24 hK24 => ?_
   simp only [go_sem, hashC, H8.ls, F0, bytesC_1, F17]
   repeat' (first | apply And.intro | intro _)
   refine hK24 _ ?_
   refine hN10 ⟨i + 1, by omega, fun j hj hk => by rcases Nat.lt_succ_iff_lt_or_eq.mp hj with h | rfl; exact hz j h hk; exact hb⟩ _ ?_ ?_ ?_
   · (show 64 - (i + 1) < 64 - i; clear hs1; omega)
   · (simp only [go_sem, leX, List.cons_append, List.nil_append]; try simp)
   · (simp only [go_sem, leX, List.cons_append, List.nil_append]; try simp)
 · have hcq : ((i : Nat) : Int) < 64 := by omega
   have hc0 : (0 : Int) ≤ ((i : Nat) : Int) := by omega
   have hs1 : Go.RowKit.wrap64 (((i : Nat) : Int) + 1) = ((i + 1 : Nat) : Int) := wnat (by omega) (by omega)
   have hk1 := u8_one (q := held) (i := i) (by omega)
   have hk2 : i + 1 ≤ 64 := by omega
   have hni : ((k : Nat) : Int) ≤ ((i : Nat) : Int) := by omega
   have hbq := eq_false hb
   have F24 := And.intro hcq <| And.intro hc0 <| And.intro hs1 <| And.intro hk1 <| And.intro hk2 <| And.intro hni <| hbq
   refine sr_k fun K25 hK25 => ?_
   simp only [go_sem, hashC, H8.ls, F0, bytesC_1, F24]
   repeat' (first | apply And.intro | intro _)
   refine hK25 _ ?_
   refine seq_k fun N26 M26 hN26 hM26 => ?_
   refine condT_k (by first | rfl | (simp [go_sem, hashC, H8.ls, F0, bytesC_1, F24]; done)) ?_
   refine skip_k ?_
   refine hN26 _ ?_
   refine seq_k fun N27 M27 hN27 hM27 => ?_
   refine block_k fun B28 bn28 bx28 br28 bi28 => ?_
   refine sr_k fun K29 hK29 => ?_
   simp only [go_sem, hashC, H8.ls, F0, bytesC_1, F24]
   repeat' (first | apply And.intro | intro _)
   refine hK29 _ ?_
   refine sr_k fun K30 hK30 => ?_
   simp only [go_sem, hashC, H8.ls, F0, bytesC_1, F24]
   repeat' (first | apply And.intro | intro _)
   refine hK30 _ ?_
   refine condT_k (by first | rfl | (simp [go_sem, hashC, H8.ls, F0, bytesC_1, F24]; done)) ?_
   refine sr_k fun K31 hK31 => ?_
   simp only [go_sem, hashC, H8.ls, F0, bytesC_1, F24]
   repeat' (first | apply And.intro | intro _)
   refine hK31 _ ?_
   refine ret_k ?_
   refine br28 _ ?_
   refine hM27 _ _ ?_
   refine hM10 _ _ ?_
   refine br9 _ ?_
   refine hM7 _ _ ?_
   simp only [go_sem, hashC, H8.ls, F0, bytesC_1, F24]
   all_goals (rw [hbad_no (fun h => hb (h.rest i (by simp; omega) (by omega)))])
 · have hcq : ¬ ((64 : Nat) : Int) < 64 := by omega
   have hbd : hashBad held ((k : Nat) : Int) ((l : Nat) : Int) = !(decide (((k : Nat) : Int) = ((l % 64 : Nat) : Int))) := by
    by_cases e : ((k : Nat) : Int) = ((l % 64 : Nat) : Int)
    · rw [hbad_ok ⟨by omega, by omega, by omega, by omega, by omega, by omega, fun j hj hl => hz j hl (by simpa using hj)⟩]; rw [decide_eq_true e]; rfl
    · rw [hbad_no (fun h => e (by have := h.md; have := h.le; have := h.nz; have := h.lo; omega))]; rw [decide_eq_false e]; rfl
   refine sr_k fun K32 hK32 => ?_
   simp only [go_sem, hashC, H8.ls, F0, hcq]
   repeat' (first | apply And.intro | intro _)
   refine hK32 _ ?_
   refine seq_k fun N33 M33 hN33 hM33 => ?_
   refine condF_k (by first | rfl | (simp [go_sem, hashC, H8.ls, F0, hcq]; done)) ?_
   refine exit_k ?_
   refine hM33 _ _ ?_
   refine hM10 _ _ ?_
   refine bx9 _ ?_
   refine hN7 _ ?_
   refine sr_k fun K34 hK34 => ?_
   simp only [go_sem, hashC, H8.ls, F0, hcq]
   repeat' (first | apply And.intro | intro _)
   refine hK34 _ ?_
   refine ret_k ?_
   simp only [go_sem, hashC, H8.ls, F0, hcq]
   all_goals (rw [hbd])
theorem hash_bad (h0 h1 h2 h3 h4 h5 h6 h7 : UInt32) (held : List UInt8) (hh : held.length = 64) (n len : Int) : Ct Tryd.prog 35 [.w (.agg (hashC ⟨h0, h1, h2, h3, h4, h5, h6, h7⟩ held n len))] (fun v m => v = .w (.one (.pl (.b (hashBad held n len))))) := by
 by_cases g1 : n < 0
 · exact hbad_c1 h0 h1 h2 h3 h4 h5 h6 h7 held hh n len g1
 by_cases g2 : 64 < n
 · exact hbad_c2 h0 h1 h2 h3 h4 h5 h6 h7 held hh n len g1 g2
 by_cases g3 : len < 0
 · exact hbad_c3 h0 h1 h2 h3 h4 h5 h6 h7 held hh n len g1 g2 g3
 by_cases g4 : 1073741824 < len
 · exact hbad_c4 h0 h1 h2 h3 h4 h5 h6 h7 held hh n len g1 g2 g3 g4
 obtain ⟨k, rfl⟩ : ∃ k : Nat, n = (k : Int) := ⟨n.toNat, by omega⟩
 obtain ⟨l, rfl⟩ : ∃ l : Nat, len = (l : Int) := ⟨len.toNat, by omega⟩
 have e1 : k ≤ 64 := by omega
 have e3 : l ≤ 1073741824 := by omega
 by_cases e4 : l % 64 = 0
 · by_cases e5 : 0 < l
   · exact hbad_a h0 h1 h2 h3 h4 h5 h6 h7 held hh k l e1 e3 e4 e5
   · exact hbad_b h0 h1 h2 h3 h4 h5 h6 h7 held hh k l e1 e3 e4 (by omega)
 · exact hbad_c h0 h1 h2 h3 h4 h5 h6 h7 held hh k l e1 e3 e4
end Go.Sy

