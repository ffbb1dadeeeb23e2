/- The document's test of a sum of a blake. -/
import Derived.Test.YtcmcnfjdfcianaaDoorvqgB9
set_option linter.unusedVariables false
set_option linter.unusedSimpArgs false
namespace Go.Sy
namespace Bk
open Go.Proofs
attribute [local irreducible] atCall HT runOps runD onC onE onO onG goV goA goS onSt onGuard
set_option maxHeartbeats 800000 in
set_option maxRecDepth 100000 in
theorem hbad_c1 (h0 h1 h2 h3 h4 h5 h6 h7 : UInt32) (held : List UInt8) (hh : held.length = 64) (n len : Int) (g1 : n < 0) :
 Ct Tryd.prog 58 [.w (.agg (hashC ⟨h0, h1, h2, h3, h4, h5, h6, h7⟩ held n len))] (fun v m => v = .w (.one (.pl (.b (hashBad held n len))))) := by
 refine Ct.k Tryd.func58 rfl Tryd.ntmps58 (congrArg Array.toList Tryd.results58) (by simp) fun w0 ro => ?_
 refine top_k fun zZ zhZ => ?_
 iterate 11 first
  | (refine sr_k fun zK zhK => ?_; simp only [go_sem, hashC, H8.ls, hh, g1]; (repeat' (first | apply And.intro | intro _)))
  | refine zhK _ ?_
  | refine ret_k ?_
  | (refine zhM _ _ ?_; clear zhN zhM)
  | (refine zhZ _ _ ?_; simp only [go_sem, hashC, H8.ls, hh, g1]; (all_goals (rw [hbad_no (fun h => absurd h.lo (by omega))])))
  | refine seq_k fun zN zM zhN zhM => ?_
  | (refine condT_k ?_ ?_; focus (first | rfl | (simp [go_sem, hashC, H8.ls, hh, g1]; done)))
set_option maxHeartbeats 800000 in
set_option maxRecDepth 100000 in
theorem hbad_c2 (h0 h1 h2 h3 h4 h5 h6 h7 : UInt32) (held : List UInt8) (hh : held.length = 64) (n len : Int) (g1 : ¬ n < 0) (g2 : 64 < n) :
 Ct Tryd.prog 58 [.w (.agg (hashC ⟨h0, h1, h2, h3, h4, h5, h6, h7⟩ held n len))] (fun v m => v = .w (.one (.pl (.b (hashBad held n len))))) := by
 have F0 := And.intro hh <| And.intro g1 <| g2
 refine Ct.k Tryd.func58 rfl Tryd.ntmps58 (congrArg Array.toList Tryd.results58) (by simp) fun w0 ro => ?_
 refine top_k fun zZ zhZ => ?_
 iterate 11 first
  | (refine sr_k fun zK zhK => ?_; simp only [go_sem, hashC, H8.ls, F0]; (repeat' (first | apply And.intro | intro _)))
  | refine zhK _ ?_
  | refine ret_k ?_
  | (refine zhM _ _ ?_; clear zhN zhM)
  | (refine zhZ _ _ ?_; simp only [go_sem, hashC, H8.ls, F0]; (all_goals (rw [hbad_no (fun h => absurd h.hi (by omega))])))
  | refine seq_k fun zN zM zhN zhM => ?_
  | (refine condT_k ?_ ?_; focus (first | rfl | (simp [go_sem, hashC, H8.ls, F0]; done)))
set_option maxHeartbeats 800000 in
set_option maxRecDepth 100000 in
theorem hbad_c3 (h0 h1 h2 h3 h4 h5 h6 h7 : UInt32) (held : List UInt8) (hh : held.length = 64) (n len : Int) (g1 : ¬ n < 0) (g2 : ¬ 64 < n) (g3 : len < 0) :
 Ct Tryd.prog 58 [.w (.agg (hashC ⟨h0, h1, h2, h3, h4, h5, h6, h7⟩ held n len))] (fun v m => v = .w (.one (.pl (.b (hashBad held n len))))) := by
 have F0 := And.intro hh <| And.intro g1 <| And.intro g2 <| g3
 refine Ct.k Tryd.func58 rfl Tryd.ntmps58 (congrArg Array.toList Tryd.results58) (by simp) fun w0 ro => ?_
 refine top_k fun zZ zhZ => ?_
 iterate 11 first
  | (refine sr_k fun zK zhK => ?_; simp only [go_sem, hashC, H8.ls, F0]; (repeat' (first | apply And.intro | intro _)))
  | refine zhK _ ?_
  | refine ret_k ?_
  | (refine zhM _ _ ?_; clear zhN zhM)
  | (refine zhZ _ _ ?_; simp only [go_sem, hashC, H8.ls, F0]; (all_goals (rw [hbad_no (fun h => absurd h.le (by omega))])))
  | refine seq_k fun zN zM zhN zhM => ?_
  | (refine condT_k ?_ ?_; focus (first | rfl | (simp [go_sem, hashC, H8.ls, F0]; done)))
set_option maxHeartbeats 800000 in
set_option maxRecDepth 100000 in
theorem hbad_c4 (h0 h1 h2 h3 h4 h5 h6 h7 : UInt32) (held : List UInt8) (hh : held.length = 64) (n len : Int) (g1 : ¬ n < 0) (g2 : ¬ 64 < n) (g3 : ¬ len < 0) (g4 : 1073741824 < len) :
 Ct Tryd.prog 58 [.w (.agg (hashC ⟨h0, h1, h2, h3, h4, h5, h6, h7⟩ held n len))] (fun v m => v = .w (.one (.pl (.b (hashBad held n len))))) := by
 have F0 := And.intro hh <| And.intro g1 <| And.intro g2 <| And.intro g3 <| g4
 refine Ct.k Tryd.func58 rfl Tryd.ntmps58 (congrArg Array.toList Tryd.results58) (by simp) fun w0 ro => ?_
 refine top_k fun zZ zhZ => ?_
 iterate 11 first
  | (refine sr_k fun zK zhK => ?_; simp only [go_sem, hashC, H8.ls, F0]; (repeat' (first | apply And.intro | intro _)))
  | refine zhK _ ?_
  | refine ret_k ?_
  | (refine zhM _ _ ?_; clear zhN zhM)
  | (refine zhZ _ _ ?_; simp only [go_sem, hashC, H8.ls, F0]; (all_goals (rw [hbad_no (fun h => absurd h.mx (by omega))])))
  | refine seq_k fun zN zM zhN zhM => ?_
  | (refine condT_k ?_ ?_; focus (first | rfl | (simp [go_sem, hashC, H8.ls, F0]; done)))
set_option maxHeartbeats 1600000 in
set_option maxRecDepth 100000 in
theorem hbad_a (h0 h1 h2 h3 h4 h5 h6 h7 : UInt32) (held : List UInt8) (hh : held.length = 64) (k l : Nat) (e1 : k ≤ 64) (e3 : l ≤ 1073741824) (e4 : l % 64 = 0) (e5 : 0 < l) :
 Ct Tryd.prog 58 [.w (.agg (hashC ⟨h0, h1, h2, h3, h4, h5, h6, h7⟩ held (k : Int) (l : Int)))] (fun v m => v = .w (.one (.pl (.b (hashBad held (k : Int) (l : Int)))))) := by
 have g1 : ¬ ((k : Nat) : Int) < 0 := by omega
 have g2 : ¬ (64 : Int) < ((k : Nat) : Int) := by omega
 have g3 : ¬ ((l : Nat) : Int) < 0 := by omega
 have g4 : ¬ (1073741824 : Int) < ((l : Nat) : Int) := by omega
 have gm : (((l : Nat) : Int)).tmod 64 = ((l % 64 : Nat) : Int) := rfl
 have g5 : ((l % 64 : Nat) : Int) = 0 := by omega
 have g6 : (0 : Int) < ((l : Nat) : Int) := by omega
 have F0 := And.intro hh <| And.intro g1 <| And.intro g2 <| And.intro g3 <| And.intro g4 <| And.intro gm <| And.intro g5 <| g6
 refine Ct.k Tryd.func58 rfl Tryd.ntmps58 (congrArg Array.toList Tryd.results58) (by simp) fun w0 ro => ?_
 refine top_k fun zZ zhZ => ?_
 iterate 21 first
  | refine zhK _ ?_
  | (refine sr_k fun zK zhK => ?_; simp only [go_sem, hashC, H8.ls, F0]; (repeat' (first | apply And.intro | intro _)))
  | (refine zhN _ ?_; clear zhN zhM)
  | refine skip_k ?_
  | (refine region_k fun zK zhK => ?_; simp only [go_sem, hashC, H8.ls, F0]; (repeat' (first | apply And.intro | intro _)))
  | refine block_k fun zB zbn zbx zbr zbi => ?_
  | refine seq_k fun zN zM zhN zhM => ?_
  | (refine condF_k ?_ ?_; focus (first | rfl | (simp [go_sem, hashC, H8.ls, F0]; done)))
  | (refine condT_k ?_ ?_; focus (first | rfl | (simp [go_sem, hashC, H8.ls, F0]; done)))
 refine ht_dropE [0, 6, 7, 8, 9, 10, 11, 12, 13, 14, 15, 16, 17, 18, 19, 20, 21, 22, 23, 24, 25, 26, 27, 28, 29, 30, 31, 32, 33, 34] ?_
 simp only [dropE_mk, fgt_nil, fgt_cons, List.contains_cons, List.contains_nil, Nat.reduceBEq, beq_self_eq_true, Bool.or_false, Bool.or_true, Bool.true_or, Bool.false_or, Bool.false_eq_true, reduceIte]
 refine loop_k (fun y => [(36, .w (.one (.pl (.i ((y.1 : Nat) : Int)))))]) (fun _ => []) (fun y => 64 - y.1) (⟨0, Nat.zero_le _, fun j hj => absurd hj (Nat.not_lt_zero j)⟩ : {y : Nat // y ≤ 64 ∧ ∀ j, j < y → k ≤ j → held.getD j 0 = 0}) ?_ ?_ ?_
 · (simp only [go_sem, leX, List.cons_append, List.nil_append]; try simp)
 · (simp only [go_sem, leX, List.cons_append, List.nil_append]; try simp)
 intro yy zN zM zhN zhM
 simp only [List.cons_append, List.nil_append]
 obtain ⟨i, hi, hz⟩ := yy
 have hd : (i < 64 ∧ i < k) ∨ (i < 64 ∧ ¬ i < k ∧ held.getD i 0 = 0) ∨ (i < 64 ∧ ¬ i < k ∧ ¬ held.getD i 0 = 0) ∨ i = 64 := by
  generalize held.getD i 0 = z
  by_cases g1 : i = 64
  · simp [g1]
  · have g2 : i < 64 := by omega
    by_cases g3 : i < k
    · exact .inl ⟨g2, g3⟩
    · by_cases g4 : z = 0
      · exact .inr (.inl ⟨g2, g3, g4⟩)
      · exact .inr (.inr (.inl ⟨g2, g3, g4⟩))
 rcases hd with ⟨hlt, hin⟩ | ⟨hlt, hin, hb⟩ | ⟨hlt, hin, hb⟩ | rfl
 · have hcq : ((i : Nat) : Int) < 64 := by omega
   have hc0 : (0 : Int) ≤ ((i : Nat) : Int) := by omega
   have hs1 : Go.RowKit.wrap64 (((i : Nat) : Int) + 1) = ((i + 1 : Nat) : Int) := wnat (by omega) (by omega)
   have hk1 := u8_one (q := held) (i := i) (by omega)
   have hk2 : i + 1 ≤ 64 := by omega
   have hni : ¬ ((k : Nat) : Int) ≤ ((i : Nat) : Int) := by omega
   have F11 := And.intro hcq <| And.intro hc0 <| And.intro hs1 <| And.intro hk1 <| And.intro hk2 <| hni
   iterate 18 first
    | refine zhK _ ?_
    | (refine sr_k fun zK zhK => ?_; simp only [go_sem, hashC, H8.ls, F0, bytesC_1, F11]; (repeat' (first | apply And.intro | intro _)))
    | refine skip_k ?_
    | (refine zhN _ ?_; clear zhN zhM)
    | refine block_k fun zB zbn zbx zbr zbi => ?_
    | (refine zbn _ ?_; clear zbn zbx zbr zbi)
    | (refine region_k fun zK zhK => ?_; simp only [go_sem, hashC, H8.ls, F0, bytesC_1, F11]; (repeat' (first | apply And.intro | intro _)))
    | refine seq_k fun zN zM zhN zhM => ?_
    | (refine condT_k ?_ ?_; focus (first | rfl | (simp [go_sem, hashC, H8.ls, F0, bytesC_1, F11]; done)))
    | (refine condF_k ?_ ?_; focus (first | rfl | (simp [go_sem, hashC, H8.ls, F0, bytesC_1, F11]; done)))
   refine zhN ⟨i + 1, by omega, fun j hj hk => by rcases Nat.lt_succ_iff_lt_or_eq.mp hj with h | rfl; exact hz j h hk; omega⟩ _ ?_ ?_ ?_
   · (show 64 - (i + 1) < 64 - i; clear hs1; omega)
   · (simp only [go_sem, leX, List.cons_append, List.nil_append]; try simp)
   · (simp only [go_sem, leX, List.cons_append, List.nil_append]; try simp)
 · have hcq : ((i : Nat) : Int) < 64 := by omega
   have hc0 : (0 : Int) ≤ ((i : Nat) : Int) := by omega
   have hs1 : Go.RowKit.wrap64 (((i : Nat) : Int) + 1) = ((i + 1 : Nat) : Int) := wnat (by omega) (by omega)
   have hk1 := u8_one (q := held) (i := i) (by omega)
   have hk2 : i + 1 ≤ 64 := by omega
   have hni : ((k : Nat) : Int) ≤ ((i : Nat) : Int) := by omega
   have hbq := eq_true hb
   have F18 := And.intro hcq <| And.intro hc0 <| And.intro hs1 <| And.intro hk1 <| And.intro hk2 <| And.intro hni <| hbq
   iterate 18 first
    | refine zhK _ ?_
    | (refine sr_k fun zK zhK => ?_; simp only [go_sem, hashC, H8.ls, F0, bytesC_1, F18]; (repeat' (first | apply And.intro | intro _)))
    | refine skip_k ?_
    | (refine zhN _ ?_; clear zhN zhM)
    | refine block_k fun zB zbn zbx zbr zbi => ?_
    | (refine zbn _ ?_; clear zbn zbx zbr zbi)
    | (refine region_k fun zK zhK => ?_; simp only [go_sem, hashC, H8.ls, F0, bytesC_1, F18]; (repeat' (first | apply And.intro | intro _)))
    | refine seq_k fun zN zM zhN zhM => ?_
    | (refine condT_k ?_ ?_; focus (first | rfl | (simp [go_sem, hashC, H8.ls, F0, bytesC_1, F18]; done)))
    | (refine condF_k ?_ ?_; focus (first | rfl | (simp [go_sem, hashC, H8.ls, F0, bytesC_1, F18]; done)))
   refine zhN ⟨i + 1, by omega, fun j hj hk => by rcases Nat.lt_succ_iff_lt_or_eq.mp hj with h | rfl; exact hz j h hk; exact hb⟩ _ ?_ ?_ ?_
   · (show 64 - (i + 1) < 64 - i; clear hs1; omega)
   · (simp only [go_sem, leX, List.cons_append, List.nil_append]; try simp)
   · (simp only [go_sem, leX, List.cons_append, List.nil_append]; try simp)
 · have hcq : ((i : Nat) : Int) < 64 := by omega
   have hc0 : (0 : Int) ≤ ((i : Nat) : Int) := by omega
   have hs1 : Go.RowKit.wrap64 (((i : Nat) : Int) + 1) = ((i + 1 : Nat) : Int) := wnat (by omega) (by omega)
   have hk1 := u8_one (q := held) (i := i) (by omega)
   have hk2 : i + 1 ≤ 64 := by omega
   have hni : ((k : Nat) : Int) ≤ ((i : Nat) : Int) := by omega
   have hbq := eq_false hb
   have F25 := And.intro hcq <| And.intro hc0 <| And.intro hs1 <| And.intro hk1 <| And.intro hk2 <| And.intro hni <| hbq
   iterate 22 first
    | (refine sr_k fun zK zhK => ?_; simp only [go_sem, hashC, H8.ls, F0, bytesC_1, F25]; (repeat' (first | apply And.intro | intro _)))
    | refine zhK _ ?_
    | (refine zhM _ _ ?_; clear zhN zhM)
    | (refine zbr _ ?_; clear zbn zbx zbr zbi)
    | refine skip_k ?_
    | (refine zhN _ ?_; clear zhN zhM)
    | refine block_k fun zB zbn zbx zbr zbi => ?_
    | refine ret_k ?_
    | (refine zhZ _ _ ?_; simp only [go_sem, hashC, H8.ls, F0, bytesC_1, F25]; (all_goals (rw [hbad_no (fun h => hb (h.rest i (by simp; omega) (by omega)))])))
    | refine seq_k fun zN zM zhN zhM => ?_
    | (refine condT_k ?_ ?_; focus (first | rfl | (simp [go_sem, hashC, H8.ls, F0, bytesC_1, F25]; done)))
 · have hcq : ¬ ((64 : Nat) : Int) < 64 := by omega
   have hbd : hashBad held ((k : Nat) : Int) ((l : Nat) : Int) = !(decide (((k : Nat) : Int) = 64)) := by
    by_cases e : ((k : Nat) : Int) = 64
    · rw [hbad_ok ⟨by omega, by omega, by omega, by omega, by omega, by omega, fun j hj hl => hz j hl (by simpa using hj)⟩]; rw [decide_eq_true e]; rfl
    · rw [hbad_no (fun h => e (by have := h.md; have := h.le; have := h.nz; have := h.lo; omega))]; rw [decide_eq_false e]; rfl
   iterate 13 first
    | (refine sr_k fun zK zhK => ?_; simp only [go_sem, hashC, H8.ls, F0, hcq]; (repeat' (first | apply And.intro | intro _)))
    | refine zhK _ ?_
    | (refine zhM _ _ ?_; clear zhN zhM)
    | refine exit_k ?_
    | (refine zbx _ ?_; clear zbn zbx zbr zbi)
    | (refine zhN _ ?_; clear zhN zhM)
    | refine ret_k ?_
    | (refine zhZ _ _ ?_; simp only [go_sem, hashC, H8.ls, F0, hcq]; (all_goals (rw [hbd])))
    | refine seq_k fun zN zM zhN zhM => ?_
    | (refine condF_k ?_ ?_; focus (first | rfl | (simp [go_sem, hashC, H8.ls, F0, hcq]; done)))
set_option maxHeartbeats 1600000 in
set_option maxRecDepth 100000 in
theorem hbad_b (h0 h1 h2 h3 h4 h5 h6 h7 : UInt32) (held : List UInt8) (hh : held.length = 64) (k l : Nat) (e1 : k ≤ 64) (e3 : l ≤ 1073741824) (e4 : l % 64 = 0) (e5 : l = 0) :
 Ct Tryd.prog 58 [.w (.agg (hashC ⟨h0, h1, h2, h3, h4, h5, h6, h7⟩ held (k : Int) (l : Int)))] (fun v m => v = .w (.one (.pl (.b (hashBad held (k : Int) (l : Int)))))) := by
 have g1 : ¬ ((k : Nat) : Int) < 0 := by omega
 have g2 : ¬ (64 : Int) < ((k : Nat) : Int) := by omega
 have g3 : ¬ ((l : Nat) : Int) < 0 := by omega
 have g4 : ¬ (1073741824 : Int) < ((l : Nat) : Int) := by omega
 have gm : (((l : Nat) : Int)).tmod 64 = ((l % 64 : Nat) : Int) := rfl
 have g5 : ((l % 64 : Nat) : Int) = 0 := by omega
 have g6 : ¬ (0 : Int) < ((l : Nat) : Int) := by omega
 have F0 := And.intro hh <| And.intro g1 <| And.intro g2 <| And.intro g3 <| And.intro g4 <| And.intro gm <| And.intro g5 <| g6
 refine Ct.k Tryd.func58 rfl Tryd.ntmps58 (congrArg Array.toList Tryd.results58) (by simp) fun w0 ro => ?_
 refine top_k fun zZ zhZ => ?_
 iterate 20 first
  | (refine sr_k fun zK zhK => ?_; simp only [go_sem, hashC, H8.ls, F0]; (repeat' (first | apply And.intro | intro _)))
  | refine zhK _ ?_
  | refine skip_k ?_
  | (refine zhN _ ?_; clear zhN zhM)
  | refine block_k fun zB zbn zbx zbr zbi => ?_
  | refine seq_k fun zN zM zhN zhM => ?_
  | (refine condF_k ?_ ?_; focus (first | rfl | (simp [go_sem, hashC, H8.ls, F0]; done)))
 refine ht_dropE [0, 6, 7, 8, 9, 10, 11, 12, 13, 14, 15, 16, 17, 18, 19, 20, 21, 22, 23, 24, 25, 26, 27, 28, 29, 30, 31, 32, 33, 34] ?_
 simp only [dropE_mk, fgt_nil, fgt_cons, List.contains_cons, List.contains_nil, Nat.reduceBEq, beq_self_eq_true, Bool.or_false, Bool.or_true, Bool.true_or, Bool.false_or, Bool.false_eq_true, reduceIte]
 refine loop_k (fun y => [(36, .w (.one (.pl (.i ((y.1 : Nat) : Int)))))]) (fun _ => []) (fun y => 64 - y.1) (⟨0, Nat.zero_le _, fun j hj => absurd hj (Nat.not_lt_zero j)⟩ : {y : Nat // y ≤ 64 ∧ ∀ j, j < y → k ≤ j → held.getD j 0 = 0}) ?_ ?_ ?_
 · (simp only [go_sem, leX, List.cons_append, List.nil_append]; try simp)
 · (simp only [go_sem, leX, List.cons_append, List.nil_append]; try simp)
 intro yy zN zM zhN zhM
 simp only [List.cons_append, List.nil_append]
 obtain ⟨i, hi, hz⟩ := yy
 have hd : (i < 64 ∧ i < k) ∨ (i < 64 ∧ ¬ i < k ∧ held.getD i 0 = 0) ∨ (i < 64 ∧ ¬ i < k ∧ ¬ held.getD i 0 = 0) ∨ i = 64 := by
  generalize held.getD i 0 = z
  by_cases g1 : i = 64
  · simp [g1]
  · have g2 : i < 64 := by omega
    by_cases g3 : i < k
    · exact .inl ⟨g2, g3⟩
    · by_cases g4 : z = 0
      · exact .inr (.inl ⟨g2, g3, g4⟩)
      · exact .inr (.inr (.inl ⟨g2, g3, g4⟩))
 rcases hd with ⟨hlt, hin⟩ | ⟨hlt, hin, hb⟩ | ⟨hlt, hin, hb⟩ | rfl
 · have hcq : ((i : Nat) : Int) < 64 := by omega
   have hc0 : (0 : Int) ≤ ((i : Nat) : Int) := by omega
   have hs1 : Go.RowKit.wrap64 (((i : Nat) : Int) + 1) = ((i + 1 : Nat) : Int) := wnat (by omega) (by omega)
   have hk1 := u8_one (q := held) (i := i) (by omega)
   have hk2 : i + 1 ≤ 64 := by omega
   have hni : ¬ ((k : Nat) : Int) ≤ ((i : Nat) : Int) := by omega
   have F10 := And.intro hcq <| And.intro hc0 <| And.intro hs1 <| And.intro hk1 <| And.intro hk2 <| hni
   iterate 18 first
    | refine zhK _ ?_
    | (refine sr_k fun zK zhK => ?_; simp only [go_sem, hashC, H8.ls, F0, bytesC_1, F10]; (repeat' (first | apply And.intro | intro _)))
    | refine skip_k ?_
    | (refine zhN _ ?_; clear zhN zhM)
    | refine block_k fun zB zbn zbx zbr zbi => ?_
    | (refine zbn _ ?_; clear zbn zbx zbr zbi)
    | (refine region_k fun zK zhK => ?_; simp only [go_sem, hashC, H8.ls, F0, bytesC_1, F10]; (repeat' (first | apply And.intro | intro _)))
    | refine seq_k fun zN zM zhN zhM => ?_
    | (refine condT_k ?_ ?_; focus (first | rfl | (simp [go_sem, hashC, H8.ls, F0, bytesC_1, F10]; done)))
    | (refine condF_k ?_ ?_; focus (first | rfl | (simp [go_sem, hashC, H8.ls, F0, bytesC_1, F10]; done)))
   refine zhN ⟨i + 1, by omega, fun j hj hk => by rcases Nat.lt_succ_iff_lt_or_eq.mp hj with h | rfl; exact hz j h hk; omega⟩ _ ?_ ?_ ?_
   · (show 64 - (i + 1) < 64 - i; clear hs1; omega)
   · (simp only [go_sem, leX, List.cons_append, List.nil_append]; try simp)
   · (simp only [go_sem, leX, List.cons_append, List.nil_append]; try simp)
 · have hcq : ((i : Nat) : Int) < 64 := by omega
   have hc0 : (0 : Int) ≤ ((i : Nat) : Int) := by omega
   have hs1 : Go.RowKit.wrap64 (((i : Nat) : Int) + 1) = ((i + 1 : Nat) : Int) := wnat (by omega) (by omega)
   have hk1 := u8_one (q := held) (i := i) (by omega)
   have hk2 : i + 1 ≤ 64 := by omega
   have hni : ((k : Nat) : Int) ≤ ((i : Nat) : Int) := by omega
   have hbq := eq_true hb
   have F17 := And.intro hcq <| And.intro hc0 <| And.intro hs1 <| And.intro hk1 <| And.intro hk2 <| And.intro hni <| hbq
   iterate 18 first
    | refine zhK _ ?_
    | (refine sr_k fun zK zhK => ?_; simp only [go_sem, hashC, H8.ls, F0, bytesC_1, F17]; (repeat' (first | apply And.intro | intro _)))
    | refine skip_k ?_
    | (refine zhN _ ?_; clear zhN zhM)
    | refine block_k fun zB zbn zbx zbr zbi => ?_
    | (refine zbn _ ?_; clear zbn zbx zbr zbi)
    | (refine region_k fun zK zhK => ?_; simp only [go_sem, hashC, H8.ls, F0, bytesC_1, F17]; (repeat' (first | apply And.intro | intro _)))
    | refine seq_k fun zN zM zhN zhM => ?_
    | (refine condT_k ?_ ?_; focus (first | rfl | (simp [go_sem, hashC, H8.ls, F0, bytesC_1, F17]; done)))
    | (refine condF_k ?_ ?_; focus (first | rfl | (simp [go_sem, hashC, H8.ls, F0, bytesC_1, F17]; done)))
   refine zhN ⟨i + 1, by omega, fun j hj hk => by rcases Nat.lt_succ_iff_lt_or_eq.mp hj with h | rfl; exact hz j h hk; exact hb⟩ _ ?_ ?_ ?_
   · (show 64 - (i + 1) < 64 - i; clear hs1; omega)
   · (simp only [go_sem, leX, List.cons_append, List.nil_append]; try simp)
   · (simp only [go_sem, leX, List.cons_append, List.nil_append]; try simp)
 · have hcq : ((i : Nat) : Int) < 64 := by omega
   have hc0 : (0 : Int) ≤ ((i : Nat) : Int) := by omega
   have hs1 : Go.RowKit.wrap64 (((i : Nat) : Int) + 1) = ((i + 1 : Nat) : Int) := wnat (by omega) (by omega)
   have hk1 := u8_one (q := held) (i := i) (by omega)
   have hk2 : i + 1 ≤ 64 := by omega
   have hni : ((k : Nat) : Int) ≤ ((i : Nat) : Int) := by omega
   have hbq := eq_false hb
   have F24 := And.intro hcq <| And.intro hc0 <| And.intro hs1 <| And.intro hk1 <| And.intro hk2 <| And.intro hni <| hbq
   iterate 22 first
    | (refine sr_k fun zK zhK => ?_; simp only [go_sem, hashC, H8.ls, F0, bytesC_1, F24]; (repeat' (first | apply And.intro | intro _)))
    | refine zhK _ ?_
    | (refine zhM _ _ ?_; clear zhN zhM)
    | (refine zbr _ ?_; clear zbn zbx zbr zbi)
    | refine skip_k ?_
    | (refine zhN _ ?_; clear zhN zhM)
    | refine block_k fun zB zbn zbx zbr zbi => ?_
    | refine ret_k ?_
    | (refine zhZ _ _ ?_; simp only [go_sem, hashC, H8.ls, F0, bytesC_1, F24]; (all_goals (rw [hbad_no (fun h => hb (h.rest i (by simp; omega) (by omega)))])))
    | refine seq_k fun zN zM zhN zhM => ?_
    | (refine condT_k ?_ ?_; focus (first | rfl | (simp [go_sem, hashC, H8.ls, F0, bytesC_1, F24]; done)))
 · have hcq : ¬ ((64 : Nat) : Int) < 64 := by omega
   have hbd : hashBad held ((k : Nat) : Int) ((l : Nat) : Int) = !(decide (((k : Nat) : Int) = 0)) := by
    by_cases e : ((k : Nat) : Int) = 0
    · rw [hbad_ok ⟨by omega, by omega, by omega, by omega, by omega, by omega, fun j hj hl => hz j hl (by simpa using hj)⟩]; rw [decide_eq_true e]; rfl
    · rw [hbad_no (fun h => e (by have := h.md; have := h.le; have := h.nz; have := h.lo; omega))]; rw [decide_eq_false e]; rfl
   iterate 13 first
    | (refine sr_k fun zK zhK => ?_; simp only [go_sem, hashC, H8.ls, F0, hcq]; (repeat' (first | apply And.intro | intro _)))
    | refine zhK _ ?_
    | (refine zhM _ _ ?_; clear zhN zhM)
    | refine exit_k ?_
    | (refine zbx _ ?_; clear zbn zbx zbr zbi)
    | (refine zhN _ ?_; clear zhN zhM)
    | refine ret_k ?_
    | (refine zhZ _ _ ?_; simp only [go_sem, hashC, H8.ls, F0, hcq]; (all_goals (rw [hbd])))
    | refine seq_k fun zN zM zhN zhM => ?_
    | (refine condF_k ?_ ?_; focus (first | rfl | (simp [go_sem, hashC, H8.ls, F0, hcq]; done)))
set_option maxHeartbeats 1600000 in
set_option maxRecDepth 100000 in
theorem hbad_c (h0 h1 h2 h3 h4 h5 h6 h7 : UInt32) (held : List UInt8) (hh : held.length = 64) (k l : Nat) (e1 : k ≤ 64) (e3 : l ≤ 1073741824) (e4 : ¬ l % 64 = 0) :
 Ct Tryd.prog 58 [.w (.agg (hashC ⟨h0, h1, h2, h3, h4, h5, h6, h7⟩ held (k : Int) (l : Int)))] (fun v m => v = .w (.one (.pl (.b (hashBad held (k : Int) (l : Int)))))) := by
 have g1 : ¬ ((k : Nat) : Int) < 0 := by omega
 have g2 : ¬ (64 : Int) < ((k : Nat) : Int) := by omega
 have g3 : ¬ ((l : Nat) : Int) < 0 := by omega
 have g4 : ¬ (1073741824 : Int) < ((l : Nat) : Int) := by omega
 have gm : (((l : Nat) : Int)).tmod 64 = ((l % 64 : Nat) : Int) := rfl
 have g5 : ¬ ((l % 64 : Nat) : Int) = 0 := by omega
 have F0 := And.intro hh <| And.intro g1 <| And.intro g2 <| And.intro g3 <| And.intro g4 <| And.intro gm <| g5
 refine Ct.k Tryd.func58 rfl Tryd.ntmps58 (congrArg Array.toList Tryd.results58) (by simp) fun w0 ro => ?_
 refine top_k fun zZ zhZ => ?_
 iterate 20 first
  | (refine sr_k fun zK zhK => ?_; simp only [go_sem, hashC, H8.ls, F0]; (repeat' (first | apply And.intro | intro _)))
  | refine zhK _ ?_
  | refine skip_k ?_
  | (refine zhN _ ?_; clear zhN zhM)
  | refine block_k fun zB zbn zbx zbr zbi => ?_
  | refine seq_k fun zN zM zhN zhM => ?_
  | (refine condF_k ?_ ?_; focus (first | rfl | (simp [go_sem, hashC, H8.ls, F0]; done)))
 refine ht_dropE [0, 6, 7, 8, 9, 10, 11, 12, 13, 14, 15, 16, 17, 18, 19, 20, 21, 22, 23, 24, 25, 26, 27, 28, 29, 30, 31, 32, 33, 34] ?_
 simp only [dropE_mk, fgt_nil, fgt_cons, List.contains_cons, List.contains_nil, Nat.reduceBEq, beq_self_eq_true, Bool.or_false, Bool.or_true, Bool.true_or, Bool.false_or, Bool.false_eq_true, reduceIte]
 refine loop_k (fun y => [(36, .w (.one (.pl (.i ((y.1 : Nat) : Int)))))]) (fun _ => []) (fun y => 64 - y.1) (⟨0, Nat.zero_le _, fun j hj => absurd hj (Nat.not_lt_zero j)⟩ : {y : Nat // y ≤ 64 ∧ ∀ j, j < y → k ≤ j → held.getD j 0 = 0}) ?_ ?_ ?_
 · (simp only [go_sem, leX, List.cons_append, List.nil_append]; try simp)
 · (simp only [go_sem, leX, List.cons_append, List.nil_append]; try simp)
 intro yy zN zM zhN zhM
 simp only [List.cons_append, List.nil_append]
 obtain ⟨i, hi, hz⟩ := yy
 have hd : (i < 64 ∧ i < k) ∨ (i < 64 ∧ ¬ i < k ∧ held.getD i 0 = 0) ∨ (i < 64 ∧ ¬ i < k ∧ ¬ held.getD i 0 = 0) ∨ i = 64 := by
  generalize held.getD i 0 = z
  by_cases g1 : i = 64
  · simp [g1]
  · have g2 : i < 64 := by omega
    by_cases g3 : i < k
    · exact .inl ⟨g2, g3⟩
    · by_cases g4 : z = 0
      · exact .inr (.inl ⟨g2, g3, g4⟩)
      · exact .inr (.inr (.inl ⟨g2, g3, g4⟩))
 rcases hd with ⟨hlt, hin⟩ | ⟨hlt, hin, hb⟩ | ⟨hlt, hin, hb⟩ | rfl
 · have hcq : ((i : Nat) : Int) < 64 := by omega
   have hc0 : (0 : Int) ≤ ((i : Nat) : Int) := by omega
   have hs1 : Go.RowKit.wrap64 (((i : Nat) : Int) + 1) = ((i + 1 : Nat) : Int) := wnat (by omega) (by omega)
   have hk1 := u8_one (q := held) (i := i) (by omega)
   have hk2 : i + 1 ≤ 64 := by omega
   have hni : ¬ ((k : Nat) : Int) ≤ ((i : Nat) : Int) := by omega
   have F10 := And.intro hcq <| And.intro hc0 <| And.intro hs1 <| And.intro hk1 <| And.intro hk2 <| hni
   iterate 18 first
    | refine zhK _ ?_
    | (refine sr_k fun zK zhK => ?_; simp only [go_sem, hashC, H8.ls, F0, bytesC_1, F10]; (repeat' (first | apply And.intro | intro _)))
    | refine skip_k ?_
    | (refine zhN _ ?_; clear zhN zhM)
    | refine block_k fun zB zbn zbx zbr zbi => ?_
    | (refine zbn _ ?_; clear zbn zbx zbr zbi)
    | (refine region_k fun zK zhK => ?_; simp only [go_sem, hashC, H8.ls, F0, bytesC_1, F10]; (repeat' (first | apply And.intro | intro _)))
    | refine seq_k fun zN zM zhN zhM => ?_
    | (refine condT_k ?_ ?_; focus (first | rfl | (simp [go_sem, hashC, H8.ls, F0, bytesC_1, F10]; done)))
    | (refine condF_k ?_ ?_; focus (first | rfl | (simp [go_sem, hashC, H8.ls, F0, bytesC_1, F10]; done)))
   refine zhN ⟨i + 1, by omega, fun j hj hk => by rcases Nat.lt_succ_iff_lt_or_eq.mp hj with h | rfl; exact hz j h hk; omega⟩ _ ?_ ?_ ?_
   · (show 64 - (i + 1) < 64 - i; clear hs1; omega)
   · (simp only [go_sem, leX, List.cons_append, List.nil_append]; try simp)
   · (simp only [go_sem, leX, List.cons_append, List.nil_append]; try simp)
 · have hcq : ((i : Nat) : Int) < 64 := by omega
   have hc0 : (0 : Int) ≤ ((i : Nat) : Int) := by omega
   have hs1 : Go.RowKit.wrap64 (((i : Nat) : Int) + 1) = ((i + 1 : Nat) : Int) := wnat (by omega) (by omega)
   have hk1 := u8_one (q := held) (i := i) (by omega)
   have hk2 : i + 1 ≤ 64 := by omega
   have hni : ((k : Nat) : Int) ≤ ((i : Nat) : Int) := by omega
   have hbq := eq_true hb
   have F17 := And.intro hcq <| And.intro hc0 <| And.intro hs1 <| And.intro hk1 <| And.intro hk2 <| And.intro hni <| hbq
   iterate 18 first
    | refine zhK _ ?_
    | (refine sr_k fun zK zhK => ?_; simp only [go_sem, hashC, H8.ls, F0, bytesC_1, F17]; (repeat' (first | apply And.intro | intro _)))
    | refine skip_k ?_
    | (refine zhN _ ?_; clear zhN zhM)
    | refine block_k fun zB zbn zbx zbr zbi => ?_
    | (refine zbn _ ?_; clear zbn zbx zbr zbi)
    | (refine region_k fun zK zhK => ?_; simp only [go_sem, hashC, H8.ls, F0, bytesC_1, F17]; (repeat' (first | apply And.intro | intro _)))
    | refine seq_k fun zN zM zhN zhM => ?_
    | (refine condT_k ?_ ?_; focus (first | rfl | (simp [go_sem, hashC, H8.ls, F0, bytesC_1, F17]; done)))
    | (refine condF_k ?_ ?_; focus (first | rfl | (simp [go_sem, hashC, H8.ls, F0, bytesC_1, F17]; done)))
   refine zhN ⟨i + 1, by omega, fun j hj hk => by rcases Nat.lt_succ_iff_lt_or_eq.mp hj with h | rfl; exact hz j h hk; exact hb⟩ _ ?_ ?_ ?_
   · (show 64 - (i + 1) < 64 - i; clear hs1; omega)
   · (simp only [go_sem, leX, List.cons_append, List.nil_append]; try simp)
   · (simp only [go_sem, leX, List.cons_append, List.nil_append]; try simp)
 · have hcq : ((i : Nat) : Int) < 64 := by omega
   have hc0 : (0 : Int) ≤ ((i : Nat) : Int) := by omega
   have hs1 : Go.RowKit.wrap64 (((i : Nat) : Int) + 1) = ((i + 1 : Nat) : Int) := wnat (by omega) (by omega)
   have hk1 := u8_one (q := held) (i := i) (by omega)
   have hk2 : i + 1 ≤ 64 := by omega
   have hni : ((k : Nat) : Int) ≤ ((i : Nat) : Int) := by omega
   have hbq := eq_false hb
   have F24 := And.intro hcq <| And.intro hc0 <| And.intro hs1 <| And.intro hk1 <| And.intro hk2 <| And.intro hni <| hbq
   iterate 22 first
    | (refine sr_k fun zK zhK => ?_; simp only [go_sem, hashC, H8.ls, F0, bytesC_1, F24]; (repeat' (first | apply And.intro | intro _)))
    | refine zhK _ ?_
    | (refine zhM _ _ ?_; clear zhN zhM)
    | (refine zbr _ ?_; clear zbn zbx zbr zbi)
    | refine skip_k ?_
    | (refine zhN _ ?_; clear zhN zhM)
    | refine block_k fun zB zbn zbx zbr zbi => ?_
    | refine ret_k ?_
    | (refine zhZ _ _ ?_; simp only [go_sem, hashC, H8.ls, F0, bytesC_1, F24]; (all_goals (rw [hbad_no (fun h => hb (h.rest i (by simp; omega) (by omega)))])))
    | refine seq_k fun zN zM zhN zhM => ?_
    | (refine condT_k ?_ ?_; focus (first | rfl | (simp [go_sem, hashC, H8.ls, F0, bytesC_1, F24]; done)))
 · have hcq : ¬ ((64 : Nat) : Int) < 64 := by omega
   have hbd : hashBad held ((k : Nat) : Int) ((l : Nat) : Int) = !(decide (((k : Nat) : Int) = ((l % 64 : Nat) : Int))) := by
    by_cases e : ((k : Nat) : Int) = ((l % 64 : Nat) : Int)
    · rw [hbad_ok ⟨by omega, by omega, by omega, by omega, by omega, by omega, fun j hj hl => hz j hl (by simpa using hj)⟩]; rw [decide_eq_true e]; rfl
    · rw [hbad_no (fun h => e (by have := h.md; have := h.le; have := h.nz; have := h.lo; omega))]; rw [decide_eq_false e]; rfl
   iterate 13 first
    | (refine sr_k fun zK zhK => ?_; simp only [go_sem, hashC, H8.ls, F0, hcq]; (repeat' (first | apply And.intro | intro _)))
    | refine zhK _ ?_
    | (refine zhM _ _ ?_; clear zhN zhM)
    | refine exit_k ?_
    | (refine zbx _ ?_; clear zbn zbx zbr zbi)
    | (refine zhN _ ?_; clear zhN zhM)
    | refine ret_k ?_
    | (refine zhZ _ _ ?_; simp only [go_sem, hashC, H8.ls, F0, hcq]; (all_goals (rw [hbd])))
    | refine seq_k fun zN zM zhN zhM => ?_
    | (refine condF_k ?_ ?_; focus (first | rfl | (simp [go_sem, hashC, H8.ls, F0, hcq]; done)))
theorem hash_bad (h0 h1 h2 h3 h4 h5 h6 h7 : UInt32) (held : List UInt8) (hh : held.length = 64) (n len : Int) : Ct Tryd.prog 58 [.w (.agg (hashC ⟨h0, h1, h2, h3, h4, h5, h6, h7⟩ held n len))] (fun v m => v = .w (.one (.pl (.b (hashBad held n len))))) := by
 by_cases g1 : n < 0
 · exact hbad_c1 h0 h1 h2 h3 h4 h5 h6 h7 held hh n len g1
 by_cases g2 : 64 < n
 · exact hbad_c2 h0 h1 h2 h3 h4 h5 h6 h7 held hh n len g1 g2
 by_cases g3 : len < 0
 · exact hbad_c3 h0 h1 h2 h3 h4 h5 h6 h7 held hh n len g1 g2 g3
 by_cases g4 : 1073741824 < len
 · exact hbad_c4 h0 h1 h2 h3 h4 h5 h6 h7 held hh n len g1 g2 g3 g4
 obtain ⟨k, rfl⟩ : ∃ k : Nat, n = (k : Int) := ⟨n.toNat, by omega⟩
 obtain ⟨l, rfl⟩ : ∃ l : Nat, len = (l : Int) := ⟨len.toNat, by omega⟩
 have e1 : k ≤ 64 := by omega
 have e3 : l ≤ 1073741824 := by omega
 by_cases e4 : l % 64 = 0
 · by_cases e5 : 0 < l
   · exact hbad_a h0 h1 h2 h3 h4 h5 h6 h7 held hh k l e1 e3 e4 e5
   · exact hbad_b h0 h1 h2 h3 h4 h5 h6 h7 held hh k l e1 e3 e4 (by omega)
 · exact hbad_c h0 h1 h2 h3 h4 h5 h6 h7 held hh k l e1 e3 e4
end Bk
end Go.Sy
