/- A sum of a blake that may be: in plain lists; the walks of both tests. -/
import Derived.Test.YtcmcnfjdfcianaaDoorvqgB3
set_option linter.unusedVariables false
set_option linter.unusedSimpArgs false
namespace Go.Sy
namespace Bk
open Go.Proofs
attribute [local irreducible] atCall HT runOps runD onC onE onO onG goV goA goS onSt onGuard
def hashC (h : H8) (held : List UInt8) (n len : Int) : List L := h.ls ++ (bytesC held ++ [.pl (.i n), .pl (.i len)])
structure HashOk (held : List UInt8) (n len : Int) : Prop where
 lo : 0 ≤ n
 hi : n ≤ 64
 le : n ≤ len
 mx : len ≤ 1073741824
 md : (len - n) % 64 = 0
 nz : n = 0 → len = 0
 rest : ∀ j, n.toNat ≤ j → j < 64 → held.getD j 0 = 0
noncomputable def hashErr (held : List UInt8) (n len : Int) : Int := if Classical.propDecidable (HashOk held n len) |>.decide then 0 else 9
noncomputable def hashBad (held : List UInt8) (n len : Int) : Bool := !(Classical.propDecidable (HashOk held n len) |>.decide)
section
variable {held : List UInt8} {n len : Int}
theorem herr_ok (h : HashOk held n len) : hashErr held n len = 0 := by unfold hashErr; simp [h]
theorem herr_no (h : ¬ HashOk held n len) : hashErr held n len = 9 := by unfold hashErr; simp [h]
theorem hbad_ok (h : HashOk held n len) : hashBad held n len = false := by unfold hashBad; simp [h]
theorem hbad_no (h : ¬ HashOk held n len) : hashBad held n len = true := by unfold hashBad; simp [h]
theorem one_at {l : List UInt8} {o m i : Nat} (h : o + i < l.length) (hi : i < m) : List.take 1 (List.drop i (List.take m (List.drop o l))) = [l.getD (o + i) 0] := by
 have hl : i < (List.take m (List.drop o l)).length := by rw [List.length_take, List.length_drop]; omega
 rw [List.drop_eq_getElem_cons hl, List.take_succ_cons, List.take_zero]
 simp [List.getElem_take, List.getElem_drop, List.getD, List.getElem?_eq_getElem h]
end
set_option maxHeartbeats 800000 in
set_option maxRecDepth 100000 in
theorem hchk_c1 (h0 h1 h2 h3 h4 h5 h6 h7 : UInt32) (held : List UInt8) (hh : held.length = 64) (n len : Int) (g1 : n < 0) :
 Ct Tryd.prog 52 [.w (.agg (hashC ⟨h0, h1, h2, h3, h4, h5, h6, h7⟩ held n len))] (fun v m => v = .w (.one (.pl (.i (hashErr held n len))))) := by
 refine Ct.k Tryd.func52 rfl Tryd.ntmps52 (congrArg Array.toList Tryd.results52) (by simp) fun w0 ro => ?_
 refine top_k fun zZ zhZ => ?_
 iterate 11 first
  | (refine sr_k fun zK zhK => ?_; simp only [go_sem, hashC, H8.ls, hh, g1]; (repeat' (first | apply And.intro | intro _)))
  | refine zhK _ ?_
  | refine ret_k ?_
  | (refine zhM _ _ ?_; clear zhN zhM)
  | (refine zhZ _ _ ?_; simp only [go_sem, hashC, H8.ls, hh, g1]; (all_goals (rw [herr_no (fun h => absurd h.lo (by omega))])))
  | refine seq_k fun zN zM zhN zhM => ?_
  | (refine condT_k ?_ ?_; focus (first | rfl | (simp [go_sem, hashC, H8.ls, hh, g1]; done)))
set_option maxHeartbeats 800000 in
set_option maxRecDepth 100000 in
theorem hchk_c2 (h0 h1 h2 h3 h4 h5 h6 h7 : UInt32) (held : List UInt8) (hh : held.length = 64) (n len : Int) (g1 : ¬ n < 0) (g2 : 64 < n) :
 Ct Tryd.prog 52 [.w (.agg (hashC ⟨h0, h1, h2, h3, h4, h5, h6, h7⟩ held n len))] (fun v m => v = .w (.one (.pl (.i (hashErr held n len))))) := by
 have F0 := And.intro hh <| And.intro g1 <| g2
 refine Ct.k Tryd.func52 rfl Tryd.ntmps52 (congrArg Array.toList Tryd.results52) (by simp) fun w0 ro => ?_
 refine top_k fun zZ zhZ => ?_
 iterate 11 first
  | (refine sr_k fun zK zhK => ?_; simp only [go_sem, hashC, H8.ls, F0]; (repeat' (first | apply And.intro | intro _)))
  | refine zhK _ ?_
  | refine ret_k ?_
  | (refine zhM _ _ ?_; clear zhN zhM)
  | (refine zhZ _ _ ?_; simp only [go_sem, hashC, H8.ls, F0]; (all_goals (rw [herr_no (fun h => absurd h.hi (by omega))])))
  | refine seq_k fun zN zM zhN zhM => ?_
  | (refine condT_k ?_ ?_; focus (first | rfl | (simp [go_sem, hashC, H8.ls, F0]; done)))
set_option maxHeartbeats 800000 in
set_option maxRecDepth 100000 in
theorem hchk_c3 (h0 h1 h2 h3 h4 h5 h6 h7 : UInt32) (held : List UInt8) (hh : held.length = 64) (n len : Int) (g1 : ¬ n < 0) (g2 : ¬ 64 < n) (g3 : len < n) :
 Ct Tryd.prog 52 [.w (.agg (hashC ⟨h0, h1, h2, h3, h4, h5, h6, h7⟩ held n len))] (fun v m => v = .w (.one (.pl (.i (hashErr held n len))))) := by
 have F0 := And.intro hh <| And.intro g1 <| And.intro g2 <| g3
 refine Ct.k Tryd.func52 rfl Tryd.ntmps52 (congrArg Array.toList Tryd.results52) (by simp) fun w0 ro => ?_
 refine top_k fun zZ zhZ => ?_
 iterate 11 first
  | (refine sr_k fun zK zhK => ?_; simp only [go_sem, hashC, H8.ls, F0]; (repeat' (first | apply And.intro | intro _)))
  | refine zhK _ ?_
  | refine ret_k ?_
  | (refine zhM _ _ ?_; clear zhN zhM)
  | (refine zhZ _ _ ?_; simp only [go_sem, hashC, H8.ls, F0]; (all_goals (rw [herr_no (fun h => absurd h.le (by omega))])))
  | refine seq_k fun zN zM zhN zhM => ?_
  | (refine condT_k ?_ ?_; focus (first | rfl | (simp [go_sem, hashC, H8.ls, F0]; done)))
set_option maxHeartbeats 800000 in
set_option maxRecDepth 100000 in
theorem hchk_c4 (h0 h1 h2 h3 h4 h5 h6 h7 : UInt32) (held : List UInt8) (hh : held.length = 64) (n len : Int) (g1 : ¬ n < 0) (g2 : ¬ 64 < n) (g3 : ¬ len < n) (g4 : 1073741824 < len) :
 Ct Tryd.prog 52 [.w (.agg (hashC ⟨h0, h1, h2, h3, h4, h5, h6, h7⟩ held n len))] (fun v m => v = .w (.one (.pl (.i (hashErr held n len))))) := by
 have F0 := And.intro hh <| And.intro g1 <| And.intro g2 <| And.intro g3 <| g4
 refine Ct.k Tryd.func52 rfl Tryd.ntmps52 (congrArg Array.toList Tryd.results52) (by simp) fun w0 ro => ?_
 refine top_k fun zZ zhZ => ?_
 iterate 11 first
  | (refine sr_k fun zK zhK => ?_; simp only [go_sem, hashC, H8.ls, F0]; (repeat' (first | apply And.intro | intro _)))
  | refine zhK _ ?_
  | refine ret_k ?_
  | (refine zhM _ _ ?_; clear zhN zhM)
  | (refine zhZ _ _ ?_; simp only [go_sem, hashC, H8.ls, F0]; (all_goals (rw [herr_no (fun h => absurd h.mx (by omega))])))
  | refine seq_k fun zN zM zhN zhM => ?_
  | (refine condT_k ?_ ?_; focus (first | rfl | (simp [go_sem, hashC, H8.ls, F0]; done)))
set_option maxHeartbeats 800000 in
set_option maxRecDepth 100000 in
theorem hchk_c5 (h0 h1 h2 h3 h4 h5 h6 h7 : UInt32) (held : List UInt8) (hh : held.length = 64) (k l : Nat) (e1 : k ≤ 64) (e2 : k ≤ l) (e3 : l ≤ 1073741824) (e4 : ¬ (l - k) % 64 = 0) :
 Ct Tryd.prog 52 [.w (.agg (hashC ⟨h0, h1, h2, h3, h4, h5, h6, h7⟩ held (k : Int) (l : Int)))] (fun v m => v = .w (.one (.pl (.i (hashErr held (k : Int) (l : Int)))))) := by
 have g1 : ¬ ((k : Nat) : Int) < 0 := by omega
 have g2 : ¬ (64 : Int) < ((k : Nat) : Int) := by omega
 have g3 : ¬ ((l : Nat) : Int) < ((k : Nat) : Int) := by omega
 have g4 : ¬ (1073741824 : Int) < ((l : Nat) : Int) := by omega
 have gs : Go.RowKit.wrap64 (((l : Nat) : Int) - ((k : Nat) : Int)) = ((l - k : Nat) : Int) := wnat (by omega) (by omega)
 have gm : (((l - k : Nat) : Int)).tmod 64 = (((l - k) % 64 : Nat) : Int) := rfl
 have h9 : (0 : Int) ≤ ((k : Nat) : Int) := by omega
 have h10 : ((k : Nat) : Int) ≤ 64 := by omega
 have g5 : ¬ (((l - k) % 64 : Nat) : Int) = 0 := by omega
 have F0 := And.intro hh <| And.intro g1 <| And.intro g2 <| And.intro g3 <| And.intro g4 <| And.intro gs <| And.intro gm <| And.intro h9 <| And.intro h10 <| g5
 refine Ct.k Tryd.func52 rfl Tryd.ntmps52 (congrArg Array.toList Tryd.results52) (by simp) fun w0 ro => ?_
 refine top_k fun zZ zhZ => ?_
 iterate 11 first
  | (refine sr_k fun zK zhK => ?_; simp only [go_sem, hashC, H8.ls, F0]; (repeat' (first | apply And.intro | intro _)))
  | refine zhK _ ?_
  | refine ret_k ?_
  | (refine zhM _ _ ?_; clear zhN zhM)
  | (refine zhZ _ _ ?_; simp only [go_sem, hashC, H8.ls, F0]; (all_goals (rw [herr_no (fun h => absurd h.md (by omega))])))
  | refine seq_k fun zN zM zhN zhM => ?_
  | (refine condT_k ?_ ?_; focus (first | rfl | (simp [go_sem, hashC, H8.ls, F0]; done)))
set_option maxHeartbeats 800000 in
set_option maxRecDepth 100000 in
theorem hchk_c6 (h0 h1 h2 h3 h4 h5 h6 h7 : UInt32) (held : List UInt8) (hh : held.length = 64) (k l : Nat) (e1 : k ≤ 64) (e2 : k ≤ l) (e3 : l ≤ 1073741824) (e4 : (l - k) % 64 = 0) (e5 : k = 0) (e6 : 0 < l) :
 Ct Tryd.prog 52 [.w (.agg (hashC ⟨h0, h1, h2, h3, h4, h5, h6, h7⟩ held (k : Int) (l : Int)))] (fun v m => v = .w (.one (.pl (.i (hashErr held (k : Int) (l : Int)))))) := by
 have g1 : ¬ ((k : Nat) : Int) < 0 := by omega
 have g2 : ¬ (64 : Int) < ((k : Nat) : Int) := by omega
 have g3 : ¬ ((l : Nat) : Int) < ((k : Nat) : Int) := by omega
 have g4 : ¬ (1073741824 : Int) < ((l : Nat) : Int) := by omega
 have gs : Go.RowKit.wrap64 (((l : Nat) : Int) - ((k : Nat) : Int)) = ((l - k : Nat) : Int) := wnat (by omega) (by omega)
 have gm : (((l - k : Nat) : Int)).tmod 64 = (((l - k) % 64 : Nat) : Int) := rfl
 have h9 : (0 : Int) ≤ ((k : Nat) : Int) := by omega
 have h10 : ((k : Nat) : Int) ≤ 64 := by omega
 have g5 : (((l - k) % 64 : Nat) : Int) = 0 := by omega
 have g6 : ((k : Nat) : Int) = 0 := by omega
 have g7 : (0 : Int) < ((l : Nat) : Int) := by omega
 have g8 := eq_true g6
 have F0 := And.intro hh <| And.intro g1 <| And.intro g2 <| And.intro g3 <| And.intro g4 <| And.intro gs <| And.intro gm <| And.intro h9 <| And.intro h10 <| And.intro g5 <| And.intro g8 <| g7
 refine Ct.k Tryd.func52 rfl Tryd.ntmps52 (congrArg Array.toList Tryd.results52) (by simp) fun w0 ro => ?_
 refine top_k fun zZ zhZ => ?_
 iterate 11 first
  | (refine sr_k fun zK zhK => ?_; simp only [go_sem, hashC, H8.ls, F0]; (repeat' (first | apply And.intro | intro _)))
  | refine zhK _ ?_
  | refine ret_k ?_
  | (refine zhM _ _ ?_; clear zhN zhM)
  | (refine zhZ _ _ ?_; simp only [go_sem, hashC, H8.ls, F0]; (all_goals (rw [herr_no (fun h => absurd (h.nz g6) (by omega))])))
  | refine seq_k fun zN zM zhN zhM => ?_
  | (refine condT_k ?_ ?_; focus (first | rfl | (simp [go_sem, hashC, H8.ls, F0]; done)))
set_option maxHeartbeats 1600000 in
set_option maxRecDepth 100000 in
theorem hchk_ok1 (h0 h1 h2 h3 h4 h5 h6 h7 : UInt32) (held : List UInt8) (hh : held.length = 64) (k l : Nat) (e1 : k ≤ 64) (e2 : k ≤ l) (e3 : l ≤ 1073741824) (e4 : (l - k) % 64 = 0) (e5 : ¬ k = 0) :
 Ct Tryd.prog 52 [.w (.agg (hashC ⟨h0, h1, h2, h3, h4, h5, h6, h7⟩ held (k : Int) (l : Int)))] (fun v m => v = .w (.one (.pl (.i (hashErr held (k : Int) (l : Int)))))) := by
 have g1 : ¬ ((k : Nat) : Int) < 0 := by omega
 have g2 : ¬ (64 : Int) < ((k : Nat) : Int) := by omega
 have g3 : ¬ ((l : Nat) : Int) < ((k : Nat) : Int) := by omega
 have g4 : ¬ (1073741824 : Int) < ((l : Nat) : Int) := by omega
 have gs : Go.RowKit.wrap64 (((l : Nat) : Int) - ((k : Nat) : Int)) = ((l - k : Nat) : Int) := wnat (by omega) (by omega)
 have gm : (((l - k : Nat) : Int)).tmod 64 = (((l - k) % 64 : Nat) : Int) := rfl
 have h9 : (0 : Int) ≤ ((k : Nat) : Int) := by omega
 have h10 : ((k : Nat) : Int) ≤ 64 := by omega
 have g5 : (((l - k) % 64 : Nat) : Int) = 0 := by omega
 have g6 : ¬ ((k : Nat) : Int) = 0 := by omega
 have F0 := And.intro hh <| And.intro g1 <| And.intro g2 <| And.intro g3 <| And.intro g4 <| And.intro gs <| And.intro gm <| And.intro h9 <| And.intro h10 <| And.intro g5 <| g6
 refine Ct.k Tryd.func52 rfl Tryd.ntmps52 (congrArg Array.toList Tryd.results52) (by simp) fun w0 ro => ?_
 refine top_k fun zZ zhZ => ?_
 iterate 12 first
  | (refine sr_k fun zK zhK => ?_; simp only [go_sem, hashC, H8.ls, F0]; (repeat' (first | apply And.intro | intro _)))
  | refine zhK _ ?_
  | refine skip_k ?_
  | (refine zhN _ ?_; clear zhN zhM)
  | refine block_k fun zB zbn zbx zbr zbi => ?_
  | refine seq_k fun zN zM zhN zhM => ?_
  | (refine condF_k ?_ ?_; focus (first | rfl | (simp [go_sem, hashC, H8.ls, F0]; done)))
 refine ht_dropE [0, 1, 5, 6, 7, 8, 9, 10, 11, 12, 13, 14, 15, 16, 17, 18, 19, 20, 21, 22, 23, 24, 25, 26, 27, 28, 29, 30, 31, 32, 33, 34, 35, 36, 37, 38, 39, 40, 41, 42, 43, 44, 45, 46] ?_
 simp only [dropE_mk, fgt_nil, fgt_cons, List.contains_cons, List.contains_nil, Nat.reduceBEq, beq_self_eq_true, Bool.or_false, Bool.or_true, Bool.true_or, Bool.false_or, Bool.false_eq_true, reduceIte]
 refine loop_k (fun y => [(49, .w (.one (.pl (.i ((y.1 : Nat) : Int)))))]) (fun _ => []) (fun y => 64 - y.1) (⟨0, Nat.zero_le _, fun j hj => absurd hj (Nat.not_lt_zero j)⟩ : {y : Nat // y ≤ 64 - k ∧ ∀ j, j < y → held.getD (k + j) 0 = 0}) ?_ ?_ ?_
 · (simp only [go_sem, leX, List.cons_append, List.nil_append]; try simp)
 · (simp only [go_sem, leX, List.cons_append, List.nil_append]; try simp)
 intro yy zN zM zhN zhM
 simp only [List.cons_append, List.nil_append]
 obtain ⟨i, hi, hz⟩ := yy
 have hd : (i < 64 - k ∧ ¬ held.getD (k + i) 0 = 0) ∨ (i < 64 - k ∧ held.getD (k + i) 0 = 0) ∨ i = 64 - k := by
  by_cases h : i = 64 - k
  · exact .inr (.inr h)
  · have : i < 64 - k := by omega
    by_cases h2 : held.getD (k + i) 0 = 0
    · exact .inr (.inl ⟨this, h2⟩)
    · exact .inl ⟨this, h2⟩
 rcases hd with ⟨hlt, hb⟩ | ⟨hlt, hb⟩ | rfl
 · have hcq : ((i : Nat) : Int) < ((64 - k : Nat) : Int) := by omega
   have hc0 : (0 : Int) ≤ ((i : Nat) : Int) := by omega
   have hk1 : k + i < held.length := by omega
   have hk2 : k + (64 - k) ≤ 64 := by omega
   have hk3 : i + 1 ≤ 64 - k := by omega
   have hk4 := one_at (m := 64 - k) hk1 (by omega)
   have hbq : (held.getD (k + i) 0 = 0) = False := eq_false hb
   have F7 := And.intro hcq <| And.intro hc0 <| And.intro hk2 <| And.intro hk3 <| And.intro hk4 <| hbq
   iterate 22 first
    | (refine sr_k fun zK zhK => ?_; simp only [go_sem, hashC, H8.ls, F0, bytesC_1, F7]; (repeat' (first | apply And.intro | intro _)))
    | refine zhK _ ?_
    | (refine zhM _ _ ?_; clear zhN zhM)
    | (refine zbr _ ?_; clear zbn zbx zbr zbi)
    | refine skip_k ?_
    | (refine zhN _ ?_; clear zhN zhM)
    | refine block_k fun zB zbn zbx zbr zbi => ?_
    | refine ret_k ?_
    | (refine zhZ _ _ ?_; simp only [go_sem, hashC, H8.ls, F0, bytesC_1, F7]; (all_goals (rw [herr_no (fun h => hb (h.rest (k + i) (by simp) (by omega)))])))
    | refine seq_k fun zN zM zhN zhM => ?_
    | (refine condT_k ?_ ?_; focus (first | rfl | (simp [go_sem, hashC, H8.ls, F0, bytesC_1, F7]; done)))
 · have hcq : ((i : Nat) : Int) < ((64 - k : Nat) : Int) := by omega
   have hc0 : (0 : Int) ≤ ((i : Nat) : Int) := by omega
   have hk1 : k + i < held.length := by omega
   have hk2 : k + (64 - k) ≤ 64 := by omega
   have hk3 : i + 1 ≤ 64 - k := by omega
   have hk4 := one_at (m := 64 - k) hk1 (by omega)
   have hbq : (held.getD (k + i) 0 = 0) = True := eq_true hb
   have hs1 : Go.RowKit.wrap64 (((i : Nat) : Int) + 1) = ((i + 1 : Nat) : Int) := wnat (by omega) (by omega)
   have F14 := And.intro hcq <| And.intro hc0 <| And.intro hk2 <| And.intro hk3 <| And.intro hk4 <| And.intro hbq <| hs1
   iterate 18 first
    | refine zhK _ ?_
    | (refine sr_k fun zK zhK => ?_; simp only [go_sem, hashC, H8.ls, F0, bytesC_1, F14]; (repeat' (first | apply And.intro | intro _)))
    | refine skip_k ?_
    | (refine zhN _ ?_; clear zhN zhM)
    | refine block_k fun zB zbn zbx zbr zbi => ?_
    | (refine zbn _ ?_; clear zbn zbx zbr zbi)
    | (refine region_k fun zK zhK => ?_; simp only [go_sem, hashC, H8.ls, F0, bytesC_1, F14]; (repeat' (first | apply And.intro | intro _)))
    | refine seq_k fun zN zM zhN zhM => ?_
    | (refine condT_k ?_ ?_; focus (first | rfl | (simp [go_sem, hashC, H8.ls, F0, bytesC_1, F14]; done)))
    | (refine condF_k ?_ ?_; focus (first | rfl | (simp [go_sem, hashC, H8.ls, F0, bytesC_1, F14]; done)))
   refine zhN ⟨i + 1, by omega, fun j hj => by rcases Nat.lt_succ_iff_lt_or_eq.mp hj with h | rfl; exact hz j h; exact hb⟩ _ ?_ ?_ ?_
   · (show 64 - (i + 1) < 64 - i; clear hs1; omega)
   · (simp only [go_sem, leX, List.cons_append, List.nil_append]; try simp)
   · (simp only [go_sem, leX, List.cons_append, List.nil_append]; try simp)
 · have hcq : ¬ ((64 - k : Nat) : Int) < ((64 - k : Nat) : Int) := by omega
   refine sr_k fun zK zhK => ?_
   simp only [go_sem, hashC, H8.ls, F0, hcq]
   repeat' (first | apply And.intro | intro _)
   refine zhK _ ?_
   refine seq_k fun zN zM zhN zhM => ?_
   (refine condF_k ?_ ?_; focus (first | rfl | (simp [go_sem, hashC, H8.ls, F0, hcq]; done)))
   refine exit_k ?_
   refine zhM _ _ ?_; clear zhN zhM
   refine zhM _ _ ?_; clear zhN zhM
   refine zbx _ ?_; clear zbn zbx zbr zbi
   refine zhN _ ?_; clear zhN zhM
   refine sr_k fun zK zhK => ?_
   simp only [go_sem, hashC, H8.ls, F0, hcq]
   repeat' (first | apply And.intro | intro _)
   refine zhK _ ?_
   refine ret_k ?_
   refine zhZ _ _ ?_
   simp only [go_sem, hashC, H8.ls, F0, hcq]
   all_goals (rw [herr_ok ⟨by omega, by omega, by omega, by omega, by omega, by omega, fun j hj hl => by have := hz (j - k) (by simp at hj; omega); rwa [show k + (j - k) = j from by simp at hj; omega] at this⟩])
set_option maxHeartbeats 1600000 in
set_option maxRecDepth 100000 in
theorem hchk_ok2 (h0 h1 h2 h3 h4 h5 h6 h7 : UInt32) (held : List UInt8) (hh : held.length = 64) (k l : Nat) (e1 : k ≤ 64) (e2 : k ≤ l) (e3 : l ≤ 1073741824) (e4 : (l - k) % 64 = 0) (e5 : k = 0) (e6 : l = 0) :
 Ct Tryd.prog 52 [.w (.agg (hashC ⟨h0, h1, h2, h3, h4, h5, h6, h7⟩ held (k : Int) (l : Int)))] (fun v m => v = .w (.one (.pl (.i (hashErr held (k : Int) (l : Int)))))) := by
 have g1 : ¬ ((k : Nat) : Int) < 0 := by omega
 have g2 : ¬ (64 : Int) < ((k : Nat) : Int) := by omega
 have g3 : ¬ ((l : Nat) : Int) < ((k : Nat) : Int) := by omega
 have g4 : ¬ (1073741824 : Int) < ((l : Nat) : Int) := by omega
 have gs : Go.RowKit.wrap64 (((l : Nat) : Int) - ((k : Nat) : Int)) = ((l - k : Nat) : Int) := wnat (by omega) (by omega)
 have gm : (((l - k : Nat) : Int)).tmod 64 = (((l - k) % 64 : Nat) : Int) := rfl
 have h9 : (0 : Int) ≤ ((k : Nat) : Int) := by omega
 have h10 : ((k : Nat) : Int) ≤ 64 := by omega
 have g5 : (((l - k) % 64 : Nat) : Int) = 0 := by omega
 have g6 : ((k : Nat) : Int) = 0 := by omega
 have g7 : ¬ (0 : Int) < ((l : Nat) : Int) := by omega
 have g8 := eq_true g6
 have F0 := And.intro hh <| And.intro g1 <| And.intro g2 <| And.intro g3 <| And.intro g4 <| And.intro gs <| And.intro gm <| And.intro h9 <| And.intro h10 <| And.intro g5 <| And.intro g8 <| g7
 refine Ct.k Tryd.func52 rfl Tryd.ntmps52 (congrArg Array.toList Tryd.results52) (by simp) fun w0 ro => ?_
 refine top_k fun zZ zhZ => ?_
 iterate 12 first
  | (refine sr_k fun zK zhK => ?_; simp only [go_sem, hashC, H8.ls, F0]; (repeat' (first | apply And.intro | intro _)))
  | refine zhK _ ?_
  | refine skip_k ?_
  | (refine zhN _ ?_; clear zhN zhM)
  | refine block_k fun zB zbn zbx zbr zbi => ?_
  | refine seq_k fun zN zM zhN zhM => ?_
  | (refine condF_k ?_ ?_; focus (first | rfl | (simp [go_sem, hashC, H8.ls, F0]; done)))
 refine ht_dropE [0, 1, 5, 6, 7, 8, 9, 10, 11, 12, 13, 14, 15, 16, 17, 18, 19, 20, 21, 22, 23, 24, 25, 26, 27, 28, 29, 30, 31, 32, 33, 34, 35, 36, 37, 38, 39, 40, 41, 42, 43, 44, 45, 46] ?_
 simp only [dropE_mk, fgt_nil, fgt_cons, List.contains_cons, List.contains_nil, Nat.reduceBEq, beq_self_eq_true, Bool.or_false, Bool.or_true, Bool.true_or, Bool.false_or, Bool.false_eq_true, reduceIte]
 refine loop_k (fun y => [(49, .w (.one (.pl (.i ((y.1 : Nat) : Int)))))]) (fun _ => []) (fun y => 64 - y.1) (⟨0, Nat.zero_le _, fun j hj => absurd hj (Nat.not_lt_zero j)⟩ : {y : Nat // y ≤ 64 - k ∧ ∀ j, j < y → held.getD (k + j) 0 = 0}) ?_ ?_ ?_
 · (simp only [go_sem, leX, List.cons_append, List.nil_append]; try simp)
 · (simp only [go_sem, leX, List.cons_append, List.nil_append]; try simp)
 intro yy zN zM zhN zhM
 simp only [List.cons_append, List.nil_append]
 obtain ⟨i, hi, hz⟩ := yy
 have hd : (i < 64 - k ∧ ¬ held.getD (k + i) 0 = 0) ∨ (i < 64 - k ∧ held.getD (k + i) 0 = 0) ∨ i = 64 - k := by
  by_cases h : i = 64 - k
  · exact .inr (.inr h)
  · have : i < 64 - k := by omega
    by_cases h2 : held.getD (k + i) 0 = 0
    · exact .inr (.inl ⟨this, h2⟩)
    · exact .inl ⟨this, h2⟩
 rcases hd with ⟨hlt, hb⟩ | ⟨hlt, hb⟩ | rfl
 · have hcq : ((i : Nat) : Int) < ((64 - k : Nat) : Int) := by omega
   have hc0 : (0 : Int) ≤ ((i : Nat) : Int) := by omega
   have hk1 : k + i < held.length := by omega
   have hk2 : k + (64 - k) ≤ 64 := by omega
   have hk3 : i + 1 ≤ 64 - k := by omega
   have hk4 := one_at (m := 64 - k) hk1 (by omega)
   have hbq : (held.getD (k + i) 0 = 0) = False := eq_false hb
   have F7 := And.intro hcq <| And.intro hc0 <| And.intro hk2 <| And.intro hk3 <| And.intro hk4 <| hbq
   iterate 22 first
    | (refine sr_k fun zK zhK => ?_; simp only [go_sem, hashC, H8.ls, F0, bytesC_1, F7]; (repeat' (first | apply And.intro | intro _)))
    | refine zhK _ ?_
    | (refine zhM _ _ ?_; clear zhN zhM)
    | (refine zbr _ ?_; clear zbn zbx zbr zbi)
    | refine skip_k ?_
    | (refine zhN _ ?_; clear zhN zhM)
    | refine block_k fun zB zbn zbx zbr zbi => ?_
    | refine ret_k ?_
    | (refine zhZ _ _ ?_; simp only [go_sem, hashC, H8.ls, F0, bytesC_1, F7]; (all_goals (rw [herr_no (fun h => hb (h.rest (k + i) (by simp) (by omega)))])))
    | refine seq_k fun zN zM zhN zhM => ?_
    | (refine condT_k ?_ ?_; focus (first | rfl | (simp [go_sem, hashC, H8.ls, F0, bytesC_1, F7]; done)))
 · have hcq : ((i : Nat) : Int) < ((64 - k : Nat) : Int) := by omega
   have hc0 : (0 : Int) ≤ ((i : Nat) : Int) := by omega
   have hk1 : k + i < held.length := by omega
   have hk2 : k + (64 - k) ≤ 64 := by omega
   have hk3 : i + 1 ≤ 64 - k := by omega
   have hk4 := one_at (m := 64 - k) hk1 (by omega)
   have hbq : (held.getD (k + i) 0 = 0) = True := eq_true hb
   have hs1 : Go.RowKit.wrap64 (((i : Nat) : Int) + 1) = ((i + 1 : Nat) : Int) := wnat (by omega) (by omega)
   have F14 := And.intro hcq <| And.intro hc0 <| And.intro hk2 <| And.intro hk3 <| And.intro hk4 <| And.intro hbq <| hs1
   iterate 18 first
    | refine zhK _ ?_
    | (refine sr_k fun zK zhK => ?_; simp only [go_sem, hashC, H8.ls, F0, bytesC_1, F14]; (repeat' (first | apply And.intro | intro _)))
    | refine skip_k ?_
    | (refine zhN _ ?_; clear zhN zhM)
    | refine block_k fun zB zbn zbx zbr zbi => ?_
    | (refine zbn _ ?_; clear zbn zbx zbr zbi)
    | (refine region_k fun zK zhK => ?_; simp only [go_sem, hashC, H8.ls, F0, bytesC_1, F14]; (repeat' (first | apply And.intro | intro _)))
    | refine seq_k fun zN zM zhN zhM => ?_
    | (refine condT_k ?_ ?_; focus (first | rfl | (simp [go_sem, hashC, H8.ls, F0, bytesC_1, F14]; done)))
    | (refine condF_k ?_ ?_; focus (first | rfl | (simp [go_sem, hashC, H8.ls, F0, bytesC_1, F14]; done)))
   refine zhN ⟨i + 1, by omega, fun j hj => by rcases Nat.lt_succ_iff_lt_or_eq.mp hj with h | rfl; exact hz j h; exact hb⟩ _ ?_ ?_ ?_
   · (show 64 - (i + 1) < 64 - i; clear hs1; omega)
   · (simp only [go_sem, leX, List.cons_append, List.nil_append]; try simp)
   · (simp only [go_sem, leX, List.cons_append, List.nil_append]; try simp)
 · have hcq : ¬ ((64 - k : Nat) : Int) < ((64 - k : Nat) : Int) := by omega
   refine sr_k fun zK zhK => ?_
   simp only [go_sem, hashC, H8.ls, F0, hcq]
   repeat' (first | apply And.intro | intro _)
   refine zhK _ ?_
   refine seq_k fun zN zM zhN zhM => ?_
   (refine condF_k ?_ ?_; focus (first | rfl | (simp [go_sem, hashC, H8.ls, F0, hcq]; done)))
   refine exit_k ?_
   refine zhM _ _ ?_; clear zhN zhM
   refine zhM _ _ ?_; clear zhN zhM
   refine zbx _ ?_; clear zbn zbx zbr zbi
   refine zhN _ ?_; clear zhN zhM
   refine sr_k fun zK zhK => ?_
   simp only [go_sem, hashC, H8.ls, F0, hcq]
   repeat' (first | apply And.intro | intro _)
   refine zhK _ ?_
   refine ret_k ?_
   refine zhZ _ _ ?_
   simp only [go_sem, hashC, H8.ls, F0, hcq]
   all_goals (rw [herr_ok ⟨by omega, by omega, by omega, by omega, by omega, by omega, fun j hj hl => by have := hz (j - k) (by simp at hj; omega); rwa [show k + (j - k) = j from by simp at hj; omega] at this⟩])
theorem hash_check (h0 h1 h2 h3 h4 h5 h6 h7 : UInt32) (held : List UInt8) (hh : held.length = 64) (n len : Int) : Ct Tryd.prog 52 [.w (.agg (hashC ⟨h0, h1, h2, h3, h4, h5, h6, h7⟩ held n len))] (fun v m => v = .w (.one (.pl (.i (hashErr held n len))))) := by
 by_cases g1 : n < 0
 · exact hchk_c1 h0 h1 h2 h3 h4 h5 h6 h7 held hh n len g1
 by_cases g2 : 64 < n
 · exact hchk_c2 h0 h1 h2 h3 h4 h5 h6 h7 held hh n len g1 g2
 by_cases g3 : len < n
 · exact hchk_c3 h0 h1 h2 h3 h4 h5 h6 h7 held hh n len g1 g2 g3
 by_cases g4 : 1073741824 < len
 · exact hchk_c4 h0 h1 h2 h3 h4 h5 h6 h7 held hh n len g1 g2 g3 g4
 obtain ⟨k, rfl⟩ : ∃ k : Nat, n = (k : Int) := ⟨n.toNat, by omega⟩
 obtain ⟨l, rfl⟩ : ∃ l : Nat, len = (l : Int) := ⟨len.toNat, by omega⟩
 have e1 : k ≤ 64 := by omega
 have e2 : k ≤ l := by omega
 have e3 : l ≤ 1073741824 := by omega
 by_cases e4 : (l - k) % 64 = 0
 · by_cases e5 : k = 0
   · by_cases e6 : 0 < l
     · exact hchk_c6 h0 h1 h2 h3 h4 h5 h6 h7 held hh k l e1 e2 e3 e4 e5 e6
     · exact hchk_ok2 h0 h1 h2 h3 h4 h5 h6 h7 held hh k l e1 e2 e3 e4 e5 (by omega)
   · exact hchk_ok1 h0 h1 h2 h3 h4 h5 h6 h7 held hh k l e1 e2 e3 e4 e5
 · exact hchk_c5 h0 h1 h2 h3 h4 h5 h6 h7 held hh k l e1 e2 e3 e4
end Bk
end Go.Sy
