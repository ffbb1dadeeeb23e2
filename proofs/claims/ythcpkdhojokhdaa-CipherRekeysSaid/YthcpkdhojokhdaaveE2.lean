/- Walks: numbers read off bytes, bytes of a number, five parts. -/
import Derived.Test.YthcpkdhojokhdaaveT
import Derived.Test.YthcpkdhojokhdaavP3
set_option linter.unusedVariables false
set_option linter.unusedSimpArgs false
namespace Go.Sy
open Go.Proofs
attribute [local irreducible] atCall HT runOps runD onC onE onO onG goV goA goS onSt onGuard
theorem t64_2 : UInt64.toNat 2 = 2 := rfl
theorem t64_4 : UInt64.toNat 4 = 4 := rfl
theorem t64_5 : UInt64.toNat 5 = 5 := rfl
theorem t64_7 : UInt64.toNat 7 = 7 := rfl
theorem t64_8 : UInt64.toNat 8 = 8 := rfl
theorem t64_12 : UInt64.toNat 12 = 12 := rfl
theorem t64_14 : UInt64.toNat 14 = 14 := rfl
theorem t64_15 : UInt64.toNat 15 = 15 := rfl
theorem t64_16 : UInt64.toNat 16 = 16 := rfl
theorem t64_24 : UInt64.toNat 24 = 24 := rfl
theorem t64_26 : UInt64.toNat 26 = 26 := rfl
theorem t64_32 : UInt64.toNat 32 = 32 := rfl
theorem t64_40 : UInt64.toNat 40 = 40 := rfl
theorem t64_52 : UInt64.toNat 52 = 52 := rfl
theorem t64_62 : UInt64.toNat 62 = 62 := rfl
attribute [go_sem] t64_2 t64_4 t64_5 t64_7 t64_8 t64_12 t64_14 t64_15 t64_16 t64_24 t64_26 t64_32 t64_40 t64_52 t64_62
theorem drop_cons {l : List UInt8} {j : Nat} (h : j < l.length) : l.drop j = l.getD j 0 :: l.drop (j + 1) := by
 rw [List.drop_eq_getElem_cons h]; congr 1; simp [List.getD, List.getElem?_eq_getElem h]
theorem wnat {a : Int} {n : Nat} (h : a = (n : Int)) (hn : n ≤ 9223372036854775807) : Go.RowKit.wrap64 a = (n : Int) := by subst h; exact w64 (by omega)
set_option maxHeartbeats 400000 in
theorem half_ (l : List UInt8) (hl : l.length = 8) (ex : Bool) :
 Ct Try.prog 38 [.w (.one (.pl (.R ex 1 (byteRows l))))] (fun v m => v = .w (.one (.pl (.u64 (lev l))))) := by
 have hd0 : l.drop 8 = [] := by rw [← hl]; exact List.drop_length
 refine Ct.k Try.func38 rfl Try.ntmps38 (congrArg Array.toList Try.results38) (by simp) fun w0 ro => ?_
 refine top_k fun zZ zhZ => ?_
 iterate 8 first
  | (refine sr_k fun zK zhK => ?_; simp only [go_sem]; (repeat' (first | apply And.intro | intro _)))
  | refine zhK _ ?_
  | refine block_k fun zB zbn zbx zbr zbi => ?_
  | refine seq_k fun zN zM zhN zhM => ?_
 refine loop_k (fun y => [(3, .w (.one (.pl (.u64 (lev (l.drop y.1)))))), (4, .w (.one (.pl (.i (((y.1 : Nat) : Int) - 1)))))]) (fun _ => []) (fun y => y.1) (⟨l.length, Nat.le_refl _⟩ : {y : Nat // y ≤ l.length}) ?_ ?_ ?_
 · (simp only [go_sem, hl, List.drop_length, leX, List.cons_append, List.nil_append]; first | rfl | simp [lev, leN])
 · (simp only [go_sem, leX, List.cons_append, List.nil_append]; try simp)
 intro yy zN zM zhN zhM
 simp only [List.cons_append, List.nil_append]
 obtain ⟨j, hj⟩ := yy
 rcases j with _ | j
 · have hc : ¬ (0 : Int) ≤ ((0 : Nat) : Int) - 1 := by omega
   iterate 13 first
    | (refine sr_k fun zK zhK => ?_; simp only [go_sem, hc]; (repeat' (first | apply And.intro | intro _)))
    | refine zhK _ ?_
    | (refine zhM _ _ ?_; clear zhN zhM)
    | refine exit_k ?_
    | (refine zbx _ ?_; clear zbn zbx zbr zbi)
    | (refine zhN _ ?_; clear zhN zhM)
    | refine ret_k ?_
    | (refine zhZ _ _ ?_; simp only [go_sem, hc]; (all_goals (simp only [List.drop_zero])))
    | refine seq_k fun zN zM zhN zhM => ?_
    | (refine condF_k ?_ ?_; focus (first | rfl | (simp [go_sem, hc]; done)))
 · have hlt : j < l.length := by omega
   have hd := drop_cons hlt
   have hc : (0 : Int) ≤ ((j + 1 : Nat) : Int) - 1 := by omega
   have hij : ((j + 1 : Nat) : Int) - 1 = ((j : Nat) : Int) := by omega
   have hc1 : (0 : Int) ≤ ((j : Nat) : Int) := by omega
   have hc2 : ((j : Nat) : Int) < ((l.length : Nat) : Int) := by omega
   have hg0 := byteRows_get hlt
   have hw : Go.RowKit.wrap64 (((j : Nat) : Int) - 1) = ((j : Nat) : Int) - 1 := w64 (by omega)
   have hle : lev (l.drop j) = shl64 (lev (l.drop (j + 1))) 8 ||| UInt64.ofNat (l.getD j 0).toNat := by rw [hd]; exact (lev_shl (r := l.drop (j + 1)) _ (by rw [List.length_drop]; omega)).symm
   have F9 := And.intro hc <| And.intro hij <| And.intro hc1 <| And.intro hc2 <| And.intro hg0 <| hw
   iterate 14 first
    | refine zhK _ ?_
    | (refine zhN _ ?_; clear zhN zhM)
    | (refine region_k fun zK zhK => ?_; simp only [go_sem, F9]; (repeat' (first | apply And.intro | intro _)))
    | (refine sr_k fun zK zhK => ?_; simp only [go_sem, F9]; (repeat' (first | apply And.intro | intro _)))
    | refine skip_k ?_
    | refine block_k fun zB zbn zbx zbr zbi => ?_
    | (refine zbn _ ?_; clear zbn zbx zbr zbi)
    | refine seq_k fun zN zM zhN zhM => ?_
    | (refine condT_k ?_ ?_; focus (first | rfl | (simp [go_sem, F9]; done)))
   refine zhN ⟨j, by omega⟩ _ ?_ ?_ ?_
   · (show j < j + 1; omega)
   · (rw [hle]; simp only [go_sem, leX, List.cons_append, List.nil_append]; try simp)
   · (simp only [go_sem, leX, List.cons_append, List.nil_append]; try simp)
set_option maxHeartbeats 400000 in
theorem number_ (l : List UInt8) (hl : l.length ≤ 4096) :
 Ct Try.prog 39 [.w (.one (.pl (.str l)))] (fun v m => v = .w (.one (.pl (.u64 (lev l))))) := by
 have hw0 : Go.RowKit.wrap64 (((l.length : Nat) : Int) - 1) = ((l.length : Nat) : Int) - 1 := w64 (by omega)
 refine Ct.k Try.func39 rfl Try.ntmps39 (congrArg Array.toList Try.results39) (by simp) fun w0 ro => ?_
 refine top_k fun zZ zhZ => ?_
 iterate 8 first
  | (refine sr_k fun zK zhK => ?_; simp only [go_sem, hw0]; (repeat' (first | apply And.intro | intro _)))
  | refine zhK _ ?_
  | refine block_k fun zB zbn zbx zbr zbi => ?_
  | refine seq_k fun zN zM zhN zhM => ?_
 refine ht_dropE [5, 6, 7] ?_
 simp only [dropE_mk, fgt_nil, fgt_cons, List.contains_cons, List.contains_nil, Nat.reduceBEq, beq_self_eq_true, Bool.or_false, Bool.or_true, Bool.true_or, Bool.false_or, Bool.false_eq_true, reduceIte]
 refine loop_k (fun y => [(3, .w (.one (.pl (.u64 (lev (l.drop y.1)))))), (4, .w (.one (.pl (.i (((y.1 : Nat) : Int) - 1)))))]) (fun _ => []) (fun y => y.1) (⟨l.length, Nat.le_refl _⟩ : {y : Nat // y ≤ l.length}) ?_ ?_ ?_
 · (simp only [go_sem, hl, List.drop_length, leX, List.cons_append, List.nil_append]; first | rfl | simp [lev, leN])
 · (simp only [go_sem, leX, List.cons_append, List.nil_append]; try simp)
 intro yy zN zM zhN zhM
 simp only [List.cons_append, List.nil_append]
 obtain ⟨j, hj⟩ := yy
 rcases j with _ | j
 · have hc : ¬ (0 : Int) ≤ ((0 : Nat) : Int) - 1 := by omega
   iterate 13 first
    | (refine sr_k fun zK zhK => ?_; simp only [go_sem, hw0, hc]; (repeat' (first | apply And.intro | intro _)))
    | refine zhK _ ?_
    | (refine zhM _ _ ?_; clear zhN zhM)
    | refine exit_k ?_
    | (refine zbx _ ?_; clear zbn zbx zbr zbi)
    | (refine zhN _ ?_; clear zhN zhM)
    | refine ret_k ?_
    | (refine zhZ _ _ ?_; simp only [go_sem, hw0, hc]; (all_goals (simp only [List.drop_zero])))
    | refine seq_k fun zN zM zhN zhM => ?_
    | (refine condF_k ?_ ?_; focus (first | rfl | (simp [go_sem, hw0, hc]; done)))
 · have hlt : j < l.length := by omega
   have hd := drop_cons hlt
   have hc : (0 : Int) ≤ ((j + 1 : Nat) : Int) - 1 := by omega
   have hij : ((j + 1 : Nat) : Int) - 1 = ((j : Nat) : Int) := by omega
   have hc1 : (0 : Int) ≤ ((j : Nat) : Int) := by omega
   have hc2 : ((j : Nat) : Int) < ((l.length : Nat) : Int) := by omega
   have hg0 := byteRows_get hlt
   have hw : Go.RowKit.wrap64 (((j : Nat) : Int) - 1) = ((j : Nat) : Int) - 1 := w64 (by omega)
   have hle : lev (l.drop j) = lev (l.drop (j + 1)) * 256 + UInt64.ofNat (l.getD j 0).toNat := by rw [hd]; exact (lev_mul (l.drop (j + 1)) _).symm
   have F9 := And.intro hc <| And.intro hij <| And.intro hc1 <| And.intro hc2 <| And.intro hg0 <| hw
   iterate 14 first
    | refine zhK _ ?_
    | (refine zhN _ ?_; clear zhN zhM)
    | (refine region_k fun zK zhK => ?_; simp only [go_sem, hw0, F9]; (repeat' (first | apply And.intro | intro _)))
    | (refine sr_k fun zK zhK => ?_; simp only [go_sem, hw0, F9]; (repeat' (first | apply And.intro | intro _)))
    | refine skip_k ?_
    | refine block_k fun zB zbn zbx zbr zbi => ?_
    | (refine zbn _ ?_; clear zbn zbx zbr zbi)
    | refine seq_k fun zN zM zhN zhM => ?_
    | (refine condT_k ?_ ?_; focus (first | rfl | (simp [go_sem, hw0, F9]; done)))
   refine zhN ⟨j, by omega⟩ _ ?_ ?_ ?_
   · (show j < j + 1; omega)
   · (rw [hle]; simp only [go_sem, leX, List.cons_append, List.nil_append]; try simp)
   · (simp only [go_sem, leX, List.cons_append, List.nil_append]; try simp)
set_option maxHeartbeats 800000 in
theorem low_ (n : UInt64) (k : Nat) (hk : k ≤ 4096) :
 Ct Try.prog 40 [.w (.one (.pl (.u64 n))), .w (.one (.pl (.i (k : Int))))] (fun v m => v = .w (.one (.pl (.str (lowB n k))))) := by
 refine Ct.k Try.func40 rfl Try.ntmps40 (congrArg Array.toList Try.results40) (by simp) fun w0 ro => ?_
 refine top_k fun zZ zhZ => ?_
 iterate 8 first
  | (refine sr_k fun zK zhK => ?_; simp only [go_sem]; (repeat' (first | apply And.intro | intro _)))
  | refine zhK _ ?_
  | refine block_k fun zB zbn zbx zbr zbi => ?_
  | refine seq_k fun zN zM zhN zhM => ?_
 refine ht_dropE [1] ?_
 simp only [dropE_mk, fgt_nil, fgt_cons, List.contains_cons, List.contains_nil, Nat.reduceBEq, beq_self_eq_true, Bool.or_false, Bool.or_true, Bool.true_or, Bool.false_or, Bool.false_eq_true, reduceIte]
 refine loop_k (fun y => [(0, .w (.one (.pl (.u64 y.1.2.2)))), (5, .w (.one (.pl (.str y.1.2.1)))), (7, .w (.one (.pl (.i ((y.1.1 : Nat) : Int)))))]) (fun _ => []) (fun y => k - y.1.1) (⟨(0, [], n), Nat.zero_le _, rfl, rfl⟩ : {y : Nat × List UInt8 × UInt64 // y.1 ≤ k ∧ y.2.1.length = y.1 ∧ y.2.1 ++ lowB y.2.2 (k - y.1) = lowB n k}) ?_ ?_ ?_
 · (simp only [go_sem, leX, List.cons_append, List.nil_append]; try simp)
 · (simp only [go_sem, leX, List.cons_append, List.nil_append]; try simp)
 intro yy zN zM zhN zhM
 simp only [List.cons_append, List.nil_append]
 obtain ⟨⟨i, s, x⟩, hi, hs, hx⟩ := yy
 rcases Nat.lt_or_ge i k with hlt | hge
 · simp only at hi hs hx
   have hc : ((i : Nat) : Int) < ((k : Nat) : Int) := by omega
   have hsl : s.length + 1 ≤ 9223372036854775807 := by omega
   have hz : ¬ (256 : UInt64) = 0 := by decide
   have hk1 : k - i = (k - (i + 1)) + 1 := by omega
   rw [hk1, lowB] at hx
   have hs1 : Go.RowKit.wrap64 (((i : Nat) : Int) + 1) = ((i + 1 : Nat) : Int) := wnat (by omega) (by omega)
   have F6 := And.intro hc <| And.intro hsl <| And.intro hz <| hs1
   iterate 16 first
    | refine zhK _ ?_
    | (refine sr_k fun zK zhK => ?_; simp only [go_sem, F6]; (repeat' (first | apply And.intro | intro _)))
    | (refine zhN _ ?_; clear zhN zhM)
    | (refine region_k fun zK zhK => ?_; simp only [go_sem, F6]; (repeat' (first | apply And.intro | intro _)))
    | refine skip_k ?_
    | refine block_k fun zB zbn zbx zbr zbi => ?_
    | (refine zbn _ ?_; clear zbn zbx zbr zbi)
    | refine seq_k fun zN zM zhN zhM => ?_
    | (refine condT_k ?_ ?_; focus (first | rfl | (simp [go_sem, F6]; done)))
   refine zhN ⟨(i + 1, s ++ [UInt8.ofNat x.toNat], x / 256), hlt, by simp [hs], by rw [← hx]; simp⟩ _ ?_ ?_ ?_
   · (clear hs1; show k - (i + 1) < k - i; omega)
   · (simp only [go_sem, leX, List.cons_append, List.nil_append]; try simp)
   · (simp only [go_sem, leX, List.cons_append, List.nil_append]; try simp)
 · simp only at hi hs hx
   have hik : i = k := by omega
   subst hik
   rw [Nat.sub_self, lowB, List.append_nil] at hx
   have hc : ¬ ((i : Nat) : Int) < ((i : Nat) : Int) := by omega
   iterate 13 first
    | (refine sr_k fun zK zhK => ?_; simp only [go_sem, hc]; (repeat' (first | apply And.intro | intro _)))
    | refine zhK _ ?_
    | (refine zhM _ _ ?_; clear zhN zhM)
    | refine exit_k ?_
    | (refine zbx _ ?_; clear zbn zbx zbr zbi)
    | (refine zhN _ ?_; clear zhN zhM)
    | refine ret_k ?_
    | (refine zhZ _ _ ?_; simp only [go_sem, hc]; (all_goals (rw [hx])))
    | refine seq_k fun zN zM zhN zhM => ?_
    | (refine condF_k ?_ ?_; focus (first | rfl | (simp [go_sem, hc]; done)))
end Go.Sy

