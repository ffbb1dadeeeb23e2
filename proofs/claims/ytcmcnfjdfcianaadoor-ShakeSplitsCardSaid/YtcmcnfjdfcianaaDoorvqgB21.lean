/- Bytes laid one behind another: the walk. -/
import Derived.Test.YtcmcnfjdfcianaaDoorvqgB3
set_option linter.unusedVariables false
set_option linter.unusedSimpArgs false
namespace Go.Sy
namespace Bk
open Go.Proofs
attribute [local irreducible] atCall HT runOps runD onC onE onO onG goV goA goS onSt onGuard
def nest (ls : List (Bool × List UInt8)) : List (List PL) := ls.map fun x => [PL.R x.1 1 (byteRows x.2)]
def flatB (ls : List (Bool × List UInt8)) : List UInt8 := ls.flatMap (·.2)
theorem nest_length (ls : List (Bool × List UInt8)) : (nest ls).length = ls.length := by simp [nest]
theorem nest_get {ls : List (Bool × List UInt8)} {i : Nat} (h : i < ls.length) : (nest ls).getD i [] = [PL.R (ls[i]).1 1 (byteRows (ls[i]).2)] := by
 simp [nest, List.getD, List.getElem?_eq_getElem h]
theorem flatB_snoc {ls : List (Bool × List UInt8)} {i : Nat} (h : i < ls.length) : flatB (ls.take (i + 1)) = flatB (ls.take i) ++ (ls[i]).2 := by
 rw [List.take_succ_eq_append_getElem h, flatB, List.flatMap_append]; simp [flatB]
theorem flatB_le {ls : List (Bool × List UInt8)} {i : Nat} : (flatB (ls.take i)).length ≤ (flatB ls).length := by
 conv => rhs; rw [← List.take_append_drop i ls]
 rw [flatB, flatB, List.flatMap_append, List.length_append]; omega
def cV (j : Nat) (l : List UInt8) : V := if l = [] then .w (.one (.pl (.R true 1 []))) else .w (.one (.s j [] l.length 1))
def cM (j : Nat) (l : List UInt8) : List (Nat × Ob) := if l = [] then [] else [(j, ⟨true, bytesC l⟩)]
theorem cV_nil (j : Nat) : cV j [] = .w (.one (.pl (.R true 1 []))) := if_pos rfl
theorem cM_nil (j : Nat) : cM j [] = [] := if_pos rfl
theorem cV_of (j : Nat) {l : List UInt8} (h : l ≠ []) : cV j l = .w (.one (.s j [] l.length 1)) := if_neg h
theorem cM_of (j : Nat) {l : List UInt8} (h : l ≠ []) : cM j l = [(j, ⟨true, bytesC l⟩)] := if_neg h
def ownB (l : List UInt8) (v : V) (m : List (Nat × Ob)) : Prop := v = .w (.one (.s 0 [] l.length 1)) ∧ m = [(0, ⟨true, bytesC l⟩)]
theorem own_told {m : List (Nat × Ob)} {j n : Nat} {l : List UInt8} (hn : n = l.length) (h : look m j = some ⟨true, bytesC l⟩) (hj : j < 500000 := by decide) : Told (ownB l) (.w (.one (.s j [] n 1))) m :=
 told_tidy ⟨only j, .w (.one (.s 0 [] l.length 1)), [(0, ⟨true, bytesC l⟩)], by rw [hn]; rfl, within_own h hj, rfl, rfl⟩
theorem len0 {l : List UInt8} (h : l ≠ []) : ¬ l.length = 0 := fun e => h (List.eq_nil_of_length_eq_zero e)
set_option maxHeartbeats 1600000 in
set_option maxRecDepth 100000 in
theorem cat_ (ls : List (Bool × List UInt8)) (ex : Bool) (hne : flatB ls ≠ []) (hl : (flatB ls).length ≤ 140737488355328) (hn : ls.length ≤ 4096) :
 CtM Tryd.prog 62 [.w (.one (.pl (.R ex 1 (nest ls))))] [] (Told (ownB (flatB ls))) := by
 refine CtM.k Tryd.func62 rfl Tryd.ntmps62 (congrArg Array.toList Tryd.results62) (by simp) fun w0 ro may fx => ?_
 refine top_k fun zZ zhZ => ?_
 iterate 8 first
  | (refine sr_k fun zK zhK => ?_; simp only [go_sem, nest_length]; (repeat' (first | apply And.intro | intro _)))
  | refine zhK _ ?_
  | refine block_k fun zB zbn zbx zbr zbi => ?_
  | refine seq_k fun zN zM zhN zhM => ?_
 refine ht_dropE [0] ?_
 simp only [dropE_mk, fgt_nil, fgt_cons, List.contains_cons, List.contains_nil, Nat.reduceBEq, beq_self_eq_true, Bool.or_false, Bool.or_true, Bool.true_or, Bool.false_or, Bool.false_eq_true, reduceIte]
 refine loop_k (fun y => [(3, cV 14 y.1.2), (8, .w (.one (.pl (.i ((y.1.1 : Nat) : Int)))))]) (fun y => cM 14 y.1.2) (fun y => ls.length - y.1.1) (⟨(0, []), Nat.zero_le _, rfl⟩ : {y : Nat × List UInt8 // y.1 ≤ ls.length ∧ y.2 = flatB (ls.take y.1)}) ?_ ?_ ?_
 · (simp only [cV_nil, cM_nil, go_sem, leX, List.cons_append, List.nil_append]; try simp)
 · (simp only [cV_nil, cM_nil, go_sem, leX, List.cons_append, List.nil_append]; try simp)
 intro yy zN zM zhN zhM
 simp only [List.cons_append, List.nil_append]
 obtain ⟨⟨i, q⟩, hi, hq⟩ := yy
 simp only at hi hq
 have hd : (∃ (h : i < ls.length), q = [] ∧ (ls[i]).2 = []) ∨ (∃ (h : i < ls.length), q = [] ∧ (ls[i]).2 ≠ []) ∨ (i < ls.length ∧ q ≠ []) ∨ i = ls.length := by
  by_cases e1 : i = ls.length
  · exact .inr (.inr (.inr e1))
  · have e3 : i < ls.length := by omega
    by_cases e2 : q = []
    · by_cases e4 : (ls[i]).2 = []
      · exact .inl ⟨e3, e2, e4⟩
      · exact .inr (.inl ⟨e3, e2, e4⟩)
    · exact .inr (.inr (.inl ⟨e3, e2⟩))
 rcases hd with ⟨hlt, rfl, hb0⟩ | ⟨hlt, rfl, hb0⟩ | ⟨hlt, hq0⟩ | rfl
 · have hcq : ((i : Nat) : Int) < ((ls.length : Nat) : Int) := by omega
   have hc0 : (0 : Int) ≤ ((i : Nat) : Int) := by omega
   have hg0 := nest_get hlt
   have hsn := flatB_snoc hlt
   have hle := flatB_le (ls := ls) (i := i + 1)
   obtain ⟨⟨ex1, b⟩, hb⟩ : ∃ x, ls[i] = x := ⟨_, rfl⟩
   rw [hb] at hg0 hsn
   simp only at hg0 hsn
   rw [hsn, List.length_append] at hle
   rw [← hq] at hsn hle
   rw [hb] at hb0
   simp only at hb0
   subst hb0
   simp only [cV_nil, cM_nil]
   have hs1 : Go.RowKit.wrap64 (((i : Nat) : Int) + 1) = ((i + 1 : Nat) : Int) := wnat (by omega) (by omega)
   have F6 := And.intro hcq <| And.intro hc0 <| And.intro hg0 <| hs1
   iterate 16 first
    | refine zhK _ ?_
    | (refine sr_k fun zK zhK => ?_; simp only [go_sem, nest_length, F6]; (repeat' (first | apply And.intro | intro _)))
    | (refine zhN _ ?_; clear zhN zhM)
    | (refine region_k fun zK zhK => ?_; simp only [go_sem, nest_length, F6]; (repeat' (first | apply And.intro | intro _)))
    | refine skip_k ?_
    | refine block_k fun zB zbn zbx zbr zbi => ?_
    | (refine zbn _ ?_; clear zbn zbx zbr zbi)
    | refine seq_k fun zN zM zhN zhM => ?_
    | (refine condT_k ?_ ?_; focus (first | rfl | (simp [go_sem, nest_length, F6]; done)))
   refine zhN ⟨(i + 1, []), hlt, by rw [hsn]; rfl⟩ _ ?_ ?_ ?_
   · (exact Nat.sub_lt_sub_left hlt (Nat.lt_succ_self i))
   · (simp only [cV_nil, List.length_append, go_sem, leX, List.cons_append, List.nil_append]; (try simp); try rfl)
   · (simp only [cM_nil, List.length_append, go_sem, leX, List.cons_append, List.nil_append]; (try simp); try rfl)
 · have hcq : ((i : Nat) : Int) < ((ls.length : Nat) : Int) := by omega
   have hc0 : (0 : Int) ≤ ((i : Nat) : Int) := by omega
   have hg0 := nest_get hlt
   have hsn := flatB_snoc hlt
   have hle := flatB_le (ls := ls) (i := i + 1)
   obtain ⟨⟨ex1, b⟩, hb⟩ : ∃ x, ls[i] = x := ⟨_, rfl⟩
   rw [hb] at hg0 hsn
   simp only at hg0 hsn
   rw [hsn, List.length_append] at hle
   rw [← hq] at hsn hle
   rw [hb] at hb0
   simp only at hb0
   simp only [cV_nil, cM_nil]
   have hbl := len0 hb0
   have hle2 : b.length ≤ 140737488355328 := by clear hcq; simp only [List.length_nil] at hle; omega
   have hs1 : Go.RowKit.wrap64 (((i : Nat) : Int) + 1) = ((i + 1 : Nat) : Int) := wnat (by omega) (by omega)
   have F13 := And.intro hcq <| And.intro hc0 <| And.intro hg0 <| And.intro hs1 <| And.intro hbl <| hle2
   iterate 16 first
    | refine zhK _ ?_
    | (refine sr_k fun zK zhK => ?_; simp only [go_sem, nest_length, F13]; (repeat' (first | apply And.intro | intro _)))
    | (refine zhN _ ?_; clear zhN zhM)
    | (refine region_k fun zK zhK => ?_; simp only [go_sem, nest_length, F13]; (repeat' (first | apply And.intro | intro _)))
    | refine skip_k ?_
    | refine block_k fun zB zbn zbx zbr zbi => ?_
    | (refine zbn _ ?_; clear zbn zbx zbr zbi)
    | refine seq_k fun zN zM zhN zhM => ?_
    | (refine condT_k ?_ ?_; focus (first | rfl | (simp [go_sem, nest_length, F13]; done)))
   refine zhN ⟨(i + 1, b), hlt, by rw [hsn]; rfl⟩ _ ?_ ?_ ?_
   · (exact Nat.sub_lt_sub_left hlt (Nat.lt_succ_self i))
   · (simp only [cV_of 14 hb0, List.length_append, go_sem, leX, List.cons_append, List.nil_append]; (try simp); try rfl)
   · (simp only [cM_of 14 hb0, List.length_append, go_sem, leX, List.cons_append, List.nil_append]; (try simp); try rfl)
 · have hcq : ((i : Nat) : Int) < ((ls.length : Nat) : Int) := by omega
   have hc0 : (0 : Int) ≤ ((i : Nat) : Int) := by omega
   have hg0 := nest_get hlt
   have hsn := flatB_snoc hlt
   have hle := flatB_le (ls := ls) (i := i + 1)
   obtain ⟨⟨ex1, b⟩, hb⟩ : ∃ x, ls[i] = x := ⟨_, rfl⟩
   rw [hb] at hg0 hsn
   simp only at hg0 hsn
   rw [hsn, List.length_append] at hle
   rw [← hq] at hsn hle
   simp only [cV_of 14 hq0, cM_of 14 hq0]
   have hqb : q ++ b ≠ [] := fun e => hq0 (List.append_eq_nil_iff.mp e).1
   have hle2 : q.length + b.length ≤ 140737488355328 := by omega
   have hs1 : Go.RowKit.wrap64 (((i : Nat) : Int) + 1) = ((i + 1 : Nat) : Int) := wnat (by omega) (by omega)
   have F20 := And.intro hcq <| And.intro hc0 <| And.intro hg0 <| And.intro hs1 <| hle2
   iterate 16 first
    | refine zhK _ ?_
    | (refine sr_k fun zK zhK => ?_; simp only [go_sem, nest_length, F20]; (repeat' (first | apply And.intro | intro _)))
    | (refine zhN _ ?_; clear zhN zhM)
    | (refine region_k fun zK zhK => ?_; simp only [go_sem, nest_length, F20]; (repeat' (first | apply And.intro | intro _)))
    | refine skip_k ?_
    | refine block_k fun zB zbn zbx zbr zbi => ?_
    | (refine zbn _ ?_; clear zbn zbx zbr zbi)
    | refine seq_k fun zN zM zhN zhM => ?_
    | (refine condT_k ?_ ?_; focus (first | rfl | (simp [go_sem, nest_length, F20]; done)))
   refine zhN ⟨(i + 1, q ++ b), hlt, hsn.symm⟩ _ ?_ ?_ ?_
   · (exact Nat.sub_lt_sub_left hlt (Nat.lt_succ_self i))
   · (simp only [cV_of 14 hqb, List.length_append, go_sem, leX, List.cons_append, List.nil_append]; (try simp); try rfl)
   · (simp only [cM_of 14 hqb, List.length_append, go_sem, leX, List.cons_append, List.nil_append]; (try simp); try rfl)
 · rw [List.take_length] at hq
   subst hq
   simp only [cV_of 14 hne, cM_of 14 hne]
   have hcq : ¬ ((ls.length : Nat) : Int) < ((ls.length : Nat) : Int) := by omega
   iterate 13 first
    | (refine sr_k fun zK zhK => ?_; simp only [go_sem, nest_length, hcq]; (repeat' (first | apply And.intro | intro _)))
    | refine zhK _ ?_
    | (refine zhM _ _ ?_; clear zhN zhM)
    | refine exit_k ?_
    | (refine zbx _ ?_; clear zbn zbx zbr zbi)
    | (refine zhN _ ?_; clear zhN zhM)
    | refine ret_k ?_
    | (refine zhZ _ _ ?_; simp only [go_sem, nest_length, hcq]; (all_goals (exact own_told rfl rfl)))
    | refine seq_k fun zN zM zhN zhM => ?_
    | (refine condF_k ?_ ?_; focus (first | rfl | (simp [go_sem, nest_length, hcq]; done)))
end Bk
end Go.Sy
