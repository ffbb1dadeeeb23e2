/- The form of terms, all kinds; whether a term may be; the law on terms. -/
import Derived.Test.YtgnmcmopcmnamaavtA3
import Derived.Test.YtgnmcmopcmnamaavE3
import Derived.Test.YtgnmcmopcmnamaavtB1
import Derived.Test.YtgnmcmopcmnamaavtB2
import Derived.Test.YtgnmcmopcmnamaavtB3
import Derived.Test.YtgnmcmopcmnamaavtB4
import Derived.Test.YtgnmcmopcmnamaavtB5
import Derived.Test.YtgnmcmopcmnamaavtB6
import Derived.Test.YtgnmcmopcmnamaavtB7
import Derived.Test.YtgnmcmopcmnamaavtB8
set_option linter.unusedVariables false
set_option linter.unusedSimpArgs false
namespace Go.Sy
open Go.Proofs
attribute [local irreducible] atCall HT runOps runD onC onE onO onG goV goA goS onSt onGuard
@[go_sem] theorem bin_eql_bool {P : Program} {t : TypeId} (ht : P.underlying t = some .bool) (a b : Bool) : binV P .eql t (.w (.one (.pl (.b a)))) (.w (.one (.pl (.b b)))) = some (.w (.one (.pl (.b (a == b))))) := by simp [binV, ht]
theorem form_1 (i o : Int) (l : List TermD) (hib : i64b i) (hob : i64b o) (hl : l.length ≤ 9223372036854775807) (ih : ∀ a, a ∈ l → Ct Try.prog 12 [argT a] (fun v m => v = .w (.one (.pl (.i (formE a)))))) : Ct Try.prog 12 [argC 1 i o l] (fun v m => v = .w (.one (.pl (.i (formE (.mk 1 i o l)))))) := by
 by_cases hn : ((l.length : Nat) : Int) = 0
 · by_cases hi : 0 ≤ i
   · by_cases ho : 0 ≤ o
     · by_cases hf : o = 0
       · subst hf; exact form_1_t i l hn hi ih hl
       · exact form_1_f i o l hn hi ho hf
     · exact form_1_o i o l hn hi ho
   · exact form_1_i i o l hn hi
 · exact form_1_n i o l hn
theorem form_2 (i o : Int) (l : List TermD) (hib : i64b i) (hob : i64b o) (hl : l.length ≤ 9223372036854775807) (ih : ∀ a, a ∈ l → Ct Try.prog 12 [argT a] (fun v m => v = .w (.one (.pl (.i (formE a)))))) : Ct Try.prog 12 [argC 2 i o l] (fun v m => v = .w (.one (.pl (.i (formE (.mk 2 i o l)))))) := by
 by_cases hn : ((l.length : Nat) : Int) = 0
 · by_cases hi : 0 ≤ i
   · by_cases ho : 0 ≤ o
     · by_cases hf : o = 0
       · subst hf; exact form_2_t i l hn hi ih hl
       · exact form_2_f i o l hn hi ho hf
     · exact form_2_o i o l hn hi ho
   · exact form_2_i i o l hn hi
 · exact form_2_n i o l hn
theorem form_3 (i o : Int) (l : List TermD) (hib : i64b i) (hob : i64b o) (hl : l.length ≤ 9223372036854775807) (ih : ∀ a, a ∈ l → Ct Try.prog 12 [argT a] (fun v m => v = .w (.one (.pl (.i (formE a)))))) : Ct Try.prog 12 [argC 3 i o l] (fun v m => v = .w (.one (.pl (.i (formE (.mk 3 i o l)))))) := by
 by_cases hn : ((l.length : Nat) : Int) = 0
 · by_cases hi : 0 ≤ i
   · by_cases ho : 0 ≤ o
     · by_cases hf : i ≤ o
       · exact form_3_t i o l hn hi ho hf ih hl
       · exact form_3_f i o l hn hi ho hf
     · exact form_3_o i o l hn hi ho
   · exact form_3_i i o l hn hi
 · exact form_3_n i o l hn
theorem form_4 (i o : Int) (l : List TermD) (hib : i64b i) (hob : i64b o) (hl : l.length ≤ 9223372036854775807) (ih : ∀ a, a ∈ l → Ct Try.prog 12 [argT a] (fun v m => v = .w (.one (.pl (.i (formE a)))))) : Ct Try.prog 12 [argC 4 i o l] (fun v m => v = .w (.one (.pl (.i (formE (.mk 4 i o l)))))) := by
 by_cases hn : ((l.length : Nat) : Int) = 2
 · by_cases hi : 0 ≤ i
   · by_cases ho : 0 ≤ o
     · by_cases hf : i = 0 ∧ o = 0
       · obtain ⟨rfl, rfl⟩ := hf; exact form_4_t l hn ih hl
       · exact form_4_f i o l hn hi ho hib.2 hob.2 hf
     · exact form_4_o i o l hn hi ho
   · exact form_4_i i o l hn hi
 · exact form_4_n i o l hn
theorem form_5 (i o : Int) (l : List TermD) (hib : i64b i) (hob : i64b o) (hl : l.length ≤ 9223372036854775807) (ih : ∀ a, a ∈ l → Ct Try.prog 12 [argT a] (fun v m => v = .w (.one (.pl (.i (formE a)))))) : Ct Try.prog 12 [argC 5 i o l] (fun v m => v = .w (.one (.pl (.i (formE (.mk 5 i o l)))))) := by
 by_cases hn : ((l.length : Nat) : Int) = 1
 · by_cases hi : 0 ≤ i
   · by_cases ho : 0 ≤ o
     · by_cases hf : i = 0 ∧ o = 0
       · obtain ⟨rfl, rfl⟩ := hf; exact form_5_t l hn ih hl
       · exact form_5_f i o l hn hi ho hib.2 hob.2 hf
     · exact form_5_o i o l hn hi ho
   · exact form_5_i i o l hn hi
 · exact form_5_n i o l hn
theorem form_6 (i o : Int) (l : List TermD) (hib : i64b i) (hob : i64b o) (hl : l.length ≤ 9223372036854775807) (ih : ∀ a, a ∈ l → Ct Try.prog 12 [argT a] (fun v m => v = .w (.one (.pl (.i (formE a)))))) : Ct Try.prog 12 [argC 6 i o l] (fun v m => v = .w (.one (.pl (.i (formE (.mk 6 i o l)))))) := by
 by_cases hn : ((l.length : Nat) : Int) = 2
 · by_cases hi : 0 ≤ i
   · by_cases ho : 0 ≤ o
     · by_cases hf : o = 0
       · subst hf; exact form_6_t i l hn hi ih hl
       · exact form_6_f i o l hn hi ho hf
     · exact form_6_o i o l hn hi ho
   · exact form_6_i i o l hn hi
 · exact form_6_n i o l hn
theorem form_7 (i o : Int) (l : List TermD) (hib : i64b i) (hob : i64b o) (hl : l.length ≤ 9223372036854775807) (ih : ∀ a, a ∈ l → Ct Try.prog 12 [argT a] (fun v m => v = .w (.one (.pl (.i (formE a)))))) : Ct Try.prog 12 [argC 7 i o l] (fun v m => v = .w (.one (.pl (.i (formE (.mk 7 i o l)))))) := by
 by_cases hn : ((l.length : Nat) : Int) = 3
 · by_cases hi : 0 ≤ i
   · by_cases ho : 0 ≤ o
     · by_cases hf : i = 0 ∧ o = 0
       · obtain ⟨rfl, rfl⟩ := hf; exact form_7_t l hn ih hl
       · exact form_7_f i o l hn hi ho hib.2 hob.2 hf
     · exact form_7_o i o l hn hi ho
   · exact form_7_i i o l hn hi
 · exact form_7_n i o l hn
theorem form_ : ∀ (t : TermD), t.ok → Ct Try.prog 12 [argT t] (fun v m => v = .w (.one (.pl (.i (formE t)))))
 | .mk k i o l, ht => by
  rw [TermD.ok] at ht
  rw [argC_eq]
  have ih : ∀ a, a ∈ l → Ct Try.prog 12 [argT a] (fun v m => v = .w (.one (.pl (.i (formE a))))) := fun a ha => form_ a (termsOk_mem ht.2.2.2.2 a ha)
  by_cases h1 : k < 1
  · exact form_lo k i o l h1
  · by_cases h7 : 7 < k
    · exact form_hi k i o l h1 h7
    · have hk : k = 1 ∨ k = 2 ∨ k = 3 ∨ k = 4 ∨ k = 5 ∨ k = 6 ∨ k = 7 := by omega
      rcases hk with rfl | rfl | rfl | rfl | rfl | rfl | rfl
      · exact form_1 i o l ht.2.1 ht.2.2.1 ht.2.2.2.1 ih
      · exact form_2 i o l ht.2.1 ht.2.2.1 ht.2.2.2.1 ih
      · exact form_3 i o l ht.2.1 ht.2.2.1 ht.2.2.2.1 ih
      · exact form_4 i o l ht.2.1 ht.2.2.1 ht.2.2.2.1 ih
      · exact form_5 i o l ht.2.1 ht.2.2.1 ht.2.2.2.1 ih
      · exact form_6 i o l ht.2.1 ht.2.2.1 ht.2.2.2.1 ih
      · exact form_7 i o l ht.2.1 ht.2.2.1 ht.2.2.2.1 ih
termination_by t => SizeOf.sizeOf t
decreasing_by
 have := List.sizeOf_lt_of_mem ha
 simp only [TermD.mk.sizeOf_spec]
 omega
theorem shape_1 (i o : Int) (l : List TermD) (hib : i64b i) (hob : i64b o) (hl : l.length ≤ 9223372036854775807) (ih : ∀ a, a ∈ l → Ct Try.prog 14 [argT a] (fun v m => v = .w (.one (.pl (.i (formE a)))))) : Ct Try.prog 14 [argC 1 i o l] (fun v m => v = .w (.one (.pl (.i (formE (.mk 1 i o l)))))) := by
 by_cases hn : ((l.length : Nat) : Int) = 0
 · by_cases hi : 0 ≤ i
   · by_cases ho : 0 ≤ o
     · by_cases hf : o = 0
       · subst hf
         by_cases hz : i = 0
         · subst hz; exact shape_1_t0 l hn ih hl
         · exact shape_1_t1 i l hn hi hz ih hl
       · exact shape_1_f i o l hn hi ho hf
     · exact shape_1_o i o l hn hi ho
   · exact shape_1_i i o l hn hi
 · exact shape_1_n i o l hn
theorem shape_2 (i o : Int) (l : List TermD) (hib : i64b i) (hob : i64b o) (hl : l.length ≤ 9223372036854775807) (ih : ∀ a, a ∈ l → Ct Try.prog 14 [argT a] (fun v m => v = .w (.one (.pl (.i (formE a)))))) : Ct Try.prog 14 [argC 2 i o l] (fun v m => v = .w (.one (.pl (.i (formE (.mk 2 i o l)))))) := by
 by_cases hn : ((l.length : Nat) : Int) = 0
 · by_cases hi : 0 ≤ i
   · by_cases ho : 0 ≤ o
     · by_cases hf : o = 0
       · subst hf
         by_cases hz : i = 0
         · subst hz; exact shape_2_t0 l hn ih hl
         · exact shape_2_t1 i l hn hi hz ih hl
       · exact shape_2_f i o l hn hi ho hf
     · exact shape_2_o i o l hn hi ho
   · exact shape_2_i i o l hn hi
 · exact shape_2_n i o l hn
theorem shape_3 (i o : Int) (l : List TermD) (hib : i64b i) (hob : i64b o) (hl : l.length ≤ 9223372036854775807) (ih : ∀ a, a ∈ l → Ct Try.prog 14 [argT a] (fun v m => v = .w (.one (.pl (.i (formE a)))))) : Ct Try.prog 14 [argC 3 i o l] (fun v m => v = .w (.one (.pl (.i (formE (.mk 3 i o l)))))) := by
 by_cases hn : ((l.length : Nat) : Int) = 0
 · by_cases hi : 0 ≤ i
   · by_cases ho : 0 ≤ o
     · by_cases hf : i ≤ o
       · exact shape_3_t i o l hn hi ho hf ih hl
       · exact shape_3_f i o l hn hi ho hf
     · exact shape_3_o i o l hn hi ho
   · exact shape_3_i i o l hn hi
 · exact shape_3_n i o l hn
theorem shape_4 (i o : Int) (l : List TermD) (hib : i64b i) (hob : i64b o) (hl : l.length ≤ 9223372036854775807) (ih : ∀ a, a ∈ l → Ct Try.prog 14 [argT a] (fun v m => v = .w (.one (.pl (.i (formE a)))))) : Ct Try.prog 14 [argC 4 i o l] (fun v m => v = .w (.one (.pl (.i (formE (.mk 4 i o l)))))) := by
 by_cases hn : ((l.length : Nat) : Int) = 2
 · by_cases hi : 0 ≤ i
   · by_cases ho : 0 ≤ o
     · by_cases hf : o = 0
       · subst hf
         by_cases hz : i = 0
         · subst hz; exact shape_4_t l hn ih hl
         · exact shape_4_f1 i l hn hi hz
       · exact shape_4_f0 i o l hn hi ho hf
     · exact shape_4_o i o l hn hi ho
   · exact shape_4_i i o l hn hi
 · exact shape_4_n i o l hn
theorem shape_5 (i o : Int) (l : List TermD) (hib : i64b i) (hob : i64b o) (hl : l.length ≤ 9223372036854775807) (ih : ∀ a, a ∈ l → Ct Try.prog 14 [argT a] (fun v m => v = .w (.one (.pl (.i (formE a)))))) : Ct Try.prog 14 [argC 5 i o l] (fun v m => v = .w (.one (.pl (.i (formE (.mk 5 i o l)))))) := by
 by_cases hn : ((l.length : Nat) : Int) = 1
 · by_cases hi : 0 ≤ i
   · by_cases ho : 0 ≤ o
     · by_cases hf : o = 0
       · subst hf
         by_cases hz : i = 0
         · subst hz; exact shape_5_t l hn ih hl
         · exact shape_5_f1 i l hn hi hz
       · exact shape_5_f0 i o l hn hi ho hf
     · exact shape_5_o i o l hn hi ho
   · exact shape_5_i i o l hn hi
 · exact shape_5_n i o l hn
theorem shape_6 (i o : Int) (l : List TermD) (hib : i64b i) (hob : i64b o) (hl : l.length ≤ 9223372036854775807) (ih : ∀ a, a ∈ l → Ct Try.prog 14 [argT a] (fun v m => v = .w (.one (.pl (.i (formE a)))))) : Ct Try.prog 14 [argC 6 i o l] (fun v m => v = .w (.one (.pl (.i (formE (.mk 6 i o l)))))) := by
 by_cases hn : ((l.length : Nat) : Int) = 2
 · by_cases hi : 0 ≤ i
   · by_cases ho : 0 ≤ o
     · by_cases hf : o = 0
       · subst hf
         by_cases hz : i = 0
         · subst hz; exact shape_6_t0 l hn ih hl
         · exact shape_6_t1 i l hn hi hz ih hl
       · exact shape_6_f i o l hn hi ho hf
     · exact shape_6_o i o l hn hi ho
   · exact shape_6_i i o l hn hi
 · exact shape_6_n i o l hn
theorem shape_7 (i o : Int) (l : List TermD) (hib : i64b i) (hob : i64b o) (hl : l.length ≤ 9223372036854775807) (ih : ∀ a, a ∈ l → Ct Try.prog 14 [argT a] (fun v m => v = .w (.one (.pl (.i (formE a)))))) : Ct Try.prog 14 [argC 7 i o l] (fun v m => v = .w (.one (.pl (.i (formE (.mk 7 i o l)))))) := by
 by_cases hn : ((l.length : Nat) : Int) = 3
 · by_cases hi : 0 ≤ i
   · by_cases ho : 0 ≤ o
     · by_cases hf : o = 0
       · subst hf
         by_cases hz : i = 0
         · subst hz; exact shape_7_t l hn ih hl
         · exact shape_7_f1 i l hn hi hz
       · exact shape_7_f0 i o l hn hi ho hf
     · exact shape_7_o i o l hn hi ho
   · exact shape_7_i i o l hn hi
 · exact shape_7_n i o l hn
theorem shape_ : ∀ (t : TermD), t.ok → Ct Try.prog 14 [argT t] (fun v m => v = .w (.one (.pl (.i (formE t)))))
 | .mk k i o l, ht => by
  rw [TermD.ok] at ht
  rw [argC_eq]
  have ih : ∀ a, a ∈ l → Ct Try.prog 14 [argT a] (fun v m => v = .w (.one (.pl (.i (formE a))))) := fun a ha => shape_ a (termsOk_mem ht.2.2.2.2 a ha)
  by_cases h1 : k < 1
  · exact shape_lo k i o l h1
  · by_cases h7 : 7 < k
    · exact shape_hi k i o l h1 h7
    · have hk : k = 1 ∨ k = 2 ∨ k = 3 ∨ k = 4 ∨ k = 5 ∨ k = 6 ∨ k = 7 := by omega
      rcases hk with rfl | rfl | rfl | rfl | rfl | rfl | rfl
      · exact shape_1 i o l ht.2.1 ht.2.2.1 ht.2.2.2.1 ih
      · exact shape_2 i o l ht.2.1 ht.2.2.1 ht.2.2.2.1 ih
      · exact shape_3 i o l ht.2.1 ht.2.2.1 ht.2.2.2.1 ih
      · exact shape_4 i o l ht.2.1 ht.2.2.1 ht.2.2.2.1 ih
      · exact shape_5 i o l ht.2.1 ht.2.2.1 ht.2.2.2.1 ih
      · exact shape_6 i o l ht.2.1 ht.2.2.1 ht.2.2.2.1 ih
      · exact shape_7 i o l ht.2.1 ht.2.2.1 ht.2.2.2.1 ih
termination_by t => SizeOf.sizeOf t
decreasing_by
 have := List.sizeOf_lt_of_mem ha
 simp only [TermD.mk.sizeOf_spec]
 omega
theorem size_ : ∀ (t : TermD), t.ok → ∀ d, 1 ≤ d → d ≤ 41 → Ct Try.prog 11 [argT t, .w (.one (.pl (.i d)))] (fun v m => v = .w (.one (.pl (.i (sizeN t d)))))
 | .mk k i o l, ht, d, h1, h2 => by
  rw [TermD.ok] at ht
  rw [argC_eq]
  by_cases h : 40 < d
  · exact size_deep k i o l ht.2.2.2.1 d ⟨h1, h2⟩ h
  · exact size_loop k i o l ht.2.2.2.1 d ⟨h1, h2⟩ h fun a ha => size_ a (termsOk_mem ht.2.2.2.2 a ha)
termination_by t => SizeOf.sizeOf t
decreasing_by
 have := List.sizeOf_lt_of_mem ha
 simp only [TermD.mk.sizeOf_spec]
 omega
theorem weigh_ : ∀ (t : TermD), t.ok → ∀ d, 1 ≤ d → d ≤ 41 → Ct Try.prog 13 [argT t, .w (.one (.pl (.i d)))] (fun v m => v = .w (.one (.pl (.i (weighN t d)))))
 | .mk k i o l, ht, d, h1, h2 => by
  rw [TermD.ok] at ht
  rw [argC_eq]
  by_cases h : 40 < d
  · exact weigh_deep k i o l ht.2.2.2.1 d ⟨h1, h2⟩ h
  · exact weigh_loop k i o l ht.2.2.2.1 d ⟨h1, h2⟩ h fun a ha => weigh_ a (termsOk_mem ht.2.2.2.2 a ha)
termination_by t => SizeOf.sizeOf t
decreasing_by
 have := List.sizeOf_lt_of_mem ha
 simp only [TermD.mk.sizeOf_spec]
 omega
def checkE (t : TermD) : Int := if 300 < sizeN t 1 then 1 else formE t
theorem check_weigh (t : TermD) : 300 < weighN t 1 ↔ 300 < sizeN t 1 := by
 rcases size_weigh t 1 with ⟨h1, h2⟩ | ⟨h1, h2⟩ <;> omega
set_option maxHeartbeats 400000 in
theorem check_big (k i o : Int) (l : List TermD) (hok : (TermD.mk k i o l).ok) (h : 300 < sizeN (.mk k i o l) 1) :
 Ct Try.prog 5 [argC k i o l] (fun v m => v = .w (.one (.pl (.i (checkE (.mk k i o l)))))) := by
 have hs := size_ (.mk k i o l) hok 1 (by omega) (by omega)
 have hf := form_ (.mk k i o l) hok
 rw [argC_eq] at hs hf
 have hcw := check_weigh (.mk k i o l)
 have hr : checkE (.mk k i o l) = 1 := if_pos h
 obtain ⟨w, hw⟩ : ∃ w, sizeN (.mk k i o l) 1 = w := ⟨_, rfl⟩
 obtain ⟨f, hfe⟩ : ∃ f, formE (.mk k i o l) = f := ⟨_, rfl⟩
 rw [hw] at hs h
 rw [hfe] at hf
 rw [hr]
 refine Ct.k Try.func5 rfl Try.ntmps5 (congrArg Array.toList Try.results5) (by simp) fun w0 ro => ?_
 refine top_k fun zZ zhZ => ?_
 iterate 12 first
  | (refine sr_k fun zK zhK => ?_; simp only [go_sem, h]; (repeat' (first | apply And.intro | intro _)))
  | refine zhK _ ?_
  | refine ret_k ?_
  | (refine zhM _ _ ?_; clear zhN zhM)
  | (refine zhZ _ _ ?_; simp only [go_sem, h]; (all_goals (rfl)))
  | ((all_goals (refine call_view (fun k => k) (fun _ _ => rfl) ?_ (hs.plain fun _ _ h => h) ?_; focus (first | rfl | (simp only [go_sem, h] <;> rfl)))); (all_goals (rintro v m ⟨hR, hm⟩; subst hR; subst hm)); (all_goals refine And.intro (by first | rfl | simp only [go_sem, h]) (And.intro (by first | rfl | simp only [go_sem, h]) ?_)); (all_goals simp only [go_sem, h]); (all_goals repeat' (first | apply And.intro | intro _)))
  | refine seq_k fun zN zM zhN zhM => ?_
  | (refine condT_k ?_ ?_; focus (first | rfl | (simp [go_sem, h]; done)))
set_option maxHeartbeats 400000 in
theorem check_small (k i o : Int) (l : List TermD) (hok : (TermD.mk k i o l).ok) (h : ¬ 300 < sizeN (.mk k i o l) 1) :
 Ct Try.prog 5 [argC k i o l] (fun v m => v = .w (.one (.pl (.i (checkE (.mk k i o l)))))) := by
 have hs := size_ (.mk k i o l) hok 1 (by omega) (by omega)
 have hf := form_ (.mk k i o l) hok
 rw [argC_eq] at hs hf
 have hcw := check_weigh (.mk k i o l)
 have hr : checkE (.mk k i o l) = formE (.mk k i o l) := if_neg h
 obtain ⟨w, hw⟩ : ∃ w, sizeN (.mk k i o l) 1 = w := ⟨_, rfl⟩
 obtain ⟨f, hfe⟩ : ∃ f, formE (.mk k i o l) = f := ⟨_, rfl⟩
 rw [hw] at hs h
 rw [hfe] at hf
 rw [hr, hfe]
 refine Ct.k Try.func5 rfl Try.ntmps5 (congrArg Array.toList Try.results5) (by simp) fun w0 ro => ?_
 refine top_k fun zZ zhZ => ?_
 refine sr_k fun zK zhK => ?_
 simp only [go_sem, h]
 repeat' (first | apply And.intro | intro _)
 refine zhK _ ?_
 refine seq_k fun zN zM zhN zhM => ?_
 refine sr_k fun zK zhK => ?_
 simp only [go_sem, h]
 repeat' (first | apply And.intro | intro _)
 all_goals (refine call_view (fun k => k) (fun _ _ => rfl) ?_ (hs.plain fun _ _ h => h) ?_; focus (first | rfl | (simp only [go_sem, h] <;> rfl)))
 all_goals (rintro v m ⟨hR, hm⟩; subst hR; subst hm)
 all_goals refine And.intro (by first | rfl | simp only [go_sem, h]) (And.intro (by first | rfl | simp only [go_sem, h]) ?_)
 all_goals simp only [go_sem, h]
 all_goals repeat' (first | apply And.intro | intro _)
 refine zhK _ ?_
 (refine condF_k ?_ ?_; focus (first | rfl | (simp [go_sem, h]; done)))
 refine skip_k ?_
 refine zhN _ ?_; clear zhN zhM
 refine sr_k fun zK zhK => ?_
 simp only [go_sem, h]
 repeat' (first | apply And.intro | intro _)
 all_goals (refine call_view (fun k => k) (fun _ _ => rfl) ?_ (hf.plain fun _ _ h => h) ?_; focus (first | rfl | (simp only [go_sem, h] <;> rfl)))
 all_goals (rintro v m ⟨hR, hm⟩; subst hR; subst hm)
 all_goals refine And.intro (by first | rfl | simp only [go_sem, h]) (And.intro (by first | rfl | simp only [go_sem, h]) ?_)
 all_goals simp only [go_sem, h]
 all_goals repeat' (first | apply And.intro | intro _)
 refine zhK _ ?_
 refine ret_k ?_
 refine zhZ _ _ ?_
 simp only [go_sem, h]
 all_goals (rfl)
theorem check_ (t : TermD) (ht : t.ok) : Ct Try.prog 5 [argT t] (fun v m => v = .w (.one (.pl (.i (checkE t))))) := by
 obtain ⟨k, i, o, l⟩ := t
 rw [argC_eq]
 by_cases h : 300 < sizeN (.mk k i o l) 1
 · exact check_big k i o l ht h
 · exact check_small k i o l ht h
set_option maxHeartbeats 400000 in
theorem fault_big (k i o : Int) (l : List TermD) (hok : (TermD.mk k i o l).ok) (h : 300 < weighN (.mk k i o l) 1) :
 Ct Try.prog 7 [argC k i o l] (fun v m => v = .w (.one (.pl (.i (checkE (.mk k i o l)))))) := by
 have hs := weigh_ (.mk k i o l) hok 1 (by omega) (by omega)
 have hf := shape_ (.mk k i o l) hok
 rw [argC_eq] at hs hf
 have hcw := check_weigh (.mk k i o l)
 have hr : checkE (.mk k i o l) = 1 := if_pos (hcw.mp h)
 obtain ⟨w, hw⟩ : ∃ w, weighN (.mk k i o l) 1 = w := ⟨_, rfl⟩
 obtain ⟨f, hfe⟩ : ∃ f, formE (.mk k i o l) = f := ⟨_, rfl⟩
 rw [hw] at hs h
 rw [hfe] at hf
 rw [hr]
 refine Ct.k Try.func7 rfl Try.ntmps7 (congrArg Array.toList Try.results7) (by simp) fun w0 ro => ?_
 refine top_k fun zZ zhZ => ?_
 iterate 12 first
  | (refine sr_k fun zK zhK => ?_; simp only [go_sem, h]; (repeat' (first | apply And.intro | intro _)))
  | refine zhK _ ?_
  | refine ret_k ?_
  | (refine zhM _ _ ?_; clear zhN zhM)
  | (refine zhZ _ _ ?_; simp only [go_sem, h]; (all_goals (rfl)))
  | ((all_goals (refine call_view (fun k => k) (fun _ _ => rfl) ?_ (hs.plain fun _ _ h => h) ?_; focus (first | rfl | (simp only [go_sem, h] <;> rfl)))); (all_goals (rintro v m ⟨hR, hm⟩; subst hR; subst hm)); (all_goals refine And.intro (by first | rfl | simp only [go_sem, h]) (And.intro (by first | rfl | simp only [go_sem, h]) ?_)); (all_goals simp only [go_sem, h]); (all_goals repeat' (first | apply And.intro | intro _)))
  | refine seq_k fun zN zM zhN zhM => ?_
  | (refine condT_k ?_ ?_; focus (first | rfl | (simp [go_sem, h]; done)))
set_option maxHeartbeats 400000 in
theorem fault_small (k i o : Int) (l : List TermD) (hok : (TermD.mk k i o l).ok) (h : ¬ 300 < weighN (.mk k i o l) 1) :
 Ct Try.prog 7 [argC k i o l] (fun v m => v = .w (.one (.pl (.i (checkE (.mk k i o l)))))) := by
 have hs := weigh_ (.mk k i o l) hok 1 (by omega) (by omega)
 have hf := shape_ (.mk k i o l) hok
 rw [argC_eq] at hs hf
 have hcw := check_weigh (.mk k i o l)
 have hr : checkE (.mk k i o l) = formE (.mk k i o l) := if_neg (fun q => h (hcw.mpr q))
 obtain ⟨w, hw⟩ : ∃ w, weighN (.mk k i o l) 1 = w := ⟨_, rfl⟩
 obtain ⟨f, hfe⟩ : ∃ f, formE (.mk k i o l) = f := ⟨_, rfl⟩
 rw [hw] at hs h
 rw [hfe] at hf
 rw [hr, hfe]
 refine Ct.k Try.func7 rfl Try.ntmps7 (congrArg Array.toList Try.results7) (by simp) fun w0 ro => ?_
 refine top_k fun zZ zhZ => ?_
 refine sr_k fun zK zhK => ?_
 simp only [go_sem, h]
 repeat' (first | apply And.intro | intro _)
 refine zhK _ ?_
 refine seq_k fun zN zM zhN zhM => ?_
 refine sr_k fun zK zhK => ?_
 simp only [go_sem, h]
 repeat' (first | apply And.intro | intro _)
 all_goals (refine call_view (fun k => k) (fun _ _ => rfl) ?_ (hs.plain fun _ _ h => h) ?_; focus (first | rfl | (simp only [go_sem, h] <;> rfl)))
 all_goals (rintro v m ⟨hR, hm⟩; subst hR; subst hm)
 all_goals refine And.intro (by first | rfl | simp only [go_sem, h]) (And.intro (by first | rfl | simp only [go_sem, h]) ?_)
 all_goals simp only [go_sem, h]
 all_goals repeat' (first | apply And.intro | intro _)
 refine zhK _ ?_
 (refine condF_k ?_ ?_; focus (first | rfl | (simp [go_sem, h]; done)))
 refine skip_k ?_
 refine zhN _ ?_; clear zhN zhM
 refine sr_k fun zK zhK => ?_
 simp only [go_sem, h]
 repeat' (first | apply And.intro | intro _)
 all_goals (refine call_view (fun k => k) (fun _ _ => rfl) ?_ (hf.plain fun _ _ h => h) ?_; focus (first | rfl | (simp only [go_sem, h] <;> rfl)))
 all_goals (rintro v m ⟨hR, hm⟩; subst hR; subst hm)
 all_goals refine And.intro (by first | rfl | simp only [go_sem, h]) (And.intro (by first | rfl | simp only [go_sem, h]) ?_)
 all_goals simp only [go_sem, h]
 all_goals repeat' (first | apply And.intro | intro _)
 refine zhK _ ?_
 refine ret_k ?_
 refine zhZ _ _ ?_
 simp only [go_sem, h]
 all_goals (rfl)
theorem fault_ (t : TermD) (ht : t.ok) : Ct Try.prog 7 [argT t] (fun v m => v = .w (.one (.pl (.i (checkE t))))) := by
 obtain ⟨k, i, o, l⟩ := t
 rw [argC_eq]
 by_cases h : 300 < weighN (.mk k i o l) 1
 · exact fault_big k i o l ht h
 · exact fault_small k i o l ht h
set_option maxHeartbeats 800000 in
theorem termchecks_true (k i o : Int) (l : List TermD) (k2 i2 o2 : Int) (l2 : List TermD) (h1 : (TermD.mk k i o l).ok) (h2 : (TermD.mk k2 i2 o2 l2).ok) (hb : sameB (.mk k i o l) (.mk k2 i2 o2 l2) = true) :
 Ct Try.prog 3 [argC k i o l, argC k2 i2 o2 l2] (fun v m => v = .w (.one (.pl (.b true)))) := by
 have hc := check_ (.mk k i o l) h1
 have hs := same_ (.mk k i o l) (.mk k2 i2 o2 l2) h1 h2
 have hf := fault_ (.mk k i o l) h1
 have hr := samr_ (.mk k i o l) (.mk k2 i2 o2 l2) h1 h2
 rw [argC_eq] at hc hf
 rw [argC_eq, argC_eq] at hs hr
 obtain ⟨e, he⟩ : ∃ e, checkE (.mk k i o l) = e := ⟨_, rfl⟩
 rw [he] at hc hf
 rw [hb] at hs hr
 refine Ct.k Try.func3 rfl Try.ntmps3 (congrArg Array.toList Try.results3) (by simp) fun w0 ro => ?_
 refine top_k fun zZ zhZ => ?_
 refine seq_k fun zN zM zhN zhM => ?_
 refine region_k fun zK zhK => ?_
 simp only [go_sem, beq_self_eq_true]
 repeat' (first | apply And.intro | intro _)
 refine zhK _ ?_
 refine zhN _ ?_; clear zhN zhM
 refine seq_k fun zN zM zhN zhM => ?_
 refine dr_k (id := 1) mixed fun zE zhE => ?_
 refine dr_piece_k (p := 0) 4 [9, 10, 11, 12] [0, 1, 0, 0, 15, 31, 63] [] rfl (by kernel_rfl) rfl (by simp only [go_sem]) fun zR zK zhR zhK => ?_
 simp only [go_sem, beq_self_eq_true]
 repeat' (first | apply And.intro | intro _)
 all_goals (refine call_draw (fun k => k) (.w (.one (.pl (.i e)))) [] (fun _ _ => rfl) ?_ ((hc).plain fun _ _ h => h) ?_ ?_; focus (first | rfl | (simp only [go_sem, beq_self_eq_true] <;> rfl)))
 all_goals try (refine And.intro ?_ (And.intro ?_ (And.intro ?_ ?_)) <;> first | rfl | simp only [go_sem])
 all_goals simp only [go_sem, beq_self_eq_true]
 all_goals repeat' (first | apply And.intro | intro _)
 refine zhK _ _ trivial (zhR _ ?_)
 refine dr_runs_k 3 7 rfl (by kernel_rfl) rfl rfl fun zR zhR => ?_
 simp only [go_sem, beq_self_eq_true]
 repeat' (first | apply And.intro | intro _)
 all_goals (refine call_view (fun k => k) (fun _ _ => rfl) ?_ ((hs).plain fun _ _ h => h) ?_; focus (first | rfl | (simp only [go_sem, beq_self_eq_true] <;> rfl)))
 all_goals (rintro v m ⟨hR, hm⟩; subst hR; subst hm)
 all_goals refine And.intro (by first | rfl | simp only [go_sem, beq_self_eq_true]) (And.intro (by first | rfl | simp only [go_sem, beq_self_eq_true]) ?_)
 all_goals simp only [go_sem, beq_self_eq_true]
 all_goals repeat' (first | apply And.intro | intro _)
 refine zhR _ ?_
 refine dr_end rfl (zhE _ ?_)
 refine zhN _ ?_; clear zhN zhM
 refine seq_k fun zN zM zhN zhM => ?_
 refine dr_k (id := 2) mixed fun zE zhE => ?_
 refine dr_piece_k (p := 0) 4 [14, 15, 16, 17] [0, 1, 0, 0, 15, 31, 63] [] rfl (by kernel_rfl) rfl (by simp only [go_sem]) fun zR zK zhR zhK => ?_
 simp only [go_sem, beq_self_eq_true]
 repeat' (first | apply And.intro | intro _)
 all_goals (refine call_draw (fun k => k) (.w (.one (.pl (.i e)))) [] (fun _ _ => rfl) ?_ ((hf).plain fun _ _ h => h) ?_ ?_; focus (first | rfl | (simp only [go_sem, beq_self_eq_true] <;> rfl)))
 all_goals try (refine And.intro ?_ (And.intro ?_ (And.intro ?_ ?_)) <;> first | rfl | simp only [go_sem])
 all_goals simp only [go_sem, beq_self_eq_true]
 all_goals repeat' (first | apply And.intro | intro _)
 refine zhK _ _ trivial (zhR _ ?_)
 refine dr_runs_k 3 7 rfl (by kernel_rfl) rfl rfl fun zR zhR => ?_
 simp only [go_sem, beq_self_eq_true]
 repeat' (first | apply And.intro | intro _)
 all_goals (refine call_view (fun k => k) (fun _ _ => rfl) ?_ ((hr).plain fun _ _ h => h) ?_; focus (first | rfl | (simp only [go_sem, beq_self_eq_true] <;> rfl)))
 all_goals (rintro v m ⟨hR, hm⟩; subst hR; subst hm)
 all_goals refine And.intro (by first | rfl | simp only [go_sem, beq_self_eq_true]) (And.intro (by first | rfl | simp only [go_sem, beq_self_eq_true]) ?_)
 all_goals simp only [go_sem, beq_self_eq_true]
 all_goals repeat' (first | apply And.intro | intro _)
 refine zhR _ ?_
 refine dr_end rfl (zhE _ ?_)
 refine zhN _ ?_; clear zhN zhM
 refine seq_k fun zN zM zhN zhM => ?_
 refine region_k fun zK zhK => ?_
 simp only [go_sem, beq_self_eq_true]
 repeat' (first | apply And.intro | intro _)
 refine zhK _ ?_
 refine zhN _ ?_; clear zhN zhM
 refine ret_k ?_
 refine zhZ _ _ ?_
 simp only [go_sem, beq_self_eq_true]
 all_goals (first | rfl | (cases b <;> rfl) | simp)
set_option maxHeartbeats 800000 in
theorem termchecks_false (k i o : Int) (l : List TermD) (k2 i2 o2 : Int) (l2 : List TermD) (h1 : (TermD.mk k i o l).ok) (h2 : (TermD.mk k2 i2 o2 l2).ok) (hb : sameB (.mk k i o l) (.mk k2 i2 o2 l2) = false) :
 Ct Try.prog 3 [argC k i o l, argC k2 i2 o2 l2] (fun v m => v = .w (.one (.pl (.b true)))) := by
 have hc := check_ (.mk k i o l) h1
 have hs := same_ (.mk k i o l) (.mk k2 i2 o2 l2) h1 h2
 have hf := fault_ (.mk k i o l) h1
 have hr := samr_ (.mk k i o l) (.mk k2 i2 o2 l2) h1 h2
 rw [argC_eq] at hc hf
 rw [argC_eq, argC_eq] at hs hr
 obtain ⟨e, he⟩ : ∃ e, checkE (.mk k i o l) = e := ⟨_, rfl⟩
 rw [he] at hc hf
 rw [hb] at hs hr
 refine Ct.k Try.func3 rfl Try.ntmps3 (congrArg Array.toList Try.results3) (by simp) fun w0 ro => ?_
 refine top_k fun zZ zhZ => ?_
 refine seq_k fun zN zM zhN zhM => ?_
 refine region_k fun zK zhK => ?_
 simp only [go_sem, beq_self_eq_true]
 repeat' (first | apply And.intro | intro _)
 refine zhK _ ?_
 refine zhN _ ?_; clear zhN zhM
 refine seq_k fun zN zM zhN zhM => ?_
 refine dr_k (id := 1) mixed fun zE zhE => ?_
 refine dr_piece_k (p := 0) 4 [9, 10, 11, 12] [0, 1, 0, 0, 15, 31, 63] [] rfl (by kernel_rfl) rfl (by simp only [go_sem]) fun zR zK zhR zhK => ?_
 simp only [go_sem, beq_self_eq_true]
 repeat' (first | apply And.intro | intro _)
 all_goals (refine call_draw (fun k => k) (.w (.one (.pl (.i e)))) [] (fun _ _ => rfl) ?_ ((hc).plain fun _ _ h => h) ?_ ?_; focus (first | rfl | (simp only [go_sem, beq_self_eq_true] <;> rfl)))
 all_goals try (refine And.intro ?_ (And.intro ?_ (And.intro ?_ ?_)) <;> first | rfl | simp only [go_sem])
 all_goals simp only [go_sem, beq_self_eq_true]
 all_goals repeat' (first | apply And.intro | intro _)
 refine zhK _ _ trivial (zhR _ ?_)
 refine dr_runs_k 3 7 rfl (by kernel_rfl) rfl rfl fun zR zhR => ?_
 simp only [go_sem, beq_self_eq_true]
 repeat' (first | apply And.intro | intro _)
 all_goals (refine call_view (fun k => k) (fun _ _ => rfl) ?_ ((hs).plain fun _ _ h => h) ?_; focus (first | rfl | (simp only [go_sem, beq_self_eq_true] <;> rfl)))
 all_goals (rintro v m ⟨hR, hm⟩; subst hR; subst hm)
 all_goals refine And.intro (by first | rfl | simp only [go_sem, beq_self_eq_true]) (And.intro (by first | rfl | simp only [go_sem, beq_self_eq_true]) ?_)
 all_goals simp only [go_sem, beq_self_eq_true]
 all_goals repeat' (first | apply And.intro | intro _)
 refine zhR _ ?_
 refine dr_end rfl (zhE _ ?_)
 refine zhN _ ?_; clear zhN zhM
 refine seq_k fun zN zM zhN zhM => ?_
 refine dr_k (id := 2) mixed fun zE zhE => ?_
 refine dr_piece_k (p := 0) 4 [14, 15, 16, 17] [0, 1, 0, 0, 15, 31, 63] [] rfl (by kernel_rfl) rfl (by simp only [go_sem]) fun zR zK zhR zhK => ?_
 simp only [go_sem, beq_self_eq_true]
 repeat' (first | apply And.intro | intro _)
 all_goals (refine call_draw (fun k => k) (.w (.one (.pl (.i e)))) [] (fun _ _ => rfl) ?_ ((hf).plain fun _ _ h => h) ?_ ?_; focus (first | rfl | (simp only [go_sem, beq_self_eq_true] <;> rfl)))
 all_goals try (refine And.intro ?_ (And.intro ?_ (And.intro ?_ ?_)) <;> first | rfl | simp only [go_sem])
 all_goals simp only [go_sem, beq_self_eq_true]
 all_goals repeat' (first | apply And.intro | intro _)
 refine zhK _ _ trivial (zhR _ ?_)
 refine dr_runs_k 3 7 rfl (by kernel_rfl) rfl rfl fun zR zhR => ?_
 simp only [go_sem, beq_self_eq_true]
 repeat' (first | apply And.intro | intro _)
 all_goals (refine call_view (fun k => k) (fun _ _ => rfl) ?_ ((hr).plain fun _ _ h => h) ?_; focus (first | rfl | (simp only [go_sem, beq_self_eq_true] <;> rfl)))
 all_goals (rintro v m ⟨hR, hm⟩; subst hR; subst hm)
 all_goals refine And.intro (by first | rfl | simp only [go_sem, beq_self_eq_true]) (And.intro (by first | rfl | simp only [go_sem, beq_self_eq_true]) ?_)
 all_goals simp only [go_sem, beq_self_eq_true]
 all_goals repeat' (first | apply And.intro | intro _)
 refine zhR _ ?_
 refine dr_end rfl (zhE _ ?_)
 refine zhN _ ?_; clear zhN zhM
 refine seq_k fun zN zM zhN zhM => ?_
 refine region_k fun zK zhK => ?_
 simp only [go_sem, beq_self_eq_true]
 repeat' (first | apply And.intro | intro _)
 refine zhK _ ?_
 refine zhN _ ?_; clear zhN zhM
 refine ret_k ?_
 refine zhZ _ _ ?_
 simp only [go_sem, beq_self_eq_true]
 all_goals (first | rfl | (cases b <;> rfl) | simp)
theorem termchecks (t u : TermD) (h1 : t.ok) (h2 : u.ok) : Ct Try.prog 3 [argT t, argT u] (fun v m => v = .w (.one (.pl (.b true)))) := by
 obtain ⟨k, i, o, l⟩ := t
 obtain ⟨k2, i2, o2, l2⟩ := u
 rw [argC_eq, argC_eq]
 rcases hb : sameB (.mk k i o l) (.mk k2 i2 o2 l2) with _ | _
 · exact termchecks_false k i o l k2 i2 o2 l2 h1 h2 hb
 · exact termchecks_true k i o l k2 i2 o2 l2 h1 h2 hb
end Go.Sy

