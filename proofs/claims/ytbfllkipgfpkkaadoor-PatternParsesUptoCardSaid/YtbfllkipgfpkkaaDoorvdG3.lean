/- The name of a protocol, taken apart: two ways, one answer. -/
import Derived.Test.YtbfllkipgfpkkaaDoorvdG2
set_option linter.unusedVariables false
set_option linter.unusedSimpArgs false
namespace Go.Sy
open Go.Proofs
attribute [local irreducible] atCall HT runOps runD onC onE onO onG goV goA goS onSt onGuard
def headN : List UInt8 := [78, 111, 105, 115, 101, 95]
def tailN : List UInt8 := [95, 50, 53, 53, 49, 57, 95, 67, 104, 97, 67, 104, 97, 80, 111, 108, 121, 95, 66, 76, 65, 75, 69, 50, 115]
def pskN : List UInt8 := [112, 115, 107]
def pmods : List UInt8 → Option (List Int)
 | [] => some []
 | a :: b :: c :: d :: e :: r => if a = 112 ∧ b = 115 ∧ c = 107 ∧ e = 43 ∧ ¬ d < 48 ∧ ¬ 57 < d then (pmods r).map ((((d - 48).toNat : Nat) : Int) :: ·) else none
 | _ => none
def pPart (m : List UInt8) : Option Int := match Lib.hasPrefix m pskN, Lib.trimPrefix m pskN with
 | true, [d] => if ¬ d < 48 ∧ ¬ 57 < d then some (((d - 48).toNat : Nat) : Int) else none
 | _, _ => none
def pParts : List (List UInt8) → Option (List Int)
 | [] => some []
 | m :: r => match pPart m, pParts r with
  | some d, some l => some (d :: l)
  | _, _ => none
theorem has_psk (a b c : UInt8) (r : List UInt8) : Lib.hasPrefix (a :: b :: c :: r) pskN = decide (a = 112 ∧ b = 115 ∧ c = 107) := by
 simp only [Lib.hasPrefix, pskN, List.isPrefixOf, Bool.and_true]
 rw [Bool.eq_iff_iff]
 simp only [Bool.and_eq_true, beq_iff_eq, decide_eq_true_eq]
 exact ⟨fun ⟨h1, h2, h3⟩ => ⟨h1.symm, h2.symm, h3.symm⟩, fun ⟨h1, h2, h3⟩ => ⟨h1.symm, h2.symm, h3.symm⟩⟩
theorem pPart_short {m : List UInt8} (h : m.length < 4) : pPart m = none := by
 unfold pPart
 match m, h with
 | [], _ => rfl
 | [a], _ => simp [Lib.hasPrefix, pskN, List.isPrefixOf]
 | [a, b], _ => simp [Lib.hasPrefix, pskN, List.isPrefixOf]
 | [a, b, c], _ =>
  cases h : Lib.hasPrefix [a, b, c] pskN with
  | false => rfl
  | true => simp only [Lib.trimPrefix, h, if_true]; rfl
theorem pPart_four (a b c d : UInt8) : pPart [a, b, c, d] = if a = 112 ∧ b = 115 ∧ c = 107 ∧ ¬ d < 48 ∧ ¬ 57 < d then some (((d - 48).toNat : Nat) : Int) else none := by
 unfold pPart Lib.trimPrefix
 rw [has_psk]
 by_cases h : a = 112 ∧ b = 115 ∧ c = 107
 · rw [decide_eq_true h, if_pos rfl]
   simp only [pskN, List.drop_succ_cons, List.length_cons, List.length_nil, List.drop_zero]
   obtain ⟨h1, h2, h3⟩ := h
   simp [h1, h2, h3]
 · have h2 : ¬ (a = 112 ∧ b = 115 ∧ c = 107 ∧ ¬ d < 48 ∧ ¬ 57 < d) := fun h' => h ⟨h'.1, h'.2.1, h'.2.2.1⟩
   rw [decide_eq_false h, if_neg h2]
theorem pPart_long {a b c d e : UInt8} {r : List UInt8} : pPart (a :: b :: c :: d :: e :: r) = none := by
 unfold pPart Lib.trimPrefix
 rw [has_psk]
 by_cases h : a = 112 ∧ b = 115 ∧ c = 107
 · rw [decide_eq_true h, if_pos rfl]; rfl
 · rw [decide_eq_false h]
theorem pmods_step {t u : List UInt8} (h : ∀ b ∈ t, b ≠ 43) : pmods (t ++ 43 :: u) = match pPart t, pmods u with
 | some d, some l => some (d :: l)
 | _, _ => none := by
 match t, h with
 | [], _ =>
  rw [pPart_short (by decide)]
  match u with
  | [] => rfl
  | [_] => rfl
  | [_, _] => rfl
  | [_, _, _] => rfl
  | b :: c :: d :: e :: r => simp [pmods]
 | [a], h =>
  rw [pPart_short (by simp)]
  match u with
  | [] => rfl
  | [_] => rfl
  | [_, _] => rfl
  | c :: d :: e :: r => simp [pmods]
 | [a, b], h =>
  rw [pPart_short (by simp)]
  match u with
  | [] => rfl
  | [_] => rfl
  | d :: e :: r => simp [pmods]
 | [a, b, c], h =>
  rw [pPart_short (by simp)]
  match u with
  | [] => rfl
  | e :: r =>
   have h43 : ¬ (¬ (43 : UInt8) < 48) := by decide
   simp only [List.cons_append, List.nil_append, pmods]
   rw [if_neg (fun h' => h43 h'.2.2.2.2.1)]
 | [a, b, c, d], h =>
  rw [pPart_four]
  simp only [List.cons_append, List.nil_append, pmods, true_and]
  by_cases hc : a = 112 ∧ b = 115 ∧ c = 107 ∧ ¬ d < 48 ∧ ¬ 57 < d
  · rw [if_pos hc, if_pos hc]
    cases pmods u <;> rfl
  · rw [if_neg hc, if_neg hc]
 | a :: b :: c :: d :: e :: r, h =>
  rw [pPart_long]
  have he : ¬ e = 43 := h e (by simp)
  simp only [List.cons_append, pmods]
  rw [if_neg (fun h' => he h'.2.2.2.1)]
theorem index_plus_no : ∀ {s : List UInt8}, Lib.index s [43] = -1 → ∀ b ∈ s, b ≠ 43
 | [], _, b, hb => by cases hb
 | x :: l, h, b, hb => by
  unfold Lib.index at h
  split at h
  · cases h
  · rename_i hx
    have hi := Lib.index_ge l [43]
    have h0 : Lib.index l [43] = -1 := by
     split at h
     · rename_i e; exact beq_iff_eq.mp e
     · omega
    rcases List.mem_cons.mp hb with rfl | h2
    · intro e; subst e; simp [List.isPrefixOf] at hx
    · exact index_plus_no h0 b h2
theorem index_plus : ∀ {s : List UInt8} {i : Nat}, Lib.index s [43] = (i : Int) → ∃ t u, s = t ++ 43 :: u ∧ t.length = i ∧ ∀ b ∈ t, b ≠ 43
 | [], i, h => by simp [Lib.index] at h
 | x :: l, i, h => by
  unfold Lib.index at h
  split at h
  · rename_i hx
    have : x = 43 := by simp [List.isPrefixOf] at hx; exact hx.symm
    subst this
    exact ⟨[], l, rfl, by first | (simp; done) | (simp; omega), by simp⟩
  · rename_i hx
    split at h
    · omega
    · rename_i hn
      have hi := Lib.index_ge l [43]
      obtain ⟨j, hj⟩ : ∃ j : Nat, Lib.index l [43] = (j : Int) := ⟨(Lib.index l [43]).toNat, by simp only [beq_iff_eq] at hn; omega⟩
      obtain ⟨t, u, rfl, hl, ht⟩ := index_plus hj
      refine ⟨x :: t, u, rfl, by first | (simp; done) | (simp; omega), fun b hb => ?_⟩
      rcases List.mem_cons.mp hb with rfl | h2
      · intro e; subst e; simp [List.isPrefixOf] at hx
      · exact ht b h2
theorem parts_mods : ∀ (k : Nat) (s : List UInt8), Lib.count s [43] = k → pParts (Lib.splitK [43] 0 k s) = pmods (s ++ [43])
 | 0, s, hk => by
  have hn : Lib.index s [43] = -1 := by
   apply Classical.byContradiction
   intro hne
   have hi := Lib.index_ge s [43]
   have h2 := Lib.count_hit (sub := [43]) (s := s) (i := (Lib.index s [43]).toNat) (by decide) (by omega)
   omega
  rw [pmods_step (index_plus_no hn)]
  simp only [Lib.splitK, pParts, pmods]
 | k + 1, s, hk => by
  unfold Lib.splitK
  split
  · rename_i e
    have hn : Lib.index s [43] = -1 := beq_iff_eq.mp e
    rw [pmods_step (index_plus_no hn)]
    simp only [pParts, pmods]
  · rename_i e
    have hi := Lib.index_ge s [43]
    obtain ⟨j, hj⟩ : ∃ j : Nat, Lib.index s [43] = (j : Int) := ⟨(Lib.index s [43]).toNat, by simp only [beq_iff_eq] at e; omega⟩
    obtain ⟨t, u, rfl, hl, ht⟩ := index_plus hj
    have h2 := Lib.count_hit (sub := [43]) (by decide) hj
    rw [hj, Int.toNat_natCast, Nat.add_zero, ← hl, List.take_left]
    have hd : List.drop (t.length + ([43] : List UInt8).length) (t ++ 43 :: u) = u := by
     rw [← List.drop_drop, List.drop_left]; rfl
    rw [hd] 
    rw [← hl, hd] at h2
    rw [List.append_assoc, List.cons_append, pmods_step ht, pParts, parts_mods k u (by omega)]
theorem parts_pmods (s : List UInt8) : pParts (parts s) = pmods (s ++ [43]) := parts_mods _ s rfl
theorem pParts_cons (m : List UInt8) (r : List (List UInt8)) : pParts (m :: r) = match pPart m, pParts r with
 | some d, some l => some (d :: l)
 | _, _ => none := rfl
end Go.Sy

