/- Words of a text: counted, and taken out. -/
import Derived.Test.YtbfllkipgfpkkaaDoorvU4
set_option linter.unusedVariables false
set_option linter.unusedSimpArgs false
namespace Go.Sy
def spaceL : List UInt8 := (List.range 256).map fun i => if i = 9 ∨ i = 10 ∨ i = 11 ∨ i = 12 ∨ i = 13 ∨ i = 32 then 1 else 0
def isSp (b : UInt8) : Bool := spaceL.getD b.toNat 0 != 0
def spN (b : UInt8) : UInt8 := if isSp b then 1 else 0
theorem spaceL_length : spaceL.length = 256 := by simp [spaceL]
theorem spaceL_01 : ∀ x ∈ spaceL, x = 0 ∨ x = 1 := by
  intro x hx
  simp only [spaceL, List.mem_map] at hx
  obtain ⟨i, _, rfl⟩ := hx
  split <;> simp
theorem space_get (b : UInt8) : List.take 1 (List.drop b.toNat spaceL) = [spN b] := by
  have h : b.toNat < spaceL.length := by rw [spaceL_length]; exact b.toNat_lt
  rw [List.drop_eq_getElem_cons h, List.take_succ_cons, List.take_zero]
  have hm := spaceL_01 _ (List.getElem_mem h)
  have hg : spaceL.getD b.toNat 0 = spaceL[b.toNat] := by simp [List.getD, List.getElem?_eq_getElem h]
  unfold spN isSp
  rw [hg]
  rcases hm with h0 | h0 <;> rw [h0] <;> rfl
def wordsG (cur : List UInt8) : List UInt8 → List (List UInt8)
  | [] => if cur = [] then [] else [cur]
  | b :: r => if isSp b then (if cur = [] then wordsG [] r else cur :: wordsG [] r) else wordsG (cur ++ [b]) r
def cntG (ws : Bool) : List UInt8 → Nat
  | [] => 0
  | b :: r => (if ws && !isSp b then 1 else 0) + cntG (isSp b) r
theorem cnt_words : ∀ (s cur : List UInt8), (wordsG cur s).length = (if cur = [] then 0 else 1) + cntG (decide (cur = [])) s
  | [], cur => by rw [wordsG, cntG]; split <;> simp_all
  | b :: r, cur => by
    rw [wordsG, cntG]
    by_cases hb : isSp b = true
    · rw [if_pos hb, hb]
      have ih := cnt_words r []
      simp only [decide_true, if_true] at ih
      by_cases hc : cur = []
      · rw [if_pos hc, ih]; simp [hc]
      · rw [if_neg hc, List.length_cons, ih]; simp [hc]; omega
    · have hb' : isSp b = false := by simpa using hb
      rw [if_neg hb, cnt_words r (cur ++ [b]), hb']
      have h1 : ¬ (cur ++ [b] = []) := by simp
      rw [if_neg h1, decide_eq_false h1]
      by_cases hc : cur = []
      · simp [hc]
      · simp [hc]
theorem cnt_all (s : List UInt8) : cntG true s = (wordsG [] s).length := by rw [cnt_words s []]; simp
end Go.Sy

