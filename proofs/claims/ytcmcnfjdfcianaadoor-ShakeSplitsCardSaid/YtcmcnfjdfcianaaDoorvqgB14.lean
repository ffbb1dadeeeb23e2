/- Bytes added to a sum: in plain lists. -/
import Derived.Test.YtcmcnfjdfcianaaDoorvqgB11
set_option linter.unusedVariables false
set_option linter.unusedSimpArgs false
namespace Go.Sy
namespace Bk
open Go.Proofs
attribute [local irreducible] atCall HT runOps runD onC onE onO onG goV goA goS onSt onGuard
structure HSt where
 h : H8
 done : Nat
 rest : List UInt8
def stepB (s : HSt) (c : UInt8) : HSt := if s.rest.length = 64 then ⟨soakB s.h s.rest (s.done + 64) false, s.done + 64, [c]⟩ else ⟨s.h, s.done, s.rest ++ [c]⟩
def absB (s : HSt) (l : List UInt8) : HSt := l.foldl stepB s
section
variable {s : HSt} {l : List UInt8}
theorem stepB_len (c : UInt8) (h : s.rest.length ≤ 64) : (stepB s c).rest.length ≤ 64 ∧ (stepB s c).done + (stepB s c).rest.length = s.done + s.rest.length + 1 := by
 unfold stepB
 split
 · rename_i h1; simp only [List.length_cons, List.length_nil]; omega
 · simp only [List.length_append, List.length_cons, List.length_nil]; omega
theorem absB_len : ∀ {l : List UInt8} {s : HSt}, s.rest.length ≤ 64 → (absB s l).rest.length ≤ 64 ∧ (absB s l).done + (absB s l).rest.length = s.done + s.rest.length + l.length
 | [], _, h => ⟨h, rfl⟩
 | c :: l, s, h => by
  obtain ⟨h1, h2⟩ := stepB_len c h
  obtain ⟨h3, h4⟩ := absB_len (l := l) h1
  exact ⟨h3, by show (absB (stepB s c) l).done + (absB (stepB s c) l).rest.length = _; rw [h4, h2, List.length_cons]; omega⟩
theorem absB_snoc {i : Nat} (h : i < l.length) : absB s (l.take (i + 1)) = stepB (absB s (l.take i)) (l.getD i 0) := by
 have e : l.take (i + 1) = l.take i ++ [l.getD i 0] := by
  rw [List.take_succ_eq_append_getElem h]; simp [List.getD, List.getElem?_eq_getElem h]
 rw [e, absB, List.foldl_append]; rfl
theorem absB_append (a b : List UInt8) : absB s (a ++ b) = absB (absB s a) b := List.foldl_append
theorem absB_short : ∀ {l : List UInt8} {h : H8} {d : Nat} {r : List UInt8}, r.length + l.length ≤ 64 → absB ⟨h, d, r⟩ l = ⟨h, d, r ++ l⟩
 | [], h, d, r, _ => by simp [absB]
 | c :: l, h, d, r, hl => by
  simp only [List.length_cons] at hl
  show absB (stepB ⟨h, d, r⟩ c) l = _
  have e : stepB ⟨h, d, r⟩ c = ⟨h, d, r ++ [c]⟩ := by unfold stepB; rw [if_neg (by show ¬ r.length = 64; omega)]
  rw [e, absB_short (by simp only [List.length_append, List.length_cons, List.length_nil]; omega)]
  simp
theorem absB_rest {h : H8} {d : Nat} {r : List UInt8} (hr : r.length ≤ 64) (b : List UInt8) : absB ⟨h, d, r⟩ b = absB ⟨h, d, []⟩ (r ++ b) := by
 have e : absB ⟨h, d, []⟩ r = ⟨h, d, r⟩ := by rw [absB_short (by simpa using hr)]; rfl
 rw [absB_append, e]
theorem absB_block {h : H8} {d : Nat} (hl : 64 < l.length) : absB ⟨h, d, []⟩ l = absB ⟨soakB h (l.take 64) (d + 64) false, d + 64, []⟩ (l.drop 64) := by
 have e : l.drop 64 = l.getD 64 0 :: l.drop 65 := by
  rw [List.drop_eq_getElem_cons hl]; simp [List.getD, List.getElem?_eq_getElem hl]
 have l64 : (l.take 64).length = 64 := by rw [List.length_take]; omega
 have key : absB ⟨h, d, []⟩ (l.take 64) = ⟨h, d, l.take 64⟩ := by rw [absB_short (by simp; omega)]; rfl
 conv => lhs; rw [← List.take_append_drop 64 l]
 rw [absB_append, key, e]
 show absB (stepB _ _) _ = absB (stepB _ _) _
 congr 1
 unfold stepB
 rw [if_pos l64, if_neg (by show ¬ ([] : List UInt8).length = 64; simp)]
 rfl
end
def pad64 (r : List UInt8) : List UInt8 := r ++ List.replicate (64 - r.length) 0
theorem pad64_length {r : List UInt8} (h : r.length ≤ 64) : (pad64 r).length = 64 := by simp [pad64]; omega
theorem pad64_of {held : List UInt8} {k : Nat} (hh : held.length = 64) (hk : k ≤ 64) (hz : ∀ j, k ≤ j → j < 64 → held.getD j 0 = 0) : pad64 (held.take k) = held := by
 have hlk : (held.take k).length = k := by rw [List.length_take]; omega
 have hd : held.drop k = List.replicate (64 - k) 0 := by
  apply List.ext_getElem
  · rw [List.length_drop, List.length_replicate]; omega
  · intro i h1 h2
    rw [List.length_replicate] at h2
    have := hz (k + i) (by omega) (by omega)
    rw [List.getElem_drop, List.getElem_replicate]
    simpa [List.getD, List.getElem?_eq_getElem (show k + i < held.length by omega)] using this
 rw [pad64, hlk, ← hd, List.take_append_drop]
theorem pad64_rest {r : List UInt8} (h : r.length ≤ 64) : ∀ j, r.length ≤ j → j < 64 → (pad64 r).getD j 0 = 0 := by
 intro j h1 h2
 rw [pad64, List.getD, List.getElem?_append_right h1, List.getElem?_replicate]
 split <;> rfl
theorem pad64_take (r : List UInt8) : (pad64 r).take r.length = r := List.take_left' rfl
theorem pad64_full {r : List UInt8} (h : r.length = 64) : pad64 r = r := by rw [pad64, h]; simp
theorem pad64_set {r : List UInt8} (h : r.length < 64) (c : UInt8) : r ++ (c :: (pad64 r).drop (r.length + 1)) = pad64 (r ++ [c]) := by
 rw [pad64, pad64, List.drop_append, List.drop_of_length_le (by omega), List.drop_replicate, List.nil_append, List.append_assoc]
 simp only [List.length_append, List.length_cons, List.length_nil, List.cons_append, List.nil_append]
 congr 3; omega
theorem pad64_one (c : UInt8) : pad64 [c] = c :: List.replicate 63 0 := rfl
def HSt.len (s : HSt) : Nat := s.done + s.rest.length
def stB (s : HSt) : List L := hashC s.h (pad64 s.rest) (s.rest.length : Nat) ((s.len : Nat) : Int)
def HSt.ok (s : HSt) : Prop := s.rest.length ≤ 64 ∧ s.len ≤ 1073741824 ∧ s.done % 64 = 0 ∧ (s.rest.length = 0 → s.done = 0)
theorem stB_ok {s : HSt} (hs : s.ok) : HashOk (pad64 s.rest) (s.rest.length : Nat) ((s.len : Nat) : Int) := by
 obtain ⟨h1, h2, h3, h4⟩ := hs
 have h5 : s.len = s.done + s.rest.length := rfl
 refine ⟨by omega, by omega, by omega, by omega, by omega, fun h => ?_, fun j hj hl => pad64_rest h1 j (by simpa using hj) hl⟩
 have := h4 (by omega); omega
theorem st_of {held : List UInt8} {k l : Nat} (hh : held.length = 64) (hok : HashOk held (k : Int) (l : Int)) (h : H8) : (HSt.ok ⟨h, l - k, held.take k⟩) ∧ stB ⟨h, l - k, held.take k⟩ = hashC h held (k : Int) (l : Int) := by
 obtain ⟨h1, h2, h3, h4, h5, h6, h7⟩ := hok
 have hl : (held.take k).length = k := by rw [List.length_take]; omega
 have hp := pad64_of (k := k) hh (by omega) (fun j hj hl => h7 j (by simpa using hj) hl)
 refine ⟨⟨by simp only [hl]; omega, by show l - k + (held.take k).length ≤ _; rw [hl]; omega, by show (l - k) % 64 = 0; omega, fun h => ?_⟩, ?_⟩
 · simp only [hl] at h; show l - k = 0; have := h6 (by omega); omega
 · show hashC h (pad64 (held.take k)) ((held.take k).length : Nat) ((l - k + (held.take k).length : Nat) : Int) = _
   rw [hp, hl, show l - k + k = l from by omega]
end Bk
end Go.Sy
