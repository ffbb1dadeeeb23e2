/- The rows of an argument are lists of tokens. -/
import Derived.Test.YtbfllkipgfpkkaavtJ6
import Derived.Test.YtbfllkipgfpkkaavE3
set_option linter.unusedVariables false
set_option linter.unusedSimpArgs false
namespace Go.Sy
open Go.Proofs
attribute [local irreducible] atCall HT runOps runD onC onE onO onG goV goA goS onSt onGuard
theorem list_of_len2 {α : Type} {l : List α} (h : l.length = 2) : ∃ a b, l = [a, b] := by
 match l, h with
 | [a, b], _ => exact ⟨a, b, rfl⟩
theorem ints_of {m : Nat} : ∀ {rows : List (List PL)}, (∀ r ∈ rows, Sh Try.prog m 3 r) → ∃ l : List Int, rows = iRows l
 | [], _ => ⟨[], rfl⟩
 | a :: rs, h => by
  obtain ⟨k, hk, _, _⟩ := sh_i64 (h a (by simp)) Try.underlying3
  obtain ⟨l, hl⟩ := ints_of (rows := rs) fun r hr => h r (List.mem_cons_of_mem _ hr)
  exact ⟨k :: l, by rw [hk, hl]; rfl⟩
theorem turns_of2 {m : Nat} : ∀ {rows : List (List PL)}, (∀ r ∈ rows, Sh Try.prog m 22 r) → ∃ ts : List (List Int), rows = tRows ts
 | [], _ => ⟨[], rfl⟩
 | a :: rs, h => by
  obtain ⟨rw', m', hk, hr, _⟩ := sh_slice (h a (by simp)) Try.underlying22
  obtain ⟨l, rfl⟩ := ints_of hr
  obtain ⟨ts, hl⟩ := turns_of2 (rows := rs) fun r hr => h r (List.mem_cons_of_mem _ hr)
  exact ⟨l :: ts, by rw [hk, hl, sz3]; rfl⟩
end Go.Sy

