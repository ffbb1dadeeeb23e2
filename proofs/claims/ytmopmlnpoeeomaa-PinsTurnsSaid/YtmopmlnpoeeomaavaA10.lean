/- The rows of an argument are pins. -/
import Derived.Test.YtmopmlnpoeeomaavaA5
set_option linter.unusedVariables false
set_option linter.unusedSimpArgs false
namespace Go.Sy
open Go.Proofs
theorem pins_of_rows2 {m : Nat} : ∀ {rows : List (List PL)}, (∀ r ∈ rows, Sh Try.prog m 47 r) → ∃ l : List PinD, rows = pinRows l ∧ ∀ p ∈ l, p.ok
  | [], _ => ⟨[], rfl, fun p hp => (by cases hp)⟩
  | r :: rs, h => by
    have h1 := h r (by simp)
    obtain ⟨l, hl, hok⟩ := pins_of_rows2 (rows := rs) fun q hq => h q (by simp [hq])
    obtain ⟨psh1, mh1, rfl, hph1⟩ := sh_struct h1 Try.underlying47
    rcases hph1 with _ | ⟨h1a0, _ | ⟨h1a1, _ | ⟨h1a2, _ | _⟩⟩⟩
    obtain ⟨name, rfl, hname⟩ := sh_str h1a0 Try.underlying9
    obtain ⟨key, hkey, rfl⟩ := sh_bytes h1a1 Try.underlying23 Try.underlying5
    obtain ⟨gone, rfl⟩ := sh_bool h1a2 Try.underlying4
    exact ⟨⟨name, key, gone⟩ :: l, by rw [hl]; simp [pinRows, pinC], fun p hp => by
      rcases List.mem_cons.mp hp with rfl | hp
      · exact ⟨hkey, hname⟩
      · exact hok p hp⟩
end Go.Sy
