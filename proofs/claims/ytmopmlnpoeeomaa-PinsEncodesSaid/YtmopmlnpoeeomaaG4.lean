/- Results of the shape (bytes, error number): nothing, or bytes in an object of their own. -/
import Derived.Test.YtmopmlnpoeeomaaG3
set_option linter.unusedVariables false
set_option linter.unusedSimpArgs false
namespace Go.Sy

def bytesOut (r : Option (List UInt8)) (e : Int) (v : V) (m : List (Nat × Ob)) : Prop :=
  match r with
  | none => v = .tup [.one (.pl (.R true 1 [])), .one (.pl (.i e))] ∧ m = []
  | some bs => v = .tup [.one (.s 0 [] bs.length 1), .one (.pl (.i e))] ∧ m = [(0, ⟨true, bytesC bs⟩)]

/-- such a result, told in the names of the walk -/
def Tidy (R : V → List (Nat × Ob) → Prop) (v : V) (m : List (Nat × Ob)) : Prop := ∃ g v' m', v = v'.ren g ∧ Within g m' m ∧ R v' m'

theorem Ct.tidied {P : Program} {f : FuncId} {args : List V} {R : V → List (Nat × Ob) → Prop} (h : Ct P f args (Tidy R)) : Ct P f args R := h.tidy fun _ _ h => h

theorem within_nil {g : Nat → Nat} {m : List (Nat × Ob)} : Within g [] m := ⟨fun k o h => (by cases h), fun k k' h => (by cases h)⟩

theorem bytesC_ren (g : Nat → Nat) (bs : List UInt8) : (bytesC bs).map (L.ren g) = bytesC bs := by simp [bytesC, L.ren]

theorem within_own {m : List (Nat × Ob)} {j : Nat} {bs : List UInt8} (h : look m j = some ⟨true, bytesC bs⟩) : Within (fun _ => j) [(0, ⟨true, bytesC bs⟩)] m := by
  refine ⟨fun k o hk => ?_, fun k k' h1 h2 _ => ?_⟩
  · simp only [look] at hk
    split at hk
    · cases hk; rw [h, bytesC_ren]
    · cases hk
  · have e : ∀ k, (look [(0, (⟨true, bytesC bs⟩ : Ob))] k).isSome = true → k = 0 := by
      intro k hk
      simp only [look] at hk
      split at hk
      · rename_i h0
        first | exact h0 | exact h0.symm | exact (beq_iff_eq.mp h0).symm | exact beq_iff_eq.mp h0
      · cases hk
    rw [e k h1, e k' h2]

theorem out_nil {m : List (Nat × Ob)} (e : Int) : Tidy (bytesOut none e) (.tup [.one (.pl (.R true 1 [])), .one (.pl (.i e))]) m :=
  ⟨fun k => k, .tup [.one (.pl (.R true 1 [])), .one (.pl (.i e))], [], rfl, within_nil, rfl, rfl⟩

theorem out_own {m : List (Nat × Ob)} {j n : Nat} {bs : List UInt8} {e : Int} (hn : n = bs.length) (h : look m j = some ⟨true, bytesC bs⟩) : Tidy (bytesOut (some bs) e) (.tup [.one (.s j [] n 1), .one (.pl (.i e))]) m :=
  ⟨fun _ => j, .tup [.one (.s 0 [] bs.length 1), .one (.pl (.i e))], [(0, ⟨true, bytesC bs⟩)], by rw [hn]; rfl, within_own h, rfl, rfl⟩
end Go.Sy
