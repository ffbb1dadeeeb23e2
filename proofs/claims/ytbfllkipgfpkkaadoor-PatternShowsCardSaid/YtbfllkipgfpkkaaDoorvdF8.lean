/- With, by name: what the law tells. -/
import Derived.Test.YtbfllkipgfpkkaaDoorvdF7
import Derived.Test.YtbfllkipgfpkkaaDoorvdF6
import Derived.Test.YtbfllkipgfpkkaaDoorvE3
set_option linter.unusedVariables false
set_option linter.unusedSimpArgs false
namespace Go.Sy
open Go.Proofs
attribute [local irreducible] atCall HT runOps runD onC onE onO onG goV goA goS onSt onGuard
theorem rowP_rI (l : List Int) : rowP l = rI (l.isEmpty, l) := by cases l <;> rfl
def pQ (bs : List UInt8) (lt te : Bool) (ps p0 p1 : Bool × List Int) (ts : List (Bool × List Int)) : List L := [.pl (.str bs), .pl (.b lt), .pl (rI ps), .pl (rI p0), .pl (rI p1), .pl (.R te 1 (rT ts))]
def eP (l : List Int) : Bool × List Int := (l.isEmpty, l)
theorem pX_pQ (bs : List UInt8) (ex : Bool) (ps : List Int) (d : PD) : pX bs ex ps d = pQ bs d.1 false (ex, ps) (eP d.2.1) (eP d.2.2.1) (d.2.2.2.map eP) := by
 unfold pX pQ eP
 rw [rowP_rI, rowP_rI, rT, List.map_map]
 simp only [rI_def, Function.comp_def, rowP_rI]
theorem addP_len : ∀ (ps : List Int) (ts : List (List Int)), (addP ts ps).length = ts.length
 | [], _ => rfl
 | n :: r, ts => by rw [addP, addP_len r]; split <;> simp
theorem addP_le : ∀ (ps : List Int) {ts : List (List Int)} {m : Nat}, (∀ t ∈ ts, t.length ≤ m) → ∀ t ∈ addP ts ps, t.length ≤ m + ps.length
 | [], _, _, h => h
 | n :: r, ts, m, h => by
  intro t ht
  rw [addP] at ht
  have hg : ∀ k, (ts.getD k []).length ≤ m := fun k => by
   simp only [List.getD]
   cases hk : ts[k]? with
   | none => simp
   | some x => exact h x (List.mem_of_getElem? hk)
  have := addP_le r (m := m + 1) (fun t ht => by
   split at ht
   · rcases List.mem_or_eq_of_mem_set ht with h1 | rfl
     · exact Nat.le_succ_of_le (h t h1)
     · simp only [List.length_cons]; exact Nat.succ_le_succ (hg 0)
   · rcases List.mem_or_eq_of_mem_set ht with h1 | rfl
     · exact Nat.le_succ_of_le (h t h1)
     · simp only [List.length_append, List.length_cons, List.length_nil]; exact Nat.succ_le_succ (hg _)) t ht
  rw [List.length_cons]; omega
def okD (ps : List Int) (d : PD) : Prop := ps.length ≤ 4 ∧ d.2.1.length ≤ 4 ∧ d.2.2.1.length ≤ 4 ∧ d.2.2.2.length ≤ 4 ∧ ∀ t ∈ d.2.2.2, t.length ≤ 100
theorem wR_ok {lt p0 p1 ts n ps d} (h : wR lt p0 p1 ts n ps = .ok d) (h0 : p0.length ≤ 4) (h1 : p1.length ≤ 4) (h2 : ts.length ≤ 4) (h3 : ∀ t ∈ ts, t.length ≤ 90) : okD ps d := by
 unfold wR at h
 split at h
 · cases h
 · split at h
   · cases h
     have hp : ps.length ≤ 4 := by omega
     refine ⟨hp, h0, h1, by rw [addP_len]; exact h2, fun t ht => ?_⟩
     have := addP_le ps h3 t ht; omega
   · cases h
theorem wRes_ok {bs ps d} (h : wRes bs ps = .ok d) : okD ps d := by
 unfold wRes at h
 iterate 7 (split at h; focus exact wR_ok h (by decide) (by decide) (by decide) (by decide))
 cases h
theorem space_g : globM [(1000000, spaceL.map PL.u8)] = [(1000000, ⟨false, bytesC spaceL⟩)] := congrArg (fun l => [(1000000, (⟨false, l⟩ : Ob))]) (pls_bytes spaceL)
theorem den_u8s {ro : Ro} : ∀ l : List UInt8, All2 (PL.den ro) (l.map PL.u8) (l.map fun x => Value.int .u8 x.toNat)
 | [] => .nil
 | x :: r => .cons rfl (den_u8s r)
end Go.Sy

