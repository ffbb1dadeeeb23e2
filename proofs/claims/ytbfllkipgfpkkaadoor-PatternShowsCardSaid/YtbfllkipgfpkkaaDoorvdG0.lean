/- strings.Join, by the library's own contract. -/
import Derived.Test.YtbfllkipgfpkkaaDoorvdF8
import Derived.Test.YtbfllkipgfpkkaaDoorvE3
import Derived.Test.YtbfllkipgfpkkaaDoorvdS1
set_option linter.unusedVariables false
set_option linter.unusedSimpArgs false
namespace Go.Sy
open Go.Proofs
attribute [local irreducible] atCall HT runOps runD onC onE onO onG goV goA goS onSt onGuard
def sRows (xs : List (List UInt8)) : List (List PL) := xs.map fun x => [.str x]
theorem sRows_cells {ro : Ro} {blk : Nat} : ∀ {xs : List (List UInt8)} {off : Nat}, PL.denRows ro blk 1 (sRows xs) off → ∀ (j : Nat) (x : List UInt8), xs[j]? = some x → ro blk (off + j) = some (.string ⟨x.toArray⟩)
 | [], _, _, _, _, h => by cases h
 | a :: r, off, h, j, x, hj => by
  obtain ⟨_, ⟨⟨y, hy, hd⟩, _⟩, h3⟩ := h
  cases j with
  | zero => cases hj; rw [Nat.add_zero, hy, show y = _ from hd.1]
  | succ j =>
   have := sRows_cells h3 j x hj
   rw [show off + (j + 1) = off + 1 + j by omega]; exact this
open Go.RowKit in
theorem join_ (xs : List (List UInt8)) (ex : Bool) (sep : List UInt8) (hx : xs ≠ []) (hN : xs.length ≤ 140737488355328) (hl : (Lib.join xs sep).length ≤ 140737488355328) : Ct Tryd.prog 24 [.w (.one (.pl (.R ex 1 (sRows xs)))), .w (.one (.pl (.str sep)))] (fun v m => v = .w (.one (.pl (.str (Lib.join xs sep)))) ∧ m = []) := by
 intro w d vals hro hgat ha
 have hm : MemOK ⟨w, mayOf d [], 0, d.ro, fxOf d []⟩ d [] w := ⟨{ tmps := #[], defers := [] }, ⟨rfl, rfl, fun n v hn => (by cases hn), fun k o hk => (by cases hk), fun k k' hk => (by cases hk), fun k hk => (by cases hk), hro, fun b o y hy _ => hy, rfl, rfl, rfl, Nat.le_refl _, fun b _ _ => rfl, hgat, fun k o hk => (by cases hk), fun k o p hk => (by cases hk), fun k p hk => (by simp [fxOf_nil] at hk)⟩⟩
 have key := CtM.of_below (P := Tryd.prog) (f := 24) (args := [.w (.one (.pl (.R ex 1 (sRows xs)))), .w (.one (.pl (.str sep)))]) (m := []) (X := .w (.one (.pl (.str (Lib.join xs sep))))) (fun w d vals hm ha => by
  obtain ⟨a, hs⟩ := hm
  obtain ⟨l⟩ := vals
  simp only at ha
  cases ha with
  | cons h1 ha =>
   cases ha with
   | cons h2 ha =>
    cases ha
    simp only [V.den, W.den, L.den] at h1 h2
    have h2' : _ = _ := h2.1
    rw [h2']
    have hne : sRows xs ≠ [] := by cases xs with | nil => exact absurd rfl hx | cons _ _ => simp [sRows]
    have hlen : (sRows xs).length = xs.length := by simp [sRows]
    rcases h1 with ⟨_, h⟩ | ⟨blk, off, cap, rfl, hc, _, _, hr⟩ | ⟨_, _, _, h, _⟩
    · exact absurd h hne
    · rw [hlen] at hc ⊢
      have hcells := sRows_cells hr
      have e0 : ((xs.map fun x => (⟨x.toArray⟩ : ByteArray)).map (·.data.toList)) = xs := by rw [List.map_map]; exact List.map_id'' (fun _ => rfl) _
      have hj := Tryd.strings_Join blk off cap (xs.map fun x => ⟨x.toArray⟩) ⟨sep.toArray⟩ w (fun j x hj => by
       rw [List.getElem?_map] at hj
       obtain ⟨x', hx', rfl⟩ := Option.map_eq_some_iff.mp hj
       exact hs.ro _ _ _ (hcells j x' hx')) (by
        obtain ⟨x0, r, rfl⟩ := List.exists_cons_of_ne_nil hx
        have := hs.ro _ _ _ (hcells 0 x0 rfl)
        exact World.block_lt_of_cell? _ _ this) (by rw [List.length_map]; exact hN) (by rw [List.length_map]; exact hc) (by rw [e0]; exact hl)
      rw [List.length_map, e0] at hj
      refine ⟨.string ⟨(Lib.join xs sep).toArray⟩, hj, fun d' => ?_⟩
      simp only [V.den, W.den, L.den, PL.den, true_and]
      exact Nat.le_trans hl (by decide)
    · exact absurd h hne) w d vals hm ha
 refine key.mono fun e w' ⟨y, v, d', m', h1, h2, h3, h4⟩ => ⟨y, v, d', m', h1, h2, h3, ?_⟩
 rw [mayOf_nil, fxOf_nil] at h4
 exact h4
end Go.Sy

