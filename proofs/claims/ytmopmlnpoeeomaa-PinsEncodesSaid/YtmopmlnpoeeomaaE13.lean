/- The layer: stores. -/
import Derived.Test.YtmopmlnpoeeomaaE12
set_option linter.unusedVariables false
set_option linter.unusedSimpArgs false
namespace Go.Sy

theorem not_frozen {w : World} {g : Nat} {cur : Array Value} {t : TypeId} {fz : Nat × Nat} (hg : w.heap[g]? = some (.cells cur t fz)) (hfz : fz = (0, 0) ∨ cur.size ≤ fz.1) {j : Nat} (hj : j < cur.size) : w.frozen? ⟨g, j, none⟩ = false := by
  obtain ⟨lo, hi⟩ := fz
  simp only [World.frozen?, hg, Bool.and_eq_false_iff, decide_eq_false_iff_not]
  rcases hfz with h | h
  · cases h; right; omega
  · left; simp only at h; omega

theorem run_stores (P : Program) (g o : Nat) (t : TypeId) (fz : Nat × Nat) : ∀ (vs : List Value) (i : Nat) (cur : Array Value) (w : World), w.heap[g]? = some (.cells cur t fz) → (fz = (0, 0) ∨ cur.size ≤ fz.1) → o + i + vs.length ≤ cur.size → (∀ v ∈ vs, v.oneCell' = true) →
    (storeCells ⟨g, o, none⟩ vs i).run P w = .ok () (w.setRow g (upd cur.toList (o + i) vs.length vs).toArray)
  | [], i, cur, w, hg, _, _, _ => by
    simp only [storeCells, upd, List.append_nil, List.length_nil, Nat.add_zero, List.take_append_drop, Array.toArray_toList]
    rw [setRow_self w g cur t fz hg]
    rfl
  | v :: rest, i, cur, w, hg, hfz, hl, h1 => by
    have hi : o + i < cur.size := by simp at hl; omega
    have hcell : w.cell? ⟨g, o + i, none⟩ = some cur[o + i] := by simp [World.cell?, hg, hi]
    have hfro := not_frozen hg hfz hi
    have hst : (store ((⟨g, o, none⟩ : Addr).add i) v).run P w = .ok () (w.setRow g (cur.setIfInBounds (o + i) v)) := by
      rw [addr_add, run_store P w _ v _ (h1 v (by simp)), hcell]
      simp [hfro, setCell_eq_setRow w g (o + i) cur t fz v hg]
    have hg2 := setRow_heap w g cur (cur.setIfInBounds (o + i) v) t fz hg
    have ih := run_stores P g o t fz rest (i + 1) (cur.setIfInBounds (o + i) v) (w.setRow g (cur.setIfInBounds (o + i) v)) hg2 (by simpa using hfz) (by simp at hl ⊢; omega) (fun u hu => h1 u (by simp [hu]))
    simp only [storeCells, Sem.run_bind, hst, Result.andThen_ok, ih, setRow_setRow]
    congr 3
    simp only [upd, Array.toList_setIfInBounds, List.length_cons]
    have e1 : (cur.toList.set (o + i) v).take (o + (i + 1)) = cur.toList.take (o + i) ++ [v] := by
      rw [show o + (i + 1) = o + i + 1 from by omega, List.take_succ_eq_append_getElem (by simpa using hi), List.getElem_set_self, List.take_set, List.set_eq_of_length_le (by simp; omega)]
    have e2 : (cur.toList.set (o + i) v).drop (o + (i + 1) + rest.length) = cur.toList.drop (o + i + (rest.length + 1)) := by
      rw [List.drop_set, if_pos (by omega)]; congr 1; omega
    rw [e1, e2]; simp

theorem den_oneCell {d : Va} : ∀ {cs : List L} {vs : List Value}, All2 (L.den d) cs vs → ∀ v ∈ vs, v.oneCell' = true
  | _, _, .nil, v, hv => by simp at hv
  | _, _, .cons h1 h2, v, hv => by
    simp only [List.mem_cons] at hv
    rcases hv with rfl | hv
    · obtain ⟨a, b⟩ := L.den_scalar h1
      cases v <;> first | rfl | exact absurd rfl (a _) | exact absurd rfl (b _)
    · exact den_oneCell h2 v hv

def storeV (P : Program) (S : St) (t : TypeId) (a x : V) : Option St :=
  match a, x with
  | .w (.one (.p k path)), .w v => match look S.mem k with
    | some o => if pok o.cells.length path ∧ psz o.cells.length path = P.cellsOf t ∧ P.cellsOf t ≠ 0 ∧ v.cells.length = P.cellsOf t then some { S with mem := setM S.mem k ⟨o.row, wr o.cells path v.cells⟩ } else none
    | none => none
  | _, _ => none

theorem upd_append_left {α : Type} (c c' d : List α) (o n : Nat) (h : o + n ≤ c.length) : upd (c ++ c') o n d = upd c o n d ++ c' := by
  unfold upd
  rw [List.take_append_of_le_length (by omega), List.drop_append_of_le_length (by omega)]; simp

theorem storeV_ok {P : Program} {B : Base} {d : Va} {S S' : St} {a : Act} {w : World} (h : Sim B d S a w) {t : TypeId} {p x : V} {y z : Value} (hv : storeV P S t p x = some S') (hp : p.den d y) (hx : x.den d z) :
    ∃ w', (Instr.storeAt t y z).run P w = .ok () w' ∧ Sim B d S' a w' := by
  unfold storeV at hv
  split at hv <;> try (cases hv; done)
  rename_i k path v
  split at hv <;> try (cases hv; done)
  rename_i o hk
  split at hv <;> cases hv
  rename_i hc
  obtain ⟨hpk, hps, h0, hvl⟩ := hc
  change y = _ at hp; subst hp
  have hcx := W.den_cells hx
  have hlx := hcx.length
  obtain ⟨vals, spare, ty, fr, hh, hfr, hd, hs, hl⟩ := h.mem k o hk
  have hlv := hd.length
  have hle := pok_le hpk
  have hsz := run_size h0 w
  simp only [Array.length_toList] at hlx
  have hst := run_stores P (d.at_ k) (poff path) ty fr z.cells.toList 0 (vals ++ spare).toArray w hh (by simpa using hfr) (by simp; omega) (den_oneCell hcx)
  have e : upd (vals ++ spare).toArray.toList (poff path + 0) z.cells.toList.length z.cells.toList = upd vals (poff path) (psz o.cells.length path) z.cells.toList ++ spare := by
    rw [show z.cells.toList.length = psz o.cells.length path from by rw [Array.length_toList]; omega]
    show upd (vals ++ spare) _ _ _ = _
    rw [Nat.add_zero, upd_append_left _ _ _ _ _ (by omega)]
  rw [e] at hst
  have hul : (upd vals (poff path) (psz o.cells.length path) z.cells.toList).length = vals.length := upd_length _ _ _ _ (by rw [Array.length_toList]; omega) (by omega)
  refine ⟨_, ?_, h.write hk (cells := wr o.cells path v.cells) (vals := upd vals (poff path) (psz o.cells.length path) z.cells.toList) (spare := spare) (ty := ty) (fr := fr) ?_ hs ?_ ?_ (setRow_heap w _ _ _ ty fr hh) (fun b hb => setRow_other w _ b _ hb) (setRow_size _ _ _) rfl rfl rfl⟩
  · simp only [Instr.storeAt, Instr.sureAddr, storeVar, Sem.run_bind, Sem.run_pure, Result.andThen_ok, hsz]
    rw [if_neg (by simp only [ne_eq, Decidable.not_not]; omega)]
    simpa using hst
  · rw [wr_eq _ _ hpk (by omega)]
    exact hd.upd hcx _ _
  · simp only [List.length_append, hul]; simpa using hfr
  · simp only [List.length_append, hul]; simpa using hl
end Go.Sy
