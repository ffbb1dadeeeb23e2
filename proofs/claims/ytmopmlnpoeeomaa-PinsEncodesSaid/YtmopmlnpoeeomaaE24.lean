/- The layer: copy, as a step. -/
import Derived.Test.YtmopmlnpoeeomaaE23
import Derived.Laws.CopyRow
set_option linter.unusedVariables false
set_option linter.unusedSimpArgs false
namespace Go.Sy

theorem CellsAt.take {w : World} {b o : Nat} {vals : List Value} (h : CellsAt w b o vals) (n : Nat) : CellsAt w b o (vals.take n) := by
  intro j v hv
  rw [List.getElem?_take] at hv
  split at hv
  · exact h j v hv
  · cases hv

/-- the first elements of what is copied -/
theorem src_take {P : Program} {B : Base} {d : Va} {S : St} {a : Act} {w : World} (h : Sim B d S a w) {e tx : TypeId} {x : V} {y : Value} {cs : List L} {n m : Nat} (hv : srcV P S e tx x = some (cs, n)) (hx : x.den d y) (hm : m ≤ n) :
    ∃ vals : List Value, (Builtin.lenOf y).run P w = .ok n w ∧ (Builtin.firstCells (P.cellsOf e) m y).run P w = .ok (vals.take (m * P.cellsOf e)).toArray w ∧ All2 (L.den d) cs vals ∧ vals.length = n * P.cellsOf e := by
  unfold srcV at hv
  split at hv
  · rename_i e' ex sz rows hu
    split at hv <;> cases hv
    rename_i hc
    change PL.den _ _ _ at hx; rw [PL.den] at hx
    rcases hx with ⟨rfl, rfl⟩ | ⟨blk, off, cap, rfl, hlc, hcm, _, hrows⟩
    · exact ⟨[], by simp [Builtin.lenOf], by simp [Builtin.firstCells], .nil, by simp⟩
    · have hrows' : PL.denRows d.ro blk (P.cellsOf e) rows off := by
        rcases hc with rfl | rfl
        · exact hrows
        · simp [PL.denRows]
      obtain ⟨vals, hd, hcell, hl⟩ := denRows_vals h.ro hrows'
      refine ⟨vals, by simp [Builtin.lenOf], ?_, hd, hl⟩
      simp only [Builtin.firstCells]
      exact loadCells_at (hcell.take _) (by rw [List.length_take, hl]; exact Nat.min_eq_left (Nat.mul_le_mul_right _ hm))
  · rename_i e' k path len sz hu
    split at hv <;> try (cases hv; done)
    rename_i o hk
    split at hv <;> cases hv
    rename_i hc
    obtain ⟨hp, hps, rfl⟩ := hc
    obtain ⟨vals, hd, hcell, hl⟩ := h.readObj hk hp
    rw [hps] at hl
    obtain ⟨oo, cap, rfl, hlc, hcm, ho, _⟩ := hx
    have hcell' : CellsAt w (d.at_ k) oo vals := by
      rcases ho with ho | rfl
      · have hz : n = 0 := by omega
        rw [hz, Nat.zero_mul] at hl
        have := List.eq_nil_of_length_eq_zero hl
        subst this; exact fun j v hv => by simp at hv
      · exact hcell
    refine ⟨vals, by simp [Builtin.lenOf], ?_, hd, hl⟩
    simp only [Builtin.firstCells]
    exact loadCells_at (hcell'.take _) (by rw [List.length_take, hl]; exact Nat.min_eq_left (Nat.mul_le_mul_right _ hm))
  · rename_i bs hu
    split at hv <;> cases hv
    rename_i hc
    change PL.den _ _ _ at hx; rw [PL.den] at hx
    obtain ⟨rfl, _⟩ := hx
    have hext : ((⟨bs.toArray⟩ : ByteArray).extract 0 m).data.map (fun b => Value.int .u8 b.toNat) = ((bs.map fun b => Value.int .u8 b.toNat).take (m * P.cellsOf e)).toArray := by
      apply Array.ext'; simp [ByteArray.data_extract, hc, List.map_take]
    exact ⟨bs.map fun b => .int .u8 b.toNat, by simp [Builtin.lenOf, bytes_len], by simp only [Builtin.firstCells, hext, Sem.run_pure], bytesC_den bs, by simp [hc]⟩
  · cases hv

/-- copy(x, y): how many; the object that is turned, and what it holds then -/
def copyV (P : Program) (S : St) (t tx : TypeId) (x y : V) : Option (V × Nat × Ob) :=
  match P.underlying t with
  | some (.slice e) => match srcV P S e tx y, x with
    | some r, .w (.one (.s k path len sz)) => match look S.mem k with
      | some o => if sz = P.cellsOf e ∧ P.cellsOf e ≠ 0 ∧ pok o.cells.length path ∧ psz o.cells.length path = len * sz then
          some (.w (.one (.pl (.i (min r.2 len : Nat)))), k, ⟨o.row, wr o.cells ((0, min r.2 len * sz) :: path) (r.1.take (min r.2 len * sz))⟩)
        else none
      | none => none
    | _, _ => none
  | _ => none

theorem All2.take' {α β : Type} {R : α → β → Prop} {l : List α} {m : List β} (h : All2 R l m) (n : Nat) : All2 R (l.take n) (m.take n) := h.take n

theorem upd_zero {α : Type} (c : List α) (o : Nat) : upd c o 0 [] = c := by simp [upd]

theorem copyV_ok {P : Program} {B : Base} {d : Va} {S : St} {a : Act} {w : World} (h : Sim B d S a w) {t tx ty : TypeId} {x y v : V} {k : Nat} {ob : Ob} {p z : Value} (hv : copyV P S t tx x y = some (v, k, ob)) (hp : x.den d p) (hz : y.den d z) :
    ∃ u w', (Builtin.copy_ #[t, tx] ty #[p, z]).run P w = .ok u w' ∧ v.den d u ∧ Sim B d ⟨S.env, setM S.mem k ob⟩ a w' := by
  unfold copyV at hv
  split at hv <;> try (cases hv; done)
  rename_i e hu
  split at hv <;> try (cases hv; done)
  rename_i r k' path len sz hsrc
  split at hv <;> try (cases hv; done)
  rename_i o hk
  split at hv <;> cases hv
  rename_i hc
  obtain ⟨hsz, h0, hpk, hps⟩ := hc
  subst hsz
  obtain ⟨cs, n⟩ := r
  obtain ⟨new, hlen, hfirst, hnd, hnl⟩ := src_take h (m := min n len) hsrc hz (Nat.min_le_left _ _)
  obtain ⟨oo, cap, rfl, hlc, hcm, ho, _⟩ := hp
  have hsize := run_size h0 w
  have hm : Nat.min n len = min n len := rfl
  obtain ⟨vals, spare, tyo, fr, hh, hfr, hd, hs, hl⟩ := h.mem k o hk
  have hlv := hd.length
  have hle := pok_le hpk
  have htl : (new.take (min n len * P.cellsOf e)).length = min n len * P.cellsOf e := by
    rw [List.length_take, hnl]; exact Nat.min_eq_left (Nat.mul_le_mul_right _ (Nat.min_le_left _ _))
  have hpk2 : pok o.cells.length ((0, min n len * P.cellsOf e) :: path) := ⟨hpk, by rw [hps]; simp; exact Nat.mul_le_mul_right _ (Nat.min_le_right _ _)⟩
  have hctl : (cs.take (min n len * P.cellsOf e)).length = psz o.cells.length ((0, min n len * P.cellsOf e) :: path) := by
    have := (hnd.take (min n len * P.cellsOf e)).length
    rw [htl] at this; simpa [psz] using this
  have hnum : V.den d (.w (.one (.pl (.i (min n len : Nat))))) (goInt ((min n len : Nat) : Int)) := by
    show PL.den _ _ _; rw [PL.den]; rfl
  have hin : poff path + min n len * P.cellsOf e ≤ vals.length := by
    have : min n len * P.cellsOf e ≤ len * P.cellsOf e := Nat.mul_le_mul_right _ (Nat.min_le_right _ _)
    omega
  have hset : ∃ w', (storeCells ⟨d.at_ k, oo, none⟩ (new.take (min n len * P.cellsOf e)) 0).run P w = .ok () w' ∧ Sim B d ⟨S.env, setM S.mem k ⟨o.row, wr o.cells ((0, min n len * P.cellsOf e) :: path) (cs.take (min n len * P.cellsOf e))⟩⟩ a w' := by
    rcases ho with ho | rfl
    · have hz0 : min n len = 0 := by omega
      rw [hz0] at hctl hpk2 ⊢
      simp only [Nat.zero_mul, List.take_zero, storeCells, Sem.run_pure] at hctl hpk2 ⊢
      refine ⟨w, rfl, ?_⟩
      have e2 : wr o.cells ((0, 0) :: path) [] = o.cells := by
        rw [wr_eq _ _ hpk2 (by simpa using hctl)]
        simp only [psz]; exact upd_zero _ _
      rw [e2]
      have hsome : ∀ j, (look (setM S.mem k ⟨o.row, o.cells⟩) j).isSome = true → (look S.mem j).isSome = true := by
        intro j hj
        rw [look_setM] at hj
        split at hj
        · rename_i e; subst e; rw [hk]; rfl
        · exact hj
      refine ⟨h.defers, h.nt, h.env, fun j p hp => ?_, fun k1 k2 h1 h2 => h.inj k1 k2 (hsome _ h1) (hsome _ h2), fun k' hk' => h.own k' (hsome _ hk'), h.ro, h.old, h.os, h.tape, h.output, h.size, h.block⟩
      rw [look_setM] at hp
      split at hp
      · rename_i e; subst e; rw [hk] at hp; cases hp; exact ⟨vals, spare, tyo, fr, hh, hfr, hd, hs, hl⟩
      · exact h.mem j p hp
    · have hst := run_stores P (d.at_ k) (poff path) tyo fr (new.take (min n len * P.cellsOf e)) 0 (vals ++ spare).toArray w hh (by simpa using hfr) (by rw [htl]; simp; omega) (den_oneCell (hnd.take _))
      have e3 : upd (vals ++ spare).toArray.toList (poff path + 0) (new.take (min n len * P.cellsOf e)).length (new.take (min n len * P.cellsOf e)) = upd vals (poff path) (min n len * P.cellsOf e) (new.take (min n len * P.cellsOf e)) ++ spare := by
        rw [htl, Nat.add_zero]
        show upd (vals ++ spare) _ _ _ = _
        rw [upd_append_left _ _ _ _ _ (by omega)]
      rw [e3] at hst
      have hul : (upd vals (poff path) (min n len * P.cellsOf e) (new.take (min n len * P.cellsOf e))).length = vals.length := upd_length _ _ _ _ htl (by omega)
      refine ⟨_, hst, h.write hk (cells := wr o.cells ((0, min n len * P.cellsOf e) :: path) (cs.take (min n len * P.cellsOf e))) (vals := upd vals (poff path) (min n len * P.cellsOf e) (new.take (min n len * P.cellsOf e))) (spare := spare) (ty := tyo) (fr := fr) ?_ hs ?_ ?_ (setRow_heap w _ _ _ tyo fr hh) (fun b hb => setRow_other w _ b _ hb) (setRow_size _ _ _) rfl rfl rfl⟩
      · rw [wr_eq _ _ hpk2 hctl]
        have e4 : poff ((0, min n len * P.cellsOf e) :: path) = poff path := by simp [poff]
        rw [e4]
        exact hd.upd (hnd.take _) _ _
      · simp only [List.length_append, hul]; simpa using hfr
      · simp only [List.length_append, hul]; simpa using hl
  obtain ⟨w', hst, hsim⟩ := hset
  refine ⟨_, w', ?_, hnum, hsim⟩
  unfold Builtin.copy_
  simp [run_underlying hu w, hlen, hsize, hm, hfirst, hst, Result.andThen]
end Go.Sy
