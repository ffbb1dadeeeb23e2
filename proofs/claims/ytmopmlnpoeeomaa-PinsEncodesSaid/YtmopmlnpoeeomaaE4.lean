/- The layer: reading memory. -/
import Derived.Test.YtmopmlnpoeeomaaE3
set_option linter.unusedVariables false
set_option linter.unusedSimpArgs false
namespace Go.Sy

def CellsAt (w : World) (b o : Nat) (vals : List Value) : Prop := ∀ (j : Nat) v, vals[j]? = some v → w.cell? ⟨b, o + j, none⟩ = some v

theorem CellsAt.win {w : World} {b o : Nat} {vals : List Value} (h : CellsAt w b o vals) (p n : Nat) : CellsAt w b (o + p) (win vals p n) := by
  intro j v hv
  rw [Go.Sy.win, List.getElem?_take] at hv
  split at hv
  · rw [List.getElem?_drop] at hv
    have := h (p + j) v hv
    rwa [Nat.add_assoc]
  · cases hv

theorem cellsAt_obj {w : World} {b : Nat} {vals : List Value} {ty : TypeId} {fr : Nat × Nat} (h : w.heap[b]? = some (.cells vals.toArray ty fr)) : CellsAt w b 0 vals := by
  intro j v hv
  rw [cell_of_row w b (0 + j) _ ty fr h]
  simpa using hv

theorem All2.map_left {α β γ : Type} {R : α → β → Prop} {f : γ → α} {l : List γ} {m : List β} (h : All2 (fun x y => R (f x) y) l m) : All2 R (l.map f) m := by
  induction h with
  | nil => exact .nil
  | cons h1 _ ih => exact .cons h1 ih

theorem All2.of_map_left {α β γ : Type} {R : α → β → Prop} {f : γ → α} : ∀ {l : List γ} {m : List β}, All2 R (l.map f) m → All2 (fun x y => R (f x) y) l m
  | [], _, h => by cases h; exact .nil
  | x :: l, _, h => by cases h with | cons h1 h2 => exact .cons h1 (All2.of_map_left h2)

def pls (c : List PL) : List L := c.map L.pl

theorem denAt_vals {d : Va} {blk : Nat} {w : World} (hro : ∀ b o y, d.ro b o = some y → w.cell? ⟨b, o, none⟩ = some y) :
    ∀ {cells : List PL} {off : Nat}, PL.denAt d.ro blk cells off → ∃ vals : List Value, All2 (L.den d) (pls cells) vals ∧ CellsAt w blk off vals
  | [], off, _ => ⟨[], .nil, fun j v hv => by simp at hv⟩
  | c :: cs, off, h => by
    rw [PL.denAt] at h
    obtain ⟨⟨y, hy, hd⟩, h⟩ := h
    obtain ⟨vals, h2, h3⟩ := denAt_vals hro h
    refine ⟨y :: vals, .cons (by rw [L.den]; exact hd) h2, fun j v hv => ?_⟩
    cases j with
    | zero => simp at hv; subst hv; exact hro _ _ _ hy
    | succ j => have := h3 j v (by simpa using hv); rw [show off + (j + 1) = off + 1 + j from by omega]; exact this

/-- what a variable of a type is, of its cells -/
def mkW (P : Program) (t : TypeId) (cells : List L) : Option W :=
  match P.underlying t with
  | some (.struct _) | some (.array _ _) => some (.agg cells)
  | some _ => match cells with
    | [l] => some (.one l)
    | _ => none
  | none => none

theorem addr_add (b o n : Nat) : (⟨b, o, none⟩ : Addr).add n = ⟨b, o + n, none⟩ := by
  unfold Addr.add; split
  · rename_i h; rw [h, Nat.add_zero]
  · rfl

theorem info_of_cells {P : Program} {t : TypeId} (h : P.cellsOf t ≠ 0) : ∃ i, P.info? t = some i ∧ i.size = P.cellsOf t := by
  unfold Program.cellsOf at *
  cases hi : P.info? t with
  | none => simp [hi] at h
  | some i => exact ⟨i, rfl, rfl⟩

theorem run_size {P : Program} {t : TypeId} (h : P.cellsOf t ≠ 0) (w : World) : (sizeOf t).run P w = .ok (P.cellsOf t) w := by
  obtain ⟨i, hi, _⟩ := info_of_cells h
  exact run_sizeOf w hi

theorem mkW_agg {P : Program} {t : TypeId} {cells : List L} {x : W} (h : mkW P t cells = some x) (w : World) :
    (x = .agg cells ∧ (isAgg t).run P w = .ok true w) ∨ (∃ l, cells = [l] ∧ x = .one l ∧ (isAgg t).run P w = .ok false w) := by
  unfold mkW at h
  split at h
  · rename_i fs hu; cases h; left; refine ⟨rfl, ?_⟩; unfold isAgg; rw [Sem.run_bind, run_underlying hu w]; rfl
  · rename_i n e hu; cases h; left; refine ⟨rfl, ?_⟩; unfold isAgg; rw [Sem.run_bind, run_underlying hu w]; rfl
  · rename_i dd h1 h2 hu
    split at h
    · rename_i l; cases h; right; refine ⟨l, rfl, rfl, ?_⟩; unfold isAgg; rw [Sem.run_bind, run_underlying hu w]
      cases dd <;> first | rfl | (exact (h1 _ rfl).elim) | (exact (h2 _ _ rfl).elim)
    · cases h
  · cases h

theorem run_loadVar {P : Program} {t : TypeId} {w : World} {b o : Nat} {vals : List Value} {d : Va} {cells : List L} {x : W}
    (hc : CellsAt w b o vals) (hn : vals.length = P.cellsOf t) (h0 : P.cellsOf t ≠ 0) (hx : mkW P t cells = some x) (hd : All2 (L.den d) cells vals) :
    ∃ y, (loadVar t ⟨b, o, none⟩).run P w = .ok y w ∧ x.den d y := by
  rcases mkW_agg hx w with ⟨rfl, ha⟩ | ⟨l, rfl, rfl, ha⟩
  · have hl := run_loadCells_list (P := P) w ⟨b, o, none⟩ vals (fun j v hv => by rw [addr_add]; exact hc j v hv)
    rw [hn] at hl
    refine ⟨.agg vals.toArray, ?_, ⟨_, rfl, by simpa using hd⟩⟩
    simp [loadVar, ha, run_size h0 w, hl]
  · cases hd with
    | cons h1 h2 =>
      cases h2
      rename_i y
      have := hc 0 y rfl
      refine ⟨y, ?_, h1⟩
      simp only [Nat.add_zero] at this
      simp [loadVar, ha, this]

instance pokDec (N : Nat) : ∀ p, Decidable (pok N p)
  | [] => .isTrue trivial
  | x :: p => match pokDec N p with
    | .isTrue h => if h2 : x.1 + x.2 ≤ psz N p then .isTrue ⟨h, h2⟩ else .isFalse fun h3 => h2 h3.2
    | .isFalse h => .isFalse fun h3 => h h3.1

def loadV (P : Program) (S : St) (t : TypeId) : V → Option V
  | .w (.one (.p k path)) => match look S.mem k with
    | some o => if pok o.cells.length path ∧ psz o.cells.length path = P.cellsOf t ∧ P.cellsOf t ≠ 0 then (mkW P t (rd o.cells path)).map .w else none
    | none => none
  | .w (.one (.pl (.q cells path))) => if pok cells.length path ∧ psz cells.length path = P.cellsOf t ∧ P.cellsOf t ≠ 0 then (mkW P t (pls (rd cells path))).map .w else none
  | _ => none

theorem win_append {α : Type} (c c' : List α) (o n : Nat) (h : o + n ≤ c.length) : win (c ++ c') o n = win c o n := by
  unfold win
  rw [List.drop_append_of_le_length (by omega), List.take_append_of_le_length (by simp; omega)]

theorem rd_map {α β : Type} (f : α → β) (c : List α) : ∀ p, rd (c.map f) p = (rd c p).map f
  | [] => rfl
  | x :: p => by rw [rd, rd, rd_map f c p]; simp [win]

theorem length_pls (c : List PL) : (pls c).length = c.length := by simp [pls]

theorem Sim.readObj {B : Base} {d : Va} {S : St} {a : Act} {w : World} (h : Sim B d S a w) {k : Nat} {o : Ob} (hk : look S.mem k = some o) {path : Path} (hp : pok o.cells.length path) :
    ∃ vals, All2 (L.den d) (rd o.cells path) vals ∧ CellsAt w (d.at_ k) (poff path) vals ∧ vals.length = psz o.cells.length path := by
  obtain ⟨vals, spare, ty, fr, hh, _, hd, _, _⟩ := h.mem k o hk
  have hl := hd.length
  have hle := pok_le hp
  refine ⟨win vals (poff path) (psz o.cells.length path), ?_, ?_, ?_⟩
  · rw [rd_eq _ hp]; exact hd.win _ _
  · have := (cellsAt_obj hh).win (poff path) (psz o.cells.length path)
    rwa [Nat.zero_add, win_append _ _ _ _ (by omega)] at this
  · exact length_win _ _ _ (by omega)

theorem rd_q_vals {d : Va} {blk off : Nat} {w : World} (hro : ∀ b o y, d.ro b o = some y → w.cell? ⟨b, o, none⟩ = some y) {cells : List PL} {path : Path} (hp : pok cells.length path) (h : PL.denAt d.ro blk cells off) :
    ∃ vals, All2 (L.den d) (pls (rd cells path)) vals ∧ CellsAt w blk (off + poff path) vals ∧ vals.length = psz cells.length path := by
  obtain ⟨vals, hd, hc⟩ := denAt_vals hro h
  have hl := hd.length
  rw [length_pls] at hl
  have hle := pok_le hp
  refine ⟨win vals (poff path) (psz cells.length path), ?_, hc.win _ _, length_win _ _ _ (by omega)⟩
  have e : pls (rd cells path) = win (pls cells) (poff path) (psz cells.length path) := by
    unfold pls; rw [← rd_map, rd_eq _ (by simpa using hp)]; simp
  rw [e]; exact hd.win _ _

theorem loadV_ok {P : Program} {B : Base} {d : Va} {S : St} {a : Act} {w : World} (h : Sim B d S a w) {t : TypeId} {x v : V} {y : Value} (hv : loadV P S t x = some v) (hx : x.den d y) :
    ∃ z, (Instr.loadAt t y).run P w = .ok z w ∧ v.den d z := by
  unfold loadV at hv
  split at hv
  · rename_i k path
    split at hv
    · rename_i o hk
      split at hv
      · rename_i hc
        obtain ⟨hp, hs, h0⟩ := hc
        obtain ⟨vals, hd, hcell, hlen⟩ := h.readObj hk hp
        cases hm : mkW P t (rd o.cells path) with
        | none => simp [hm] at hv
        | some W =>
          simp only [hm, Option.map_some, Option.some.injEq] at hv; subst hv
          obtain ⟨z, hz, hzd⟩ := run_loadVar hcell (by rw [hlen, hs]) h0 hm hd
          change y = _ at hx; subst hx
          exact ⟨z, by simpa [Instr.loadAt, Instr.sureAddr] using hz, hzd⟩
      · cases hv
    · cases hv
  · rename_i cells path
    split at hv
    · rename_i hc
      obtain ⟨hp, hs, h0⟩ := hc
      change PL.den d.ro (.q cells path) y at hx
      rw [PL.den] at hx
      obtain ⟨blk, off, rfl, hat⟩ := hx
      obtain ⟨vals, hd, hcell, hlen⟩ := rd_q_vals h.ro hp hat
      cases hm : mkW P t (pls (rd cells path)) with
      | none => simp [hm] at hv
      | some W =>
        simp only [hm, Option.map_some, Option.some.injEq] at hv; subst hv
        obtain ⟨z, hz, hzd⟩ := run_loadVar hcell (by rw [hlen, hs]) h0 hm hd
        exact ⟨z, by simpa [Instr.loadAt, Instr.sureAddr] using hz, hzd⟩
    · cases hv
  · cases hv

def fieldV (P : Program) (t f : Nat) (x : V) : Option V :=
  match P.underlying t with
  | some (.struct fs) => match fs[f]? with
    | some fd => if P.cellsOf fd.type = 0 then none else
      match x with
      | .w (.one (.p k path)) => some (.w (.one (.p k ((fd.offset, P.cellsOf fd.type) :: path))))
      | .w (.one (.pl (.q cells path))) => some (.w (.one (.pl (.q cells ((fd.offset, P.cellsOf fd.type) :: path)))))
      | _ => none
    | none => none
  | _ => none

theorem fieldV_ok {P : Program} {d : Va} {w : World} {t f : Nat} {x v : V} {y : Value} (hv : fieldV P t f x = some v) (hx : x.den d y) :
    ∃ z, (Instr.fieldAt t y f).run P w = .ok z w ∧ v.den d z := by
  unfold fieldV at hv
  split at hv <;> try (cases hv; done)
  rename_i fs hu
  split at hv <;> try (cases hv; done)
  rename_i fd hf
  split at hv
  · cases hv
  rename_i h0
  have hsz := run_size h0 w
  split at hv <;> cases hv
  · change y = _ at hx; subst hx
    rename_i k path
    refine ⟨.pointer (some ⟨d.at_ k, poff path + fd.offset, none⟩), ?_, ?_⟩
    · simp [Instr.fieldAt, run_underlying hu w, hf, Instr.sureAddr, fieldPlace, hsz, h0, addr_add]
    · show _ = _; simp [poff, Nat.add_comm]
  · change PL.den d.ro (.q _ _) y at hx
    rw [PL.den] at hx
    obtain ⟨blk, off, rfl, hat⟩ := hx
    rename_i cells path
    refine ⟨.pointer (some ⟨blk, off + poff path + fd.offset, none⟩), ?_, ?_⟩
    · simp [Instr.fieldAt, run_underlying hu w, hf, Instr.sureAddr, fieldPlace, hsz, h0, addr_add]
    · show PL.den d.ro (.q _ _) _
      rw [PL.den]; exact ⟨blk, off, by simp [poff, Nat.add_assoc, Nat.add_comm, Nat.add_left_comm], hat⟩
end Go.Sy
