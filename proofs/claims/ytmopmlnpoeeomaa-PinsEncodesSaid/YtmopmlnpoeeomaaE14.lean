/- The layer: append. -/
import Derived.Test.YtmopmlnpoeeomaaE13
import Derived.Deep.AppendSrc
set_option linter.unusedVariables false
set_option linter.unusedSimpArgs false
namespace Go.Sy

def killL (k : Nat) (l : L) : L := if l.has k then .pl .u else l
def W.kill (k : Nat) : W → W
  | .one l => .one (killL k l)
  | .agg cs => .agg (cs.map (killL k))
def V.kill (k : Nat) : V → V
  | .w x => .w (x.kill k)
  | .tup xs => .tup (xs.map (W.kill k))
  | .any => .any
def killE (k : Nat) : List (Nat × V) → List (Nat × V)
  | [] => []
  | x :: r => (x.1, x.2.kill k) :: killE k r
def killM (k : Nat) : List (Nat × Ob) → List (Nat × Ob)
  | [] => []
  | x :: r => if k = x.1 then killM k r else (x.1, ⟨x.2.row, x.2.cells.map (killL k)⟩) :: killM k r
/-- a name and all that leans on it, forgotten -/
def St.kill (k : Nat) (S : St) : St := ⟨killE k S.env, killM k S.mem⟩

theorem killL_den {d : Va} {k : Nat} {l : L} {y : Value} (h : l.den d y) : (killL k l).den d y := by
  unfold killL
  split
  · rw [L.den, PL.den]; exact L.den_scalar h
  · exact h
theorem killL_has (k : Nat) (l : L) : (killL k l).has k = false := by
  unfold killL
  split
  · rfl
  · simp_all
theorem all2_map_left {α β : Type} {R : α → β → Prop} {f : α → α} (hf : ∀ x y, R x y → R (f x) y) {l : List α} {m : List β} (h : All2 R l m) : All2 R (l.map f) m := by
  induction h with
  | nil => exact .nil
  | cons h1 _ ih => exact .cons (hf _ _ h1) ih
theorem W.kill_den {d : Va} {k : Nat} {x : W} {y : Value} (h : x.den d y) : (x.kill k).den d y := by
  cases x with
  | one l => exact killL_den h
  | agg cs => obtain ⟨vs, rfl, hv⟩ := h; exact ⟨vs, rfl, all2_map_left (fun _ _ => killL_den) hv⟩
theorem V.kill_den {d : Va} {k : Nat} {x : V} {y : Value} (h : x.den d y) : (x.kill k).den d y := by
  cases x with
  | w x => exact W.kill_den h
  | tup xs => obtain ⟨vs, rfl, hv⟩ := h; exact ⟨vs, rfl, all2_map_left (fun _ _ => W.kill_den) hv⟩
  | any => trivial
theorem cells_kill_has (k : Nat) (cs : List L) : (cs.map (killL k)).any (L.has k) = false := by
  induction cs with
  | nil => rfl
  | cons c cs ih => simp only [List.map_cons, List.any_cons, killL_has, ih, Bool.or_self]
theorem W.kill_has (k : Nat) (x : W) : (x.kill k).has k = false := by
  cases x with
  | one l => exact killL_has k l
  | agg cs => exact cells_kill_has k cs
theorem V.kill_has (k : Nat) (x : V) : (x.kill k).has k = false := by
  cases x with
  | w x => exact W.kill_has k x
  | tup xs =>
    simp only [V.kill, V.has]
    induction xs with
    | nil => rfl
    | cons c cs ih => simp only [List.map_cons, List.any_cons, W.kill_has, ih, Bool.or_self]
  | any => rfl

theorem look_killE {k : Nat} : ∀ {e : List (Nat × V)} {n : Nat}, look (killE k e) n = (look e n).map (V.kill k)
  | [], n => rfl
  | x :: r, n => by
    simp only [killE, look]
    split
    · rfl
    · exact look_killE
theorem look_killM {k : Nat} : ∀ {e : List (Nat × Ob)} {n : Nat}, look (killM k e) n = if n = k then none else (look e n).map fun o => ⟨o.row, o.cells.map (killL k)⟩
  | [], n => by simp [killM, look]
  | x :: r, n => by
    unfold killM
    split
    · rename_i e
      rw [look_killM]
      split
      · rfl
      · rename_i e2
        simp only [look]
        rw [if_neg (fun e3 => e2 (e3.trans e.symm))]
    · rename_i e
      simp only [look]
      split
      · rename_i e2
        rw [if_neg (fun e3 => e (e3.symm.trans e2))]; rfl
      · exact look_killM

theorem fresh_kill (k : Nat) (S : St) : fresh k (S.kill k) = true := by
  have h1 : ∀ e : List (Nat × V), hasE k (killE k e) = false := by
    intro e
    induction e with
    | nil => rfl
    | cons x r ih => simp only [killE, hasE, V.kill_has, ih, Bool.or_self]
  have h2 : ∀ e : List (Nat × Ob), hasM k (killM k e) = false := by
    intro e
    induction e with
    | nil => rfl
    | cons x r ih =>
      unfold killM
      split
      · exact ih
      · simp only [hasM, Ob.has, cells_kill_has, ih, Bool.or_self]
  simp [fresh, St.kill, h1, h2]

theorem Sim.kill {B : Base} {d : Va} {S : St} {a : Act} {w : World} (h : Sim B d S a w) (k : Nat) : Sim B d (S.kill k) a w := by
  have hsome : ∀ j, (look (killM k S.mem) j).isSome = true → (look S.mem j).isSome = true := by
    intro j hj
    rw [look_killM] at hj
    split at hj
    · simp at hj
    · simpa using hj
  refine ⟨h.defers, h.nt, ?_, ?_, fun k1 k2 h1 h2 => h.inj k1 k2 (hsome _ h1) (hsome _ h2), fun k' hk' => h.own k' (hsome _ hk'), h.ro, h.old, h.os, h.tape, h.output, h.size, h.block⟩
  · intro n v hv
    simp only [St.kill] at hv
    rw [look_killE] at hv
    cases hg : look S.env n with
    | none => simp [hg] at hv
    | some u =>
      simp only [hg, Option.map_some, Option.some.injEq] at hv; subst hv
      obtain ⟨y, hy, hd⟩ := h.env n u hg
      exact ⟨y, hy, V.kill_den hd⟩
  · intro j o ho
    simp only [St.kill] at ho
    rw [look_killM] at ho
    split at ho
    · cases ho
    · cases hg : look S.mem j with
      | none => simp [hg] at ho
      | some u =>
        simp only [hg, Option.map_some, Option.some.injEq] at ho; subst ho
        obtain ⟨vals, spare, ty, fr, h1, h2, h3, h4, h5⟩ := h.mem j u hg
        exact ⟨vals, spare, ty, fr, h1, h2, all2_map_left (fun _ _ => killL_den) h3, h4, h5⟩

theorem killM_setM {k : Nat} {o : Ob} : ∀ {m : List (Nat × Ob)}, killM k (setM m k o) = killM k m
  | [] => rfl
  | x :: r => by
    unfold setM
    split
    · rename_i e
      simp only [killM, if_pos e]
    · rename_i e
      simp only [killM, if_neg e, killM_setM]

theorem Sim.killKeep {B : Base} {d : Va} {S : St} {a : Act} {w : World} (h : Sim B d S a w) {k : Nat} {o : Ob} (hk : look S.mem k = some o) : Sim B d ⟨killE k S.env, (k, o) :: killM k S.mem⟩ a w := by
  have h2 := h.kill k
  have hsome : ∀ j, (look ((k, o) :: killM k S.mem) j).isSome = true → (look S.mem j).isSome = true := by
    intro j hj
    simp only [look] at hj
    split at hj
    · rename_i e; subst e; rw [hk]; rfl
    · rw [look_killM] at hj
      split at hj
      · simp at hj
      · simpa using hj
  refine ⟨h.defers, h.nt, h2.env, ?_, fun k1 k2 h1 h2 => h.inj k1 k2 (hsome _ h1) (hsome _ h2), fun k' hk' => h.own k' (hsome _ hk'), h.ro, h.old, h.os, h.tape, h.output, h.size, h.block⟩
  intro j p hp
  simp only [look] at hp
  split at hp
  · rename_i e; subst e; cases hp; exact h.mem _ _ hk
  · exact h2.mem j p hp

theorem denRows_vals {d : Va} {blk sz : Nat} {w : World} (hro : ∀ b o y, d.ro b o = some y → w.cell? ⟨b, o, none⟩ = some y) :
    ∀ {rows : List (List PL)} {off : Nat}, PL.denRows d.ro blk sz rows off → ∃ vals : List Value, All2 (L.den d) (pls rows.flatten) vals ∧ CellsAt w blk off vals ∧ vals.length = rows.length * sz
  | [], off, _ => ⟨[], .nil, fun j v hv => by simp at hv, by simp⟩
  | r :: rs, off, h => by
    rw [PL.denRows] at h
    obtain ⟨hl, hat, hrest⟩ := h
    obtain ⟨v1, h1, c1⟩ := denAt_vals hro hat
    obtain ⟨v2, h2, c2, l2⟩ := denRows_vals hro hrest
    have l1 : v1.length = sz := by rw [← h1.length, length_pls, hl]
    refine ⟨v1 ++ v2, ?_, ?_, by simp [l1, l2, Nat.add_mul, Nat.add_comm]⟩
    · rw [List.flatten_cons]; unfold pls; rw [List.map_append]; exact h1.append h2
    · intro j v hv
      by_cases hj : j < v1.length
      · rw [List.getElem?_append_left hj] at hv; exact c1 j v hv
      · rw [List.getElem?_append_right (by omega)] at hv
        have := c2 _ v hv
        rw [show off + j = off + sz + (j - v1.length) from by omega]; exact this

/-- what is appended: its cells, and how many elements they are -/
def srcV (P : Program) (S : St) (e tx : TypeId) (x : V) : Option (List L × Nat) :=
  match P.underlying tx, x with
  | some (.slice _), .w (.one (.pl (.R _ sz rows))) => if sz = P.cellsOf e ∨ rows = [] then some (pls rows.flatten, rows.length) else none
  | some (.slice _), .w (.one (.s k path len sz)) => match look S.mem k with
    | some o => if pok o.cells.length path ∧ psz o.cells.length path = len * sz ∧ sz = P.cellsOf e then some (rd o.cells path, len) else none
    | none => none
  | some .string, .w (.one (.pl (.str bs))) => if P.cellsOf e = 1 then some (bytesC bs, bs.length) else none
  | _, _ => none

theorem loadCells_at {P : Program} {w : World} {blk o : Nat} {vals : List Value} (h : CellsAt w blk o vals) {n : Nat} (hn : vals.length = n) : (loadCells ⟨blk, o, none⟩ n).run P w = .ok vals.toArray w := by
  subst hn
  exact run_loadCells_list w ⟨blk, o, none⟩ vals (fun j v hv => by rw [addr_add]; exact h j v hv)

theorem CellsAt.drew {w : World} {blk o : Nat} {vals : List Value} (h : CellsAt w blk o vals) : CellsAt w.drew blk o vals := h

theorem srcV_ok {P : Program} {B : Base} {d : Va} {S : St} {a : Act} {w : World} (h : Sim B d S a w) {e tx : TypeId} {x : V} {y : Value} {cs : List L} {n : Nat} (hv : srcV P S e tx x = some (cs, n)) (hx : x.den d y) :
    ∃ vals, Src P (P.cellsOf e) tx y n vals w ∧ All2 (L.den d) cs vals := by
  unfold srcV at hv
  split at hv
  · rename_i e' ex sz rows hu
    split at hv <;> cases hv
    rename_i hc
    change PL.den _ _ _ at hx; rw [PL.den] at hx
    rcases hx with ⟨rfl, rfl⟩ | ⟨blk, off, cap, rfl, hlc, hcm, _, hrows⟩
    · exact ⟨[], ⟨.inl ⟨_, hu⟩, fun _ => by simp [Builtin.lenOf], by simp [Builtin.firstCells], by simp [Builtin.firstCells], by simp, by simp⟩, .nil⟩
    · have hrows' : PL.denRows d.ro blk (P.cellsOf e) rows off := by
        rcases hc with rfl | rfl
        · exact hrows
        · simp [PL.denRows]
      obtain ⟨vals, hd, hcell, hl⟩ := denRows_vals h.ro hrows'
      refine ⟨vals, ⟨.inl ⟨_, hu⟩, fun _ => by simp [Builtin.lenOf], ?_, ?_, hl, den_oneCell hd⟩, hd⟩
      · simp only [Builtin.firstCells]; exact loadCells_at hcell hl
      · simp only [Builtin.firstCells]; exact loadCells_at hcell.drew hl
  · rename_i e' k path len sz hu
    split at hv <;> try (cases hv; done)
    rename_i o hk
    split at hv <;> cases hv
    rename_i hc
    obtain ⟨hp, hps, rfl⟩ := hc
    obtain ⟨vals, hd, hcell, hl⟩ := h.readObj hk hp
    rw [hps] at hl
    obtain ⟨oo, cap, rfl, hlc, hcm, ho, _⟩ := hx
    have hcell' : CellsAt w (d.at_ k) oo vals := by
      rcases ho with ho | rfl
      · have hz : n = 0 := by omega
        rw [hz, Nat.zero_mul] at hl
        have := List.eq_nil_of_length_eq_zero hl
        subst this; exact fun j v hv => by simp at hv
      · exact hcell
    refine ⟨vals, ⟨.inl ⟨_, hu⟩, fun _ => by simp [Builtin.lenOf], ?_, ?_, hl, den_oneCell hd⟩, hd⟩
    · simp only [Builtin.firstCells]; exact loadCells_at hcell' hl
    · simp only [Builtin.firstCells]; exact loadCells_at hcell'.drew hl
  · rename_i bs hu
    split at hv <;> cases hv
    rename_i hc
    change PL.den _ _ _ at hx; rw [PL.den] at hx
    obtain ⟨rfl, _⟩ := hx
    have hext : ((⟨bs.toArray⟩ : ByteArray).extract 0 bs.length).data.map (fun b => Value.int .u8 b.toNat) = (bs.map fun b => Value.int .u8 b.toNat).toArray := by
      apply Array.ext'; simp [ByteArray.data_extract]
    refine ⟨bs.map fun b => .int .u8 b.toNat, ⟨.inr hu, fun _ => by simp [Builtin.lenOf, bytes_len], ?_, ?_, by simp [hc], den_oneCell (bytesC_den (d := d) bs)⟩, bytesC_den bs⟩
    · simp only [Builtin.firstCells, hext, Sem.run_pure]
    · simp only [Builtin.firstCells, hext, Sem.run_pure]
  · cases hv
end Go.Sy
