/- The layer: new objects, stores. -/
import Derived.Test.YtmopmlnpoeeomaaE10
import Derived.Lib.FrozenHead
set_option linter.unusedVariables false
set_option linter.unusedSimpArgs false
namespace Go.Sy

def L.has (k : Nat) : L → Bool
  | .pl _ => false
  | .p k' _ => k == k'
  | .s k' _ _ _ => k == k'
  | .fn _ caps => caps.any fun k' => k == k'
def W.has (k : Nat) : W → Bool
  | .one l => l.has k
  | .agg cs => cs.any (L.has k)
def V.has (k : Nat) : V → Bool
  | .w x => x.has k
  | .tup xs => xs.any (W.has k)
  | .any => false
def Ob.has (k : Nat) (o : Ob) : Bool := o.cells.any (L.has k)

def hasE (k : Nat) : List (Nat × V) → Bool
  | [] => false
  | x :: r => x.2.has k || hasE k r
def hasM (k : Nat) : List (Nat × Ob) → Bool
  | [] => false
  | x :: r => x.2.has k || hasM k r

/-- no value of the state leans on this name -/
def fresh (k : Nat) (S : St) : Bool := !(hasE k S.env || hasM k S.mem)

theorem hasE_look {k : Nat} : ∀ {e : List (Nat × V)} {n : Nat} {v : V}, hasE k e = false → look e n = some v → v.has k = false
  | x :: r, n, v, h, hl => by
    simp only [hasE, Bool.or_eq_false_iff] at h
    unfold look at hl
    split at hl
    · cases hl; exact h.1
    · exact hasE_look h.2 hl
theorem hasM_look {k : Nat} : ∀ {e : List (Nat × Ob)} {n : Nat} {v : Ob}, hasM k e = false → look e n = some v → v.has k = false
  | x :: r, n, v, h, hl => by
    simp only [hasM, Bool.or_eq_false_iff] at h
    unfold look at hl
    split at hl
    · cases hl; exact h.1
    · exact hasM_look h.2 hl

/-- the same but for one name -/
def Va.set (d : Va) (k b n : Nat) : Va := { d with at_ := fun j => if j = k then b else d.at_ j, size := fun j => if j = k then n else d.size j }

theorem L.den_set {d : Va} {k b n : Nat} {l : L} {y : Value} (h : l.den d y) (hk : l.has k = false) : l.den (d.set k b n) y := by
  cases l with
  | pl x => exact h
  | p k' path =>
    simp only [L.has, beq_eq_false_iff_ne, ne_eq] at hk
    simp only [L.den, Va.set] at *
    rw [if_neg (fun e => hk e.symm)]; exact h
  | s k' path len sz =>
    simp only [L.has, beq_eq_false_iff_ne, ne_eq] at hk
    simp only [L.den, Va.set] at *
    rw [if_neg (fun e => hk e.symm), if_neg (fun e => hk e.symm)]; exact h
  | fn f caps =>
    simp only [L.den, Va.set] at *
    rw [h]; congr 1
    apply congrArg
    apply List.map_congr_left
    intro k' hk'
    have : ¬ k' = k := by
      intro e; subst e
      simp only [L.has, List.any_eq_false, beq_iff_eq] at hk
      exact hk _ hk' rfl
    simp [this]

theorem all2_set {d : Va} {k b n : Nat} {cs : List L} {vs : List Value} (h : All2 (L.den d) cs vs) (hk : cs.any (L.has k) = false) : All2 (L.den (d.set k b n)) cs vs :=
  h.mono fun x y hx hd => L.den_set hd (by simp only [List.any_eq_false] at hk; simpa using hk x hx)

theorem W.den_set {d : Va} {k b n : Nat} {x : W} {y : Value} (h : x.den d y) (hk : x.has k = false) : x.den (d.set k b n) y := by
  cases x with
  | one l => exact L.den_set h hk
  | agg cs => obtain ⟨vs, rfl, hv⟩ := h; exact ⟨vs, rfl, all2_set hv hk⟩

theorem V.den_set {d : Va} {k b n : Nat} {x : V} {y : Value} (h : x.den d y) (hk : x.has k = false) : x.den (d.set k b n) y := by
  cases x with
  | w x => exact W.den_set h hk
  | tup xs =>
    obtain ⟨vs, rfl, hv⟩ := h
    exact ⟨vs, rfl, hv.mono fun x y hx hd => W.den_set hd (by simp only [V.has, List.any_eq_false] at hk; simpa using hk x hx)⟩
  | any => trivial

theorem Va.set_at (d : Va) (k b n : Nat) : (d.set k b n).at_ k = b := by simp [Va.set]
theorem Va.set_size (d : Va) (k b n : Nat) : (d.set k b n).size k = n := by simp [Va.set]
theorem Va.set_other (d : Va) {k j : Nat} (b n : Nat) (h : j ≠ k) : (d.set k b n).at_ j = d.at_ j ∧ (d.set k b n).size j = d.size j := by simp [Va.set, h]

theorem cell_lt {w : World} {b o : Nat} {y : Value} (h : w.cell? ⟨b, o, none⟩ = some y) : b < w.heap.size := by
  have := block_lt_of_cell h; exact this

theorem Sim.mem_lt {B : Base} {d : Va} {S : St} {a : Act} {w : World} (h : Sim B d S a w) {k : Nat} (hk : (look S.mem k).isSome = true) : d.at_ k < w.heap.size := by
  cases ho : look S.mem k with
  | none => simp [ho] at hk
  | some o =>
    obtain ⟨vals, spare, ty, fr, hh, _⟩ := h.mem k o ho
    exact (Array.getElem?_eq_some_iff.1 hh).1

/-- a new object under a name on which nothing leans -/
theorem Sim.new {B : Base} {d : Va} {S : St} {a : Act} {w : World} (h : Sim B d S a w) {k : Nat} (hf : fresh k S = true) {row : Bool} {cells : List L} {vals spare : List Value} {ty : TypeId} {fr : Nat × Nat} {w' : World}
    (hd : All2 (L.den d) cells vals) (hc : cells.any (L.has k) = false) (hs : row = false → spare = []) (hfr : fr = (0, 0) ∨ (vals ++ spare).length ≤ fr.1)
    (hnew : w'.heap[w.heap.size]? = some (.cells (vals ++ spare).toArray ty fr)) (hold : ∀ b, b < w.heap.size → w'.heap[b]? = w.heap[b]?)
    (hos : w'.os = w.os) (htape : w'.tape = w.tape) (hout : w'.output = w.output) :
    Sim B (d.set k w.heap.size (vals ++ spare).length) { S with mem := (k, ⟨row, cells⟩) :: S.mem } a w' := by
  have hf' : hasE k S.env = false ∧ hasM k S.mem = false := by simpa [fresh] using hf
  have hsz : w.heap.size < w'.heap.size := (Array.getElem?_eq_some_iff.1 hnew).1
  refine ⟨h.defers, h.nt, ?_, ?_, ?_, ?_, ?_, h.old, hos.trans h.os, htape.trans h.tape, hout.trans h.output, Nat.le_trans h.size (by omega), ?_⟩
  · intro n v hv
    obtain ⟨y, hy, hd⟩ := h.env n v hv
    exact ⟨y, hy, V.den_set hd (hasE_look hf'.1 hv)⟩
  · intro k' o ho
    unfold look at ho
    split at ho
    · rename_i e
      simp only at e
      cases ho
      subst e
      exact ⟨vals, spare, ty, fr, by rw [Va.set_at]; exact hnew, hfr, all2_set hd hc, hs, by rw [Va.set_size]⟩
    · rename_i e
      simp only at e
      obtain ⟨vs, sp, ty', fr', hh, hfr', hd', hs', hl⟩ := h.mem k' o ho
      have hlt := h.mem_lt (k := k') (by rw [ho]; rfl)
      obtain ⟨e1, e2⟩ := d.set_other w.heap.size (vals ++ spare).length e
      refine ⟨vs, sp, ty', fr', by rw [e1, hold _ hlt]; exact hh, hfr', all2_set hd' (hasM_look hf'.2 ho), hs', by rw [e2]; exact hl⟩
  · intro k1 k2 h1 h2 he
    unfold look at h1 h2
    by_cases e1 : k1 = k <;> by_cases e2 : k2 = k
    · rw [e1, e2]
    · exfalso
      rw [if_neg e2] at h2
      have := h.mem_lt h2
      rw [e1, Va.set_at, (d.set_other _ _ e2).1] at he; omega
    · exfalso
      rw [if_neg e1] at h1
      have := h.mem_lt h1
      rw [e2, Va.set_at, (d.set_other _ _ e1).1] at he; omega
    · rw [if_neg e1] at h1; rw [if_neg e2] at h2
      rw [(d.set_other _ _ e1).1, (d.set_other _ _ e2).1] at he
      exact h.inj _ _ h1 h2 he
  · intro k' hk'
    unfold look at hk'
    by_cases e : k' = k
    · subst e
      rw [Va.set_at]
      refine ⟨fun o => ?_, .inl h.size⟩
      show d.ro _ _ = none
      cases hr : d.ro w.heap.size o with
      | none => rfl
      | some y => have := cell_lt (h.ro _ _ _ hr); omega
    · rw [if_neg e] at hk'
      rw [(d.set_other _ _ e).1]
      exact h.own k' hk'
  · intro b o y hy
    have hr := h.ro b o y hy
    have := cell_lt hr
    simp only [World.cell?] at hr ⊢
    rw [hold b this]; exact hr
  · intro b hb hm
    rw [hold b (by have := h.size; omega)]; exact h.block b hb hm

theorem Sim.put {B : Base} {d : Va} {S : St} {a : Act} {w : World} (h : Sim B d S a w) {n : Nat} {v : V} {y : Value} (hn : n < B.nt) (hd : v.den d y) :
    Sim B d { S with env := (n, v) :: S.env } (a.put (some n) y) w := by
  refine ⟨h.defers, by simpa [Act.put] using h.nt, ?_, h.mem, h.inj, h.own, h.ro, h.old, h.os, h.tape, h.output, h.size, h.block⟩
  intro m u hu
  unfold look at hu
  split at hu
  · rename_i e
    simp only at e
    cases hu; subst e
    refine ⟨y, ?_, hd⟩
    have : m < a.tmps.size := by rw [h.nt]; exact hn
    simp [Act.put, this]
  · rename_i e
    simp only at e
    obtain ⟨z, hz, hd⟩ := h.env m u hu
    refine ⟨z, ?_, hd⟩
    simp only [Act.put]
    rw [Array.getElem?_setIfInBounds_ne (fun e' => e e'.symm)]
    exact hz

theorem Sim.drew {B : Base} {d : Va} {S : St} {a : Act} {w w' : World} (h : Sim B d S a w) (hh : w'.heap = w.heap) (hos : w'.os = w.os) (ht : w'.tape = w.tape) (ho : w'.output = w.output) : Sim B d S a w' := by
  refine ⟨h.defers, h.nt, h.env, ?_, h.inj, h.own, ?_, h.old, hos.trans h.os, ht.trans h.tape, ho.trans h.output, by rw [hh]; exact h.size, by rw [hh]; exact h.block⟩
  · rw [hh]; exact h.mem
  · intro b o y hy; have := h.ro b o y hy; simp only [World.cell?] at this ⊢; rw [hh]; exact this

def setM (m : List (Nat × Ob)) (k : Nat) (o : Ob) : List (Nat × Ob) :=
  match m with
  | [] => []
  | x :: r => if k = x.1 then (x.1, o) :: r else x :: setM r k o

theorem look_setM {k : Nat} {o : Ob} : ∀ {m : List (Nat × Ob)} {j : Nat}, look (setM m k o) j = if j = k then (look m k).map (fun _ => o) else look m j
  | [], j => by simp [setM, look]
  | x :: r, j => by
    unfold setM
    split
    · rename_i e
      subst e
      simp only [look]
      split
      · rename_i e; simp [e]
      · rfl
    · rename_i e
      simp only [look, if_neg e]
      split
      · rename_i e2
        rw [if_neg (fun e3 => e (e3.symm.trans e2))]
      · exact look_setM

/-- an own object holds something else -/
theorem Sim.write {B : Base} {d : Va} {S : St} {a : Act} {w : World} (h : Sim B d S a w) {k : Nat} {o : Ob} (hk : look S.mem k = some o) {cells : List L} {vals spare : List Value} {ty : TypeId} {fr : Nat × Nat} {w' : World}
    (hd : All2 (L.den d) cells vals) (hs : o.row = false → spare = []) (hfr : fr = (0, 0) ∨ (vals ++ spare).length ≤ fr.1) (hl : (vals ++ spare).length = d.size k)
    (hnew : w'.heap[d.at_ k]? = some (.cells (vals ++ spare).toArray ty fr)) (hold : ∀ b, b ≠ d.at_ k → w'.heap[b]? = w.heap[b]?) (hsz : w'.heap.size = w.heap.size)
    (hos : w'.os = w.os) (htape : w'.tape = w.tape) (hout : w'.output = w.output) :
    Sim B d { S with mem := setM S.mem k ⟨o.row, cells⟩ } a w' := by
  have hsome : ∀ j, (look (setM S.mem k ⟨o.row, cells⟩) j).isSome = true → (look S.mem j).isSome = true := by
    intro j hj
    rw [look_setM] at hj
    split at hj
    · rename_i e; subst e; rw [hk]; rfl
    · exact hj
  have hks : (look S.mem k).isSome = true := by rw [hk]; rfl
  refine ⟨h.defers, h.nt, h.env, ?_, fun k1 k2 h1 h2 => h.inj k1 k2 (hsome _ h1) (hsome _ h2), fun k' hk' => h.own k' (hsome _ hk'), ?_, h.old, hos.trans h.os, htape.trans h.tape, hout.trans h.output, by rw [hsz]; exact h.size, ?_⟩
  · intro j p hp
    rw [look_setM] at hp
    split at hp
    · rename_i e; subst e
      rw [hk] at hp; cases hp
      exact ⟨vals, spare, ty, fr, hnew, hfr, hd, hs, hl⟩
    · rename_i e
      obtain ⟨vs, sp, ty', fr', hh, rest⟩ := h.mem j p hp
      refine ⟨vs, sp, ty', fr', ?_, rest⟩
      rw [hold _ (fun e2 => e (h.inj j k (by rw [hp]; rfl) hks e2))]; exact hh
  · intro b o' y hy
    have hr := h.ro b o' y hy
    have hne : b ≠ d.at_ k := by
      intro e; subst e
      have := (h.own k hks).1 o'
      rw [this] at hy; cases hy
    simp only [World.cell?] at hr ⊢
    rw [hold b hne]; exact hr
  · intro b hb hm
    have hne : b ≠ d.at_ k := by
      intro e; subst e
      rcases (h.own k hks).2 with h1 | h1
      · omega
      · exact hm h1
    rw [hold b hne]; exact h.block b hb hm
end Go.Sy
