/- The layer: states, what it is for a state to hold, values of operations that only read. -/
import Derived.Test.YtmopmlnpoeeomaaE1
set_option linter.unusedVariables false
set_option linter.unusedSimpArgs false
namespace Go.Sy

def look {α : Type} : List (Nat × α) → Nat → Option α
  | [], _ => none
  | x :: r, n => if n = x.1 then some x.2 else look r n

structure Ob where
  row : Bool
  cells : List L

structure St where
  env : List (Nat × V)
  mem : List (Nat × Ob)

/-- the memory below: what the call found, what it may turn of it -/
structure Base where
  w0 : World
  may : Nat → Prop
  nt : Nat
  ro : Ro

structure Sim (B : Base) (d : Va) (S : St) (a : Act) (w : World) : Prop where
  defers : a.defers = []
  nt : a.tmps.size = B.nt
  env : ∀ n v, look S.env n = some v → ∃ y, a.tmps[n]? = some y ∧ V.den d v y
  mem : ∀ k o, look S.mem k = some o → ∃ (vals spare : List Value) (ty : TypeId) (fr : Nat × Nat), w.heap[d.at_ k]? = some (.cells (vals ++ spare).toArray ty fr) ∧ (fr = (0, 0) ∨ (vals ++ spare).length ≤ fr.1) ∧ All2 (L.den d) o.cells vals ∧ (o.row = false → spare = []) ∧ (vals ++ spare).length = d.size k
  inj : ∀ k k', (look S.mem k).isSome = true → (look S.mem k').isSome = true → d.at_ k = d.at_ k' → k = k'
  own : ∀ k, (look S.mem k).isSome = true → (∀ o, d.ro (d.at_ k) o = none) ∧ (B.w0.heap.size ≤ d.at_ k ∨ B.may (d.at_ k))
  ro : ∀ b o y, d.ro b o = some y → w.cell? ⟨b, o, none⟩ = some y
  old : ∀ b o y, d.ro b o = some y → b < B.w0.heap.size → B.ro b o = some y
  os : w.os = B.w0.os
  tape : w.tape = B.w0.tape
  output : w.output = B.w0.output
  size : B.w0.heap.size ≤ w.heap.size
  block : ∀ b, b < B.w0.heap.size → ¬ B.may b → w.heap[b]? = B.w0.heap[b]?

theorem All2.length {α β : Type} {R : α → β → Prop} {l : List α} {m : List β} (h : All2 R l m) : l.length = m.length := by
  induction h with
  | nil => rfl
  | cons _ _ ih => simp [ih]

theorem All2.get {α β : Type} {R : α → β → Prop} {l : List α} {m : List β} (h : All2 R l m) : ∀ {i : Nat} {x : α}, l[i]? = some x → ∃ y, m[i]? = some y ∧ R x y := by
  induction h with
  | nil => intro i x hx; simp at hx
  | cons hr _ ih =>
    intro i x hx
    cases i with
    | zero => simp at hx; subst hx; exact ⟨_, rfl, hr⟩
    | succ i => simpa using ih (by simpa using hx)

theorem All2.drop {α β : Type} {R : α → β → Prop} {l : List α} {m : List β} (h : All2 R l m) : ∀ n, All2 R (l.drop n) (m.drop n) := by
  induction h with
  | nil => intro n; simpa using All2.nil
  | cons hr hs ih =>
    intro n
    cases n with
    | zero => exact .cons hr hs
    | succ n => simpa using ih n

theorem All2.take {α β : Type} {R : α → β → Prop} {l : List α} {m : List β} (h : All2 R l m) : ∀ n, All2 R (l.take n) (m.take n) := by
  induction h with
  | nil => intro n; simpa using All2.nil
  | cons hr hs ih =>
    intro n
    cases n with
    | zero => exact .nil
    | succ n => simpa using .cons hr (ih n)

theorem All2.append {α β : Type} {R : α → β → Prop} {l l' : List α} {m m' : List β} (h : All2 R l m) (h' : All2 R l' m') : All2 R (l ++ l') (m ++ m') := by
  induction h with
  | nil => exact h'
  | cons hr _ ih => exact .cons hr ih

theorem All2.win {α β : Type} {R : α → β → Prop} {l : List α} {m : List β} (h : All2 R l m) (o n : Nat) : All2 R (win l o n) (win m o n) := (h.drop o).take n

theorem All2.upd {α β : Type} {R : α → β → Prop} {l d : List α} {m e : List β} (h : All2 R l m) (h' : All2 R d e) (o n : Nat) : All2 R (upd l o n d) (upd m o n e) :=
  ((h.take o).append h').append (h.drop (o + n))

theorem All2.mono {α β : Type} {R R' : α → β → Prop} {l : List α} {m : List β} (h : All2 R l m) (hr : ∀ x y, x ∈ l → R x y → R' x y) : All2 R' l m := by
  induction h with
  | nil => exact .nil
  | cons h1 _ ih => exact .cons (hr _ _ (by simp) h1) (ih fun x y hx => hr x y (by simp [hx]))

theorem L.den_scalar {d : Va} {l : L} {y : Value} (h : l.den d y) : Scalar y := by
  cases l with
  | pl x =>
    cases x with
    | str s => simp only [L.den, PL.den] at h; rw [h.1]; exact ⟨fun _ => nofun, fun _ => nofun⟩
    | val x => simp only [L.den, PL.den] at h; rw [h.1]; exact h.2
    | R ex sz rows =>
      simp only [L.den, PL.den] at h
      rcases h with ⟨h, _⟩ | ⟨_, _, _, h, _⟩ <;> (rw [h]; exact ⟨fun _ => nofun, fun _ => nofun⟩)
    | q c p => simp only [L.den, PL.den] at h; obtain ⟨_, _, h, _⟩ := h; rw [h]; exact ⟨fun _ => nofun, fun _ => nofun⟩
    | u => simpa only [L.den, PL.den] using h
    | _ => simp only [L.den, PL.den] at h; rw [h]; exact ⟨fun _ => nofun, fun _ => nofun⟩
  | p k path => simp only [L.den] at h; rw [h]; exact ⟨fun _ => nofun, fun _ => nofun⟩
  | s k path len sz => simp only [L.den] at h; obtain ⟨_, _, h, _⟩ := h; rw [h]; exact ⟨fun _ => nofun, fun _ => nofun⟩
  | fn f caps => simp only [L.den] at h; rw [h]; exact ⟨fun _ => nofun, fun _ => nofun⟩

theorem Scalar.cells {y : Value} (h : Scalar y) : y.cells = #[y] := by
  cases y <;> first | rfl | exact absurd rfl (h.1 _)

/-- the cells of a value that is no tuple -/
def W.cells : W → List L
  | .one l => [l]
  | .agg cs => cs

theorem W.den_cells {d : Va} {x : W} {y : Value} (h : x.den d y) : All2 (L.den d) x.cells y.cells.toList := by
  cases x with
  | one l =>
    have := (L.den_scalar h).cells
    rw [this]
    exact .cons h .nil
  | agg cs =>
    obtain ⟨vs, rfl, h⟩ := h
    exact h

/-- a constant of the text, of one cell -/
def litL : Value → Option L
  | .int k n => match k with
    | .u8 => if 0 ≤ n ∧ n < 256 then some (.pl (.u8 (UInt8.ofNat n.toNat))) else none
    | .u32 => if 0 ≤ n ∧ n < 4294967296 then some (.pl (.u32 (UInt32.ofNat n.toNat))) else none
    | .u64 => if 0 ≤ n ∧ n < 18446744073709551616 then some (.pl (.u64 (UInt64.ofNat n.toNat))) else none
    | .i64 => some (.pl (.i n))
    | _ => none
  | .bool x => some (.pl (.b x))
  | .string s => if s.size ≤ 65536 then some (.pl (.str s.data.toList)) else none
  | .slice a n c => if a = none ∧ n = 0 ∧ c = 0 then some (.pl (.R true 1 [])) else none
  | .func f a b => match f with
    | .func f => if a.isEmpty && b.isEmpty then some (.fn f []) else none
    | _ => none
  | .nilFunc => some (.pl (.val .nilFunc))
  | .pointer a => if a = none then some (.pl (.val (.pointer none))) else none
  | _ => none

theorem small_maxLen : 65536 ≤ maxLen := by decide

theorem litL_den {d : Va} {c : Value} {x : L} (h : litL c = some x) : x.den d c := by
  cases c with
  | int k n =>
    simp only [litL] at h
    cases k <;> simp only at h <;> first
      | (cases h; done)
      | (cases h; rfl)
      | (split at h <;> first
          | (cases h; done)
          | (cases h; simp only [L.den, PL.den]; congr 1
             first | (simp [UInt8.toNat_ofNat']; omega) | (simp [UInt32.toNat_ofNat']; omega) | (simp [UInt64.toNat_ofNat']; omega)))
  | bool b => simp only [litL, Option.some.injEq] at h; subst h; simp only [L.den, PL.den]
  | string s =>
    simp only [litL] at h
    split at h
    · simp only [Option.some.injEq] at h; subst h
      rw [L.den, PL.den]
      refine ⟨by simp, ?_⟩
      have : s.data.toList.length = s.size := Array.length_toList
      rw [this]; exact Nat.le_trans (by assumption) small_maxLen
    · cases h
  | slice a n c =>
    simp only [litL] at h
    split at h
    · rename_i hc; obtain ⟨rfl, rfl, rfl⟩ := hc
      simp only [Option.some.injEq] at h; subst h
      rw [L.den, PL.den]; left; exact ⟨rfl, rfl⟩
    · cases h
  | func f a b =>
    simp only [litL] at h
    cases f <;> simp only at h <;> try (cases h; done)
    split at h
    · rename_i hc
      simp only [Bool.and_eq_true, Array.isEmpty_iff] at hc
      obtain ⟨rfl, rfl⟩ := hc
      simp only [Option.some.injEq] at h; subst h
      simp [L.den]
    · cases h
  | nilFunc => simp only [litL, Option.some.injEq] at h; subst h; simp only [L.den, PL.den]; first | exact ⟨rfl, fun _ => nofun, fun _ => nofun⟩ | exact ⟨trivial, fun _ => nofun, fun _ => nofun⟩
  | pointer a =>
    simp only [litL] at h
    split at h
    · rename_i hc; subst hc
      simp only [Option.some.injEq] at h; subst h
      simp only [L.den, PL.den]; first | exact ⟨rfl, fun _ => nofun, fun _ => nofun⟩ | exact ⟨trivial, fun _ => nofun, fun _ => nofun⟩
    · cases h
  | _ => simp [litL] at h

def litCells : List Value → Option (List L)
  | [] => some []
  | c :: cs => match litL c, litCells cs with
    | some x, some xs => some (x :: xs)
    | _, _ => none

theorem litCells_den {d : Va} : ∀ {cs : List Value} {xs : List L}, litCells cs = some xs → All2 (L.den d) xs cs
  | [], xs, h => by simp only [litCells, Option.some.injEq] at h; subst h; exact .nil
  | c :: cs, xs, h => by
    simp only [litCells] at h
    cases h1 : litL c with
    | none => simp [h1] at h
    | some x =>
      cases h2 : litCells cs with
      | none => simp [h1, h2] at h
      | some ys => simp only [h1, h2, Option.some.injEq] at h; subst h; exact .cons (litL_den h1) (litCells_den h2)

def lit : Value → Option W
  | .agg cs => (litCells cs.toList).map .agg
  | c => (litL c).map .one

theorem lit_den {d : Va} {c : Value} {x : W} (h : lit c = some x) : x.den d c := by
  unfold lit at h
  split at h
  · rename_i cs
    cases h2 : litCells cs.toList with
    | none => simp [h2] at h
    | some ys => simp only [h2, Option.map_some, Option.some.injEq] at h; subst h; exact ⟨cs, rfl, litCells_den h2⟩
  · cases h2 : litL c with
    | none => simp [h2] at h
    | some ys => simp only [h2, Option.map_some, Option.some.injEq] at h; subst h; exact litL_den h2

def St.get (S : St) : Operand → Option V
  | .tmp t => look S.env t
  | .const c => (lit c).map .w
  | .func f => some (.w (.one (.fn f [])))
  | .global _ => none

theorem Sim.get {B : Base} {d : Va} {S : St} {a : Act} {w : World} (h : Sim B d S a w) {x : Operand} {v : V} (hv : S.get x = some v) : v.den d (a.eval x) := by
  cases x with
  | tmp t =>
    obtain ⟨y, hy, hd⟩ := h.env t v hv
    have : a.eval (.tmp t) = y := by simp [Act.eval, Array.getD_eq_getD_getElem?, hy]
    rw [this]; exact hd
  | const c =>
    simp only [St.get] at hv
    cases hl : lit c with
    | none => simp [hl] at hv
    | some x => simp only [hl, Option.map_some, Option.some.injEq] at hv; subst hv; exact lit_den hl
  | func f =>
    simp only [St.get, Option.some.injEq] at hv; subst hv
    show W.den d (.one (.fn f [])) _
    simp [W.den, L.den, Act.eval]
  | global g => simp [St.get] at hv

end Go.Sy
