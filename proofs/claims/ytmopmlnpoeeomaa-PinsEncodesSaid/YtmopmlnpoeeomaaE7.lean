/- The layer: equality of structs and arrays. -/
import Derived.Test.YtmopmlnpoeeomaaE6
import Derived.ChangeKeysEq
set_option linter.unusedVariables false
set_option linter.unusedSimpArgs false
namespace Go.Sy

inductive Kd where
  | int (k : IntKind)
  | b
  | s
  deriving DecidableEq

def kindV : Value → Option Kd
  | .int k _ => some (.int k)
  | .bool _ => some .b
  | .string _ => some .s
  | _ => none

def eqv : Value → Value → Bool
  | .int _ a, .int _ b => a == b
  | .bool a, .bool b => a == b
  | .string a, .string b => a.toList == b.toList
  | _, _ => false

def eqVals : List Value → List Value → Bool
  | x :: xs, y :: ys => eqv x y && eqVals xs ys
  | _, _ => true

def flatFs (P : Program) (g : TypeId → Option (List Kd)) : List Field → Nat → Option (List Kd)
  | [], _ => some []
  | f :: fs, off =>
    if f.offset = off ∧ f.name ≠ "_" then
      match g f.type with
      | some ks => if ks.length = P.cellsOf f.type ∧ ks.length ≠ 0 then (flatFs P g fs (off + ks.length)).map (ks ++ ·) else none
      | none => none
    else none

/-- the kinds of a type's cells, if all of it can be compared cell by cell -/
def flatK (P : Program) : Nat → TypeId → Option (List Kd)
  | 0, _ => none
  | n + 1, t =>
    match P.underlying t with
    | some (.int k) => some [.int k]
    | some .bool => some [.b]
    | some .string => some [.s]
    | some (.struct fs) => if P.stoodInHeld t = false then flatFs P (flatK P n) fs.toList 0 else none
    | some (.array len e) =>
      match flatK P n e with
      | some ks => if ks.length = P.cellsOf e ∧ ks.length ≠ 0 then some (List.replicate len ks).flatten else none
      | none => none
    | _ => none

/-- a value of a type's outer form with these cells -/
def FormAt (P : Program) (t : TypeId) (x : Value) (cs : List Value) : Prop :=
  match P.underlying t with
  | some (.struct _) | some (.array _ _) => x = .agg cs.toArray
  | _ => cs = [x]

theorem part_at {P : Program} {w : World} {n : Nat} {t : TypeId} {ks : List Kd} (hk : flatK P n t = some ks) (hl : ks.length = P.cellsOf t) (h0 : ks.length ≠ 0) {xs : Array Value} {off : Nat} (hle : off + ks.length ≤ xs.size) :
    ∃ z, (part t xs off).run P w = .ok z w ∧ FormAt P t z (win xs.toList off ks.length) := by
  have hsz := run_size (P := P) (t := t) (by omega) w
  have hx : ∀ (h : off < xs.size), ks.length = 1 → win xs.toList off ks.length = [xs[off]] := by
    intro h h1
    rw [h1]
    unfold win
    rw [List.drop_eq_getElem_cons (by simpa using h)]
    simp
  cases n with
  | zero => cases hk
  | succ n =>
    unfold flatK at hk
    unfold FormAt
    split at hk
    · rename_i k hu; cases hk
      have hlt : off < xs.size := by simp at hle; omega
      refine ⟨xs[off], ?_, ?_⟩
      · unfold part; simp [isAgg, Sem.run_bind, run_underlying hu w, hlt]
      · simp only [hu]; exact hx hlt rfl
    · rename_i hu; cases hk
      have hlt : off < xs.size := by simp at hle; omega
      refine ⟨xs[off], ?_, ?_⟩
      · unfold part; simp [isAgg, Sem.run_bind, run_underlying hu w, hlt]
      · simp only [hu]; exact hx hlt rfl
    · rename_i hu; cases hk
      have hlt : off < xs.size := by simp at hle; omega
      refine ⟨xs[off], ?_, ?_⟩
      · unfold part; simp [isAgg, Sem.run_bind, run_underlying hu w, hlt]
      · simp only [hu]; exact hx hlt rfl
    · rename_i fs hu
      refine ⟨.agg (xs.extract off (off + P.cellsOf t)), ?_, ?_⟩
      · unfold part; simp [isAgg, Sem.run_bind, run_underlying hu w, hsz]
      · simp only [hu]; rw [hl]; congr 1
        apply Array.ext'; simp [win, List.extract_eq_take_drop]
    · rename_i len e hu
      refine ⟨.agg (xs.extract off (off + P.cellsOf t)), ?_, ?_⟩
      · unfold part; simp [isAgg, Sem.run_bind, run_underlying hu w, hsz]
      · simp only [hu]; rw [hl]; congr 1
        apply Array.ext'; simp [win, List.extract_eq_take_drop]
    · cases hk

theorem eqVals_append : ∀ {a b c d : List Value}, a.length = b.length → eqVals (a ++ c) (b ++ d) = (eqVals a b && eqVals c d)
  | [], [], c, d, _ => by simp [eqVals]
  | x :: a, y :: b, c, d, h => by
    simp only [List.cons_append, eqVals]
    rw [eqVals_append (by simpa using h), Bool.and_assoc]

theorem win_split {α : Type} (xs : List α) (o n m : Nat) : win xs o (n + m) = win xs o n ++ win xs (o + n) m := by
  unfold win
  rw [List.take_add, List.drop_drop]

def Kinds (ks : List Kd) (xs : List Value) : Prop := xs.map kindV = ks.map some

theorem Kinds.length {ks : List Kd} {xs : List Value} (h : Kinds ks xs) : xs.length = ks.length := by
  have := congrArg List.length h; simpa using this

theorem Kinds.split {ks ks' : List Kd} {xs ys : List Value} (h : Kinds (ks ++ ks') (xs ++ ys)) (hl : xs.length = ks.length) : Kinds ks xs ∧ Kinds ks' ys := by
  unfold Kinds at *
  rw [List.map_append, List.map_append] at h
  exact List.append_inj h (by simpa using hl)

theorem eqFields_run {P : Program} {w : World} {n : Nat} (ih : ∀ t ks, flatK P n t = some ks → ∀ x y xs ys, FormAt P t x xs → FormAt P t y ys → Kinds ks xs → Kinds ks ys → (Op.equalIn n t x y).run P w = .ok (eqVals xs ys) w)
    {xs ys : Array Value} : ∀ (fs : List Field) (off : Nat) (ks : List Kd), flatFs P (flatK P n) fs off = some ks → off + ks.length ≤ xs.size → off + ks.length ≤ ys.size →
      Kinds ks (win xs.toList off ks.length) → Kinds ks (win ys.toList off ks.length) →
      (Op.eqFields n xs ys fs).run P w = .ok (eqVals (win xs.toList off ks.length) (win ys.toList off ks.length)) w
  | [], off, ks, h, _, _, _, _ => by cases h; simp [Op.eqFields, win, eqVals]
  | f :: fs, off, ks, h, hx, hy, kx, ky => by
    unfold flatFs at h
    split at h <;> try (cases h; done)
    rename_i hc
    obtain ⟨rfl, hname⟩ := hc
    split at h <;> try (cases h; done)
    rename_i k1 hg
    split at h <;> try (cases h; done)
    rename_i hc2
    cases h2 : flatFs P (flatK P n) fs (f.offset + k1.length) with
    | none => simp [h2] at h
    | some k2 =>
      simp only [h2, Option.map_some, Option.some.injEq] at h
      subst h
      rw [List.length_append] at hx hy kx ky ⊢
      rw [win_split] at kx ky ⊢
      rw [win_split] at ⊢
      have l1 : (win xs.toList f.offset k1.length).length = k1.length := length_win _ _ _ (by simp; omega)
      have l2 : (win ys.toList f.offset k1.length).length = k1.length := length_win _ _ _ (by simp; omega)
      obtain ⟨kx1, kx2⟩ := kx.split l1
      obtain ⟨ky1, ky2⟩ := ky.split l2
      obtain ⟨a, ha, fa⟩ := part_at (w := w) hg hc2.1 hc2.2 (xs := xs) (off := f.offset) (by omega)
      obtain ⟨b, hb, fb⟩ := part_at (w := w) hg hc2.1 hc2.2 (xs := ys) (off := f.offset) (by omega)
      have he := ih _ _ hg a b _ _ fa fb kx1 ky1
      have hr := eqFields_run ih fs (f.offset + k1.length) k2 h2 (by omega) (by omega) kx2 ky2
      rw [eqVals_append (by rw [l1, l2])]
      simp only [Op.eqFields, hname, ne_eq, not_false_eq_true, if_true, Sem.run_bind, ha, hb, he, Result.andThen_ok]
      cases hq : eqVals (win xs.toList f.offset k1.length) (win ys.toList f.offset k1.length)
      · simp
      · simp [hr]

theorem eqItems_run {P : Program} {w : World} {n : Nat} (ih : ∀ t ks, flatK P n t = some ks → ∀ x y xs ys, FormAt P t x xs → FormAt P t y ys → Kinds ks xs → Kinds ks ys → (Op.equalIn n t x y).run P w = .ok (eqVals xs ys) w)
    {xs ys : Array Value} {e : TypeId} {ks : List Kd} (hk : flatK P n e = some ks) (hl : ks.length = P.cellsOf e) (h0 : ks.length ≠ 0) :
    ∀ (len start : Nat), (start + len) * ks.length ≤ xs.size → (start + len) * ks.length ≤ ys.size →
      Kinds (List.replicate len ks).flatten (win xs.toList (start * ks.length) (len * ks.length)) → Kinds (List.replicate len ks).flatten (win ys.toList (start * ks.length) (len * ks.length)) →
      (Op.eqItems n e (P.cellsOf e) xs ys (List.range' start len)).run P w = .ok (eqVals (win xs.toList (start * ks.length) (len * ks.length)) (win ys.toList (start * ks.length) (len * ks.length))) w
  | 0, start, _, _, _, _ => by simp [Op.eqItems, win, eqVals]
  | len + 1, start, hx, hy, kx, ky => by
    have e1 : (len + 1) * ks.length = ks.length + len * ks.length := by rw [Nat.add_mul]; omega
    have e2 : start * ks.length + ks.length = (start + 1) * ks.length := by rw [Nat.add_mul]; omega
    have e3 : (start + (len + 1)) * ks.length = (start + 1 + len) * ks.length := by congr 1; omega
    have e4 : (start + 1 + len) * ks.length = (start + 1) * ks.length + len * ks.length := by rw [Nat.add_mul]
    rw [e3] at hx hy
    rw [List.replicate_succ, List.flatten_cons, e1, win_split, e2] at kx ky
    rw [e1, win_split, win_split, e2]
    have l1 : (win xs.toList (start * ks.length) ks.length).length = ks.length := length_win _ _ _ (by simp; omega)
    have l2 : (win ys.toList (start * ks.length) ks.length).length = ks.length := length_win _ _ _ (by simp; omega)
    obtain ⟨kx1, kx2⟩ := kx.split l1
    obtain ⟨ky1, ky2⟩ := ky.split l2
    obtain ⟨a, ha, fa⟩ := part_at (w := w) hk hl h0 (xs := xs) (off := start * ks.length) (by omega)
    obtain ⟨b, hb, fb⟩ := part_at (w := w) hk hl h0 (xs := ys) (off := start * ks.length) (by omega)
    have he := ih _ _ hk a b _ _ fa fb kx1 ky1
    have hr := eqItems_run ih hk hl h0 len (start + 1) hx hy kx2 ky2
    rw [eqVals_append (by rw [l1, l2])]
    rw [hl] at ha hb
    simp only [List.range'_succ, Op.eqItems, Sem.run_bind, ha, hb, he, Result.andThen_ok]
    cases hq : eqVals (win xs.toList (start * ks.length) ks.length) (win ys.toList (start * ks.length) ks.length)
    · simp
    · simp [hr]

theorem equalIn_run {P : Program} {w : World} : ∀ (n : Nat) (t : TypeId) (ks : List Kd), flatK P n t = some ks → ∀ x y xs ys, FormAt P t x xs → FormAt P t y ys → Kinds ks xs → Kinds ks ys →
    (Op.equalIn n t x y).run P w = .ok (eqVals xs ys) w
  | 0, t, ks, h, _, _, _, _, _, _, _, _ => by cases h
  | n + 1, t, ks, h, x, y, xs, ys, fx, fy, kx, ky => by
    unfold flatK at h
    unfold FormAt at fx fy
    split at h
    · rename_i k hu
      cases h
      simp only [hu] at fx fy; subst fx; subst fy
      simp only [Kinds, List.map_cons, List.map_nil, List.cons.injEq, and_true] at kx ky
      unfold kindV at kx ky
      split at kx <;> cases kx
      split at ky <;> cases ky
      rw [run_equalIn_int w n t k k _ _ hu]; simp [eqVals, eqv]
    · rename_i hu
      cases h
      simp only [hu] at fx fy; subst fx; subst fy
      simp only [Kinds, List.map_cons, List.map_nil, List.cons.injEq, and_true] at kx ky
      unfold kindV at kx ky
      split at kx <;> cases kx
      split at ky <;> cases ky
      rw [run_equalIn_bool' w n t _ _ hu]; simp [eqVals, eqv]
    · rename_i hu
      cases h
      simp only [hu] at fx fy; subst fx; subst fy
      simp only [Kinds, List.map_cons, List.map_nil, List.cons.injEq, and_true] at kx ky
      unfold kindV at kx ky
      split at kx <;> cases kx
      split at ky <;> cases ky
      rw [run_equalIn_string w n t _ _ hu]; simp [eqVals, eqv]
    · rename_i fs hu
      split at h <;> try (cases h; done)
      rename_i hst
      simp only [hu] at fx fy; subst fx; subst fy
      have hf : P.fieldsOf t = fs := by simp [Program.fieldsOf, hu]
      rw [run_equalIn_struct w n t _ _ (by rw [hf]; exact hu) hst, hf]
      have lx := kx.length; have ly := ky.length
      have wx : win xs.toArray.toList 0 ks.length = xs := by simp [win, ← lx]
      have wy : win ys.toArray.toList 0 ks.length = ys := by simp [win, ← ly]
      have := eqFields_run (w := w) (fun t ks h => equalIn_run n t ks h) (xs := xs.toArray) (ys := ys.toArray) fs.toList 0 ks h (by simp; omega) (by simp; omega) (by rw [wx]; exact kx) (by rw [wy]; exact ky)
      rwa [wx, wy] at this
    · rename_i len e hu
      split at h <;> try (cases h; done)
      rename_i ke hke
      split at h <;> cases h
      rename_i hc
      simp only [hu] at fx fy; subst fx; subst fy
      obtain ⟨i, hi, _⟩ := info_of_cells (P := P) (t := e) (by omega)
      rw [run_equalIn_array w n _ _ hu hi, List.range_eq_range']
      have hfl : (List.replicate len ke).flatten.length = len * ke.length := by simp
      have lx := kx.length; have ly := ky.length
      rw [hfl] at lx ly
      have wx : win xs.toArray.toList (0 * ke.length) (len * ke.length) = xs := by simp [win, ← lx]
      have wy : win ys.toArray.toList (0 * ke.length) (len * ke.length) = ys := by simp [win, ← ly]
      have := eqItems_run (w := w) (fun t ks h => equalIn_run n t ks h) (xs := xs.toArray) (ys := ys.toArray) hke hc.1 hc.2 len 0 (by simp; omega) (by simp; omega) (by rw [wx]; exact kx) (by rw [wy]; exact ky)
      rwa [wx, wy] at this
    · cases h
end Go.Sy
