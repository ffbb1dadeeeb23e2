/- Regions that draw their order: what operations do, and that those which keep apart may change places. -/
import Derived.Test.YtmopmlnpoeeomaaD2
import Derived.Test.YtmopmlnpoeeomaaE24
set_option linter.unusedVariables false
set_option linter.unusedSimpArgs false
namespace Go.Sy

/-- what an operation does -/
inductive Eff where
  | val (v : V)
  | new (v : V) (ms : List (Nat × Ob))
  | app (v : V) (j : Nat) (o : Ob)
  | sto (v : V) (k : Nat) (o : Ob)

def addE (dst : Option Tmp) (v : V) (e : List (Nat × V)) : List (Nat × V) := match dst with
  | some n => (n, v) :: e
  | none => e

def Eff.on (dst : Option Tmp) : Eff → St → St
  | .val v, S => ⟨addE dst v S.env, S.mem⟩
  | .new v ms, S => ⟨addE dst v S.env, ms ++ S.mem⟩
  | .app v j o, S => ⟨addE dst v (killE j S.env), (j, o) :: killM j S.mem⟩
  | .sto v k o, S => ⟨addE dst v S.env, setM S.mem k o⟩
def Eff.names : Eff → List Nat
  | .new _ ms => ms.map (·.1)
  | _ => []
def Eff.mut : Eff → Bool
  | .app .. | .sto .. => true
  | _ => false

def storeE (P : Program) (S : St) (t : TypeId) (a x : V) : Option Eff :=
  match a, x with
  | .w (.one (.p k path)), .w v => match look S.mem k with
    | some o => if pok o.cells.length path ∧ psz o.cells.length path = P.cellsOf t ∧ P.cellsOf t ≠ 0 ∧ v.cells.length = P.cellsOf t then some (.sto .any k ⟨o.row, wr o.cells path v.cells⟩) else none
    | none => none
  | _, _ => none

def appendE (P : Program) (k : Nat) (S : St) (t tx : TypeId) (s x : V) : Option Eff :=
  match P.underlying t with
  | some (.slice e) =>
    match zeroC P e, srcV P S e tx x with
    | some z, some r =>
      if z.length = P.cellsOf e ∧ P.cellsOf e ≠ 0 ∧ P.bytesOf e ≠ 0 then
        match s with
        | .w (.one (.s j [] len sz)) =>
          match look S.mem j with
          | some o => if o.row = true ∧ sz = P.cellsOf e ∧ o.cells.length = len * sz ∧ (len + r.2) * P.bytesOf e ≤ 140737488355328 ∧ (o.cells ++ r.1).any (L.has j) = false then
              some (.app (.w (.one (.s j [] (len + r.2) sz))) j ⟨true, o.cells ++ r.1⟩)
            else none
          | none => none
        | .w (.one (.pl (.R true sz rows))) =>
          if sz = P.cellsOf e ∨ rows = [] then
            if r.2 = 0 then some (.val (.w (.one (.pl (.R true (P.cellsOf e) rows)))))
            else if (rows.length + r.2) * P.bytesOf e ≤ 140737488355328 ∧ r.1.any (L.has k) = false then
              some (.new (.w (.one (.s k [] (rows.length + r.2) (P.cellsOf e)))) [(k, ⟨true, pls rows.flatten ++ r.1⟩)])
            else none
          else none
        | _ => none
      else none
    | _, _ => none
  | _ => none

def copyE (x : Option (V × Nat × Ob)) : Option Eff := x.map fun r => .sto r.1 r.2.1 r.2.2

def evalE (P : Program) (S : St) (dst : Option Tmp) (op : Op) : Option Eff :=
  match op with
  | .store t x y => match S.get x, S.get y, dst with
    | some u, some v, none => storeE P S t u v
    | _, _, _ => none
  | .call ⟨.builtin .append, args, ts⟩ => match args.toList, ts.toList, dst with
    | [x, y], [t, tx], some k => match S.get x, S.get y with
      | some u, some v => appendE P k S t tx u v
      | _, _ => none
    | _, _, _ => none
  | .call ⟨.builtin .copy, args, ts⟩ => match args.toList, ts.toList with
    | [x, y], [t, tx] => match S.get x, S.get y with
      | some u, some v => copyE (copyV P S t tx u v)
      | _, _ => none
    | _, _ => none
  | op => match pureV P S op with
    | some v => some (.val v)
    | none => match dst with
      | some k => (allocV P k S op).map fun r => .new r.1 [(k, r.2)]
      | none => none

structure Eqv (S S' : St) : Prop where
  env : ∀ n, look S'.env n = look S.env n
  mem : ∀ k, look S'.mem k = look S.mem k

theorem Eqv.rfl' (S : St) : Eqv S S := ⟨fun _ => rfl, fun _ => rfl⟩
theorem Eqv.symm {S S' : St} (h : Eqv S S') : Eqv S' S := ⟨fun n => (h.env n).symm, fun n => (h.mem n).symm⟩
theorem Eqv.trans {S T U : St} (h : Eqv S T) (k : Eqv T U) : Eqv S U := ⟨fun n => (k.env n).trans (h.env n), fun n => (k.mem n).trans (h.mem n)⟩

theorem Eqv.get {S S' : St} (h : Eqv S S') (x : Operand) : S'.get x = S.get x := by
  cases x <;> first | exact h.env _ | rfl

theorem Sim.eqv {B : Base} {d : Va} {S S' : St} {a : Act} {w : World} (hs : Sim B d S a w) (h : Eqv S S') : Sim B d S' a w := by
  refine ⟨hs.defers, hs.nt, fun n v hv => hs.env n v (by rw [← h.env]; exact hv), fun k o hk => hs.mem k o (by rw [← h.mem]; exact hk), fun k k' h1 h2 => hs.inj k k' (by rw [← h.mem]; exact h1) (by rw [← h.mem]; exact h2), fun k h1 => hs.own k (by rw [← h.mem]; exact h1), hs.ro, hs.old, hs.os, hs.tape, hs.output, hs.size, hs.block⟩

section
variable {P : Program} {S S' : St}
theorem evalE_same {dst : Option Tmp} {op : Op} (hg : ∀ x ∈ op.operands, S'.get x = S.get x) (hm : memOp op = true → ∀ x ∈ op.operands, ∀ v, S.get x = some v → ∀ k, v.has k = true → look S'.mem k = look S.mem k) : evalE P S' dst op = evalE P S dst op := by
  unfold evalE
  split
  · rename_i t x y
    rw [hg x (by simp [Op.operands]), hg y (by simp [Op.operands])]
    split
    · rename_i u v hu hv
      unfold storeE
      split
      · rename_i k path v'
        rw [hm rfl x (by simp [Op.operands]) _ hu k (by simp [V.has, W.has, L.has])]
      · rfl
    · rfl
  · rename_i args ts
    split
    · rename_i x y t tx k ha ht
      have hx : x ∈ (Op.call ⟨.builtin .append, args, ts⟩).operands := by simp only [Op.operands, Call.operands]; first | exact Array.mem_def.2 (by rw [ha]; simp) | (simp; exact Array.mem_def.2 (by rw [ha]; simp))
      have hy : y ∈ (Op.call ⟨.builtin .append, args, ts⟩).operands := by simp only [Op.operands, Call.operands]; first | exact Array.mem_def.2 (by rw [ha]; simp) | (simp; exact Array.mem_def.2 (by rw [ha]; simp))
      rw [hg x hx, hg y hy]
      split
      · rename_i u v hu hv
        unfold appendE
        split
        · rw [srcV_same (hm rfl y hy v hv)]
          split
          · split
            · split
              · rename_i j _ _
                rw [hm rfl x hx _ hu j (by simp [V.has, W.has, L.has])]
              · rfl
              · rfl
            · rfl
          · rfl
        · rfl
      · rfl
    · rfl
  · rename_i args ts
    split
    · rename_i x y t tx ha ht
      have hx : x ∈ (Op.call ⟨.builtin .copy, args, ts⟩).operands := by simp only [Op.operands, Call.operands]; first | exact Array.mem_def.2 (by rw [ha]; simp) | (simp; exact Array.mem_def.2 (by rw [ha]; simp))
      have hy : y ∈ (Op.call ⟨.builtin .copy, args, ts⟩).operands := by simp only [Op.operands, Call.operands]; first | exact Array.mem_def.2 (by rw [ha]; simp) | (simp; exact Array.mem_def.2 (by rw [ha]; simp))
      rw [hg x hx, hg y hy]
      split
      · rename_i u v hu hv
        congr 1
        unfold copyV
        split
        · rw [srcV_same (hm rfl y hy v hv)]
          split
          · rename_i k path len sz _
            rw [hm rfl x hx _ hu k (by simp [V.has, W.has, L.has])]
          · rfl
        · rfl
      · rfl
    · rfl
  · rw [pureV_same hg hm]
    split
    · rfl
    · split
      · rw [allocV_same hg]
      · rfl

def Eff.free (k : Nat) : Eff → Bool
  | .val v => !v.has k
  | .new v ms => !v.has k && ms.all fun m => !m.2.has k
  | .app v j o => !v.has k && !o.has k && k != j
  | .sto v j o => !v.has k && !o.has k && k != j

theorem any_append' {k : Nat} {a b : List L} (ha : a.any (L.has k) = false) (hb : b.any (L.has k) = false) : (a ++ b).any (L.has k) = false := by
  rw [List.any_append, ha, hb]; rfl

theorem any_wr {k : Nat} {c d : List L} (hc : c.any (L.has k) = false) : ∀ {p : Path} {d : List L}, d.any (L.has k) = false → (wr c p d).any (L.has k) = false
  | [], d, hd => hd
  | x :: p, d, hd => any_wr (d := d) hc (p := p) (any_upd (any_rd hc p) hd _ _)

theorem any_take {k : Nat} {c : List L} (hc : c.any (L.has k) = false) (n : Nat) : (c.take n).any (L.has k) = false := by
  simp only [List.any_eq_false] at hc ⊢
  intro x hx
  exact hc x (List.mem_of_mem_take hx)

theorem has_s {k j len sz len' sz' : Nat} {p p' : Path} (h : V.has k (.w (.one (.s j p len sz))) = false) : V.has k (.w (.one (.s j p' len' sz'))) = false := h

/-- a name that nothing leans on stays out of what is done -/
theorem evalE_fr {k : Nat} {dst : Option Tmp} {op : Op} {e : Eff} (hf : Fr k S) (h : evalE P S dst op = some e) (hk : k ∉ e.names) : e.free k = true := by
  unfold evalE at h
  split at h
  · split at h <;> try (cases h; done)
    rename_i u v hu hv
    unfold storeE at h
    split at h <;> try (cases h; done)
    split at h <;> try (cases h; done)
    rename_i o ho
    split at h <;> cases h
    have hj := get_fr hf hu
    simp only [V.has, W.has, L.has, beq_eq_false_iff_ne] at hj
    simp only [Eff.free, V.has, Bool.not_false, Bool.true_and, Bool.and_eq_true, Bool.not_eq_true', bne_iff_ne]
    exact ⟨any_wr (d := []) (hf.2 _ _ ho) (cells_has (get_fr hf hv)), hj⟩
  · split at h <;> try (cases h; done)
    split at h <;> try (cases h; done)
    rename_i u v hu hv
    unfold appendE at h
    split at h <;> try (cases h; done)
    split at h <;> try (cases h; done)
    rename_i z r hz hr
    have hn := srcV_fr hf hr
    split at h <;> try (cases h; done)
    split at h
    · split at h <;> try (cases h; done)
      rename_i o ho
      split at h <;> cases h
      have hj := get_fr hf hu
      have hj' := hj
      simp only [V.has, W.has, L.has, beq_eq_false_iff_ne] at hj'
      simp only [Eff.free, has_s hj, Bool.not_false, Bool.true_and, Bool.and_eq_true, Bool.not_eq_true', bne_iff_ne]
      exact ⟨any_append' (hf.2 _ _ ho) hn, hj'⟩
    · split at h <;> try (cases h; done)
      split at h
      · cases h; rfl
      · split at h <;> cases h
        simp only [Eff.names, List.map_cons, List.map_nil, List.mem_singleton] at hk
        simp only [Eff.free, V.has, W.has, L.has, List.all_cons, List.all_nil, Bool.and_true, Bool.and_eq_true, Bool.not_eq_true', beq_eq_false_iff_ne]
        exact ⟨hk, any_append' (pls_has k _) hn⟩
    · cases h
  · split at h <;> try (cases h; done)
    split at h <;> try (cases h; done)
    rename_i u v hu hv
    unfold copyE at h
    obtain ⟨r, hr, rfl⟩ := Option.map_eq_some_iff.mp h
    unfold copyV at hr
    split at hr <;> try (cases hr; done)
    split at hr <;> try (cases hr; done)
    rename_i r' _ _ _ _ hs
    split at hr <;> try (cases hr; done)
    rename_i o ho
    split at hr <;> cases hr
    have hj := get_fr hf hu
    simp only [V.has, W.has, L.has, beq_eq_false_iff_ne] at hj
    simp only [Eff.free, V.has, W.has, L.has, Bool.not_false, Bool.true_and, Bool.and_eq_true, Bool.not_eq_true', bne_iff_ne]
    exact ⟨any_wr (d := []) (hf.2 _ _ ho) (any_take (srcV_fr hf hs) _), hj⟩
  · split at h
    · rename_i v hv
      cases h
      simp only [Eff.free, Bool.not_eq_true']
      exact pureV_fr hf hv
    · split at h <;> try (cases h; done)
      obtain ⟨r, hr, rfl⟩ := Option.map_eq_some_iff.mp h
      simp only [Eff.names, List.map_cons, List.map_nil, List.mem_singleton] at hk
      have := allocV_fr hf hk hr
      simp only [Eff.free, this.1, this.2, List.all_cons, List.all_nil, Bool.not_false, Bool.and_self]
end
end Go.Sy
