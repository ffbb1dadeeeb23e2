/- The layer: composites; all operations that only read, in one. -/
import Derived.Test.YtmopmlnpoeeomaaE9
set_option linter.unusedVariables false
set_option linter.unusedSimpArgs false
namespace Go.Sy

def zeroC (P : Program) (t : TypeId) : Option (List L) :=
  match P.info? t with
  | some i => match i.zero with
    | some z => litCells z.cells.toList
    | none => none
  | none => none

theorem zeroC_ok {P : Program} {t : TypeId} {cs : List L} (h : zeroC P t = some cs) (w : World) (d : Va) : ∃ z, (zeroValue t).run P w = .ok z w ∧ All2 (L.den d) cs z.cells.toList := by
  unfold zeroC at h
  split at h <;> try (cases h; done)
  rename_i i hi
  split at h <;> try (cases h; done)
  rename_i z hz
  exact ⟨z, by simp [zeroValue, typeInfo, hi, hz], litCells_den h⟩

theorem foldl_set (off : Nat) : ∀ (vs : List Value) (j : Nat) (cells : Array Value), off + j + vs.length ≤ cells.size →
    ((vs.zipIdx j).foldl (fun cs x => cs.setIfInBounds (off + x.2) x.1) cells).toList = upd cells.toList (off + j) vs.length vs
  | [], j, cells, _ => by simp [upd]
  | v :: vs, j, cells, h => by
    simp only [List.length_cons] at h
    rw [List.zipIdx_cons, List.foldl_cons, foldl_set off vs (j + 1) _ (by simp; omega)]
    have hlt : off + j < cells.size := by omega
    simp only [upd, Array.toList_setIfInBounds, List.length_cons]
    rw [show off + (j + 1) = off + j + 1 from by omega]
    have hl : (cells.toList.set (off + j) v).take (off + j + 1) = cells.toList.take (off + j) ++ [v] := by
      rw [List.take_succ_eq_append_getElem (by simpa using hlt), List.getElem_set_self, List.take_set]
      congr 1
      rw [List.set_eq_of_length_le (by simp; omega)]
    have hr : (cells.toList.set (off + j) v).drop (off + j + 1 + vs.length) = cells.toList.drop (off + j + (vs.length + 1)) := by
      rw [List.drop_set, if_pos (by omega)]; congr 1; omega
    rw [hl, hr]; simp

def fillL (place : Nat → Option (Nat × Nat)) : List L → List (Nat × V) → Option (List L)
  | cells, [] => some cells
  | cells, x :: rest =>
    match x.2, place x.1 with
    | .w v, some pl => if v.cells.length = pl.2 ∧ pl.1 + pl.2 ≤ cells.length then fillL place (upd cells pl.1 pl.2 v.cells) rest else none
    | _, _ => none

theorem fillL_ok {d : Va} {place : Nat → Option (Nat × Nat)} : ∀ {cells : List L} {vals : Array Value} {ps : List (Nat × V)} {qs : List (Nat × Value)} {out : List L},
    fillL place cells ps = some out → All2 (L.den d) cells vals.toList → All2 (fun (p : Nat × V) (q : Nat × Value) => p.1 = q.1 ∧ p.2.den d q.2) ps qs →
      ∃ r, Instr.fill place vals qs = some r ∧ All2 (L.den d) out r.toList
  | cells, vals, [], qs, out, h, hd, hp => by cases hp; simp only [fillL] at h; cases h; exact ⟨vals, rfl, hd⟩
  | cells, vals, x :: ps, qs, out, h, hd, hp => by
    cases hp with
    | cons h1 h2 =>
      rename_i q qs'
      obtain ⟨i, y⟩ := q
      obtain ⟨rfl, hy⟩ := h1
      unfold fillL at h
      split at h <;> try (cases h; done)
      rename_i v pl hv hpl
      split at h <;> try (cases h; done)
      rename_i hc
      rw [hv] at hy
      have hcells := W.den_cells hy
      have hl := hcells.length
      have hl2 := hd.length
      simp only [Array.length_toList] at hl hl2
      have hset := foldl_set pl.1 y.cells.toList 0 vals (by simp; omega)
      obtain ⟨r, hr, hrd⟩ := fillL_ok (vals := (y.cells.zipIdx.foldl (fun cs x => cs.setIfInBounds (pl.1 + x.2) x.1) vals)) h (by
        rw [← Array.foldl_toList, Array.toList_zipIdx, hset]
        simp only [Nat.add_zero, Array.length_toList]
        rw [← hl, hc.1]
        exact hd.upd hcells _ _) h2
      refine ⟨r, ?_, hrd⟩
      unfold Instr.fill
      simp only [hpl]
      rw [if_neg (by simp; omega)]
      exact hr

/-- the values of a composite's parts -/
def partsV (S : St) : List (Nat × Operand) → Option (List (Nat × V))
  | [] => some []
  | x :: r => match S.get x.2, partsV S r with
    | some v, some vs => some ((x.1, v) :: vs)
    | _, _ => none

theorem partsV_ok {B : Base} {d : Va} {S : St} {a : Act} {w : World} (h : Sim B d S a w) : ∀ {ps : List (Nat × Operand)} {vs : List (Nat × V)}, partsV S ps = some vs →
    All2 (fun (p : Nat × V) (q : Nat × Value) => p.1 = q.1 ∧ p.2.den d q.2) vs (ps.map fun x => (x.1, a.eval x.2))
  | [], vs, hv => by simp only [partsV] at hv; cases hv; exact .nil
  | x :: r, vs, hv => by
    simp only [partsV] at hv
    cases h1 : S.get x.2 with
    | none => simp [h1] at hv
    | some v =>
      cases h2 : partsV S r with
      | none => simp [h1, h2] at hv
      | some us =>
        simp only [h1, h2, Option.some.injEq] at hv; subst hv
        exact .cons ⟨rfl, h.get h1⟩ (partsV_ok h h2)

def placesOf (P : Program) (fs : Array Field) (i : Nat) : Option (Nat × Nat) := (fs[i]?).map fun f => (f.offset, P.cellsOf f.type)

def buildV (P : Program) (S : St) (t : TypeId) (parts : List (Nat × Operand)) : Option V :=
  match zeroC P t, partsV S parts, P.underlying t with
  | some z, some ps, some (.struct fs) => if fs.toList.all (fun f => P.cellsOf f.type != 0) then (fillL (placesOf P fs) z ps).map fun cs => .w (.agg cs) else none
  | some z, some ps, some (.array _ e) => if P.cellsOf e ≠ 0 then (fillL (fun i => some (i * P.cellsOf e, P.cellsOf e)) z ps).map fun cs => .w (.agg cs) else none
  | _, _, _ => none

theorem run_mapM_sizes {P : Program} {w : World} : ∀ (fs : List Field), (fs.all fun f => P.cellsOf f.type != 0) = true →
    (fs.mapM fun f => Prod.mk f.offset <$> sizeOf f.type : Sem (List (Nat × Nat))).run P w = .ok (fs.map fun f => (f.offset, P.cellsOf f.type)) w
  | [], _ => by simp
  | f :: fs, h => by
    simp only [List.all_cons, Bool.and_eq_true, bne_iff_ne, ne_eq] at h
    simp [List.mapM_cons, run_size h.1 w, run_mapM_sizes fs h.2]

theorem buildV_ok {P : Program} {B : Base} {d : Va} {S : St} {a : Act} {w : World} (h : Sim B d S a w) {t : TypeId} {parts : Array (Nat × Operand)} {v : V} (hv : buildV P S t parts.toList = some v) :
    ∃ z, (Instr.build t (parts.map fun x => (x.1, a.eval x.2))).run P w = .ok z w ∧ v.den d z := by
  unfold buildV at hv
  split at hv <;> try (cases hv; done)
  · rename_i z ps fs hz hps hu
    split at hv <;> try (cases hv; done)
    rename_i hall
    cases hf : fillL (placesOf P fs) z ps with
    | none => simp [hf] at hv
    | some cs =>
      simp only [hf, Option.map_some, Option.some.injEq] at hv; subst hv
      obtain ⟨zv, hzr, hzd⟩ := zeroC_ok hz w d
      obtain ⟨r, hr, hrd⟩ := fillL_ok (d := d) (qs := parts.toList.map fun x => (x.1, a.eval x.2)) hf hzd (partsV_ok h hps)
      refine ⟨.agg r, ?_, ⟨r, rfl, hrd⟩⟩
      have hm := run_mapM_sizes (P := P) (w := w) fs.toList (by simpa using hall)
      have hm2 : (fs.mapM fun f => do pure (f.offset, ← sizeOf f.type) : Sem (Array (Nat × Nat))).run P w = .ok (fs.map fun f => (f.offset, P.cellsOf f.type)) w := by
        rw [Array.mapM_eq_mapM_toList]
        simp [hm]
        apply Array.ext'; simp
      have e : (fun i => (fs.map fun f => (f.offset, P.cellsOf f.type))[i]?) = placesOf P fs := by
        funext i; simp [placesOf]
      simp only [Instr.build, Sem.run_bind, hzr, Result.andThen_ok, run_underlying hu w, hm2]
      rw [e]
      simp [hr]
  · rename_i z ps n e hz hps hu
    split at hv <;> try (cases hv; done)
    rename_i h0
    cases hf : fillL (fun i => some (i * P.cellsOf e, P.cellsOf e)) z ps with
    | none => simp [hf] at hv
    | some cs =>
      simp only [hf, Option.map_some, Option.some.injEq] at hv; subst hv
      obtain ⟨zv, hzr, hzd⟩ := zeroC_ok hz w d
      obtain ⟨r, hr, hrd⟩ := fillL_ok (d := d) (qs := parts.toList.map fun x => (x.1, a.eval x.2)) hf hzd (partsV_ok h hps)
      refine ⟨.agg r, ?_, ⟨r, rfl, hrd⟩⟩
      simp only [Instr.build, Sem.run_bind, hzr, Result.andThen_ok, run_underlying hu w, run_size h0 w]
      simp [hr]

def getOpt (S : St) : Option Operand → Option (Option V)
  | none => some none
  | some x => (S.get x).map some

theorem getOpt_ok {B : Base} {d : Va} {S : St} {a : Act} {w : World} (h : Sim B d S a w) {x : Option Operand} {v : Option V} (hv : getOpt S x = some v) : OptDen d v (x.map a.eval) := by
  cases x with
  | none => simp only [getOpt] at hv; cases hv; trivial
  | some x =>
    simp only [getOpt] at hv
    cases hg : S.get x with
    | none => simp [hg] at hv
    | some y => simp only [hg, Option.map_some, Option.some.injEq] at hv; subst hv; exact h.get hg

def minmaxV (b : Builtin) (x y : V) : Option V :=
  match b, x, y with
  | .min, .w (.one (.pl (.i p))), .w (.one (.pl (.i q))) => some (.w (.one (.pl (.i (if q < p then q else p)))))
  | .max, .w (.one (.pl (.i p))), .w (.one (.pl (.i q))) => some (.w (.one (.pl (.i (if q > p then q else p)))))
  | _, _, _ => none

/-- captured places: own objects, each whole -/
def capsV (S : St) : List Operand → Option (List Nat)
  | [] => some []
  | x :: r => match S.get x, capsV S r with
    | some (.w (.one (.p k []))), some ks => some (k :: ks)
    | _, _ => none

theorem capsV_ok {B : Base} {d : Va} {S : St} {a : Act} {w : World} (h : Sim B d S a w) : ∀ {xs : List Operand} {ks : List Nat}, capsV S xs = some ks → xs.map a.eval = ks.map fun k => Value.pointer (some ⟨d.at_ k, 0, none⟩)
  | [], ks, hk => by simp only [capsV] at hk; cases hk; rfl
  | x :: r, ks, hk => by
    unfold capsV at hk
    split at hk <;> cases hk
    rename_i k ks h1 h2
    have := h.get h1
    rw [List.map_cons, List.map_cons, capsV_ok h h2]
    congr 1

/-- the value of an operation that only reads -/
def pureV (P : Program) (S : St) : Op → Option V
  | .move x | .assign x => S.get x
  | .pick c x y => match S.get c, S.get x, S.get y with
    | some (.w (.one (.pl (.b b)))), some u, some v => some (pickV b u v)
    | _, _, _ => none
  | .build t parts => buildV P S t parts.toList
  | .load t x => (S.get x).bind (loadV P S t)
  | .nilCheck x => (S.get x).bind nilV
  | .binOp op t x y _ => match S.get x, S.get y with
    | some u, some v => binV P op t u v
    | _, _ => none
  | .unOp op _ x => (S.get x).bind (unV op)
  | .convert s t x => (S.get x).bind (convV P S s t)
  | .slice t x lo hi mx => match S.get x, getOpt S lo, getOpt S hi, getOpt S mx with
    | some v, some l, some h, some m => sliceV P S t v l h m
    | _, _, _, _ => none
  | .fieldAddr t x f => (S.get x).bind (fieldV P t f)
  | .indexAddr t x i => match S.get x, S.get i with
    | some u, some v => indexAddrV P t u v
    | _, _ => none
  | .index t x i => match S.get x, S.get i with
    | some u, some v => indexV P t u v
    | _, _ => none
  | .extract x i => (S.get x).bind fun v => extractV v i
  | .makeFunc (.func f) first caps => if first.toList = [] then (capsV S caps.toList).map fun ks => .w (.one (.fn f ks)) else none
  | .call ⟨.builtin .len, args, ts⟩ => match args.toList, ts.toList with
    | [x], [t] => (S.get x).bind (lenV P t)
    | _, _ => none
  | .call ⟨.builtin .min, args, _⟩ => match args.toList with
    | [x, y] => match S.get x, S.get y with
      | some u, some v => minmaxV .min u v
      | _, _ => none
    | _ => none
  | .call ⟨.builtin .max, args, _⟩ => match args.toList with
    | [x, y] => match S.get x, S.get y with
      | some u, some v => minmaxV .max u v
      | _, _ => none
    | _ => none
  | _ => none

theorem bind_some {α β : Type} {x : Option α} {f : α → Option β} {b : β} (h : x.bind f = some b) : ∃ a, x = some a ∧ f a = some b := by
  cases x with
  | none => cases h
  | some a => exact ⟨a, rfl, h⟩

theorem pureV_ok {P : Program} {B : Base} {d : Va} {S : St} {a : Act} {w : World} (h : Sim B d S a w) {o : Oper} {v : V} (hv : pureV P S o.op = some v) :
    ∃ y, (execOp a.eval o).run P w = .ok (.value y) w ∧ v.den d y := by
  unfold pureV at hv
  unfold execOp
  split at hv
  · rename_i x ho; rw [ho]; exact ⟨_, rfl, h.get hv⟩
  · rename_i x ho; rw [ho]; exact ⟨_, rfl, h.get hv⟩
  · rename_i c x y ho; rw [ho]
    split at hv <;> cases hv
    rename_i b u v hc hx hy
    have ec : a.eval c = .bool b := by have := h.get hc; change PL.den _ _ _ at this; rwa [PL.den] at this
    refine ⟨_, ?_, pickV_ok (h.get hx) (h.get hy)⟩
    simp [ec, asBool]
  · rename_i t parts ho; rw [ho]
    obtain ⟨z, hz, hd⟩ := buildV_ok (w := w) (P := P) h hv
    exact ⟨z, by simp [hz], hd⟩
  · rename_i t x ho; rw [ho]
    obtain ⟨u, hu, hv⟩ := bind_some hv
    obtain ⟨z, hz, hd⟩ := loadV_ok h hv (h.get hu)
    exact ⟨z, by simp [hz], hd⟩
  · rename_i x ho; rw [ho]
    obtain ⟨u, hu, hv⟩ := bind_some hv
    have hx := h.get hu
    unfold nilV at hv
    split at hv <;> cases hv
    · change _ = _ at hx
      exact ⟨_, by simp only [hx]; rfl, rfl⟩
    · have hx' := hx
      change PL.den _ _ _ at hx; rw [PL.den] at hx
      obtain ⟨blk, off, e, _⟩ := hx
      exact ⟨_, by simp only [e]; rfl, by rw [← e]; exact hx'⟩
    · change _ = _ at hx
      exact ⟨_, by simp only [hx]; rfl, rfl⟩
  · rename_i op t x y t2 ho; rw [ho]
    split at hv <;> try (cases hv; done)
    rename_i u v hx hy
    obtain ⟨z, hz, hd⟩ := binV_ok (w := w) (ox := x) (oy := y) hv (h.get hx) (h.get hy)
    exact ⟨z, by simp only [Sem.run_bind] at hz ⊢; rw [hz]; rfl, hd⟩
  · rename_i op t x ho; rw [ho]
    obtain ⟨u, hu, hv⟩ := bind_some hv
    obtain ⟨z, hz, hd⟩ := unV_ok (P := P) (w := w) hv (h.get hu)
    exact ⟨z, by simp [hz], hd⟩
  · rename_i s t x ho; rw [ho]
    obtain ⟨u, hu, hv⟩ := bind_some hv
    obtain ⟨z, hz, hd⟩ := convV_ok h hv (h.get hu)
    exact ⟨z, by simp [hz], hd⟩
  · rename_i t x lo hi mx ho; rw [ho]
    split at hv <;> try (cases hv; done)
    rename_i v l hh m hx hl hhi hm
    obtain ⟨z, hz, hd⟩ := sliceV_ok h hv (h.get hx) (getOpt_ok h hl) (getOpt_ok h hhi) (getOpt_ok h hm)
    exact ⟨z, by simp [hz], hd⟩
  · rename_i t x f ho; rw [ho]
    obtain ⟨u, hu, hv⟩ := bind_some hv
    obtain ⟨z, hz, hd⟩ := fieldV_ok (w := w) hv (h.get hu)
    exact ⟨z, by simp [hz], hd⟩
  · rename_i t x i ho; rw [ho]
    split at hv <;> try (cases hv; done)
    rename_i u v hx hy
    obtain ⟨z, hz, hd⟩ := indexAddrV_ok (w := w) hv (h.get hx) (h.get hy)
    exact ⟨z, by simp [hz], hd⟩
  · rename_i t x i ho; rw [ho]
    split at hv <;> try (cases hv; done)
    rename_i u v hx hy
    obtain ⟨z, hz, hd⟩ := indexV_ok (w := w) hv (h.get hx) (h.get hy)
    exact ⟨z, by simp [hz], hd⟩
  · rename_i x i ho; rw [ho]
    obtain ⟨u, hu, hv⟩ := bind_some hv
    obtain ⟨z, hz, hd⟩ := extractV_ok (P := P) (w := w) hv (h.get hu)
    exact ⟨z, by simp [hz], hd⟩
  · rename_i f first caps ho; rw [ho]
    split at hv <;> try (cases hv; done)
    rename_i hf
    cases hc : capsV S caps.toList with
    | none => simp [hc] at hv
    | some ks =>
      simp only [hc, Option.map_some, Option.some.injEq] at hv; subst hv
      have e := capsV_ok h hc
      have hf' : first = #[] := Array.toList_eq_nil_iff.1 hf
      refine ⟨_, by simp only [Instr.makeFunc]; rfl, ?_⟩
      show _ = _
      rw [hf', ← e]; simp; apply Array.ext'; simp
  · rename_i args ts ho; rw [ho]
    split at hv <;> try (cases hv; done)
    rename_i x t ha ht
    obtain ⟨u, hu, hv⟩ := bind_some hv
    have ea : args = #[x] := by rw [← Array.toList_inj, ha]
    have et : ts[0]? = some t := by rw [← Array.getElem?_toList, ht]; rfl
    obtain ⟨z, hz, hd⟩ := lenV_ok (P := P) (w := w) (ts := ts) (ty := o.type) hv et (h.get hu)
    refine ⟨z, ?_, hd⟩
    subst ea
    simp [resolve, invoke, builtin, hz]
  · rename_i args ts ho; rw [ho]
    split at hv <;> try (cases hv; done)
    rename_i x y ha
    split at hv <;> try (cases hv; done)
    rename_i u v' hx hy
    have ea : args = #[x, y] := by rw [← Array.toList_inj, ha]
    subst ea
    unfold minmaxV at hv
    split at hv <;> cases hv
    · have h1 := h.get hx; have h2 := h.get hy
      change PL.den _ _ _ at h1 h2; rw [PL.den] at h1 h2
      refine ⟨_, ?_, by show PL.den _ _ _; rw [PL.den]⟩
      simp [resolve, invoke, builtin, Builtin.min_, Builtin.min2, h1, h2]
    · contradiction
  · rename_i args ts ho; rw [ho]
    split at hv <;> try (cases hv; done)
    rename_i x y ha
    split at hv <;> try (cases hv; done)
    rename_i u v' hx hy
    have ea : args = #[x, y] := by rw [← Array.toList_inj, ha]
    subst ea
    unfold minmaxV at hv
    split at hv <;> cases hv
    · contradiction
    · have h1 := h.get hx; have h2 := h.get hy
      change PL.den _ _ _ at h1 h2; rw [PL.den] at h1 h2
      refine ⟨_, ?_, by show PL.den _ _ _; rw [PL.den]⟩
      simp [resolve, invoke, builtin, Builtin.max_, Builtin.max2, h1, h2]
  · cases hv
end Go.Sy
