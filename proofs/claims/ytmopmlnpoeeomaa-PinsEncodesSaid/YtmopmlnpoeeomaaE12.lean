/- The layer: operations that make memory. -/
import Derived.Test.YtmopmlnpoeeomaaE11
set_option linter.unusedVariables false
set_option linter.unusedSimpArgs false
namespace Go.Sy

theorem litL_has {c : Value} {l : L} (h : litL c = some l) (k : Nat) : l.has k = false := by
  cases c with
  | int q n => cases q <;> simp only [litL] at h <;> first | (cases h; rfl) | (split at h <;> cases h; rfl) | (cases h)
  | func f a b =>
    simp only [litL] at h
    cases f <;> simp only at h <;> try (cases h; done)
    split at h <;> cases h; rfl
  | string s => simp only [litL] at h; split at h <;> cases h; rfl
  | slice a n c => simp only [litL] at h; split at h <;> cases h; rfl
  | pointer a => simp only [litL] at h; split at h <;> cases h; rfl
  | bool b => simp only [litL] at h; cases h; rfl
  | nilFunc => simp only [litL] at h; cases h; rfl
  | _ => simp [litL] at h

theorem litCells_has (k : Nat) : ∀ {cs : List Value} {xs : List L}, litCells cs = some xs → xs.any (L.has k) = false
  | [], xs, h => by simp only [litCells] at h; cases h; rfl
  | c :: cs, xs, h => by
    simp only [litCells] at h
    cases h1 : litL c with
    | none => simp [h1] at h
    | some x =>
      cases h2 : litCells cs with
      | none => simp [h1, h2] at h
      | some ys =>
        simp only [h1, h2, Option.some.injEq] at h; subst h
        simp only [List.any_cons, litL_has h1 k, litCells_has k h2, Bool.or_self]

theorem lit_has {c : Value} {x : W} (h : lit c = some x) (k : Nat) : x.has k = false := by
  unfold lit at h
  split at h
  · rename_i cs
    cases h2 : litCells cs.toList with
    | none => simp [h2] at h
    | some ys => simp only [h2, Option.map_some, Option.some.injEq] at h; subst h; exact litCells_has k h2
  · cases h2 : litL c with
    | none => simp [h2] at h
    | some l => simp only [h2, Option.map_some, Option.some.injEq] at h; subst h; exact litL_has h2 k

theorem get_has {S : St} {x : Operand} {v : V} {k : Nat} (h : S.get x = some v) (hf : fresh k S = true) : v.has k = false := by
  have hf' : hasE k S.env = false ∧ hasM k S.mem = false := by simpa [fresh] using hf
  cases x with
  | tmp t => exact hasE_look hf'.1 h
  | const c =>
    simp only [St.get] at h
    cases hl : lit c with
    | none => simp [hl] at h
    | some y => simp only [hl, Option.map_some, Option.some.injEq] at h; subst h; exact lit_has hl k
  | func f => simp only [St.get] at h; cases h; rfl
  | global g => simp [St.get] at h

theorem cells_has {x : W} {k : Nat} (h : (V.w x).has k = false) : x.cells.any (L.has k) = false := by
  cases x with
  | one l => simpa [V.has, W.has, W.cells] using h
  | agg cs => exact h

theorem zeroC_has {P : Program} {t : TypeId} {cs : List L} (h : zeroC P t = some cs) (k : Nat) : cs.any (L.has k) = false := by
  unfold zeroC at h
  split at h <;> try (cases h; done)
  split at h <;> try (cases h; done)
  exact litCells_has k h

theorem all2_replicate {α β : Type} {R : α → β → Prop} {l : List α} {m : List β} (h : All2 R l m) : ∀ n, All2 R (List.replicate n l).flatten (List.replicate n m).flatten
  | 0 => .nil
  | n + 1 => by rw [List.replicate_succ, List.replicate_succ, List.flatten_cons, List.flatten_cons]; exact h.append (all2_replicate h n)

theorem any_replicate {k : Nat} {cs : List L} (h : cs.any (L.has k) = false) : ∀ n, (List.replicate n cs).flatten.any (L.has k) = false
  | 0 => rfl
  | n + 1 => by rw [List.replicate_succ, List.flatten_cons, List.any_append, h, any_replicate h n]; rfl

theorem range_mod (zero : Array Value) (n : Nat) : ((Array.range (n * zero.size)).map (fun i => zero[i % zero.size]!)).toList = (List.replicate n zero.toList).flatten := by
  induction n with
  | zero => simp
  | succ n ih =>
    rw [List.replicate_succ', List.flatten_append, ← ih]
    simp only [List.flatten_cons, List.flatten_nil, List.append_nil]
    apply List.ext_getElem?
    intro i
    rw [Nat.succ_mul]
    by_cases h1 : i < n * zero.size
    · rw [List.getElem?_append_left (by simpa using h1)]
      simp [h1, show i < n * zero.size + zero.size by omega]
    · rw [List.getElem?_append_right (by simpa using Nat.le_of_not_lt h1)]
      by_cases h2 : i < n * zero.size + zero.size
      · have h0 : i - n * zero.size < zero.size := by omega
        have hm : i % zero.size = i - n * zero.size := by
          conv => lhs; rw [show i = (i - n * zero.size) + n * zero.size from by omega]
          rw [Nat.add_mul_mod_self_right, Nat.mod_eq_of_lt h0]
        simp [h2, hm, h0]
      · have h0 : ¬ i - n * zero.size < zero.size := by omega
        simp [h2, h0]

def fillOk (k : Nat) (ps : List (Nat × V)) : Prop := ∀ p ∈ ps, p.2.has k = false

theorem any_upd {k : Nat} {c d : List L} (hc : c.any (L.has k) = false) (hd : d.any (L.has k) = false) (o n : Nat) : (upd c o n d).any (L.has k) = false := by
  unfold upd
  rw [List.any_append, List.any_append, hd]
  simp only [List.any_eq_false, Bool.or_false, Bool.or_eq_false_iff] at *
  exact ⟨fun x hx => hc x (List.mem_of_mem_take hx), fun x hx => hc x (List.mem_of_mem_drop hx)⟩

theorem fillL_has {k : Nat} {place : Nat → Option (Nat × Nat)} : ∀ {cells : List L} {ps : List (Nat × V)} {out : List L}, fillL place cells ps = some out → cells.any (L.has k) = false → fillOk k ps → out.any (L.has k) = false
  | cells, [], out, h, hc, hp => by simp only [fillL] at h; cases h; exact hc
  | cells, x :: ps, out, h, hc, hp => by
    unfold fillL at h
    split at h <;> try (cases h; done)
    rename_i v pl hv hpl
    split at h <;> try (cases h; done)
    have hx := hp x (by simp)
    rw [hv] at hx
    exact fillL_has h (any_upd hc (cells_has hx) _ _) (fun p hp' => hp p (by simp [hp']))

theorem partsV_has {S : St} {k : Nat} (hf : fresh k S = true) : ∀ {ps : List (Nat × Operand)} {vs : List (Nat × V)}, partsV S ps = some vs → fillOk k vs
  | [], vs, h => by simp only [partsV] at h; cases h; intro p hp; simp at hp
  | x :: r, vs, h => by
    simp only [partsV] at h
    cases h1 : S.get x.2 with
    | none => simp [h1] at h
    | some v =>
      cases h2 : partsV S r with
      | none => simp [h1, h2] at h
      | some us =>
        simp only [h1, h2, Option.some.injEq] at h; subst h
        intro p hp
        simp only [List.mem_cons] at hp
        rcases hp with rfl | hp
        · exact get_has h1 hf
        · exact partsV_has hf h2 p hp

def bytesC (bs : List UInt8) : List L := bs.map fun b => .pl (.u8 b)

/-- operations that make an object, under the name of the slot that they write -/
def allocV (P : Program) (k : Nat) (S : St) : Op → Option (V × Ob)
  | .alloc t => (zeroC P t).map fun cs => (.w (.one (.p k [])), ⟨false, cs⟩)
  | .box t x => match S.get x with
    | some (.w v) => some (.w (.one (.p k [])), ⟨false, v.cells⟩)
    | _ => none
  | .buildSlice t n parts => match P.underlying t with
    | some (.slice e) => match zeroC P e, partsV S parts.toList with
      | some z, some ps => if z.length = P.cellsOf e ∧ z.length ≠ 0 ∧ n * P.cellsOf e ≤ 16777216 then
          (fillL (fun i => some (i * P.cellsOf e, P.cellsOf e)) (List.replicate n z).flatten ps).map fun cs => (.w (.one (.s k [] n (P.cellsOf e))), ⟨true, cs⟩)
        else none
      | _, _ => none
    | _ => none
  | .makeSlice t l c => match P.underlying t, (S.get l).bind V.num, (S.get c).bind V.num with
    | some (.slice e), some n, some m => match zeroC P e with
      | some z => if z.length = P.cellsOf e ∧ z.length ≠ 0 ∧ n = m ∧ 0 ≤ n ∧ n ≤ 281474976710656 ∧ P.bytesOf e * n ≤ 281474976710656 then
          some (.w (.one (.s k [] n.toNat (P.cellsOf e))), ⟨true, (List.replicate n.toNat z).flatten⟩)
        else none
      | none => none
    | _, _, _ => none
  | .convert src dst x => match S.get x, P.underlying src, P.underlying dst with
    | some (.w (.one (.pl (.str bs)))), some .string, some (.slice e) => match P.underlying e with
      | some (.int .u8) => some (.w (.one (.s k [] bs.length 1)), ⟨true, bytesC bs⟩)
      | _ => none
    | _, _, _ => none
  | _ => none

theorem zeroC_info {P : Program} {t : TypeId} {cs : List L} (h : zeroC P t = some cs) (d : Va) : ∃ i z, P.info? t = some i ∧ i.zero = some z ∧ All2 (L.den d) cs z.cells.toList := by
  unfold zeroC at h
  split at h <;> try (cases h; done)
  rename_i i hi
  split at h <;> try (cases h; done)
  rename_i z hz
  exact ⟨i, z, hi, hz, litCells_den h⟩

theorem heap_new (w : World) (c : Array Value) (t : TypeId) (l : List Value) (h : l = c.toList) : (w.alloc (.cells c t)).heap[w.heap.size]? = some (.cells (l ++ []).toArray t (0, 0)) := by
  subst h
  show (w.heap.push _)[w.heap.size]? = _
  simp
theorem heap_keep (w : World) (o : Obj) (b : Nat) (h : b < w.heap.size) : (w.alloc o).heap[b]? = w.heap[b]? := by
  show (w.heap.push o)[b]? = _
  rw [Array.getElem?_push, if_neg (by omega)]

theorem upd_length {α : Type} (c d : List α) (o n : Nat) (h : d.length = n) (h' : o + n ≤ c.length) : (upd c o n d).length = c.length := by
  simp [upd]; omega

theorem fillL_length {place : Nat → Option (Nat × Nat)} : ∀ {cells : List L} {ps : List (Nat × V)} {out : List L}, fillL place cells ps = some out → out.length = cells.length
  | cells, [], out, h => by simp only [fillL] at h; cases h; rfl
  | cells, x :: ps, out, h => by
    unfold fillL at h
    split at h <;> try (cases h; done)
    split at h <;> try (cases h; done)
    rename_i hc
    rw [fillL_length h, upd_length _ _ _ _ hc.1 hc.2]

theorem run_mark {P : Program} {w : World} {b c : Nat} {t : TypeId} (h : w.shape? b = some (t, c)) : (markStringish ⟨b, 0, none⟩).run P w = .ok () (w.freeze ⟨b, c, none⟩ 1) := by
  simp only [markStringish, Sem.run_bind, run_shape, Result.andThen_ok, h, run_freeze]

theorem bytesC_den {d : Va} : ∀ bs : List UInt8, All2 (L.den d) (bytesC bs) (bs.map fun b => Value.int .u8 b.toNat)
  | [] => .nil
  | b :: bs => .cons (by rw [L.den, PL.den]) (bytesC_den bs)

theorem allocV_ok {P : Program} {B : Base} {d : Va} {S : St} {a : Act} {w : World} (h : Sim B d S a w) {k : Nat} (hf : fresh k S = true) {o : Oper} {v : V} {ob : Ob} (hv : allocV P k S o.op = some (v, ob)) :
    ∃ y w' d', (execOp a.eval o).run P w = .ok (.value y) w' ∧ v.den d' y ∧ Sim B d' { S with mem := (k, ob) :: S.mem } a w' := by
  unfold allocV at hv
  unfold execOp
  split at hv
  · rename_i t ho; rw [ho]
    cases hz : zeroC P t with
    | none => simp [hz] at hv
    | some cs =>
      simp only [hz, Option.map_some, Option.some.injEq, Prod.mk.injEq] at hv
      obtain ⟨rfl, rfl⟩ := hv
      obtain ⟨z, hzr, hzd⟩ := zeroC_ok hz w d
      refine ⟨.pointer (some ⟨w.heap.size, 0, none⟩), w.alloc (.cells z.cells t), _, ?_, ?_, h.new hf (row := false) (vals := z.cells.toList) (spare := []) (ty := t) (fr := (0, 0)) hzd (zeroC_has hz k) (fun _ => rfl) (.inl rfl) (heap_new w _ _ _ rfl) (heap_keep w _) rfl rfl rfl⟩
      · simp [Instr.alloc, hzr, newVar, newRow]
      · show _ = _; rw [Va.set_at]; rfl
  · rename_i t x ho; rw [ho]
    split at hv <;> cases hv
    rename_i v hx
    have hd := W.den_cells (h.get hx)
    refine ⟨.pointer (some ⟨w.heap.size, 0, none⟩), w.alloc (.cells (a.eval x).cells t), _, ?_, ?_, h.new hf (row := false) (vals := (a.eval x).cells.toList) (spare := []) (ty := t) (fr := (0, 0)) hd (cells_has (get_has hx hf)) (fun _ => rfl) (.inl rfl) (heap_new w _ _ _ rfl) (heap_keep w _) rfl rfl rfl⟩
    · simp [Instr.box, newVar, newRow]
    · show _ = _; rw [Va.set_at]; rfl
  · rename_i t n parts ho; rw [ho]
    split at hv <;> try (cases hv; done)
    rename_i e hu
    split at hv <;> try (cases hv; done)
    rename_i z ps hz hps
    split at hv <;> try (cases hv; done)
    rename_i hc
    obtain ⟨hzl, h0, hbig⟩ := hc
    cases hfl : fillL (fun i => some (i * P.cellsOf e, P.cellsOf e)) (List.replicate n z).flatten ps with
    | none => simp [hfl] at hv
    | some cs =>
      simp only [hfl, Option.map_some, Option.some.injEq, Prod.mk.injEq] at hv
      obtain ⟨rfl, rfl⟩ := hv
      obtain ⟨zv, hzr, hzd⟩ := zeroC_ok hz w d
      have hzs := hzd.length
      simp only [Array.length_toList] at hzs
      have hsz := run_size (P := P) (t := e) (by omega) w
      have hrow : ((Array.range (n * P.cellsOf e)).map (fun i => zv.cells[i % zv.cells.size]!)).toList = (List.replicate n zv.cells.toList).flatten := by
        rw [← hzl, hzs]; exact range_mod zv.cells n
      obtain ⟨r, hr, hrd⟩ := fillL_ok (d := d) (vals := (Array.range (n * P.cellsOf e)).map (fun i => zv.cells[i % zv.cells.size]!)) (qs := parts.toList.map fun x => (x.1, a.eval x.2)) hfl (by rw [hrow]; exact all2_replicate hzd n) (partsV_ok h hps)
      have hlen : r.toList.length = n * P.cellsOf e := by
        have := hrd.length
        rw [fillL_length hfl] at this
        have e2 : (List.replicate n z).flatten.length = n * z.length := by simp
        rw [e2] at this
        rw [← this, hzl]
      refine ⟨.slice (some ⟨w.heap.size, 0, none⟩) n n, w.alloc (.cells r e), _, ?_, ?_, h.new hf (row := true) (vals := r.toList) (spare := []) (ty := e) (fr := (0, 0)) hrd (fillL_has hfl (any_replicate (zeroC_has hz k) n) (partsV_has hf hps)) (fun _ => rfl) (.inl rfl) (heap_new w _ _ _ rfl) (heap_keep w _) rfl rfl rfl⟩
      · have hn : ¬ n * P.cellsOf e > 2 ^ 24 := by omega
        simp only [Instr.buildSlice, Sem.run_bind, run_underlying hu w, Result.andThen_ok, hsz]
        rw [if_neg hn]
        by_cases hz0 : n * P.cellsOf e = 0
        · have hn0 : n = 0 := by rcases Nat.mul_eq_zero.1 hz0 with h | h <;> omega
          subst hn0
          rw [if_pos hz0]
          simp only [Sem.run_pure, Sem.run_bind, Result.andThen_ok]
          have hr' : Instr.fill (fun i => some (i * P.cellsOf e, P.cellsOf e)) #[] (parts.map fun x => (x.1, a.eval x.2)).toList = some r := by
            have e0 : (Array.range (0 * P.cellsOf e)).map (fun i => zv.cells[i % zv.cells.size]!) = #[] := Array.eq_empty_of_size_eq_zero (by simp)
            rw [e0] at hr
            simpa using hr
          have e0 : ∀ f : Nat → Value, (Array.range (0 * P.cellsOf e)).map f = #[] := fun f => Array.eq_empty_of_size_eq_zero (by simp)
          simp only [e0, hr', newRow, Sem.run_bind, run_newObj_alloc, Result.andThen_ok, Sem.run_pure]
        · rw [if_neg hz0]
          have hr' : Instr.fill (fun i => some (i * P.cellsOf e, P.cellsOf e)) ((Array.range (n * P.cellsOf e)).map (fun i => zv.cells[i % zv.cells.size]!)) (parts.map fun x => (x.1, a.eval x.2)).toList = some r := by
            simpa using hr
          simp only [Sem.run_bind, hzr, Result.andThen_ok, Sem.run_pure, hr', newRow, run_newObj_alloc]
      · refine ⟨0, n, by rw [Va.set_at], Nat.le_refl _, ?_, .inr rfl, ?_⟩
        · have : n ≤ n * P.cellsOf e := Nat.le_mul_of_pos_right _ (by omega)
          have : 16777216 ≤ maxLen := by decide
          omega
        · rw [Va.set_size]; simp only [List.append_nil]; omega
  · rename_i t l c ho; rw [ho]
    split at hv <;> try (cases hv; done)
    rename_i e n m hu hn hm
    obtain ⟨vl, hl, hln⟩ := bind_some hn
    obtain ⟨vc, hc, hcn⟩ := bind_some hm
    obtain ⟨k1, e1⟩ := V.num_den hln (h.get hl)
    obtain ⟨k2, e2⟩ := V.num_den hcn (h.get hc)
    split at hv <;> try (cases hv; done)
    rename_i z hz
    split at hv <;> cases hv
    rename_i hcond
    obtain ⟨hzl, h0, rfl, hn0, hbig, hbytes⟩ := hcond
    obtain ⟨ti, zv, hti, htz, hzd⟩ := zeroC_info hz d
    have hzs := hzd.length
    simp only [Array.length_toList] at hzs
    have hbo : P.bytesOf e = ti.bytes := by simp [Program.bytesOf, hti]
    have hco : P.cellsOf e = ti.size := by simp [Program.cellsOf, hti]
    have hrow : ((Array.range (n.toNat * ti.size)).map (fun i => zv.cells[i % zv.cells.size]!)).toList = (List.replicate n.toNat zv.cells.toList).flatten := by
      rw [← hco, ← hzl, hzs]; exact range_mod zv.cells n.toNat
    have hr := run_make (P := P) w t e ti zv hu hti htz k1 k2 n n hn0 (Int.le_refl _) (by rw [← hbo]; exact hbytes) (by omega)
    refine ⟨.slice (some ⟨w.heap.size, 0, none⟩) n.toNat n.toNat, w.alloc (.cells ((Array.range (n.toNat * ti.size)).map (fun i => zv.cells[i % zv.cells.size]!)) e), _, ?_, ?_, h.new hf (row := true) (vals := (List.replicate n.toNat zv.cells.toList).flatten) (spare := []) (ty := e) (fr := (0, 0)) (all2_replicate hzd n.toNat) (any_replicate (zeroC_has hz k) _) (fun _ => rfl) (.inl rfl) (heap_new w _ _ _ hrow.symm) (heap_keep w _) rfl rfl rfl⟩
    · simp [e1, e2, hr, madeCells]
    · have hb : 281474976710656 ≤ maxLen := by decide
      refine ⟨0, n.toNat, by rw [Va.set_at], Nat.le_refl _, by omega, .inr rfl, ?_⟩
      rw [Va.set_size]; simp; rw [← hzs, hzl]; exact Nat.le_refl _
  · rename_i src dst x ho; rw [ho]
    split at hv <;> try (cases hv; done)
    rename_i bs e hx hs hd
    split at hv <;> cases hv
    rename_i he
    have hx' := h.get hx
    change PL.den _ _ _ at hx'; rw [PL.den] at hx'
    obtain ⟨ex, hlen⟩ := hx'
    have hcap : ∃ c, bs.length ≤ c ∧ c ≤ maxLen ∧ (choose (.appendCap bs.length 0 e)).run P w = .ok c { w with drawn := w.drawn + 1 } := by
      refine ⟨(Question.appendCap bs.length 0 e).cut (w.tape w.drawn (.appendCap bs.length 0 e)), ?_, ?_, ?_⟩
      · simp only [Question.cut]; omega
      · simp only [Question.cut]
        have h63 : 0 < 2 ^ 63 - bs.length := by unfold maxLen at hlen; omega
        have := Nat.mod_lt (w.tape w.drawn (.appendCap bs.length 0 e)) h63
        unfold maxLen; omega
      · simp [Question.forced]
    obtain ⟨c, hc1, hc2, hcr⟩ := hcap
    let vals : List Value := bs.map fun b => .int .u8 b.toNat
    let spare : List Value := List.replicate (c - bs.length) (.int .u8 0)
    let w1 : World := { w with drawn := w.drawn + 1 }
    let w2 : World := w1.alloc (.cells (vals ++ spare).toArray e)
    have hwl : w1.heap.size = w.heap.size := rfl
    have hl : (vals ++ spare).length = c := by simp [vals, spare]; omega
    have hx2 : w2.heap[w.heap.size]? = some (.cells (vals ++ spare).toArray e (0, 0)) := by
      show (w.heap.push _)[w.heap.size]? = _
      simp
    have hlt : w.heap.size < w2.heap.size := (Array.getElem?_eq_some_iff.1 hx2).1
    have hrun : (Conv.stringToBytes e ⟨bs.toArray⟩).run P w = .ok (.slice (some ⟨w.heap.size, 0, none⟩) bs.length c) (w2.freeze ⟨w.heap.size, c, none⟩ 1) := by
      have e1 : (bs.toArray.map (fun b => Value.int .u8 b.toNat)) ++ Array.replicate (c - bs.length) (Value.int .u8 0) = (vals ++ spare).toArray := by
        apply Array.ext'; simp [vals, spare]
      have hsh : w2.shape? w.heap.size = some (e, c) := by
        unfold World.shape?; rw [hx2]; simp [hl]
      have hmk := run_mark (P := P) hsh
      simp only [Conv.stringToBytes, bytes_len, Sem.run_bind, hcr, Result.andThen_ok, newRow, e1, run_newObj_alloc, Sem.run_pure]
      exact congrArg (fun r : Result Unit => r.andThen fun _ w' => Result.ok (Value.slice (some ⟨w.heap.size, 0, none⟩) bs.length c) w') hmk
    refine ⟨.slice (some ⟨w.heap.size, 0, none⟩) bs.length c, w2.freeze ⟨w.heap.size, c, none⟩ 1, _, ?_, ?_, h.new hf (row := true) (vals := vals) (spare := spare) (ty := e) (fr := (c, c + 1)) ?_ ?_ (by simp) (.inr (by rw [hl]; exact Nat.le_refl _)) ?_ ?_ rfl rfl rfl⟩
    · simp only [Sem.run_bind]
      unfold convert
      simp only [Sem.run_bind, run_underlying hs w, run_underlying hd w, Result.andThen_ok, ex, run_underlying he w, hrun]; rfl
    · refine ⟨0, c, by rw [Va.set_at], hc1, hc2, .inr rfl, ?_⟩
      rw [Va.set_size, hl]; omega
    · exact bytesC_den bs
    · simp [bytesC, L.has]
    · simp only [World.freeze]
      rw [if_neg (by omega)]
      show (w2.heap.modify w.heap.size _)[w.heap.size]? = _
      rw [Array.getElem?_modify, if_pos rfl, hx2]; rfl
    · intro b hb
      simp only [World.freeze]
      rw [if_neg (by omega)]
      show (w2.heap.modify w.heap.size _)[b]? = _
      rw [Array.getElem?_modify, if_neg (by omega)]
      exact heap_keep w1 _ b hb
  · cases hv
end Go.Sy
