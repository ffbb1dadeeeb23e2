/- The layer: append, as a step. -/
import Derived.Test.YtmopmlnpoeeomaaE14
set_option linter.unusedVariables false
set_option linter.unusedSimpArgs false
namespace Go.Sy

/-- append(s, x ..): k: the name of the slot that it writes -/
def appendV (P : Program) (k : Nat) (S : St) (t tx : TypeId) (s x : V) : Option (V × St) :=
  match P.underlying t with
  | some (.slice e) =>
    match zeroC P e, srcV P S e tx x with
    | some z, some (new, n) =>
      if z.length = P.cellsOf e ∧ P.cellsOf e ≠ 0 ∧ P.bytesOf e ≠ 0 then
        match s with
        | .w (.one (.s j [] len sz)) =>
          match look S.mem j with
          | some o => if o.row = true ∧ sz = P.cellsOf e ∧ o.cells.length = len * sz ∧ (len + n) * P.bytesOf e ≤ 140737488355328 ∧ (o.cells ++ new).any (L.has j) = false then
              some (.w (.one (.s j [] (len + n) sz)), ⟨killE j S.env, (j, ⟨true, o.cells ++ new⟩) :: killM j S.mem⟩)
            else none
          | none => none
        | .w (.one (.pl (.R true sz rows))) =>
          if sz = P.cellsOf e ∨ rows = [] then
            if n = 0 then some (.w (.one (.pl (.R true (P.cellsOf e) rows))), S)
            else if fresh k S = true ∧ (rows.length + n) * P.bytesOf e ≤ 140737488355328 ∧ new.any (L.has k) = false then
              some (.w (.one (.s k [] (rows.length + n) (P.cellsOf e))), ⟨S.env, (k, ⟨true, pls rows.flatten ++ new⟩) :: S.mem⟩)
            else none
          else none
        | _ => none
      else none
    | _, _ => none
  | _ => none

theorem pls_has (k : Nat) (c : List PL) : (pls c).any (L.has k) = false := by
  induction c with
  | nil => rfl
  | cons c cs ih => simp only [pls, List.map_cons, List.any_cons, L.has, Bool.false_or]; exact ih

theorem grownCap_le {w : World} {need old : Nat} {e : TypeId} (h : need ≤ 140737488355328) : need ≤ grownCap w need old e ∧ grownCap w need old e ≤ maxLen := by
  unfold grownCap
  simp only [Question.cut]
  have h63 : 0 < 2 ^ 63 - need := by omega
  have := Nat.mod_lt (w.tape w.drawn (.appendCap need old e)) h63
  unfold maxLen; omega

theorem appendV_ok {P : Program} {B : Base} {d : Va} {S S' : St} {a : Act} {w : World} (h : Sim B d S a w) {k : Nat} {t tx ty : TypeId} {s x v : V} {y u : Value} (hv : appendV P k S t tx s x = some (v, S')) (hs : s.den d y) (hx : x.den d u) :
    ∃ z w' d', (Builtin.append_ #[t, tx] ty #[y, u]).run P w = .ok z w' ∧ v.den d' z ∧ Sim B d' S' a w' := by
  unfold appendV at hv
  split at hv <;> try (cases hv; done)
  rename_i e hu
  split at hv <;> try (cases hv; done)
  rename_i z new n hz hsrc
  split at hv <;> try (cases hv; done)
  rename_i hc
  obtain ⟨hzl, h0, hb0⟩ := hc
  obtain ⟨ti, zv, hti, htz, hzd⟩ := zeroC_info hz d
  have hzs := hzd.length
  simp only [Array.length_toList] at hzs
  have hbo : P.bytesOf e = ti.bytes := by simp [Program.bytesOf, hti]
  have hco : P.cellsOf e = ti.size := by simp [Program.cellsOf, hti]
  obtain ⟨vnew, hsr, hnd⟩ := srcV_ok h hsrc hx
  rw [hco] at hsr
  have hnl := hsr.newsLen
  split at hv
  · rename_i j len sz
    split at hv <;> try (cases hv; done)
    rename_i o hk
    split at hv <;> cases hv
    rename_i hcond
    obtain ⟨hrow, rfl, hol, hroom, hany⟩ := hcond
    obtain ⟨oo, cap, rfl, hlc, hcm, ho, hfit⟩ := hs
    obtain ⟨vals, spare, ty', fr, hh, hfr, hd, hsp, hl⟩ := h.mem j o hk
    have hvl := hd.length
    have hneed : len + n ≤ 140737488355328 := Nat.le_trans (Nat.le_mul_of_pos_right _ (by omega)) hroom
    by_cases hin : len + n ≤ cap
    · -- there is room
      by_cases hcap0 : cap = 0
      · -- nothing at all
        subst hcap0
        have hn0 : n = 0 := by omega
        have hl0 : len = 0 := by omega
        subst hn0; subst hl0
        have hnew0 : new = [] := List.eq_nil_of_length_eq_zero (by rw [hnd.length, hnl]; simp)
        have hvn0 : vnew = [] := List.eq_nil_of_length_eq_zero (by rw [hnl]; simp)
        have hrun : (Builtin.append_ #[t, tx] ty #[.slice (some ⟨d.at_ j, oo, none⟩) 0 0, u]).run P w = .ok (.slice (some ⟨d.at_ j, oo, none⟩) 0 0) w := by
          rcases hsr.kind with ⟨e', hk'⟩ | hk' <;> simp [Builtin.append_, run_underlying hu, run_underlying hk', sizeOf, typeInfo, hti, hsr.len, hsr.cells, hvn0, storeCells]
        refine ⟨_, w, d, hrun, ⟨oo, 0, rfl, Nat.le_refl _, by omega, .inl rfl, by omega⟩, ?_⟩
        subst hnew0
        have := h.killKeep (k := j) (o := o) hk
        have eo : o = ⟨true, o.cells ++ []⟩ := by cases o; simp_all
        rw [eo] at this
        simpa using this
      · have ho : oo = 0 := by simpa [poff] using ho.resolve_left hcap0
        subst ho
        have hszb : (vals ++ spare).length = d.size j := hl
        have e1 : len * P.cellsOf e + n * P.cellsOf e = (len + n) * P.cellsOf e := by rw [Nat.add_mul]
        have e2 : (len + n) * P.cellsOf e ≤ cap * P.cellsOf e := Nat.mul_le_mul_right _ hin
        have hfit2 : len * P.cellsOf e + vnew.length ≤ (vals ++ spare).length := by rw [hnl, ← hco]; omega
        have hst := run_stores P (d.at_ j) (len * P.cellsOf e) ty' fr vnew 0 (vals ++ spare).toArray w hh (by simpa using hfr) (by simpa using hfit2) hsr.one
        simp only [Nat.add_zero] at hst
        have hvv : vals.length = len * P.cellsOf e := by rw [← hvl, hol]
        have eupd : upd (vals ++ spare).toArray.toList (len * P.cellsOf e) vnew.length vnew = (vals ++ vnew) ++ spare.drop vnew.length := by
          show upd (vals ++ spare) _ _ _ = _
          unfold upd
          rw [← hvv, List.take_left', List.drop_append, List.drop_eq_nil_of_le (by omega)]
          · simp
          · rfl
        rw [eupd] at hst
        have hrun : (Builtin.append_ #[t, tx] ty #[.slice (some ⟨d.at_ j, 0, none⟩) len cap, u]).run P w = .ok (.slice (some ⟨d.at_ j, 0, none⟩) (len + n) cap) (w.setRow (d.at_ j) ((vals ++ vnew) ++ spare.drop vnew.length).toArray) := by
          have hst' : (storeCells ((⟨d.at_ j, 0, none⟩ : Addr).add (len * ti.size)) vnew).run P w = .ok () (w.setRow (d.at_ j) ((vals ++ vnew) ++ spare.drop vnew.length).toArray) := by
            rw [addr_add, Nat.zero_add, ← hco]; exact hst
          rcases hsr.kind with ⟨e', hk'⟩ | hk' <;> simp [Builtin.append_, run_underlying hu, run_underlying hk', sizeOf, typeInfo, hti, hsr.len, hin, hsr.cells] <;> (simp at hst'; simp [hst'])
        have hlen2 : ((vals ++ vnew) ++ spare.drop vnew.length).length = (vals ++ spare).length := by
          simp only [List.length_append, List.length_drop] at hfit2 ⊢; omega
        have hw := h.write hk (cells := o.cells ++ new) (vals := vals ++ vnew) (spare := spare.drop vnew.length) (ty := ty') (fr := fr) (hd.append hnd) (fun e => by rw [hrow] at e; cases e) (by rw [hlen2]; exact hfr) (by rw [hlen2]; exact hl) (setRow_heap w _ _ _ ty' fr hh) (fun b hb => setRow_other w _ b _ hb) (setRow_size _ _ _) rfl rfl rfl
        have hk2 : look (setM S.mem j ⟨o.row, o.cells ++ new⟩) j = some ⟨true, o.cells ++ new⟩ := by
          rw [look_setM, if_pos rfl, hk, hrow]; rfl
        have hw2 := hw.killKeep hk2
        refine ⟨_, _, d, hrun, ⟨0, cap, rfl, hin, hcm, .inr rfl, hfit⟩, ?_⟩
        simpa [killM_setM] using hw2
    · -- a new row
      have hfull : cap < len + n := by omega
      have hold : (Builtin.firstCells ti.size len (.slice (some ⟨d.at_ j, oo, none⟩) len cap)).run P w.drew = .ok vals.toArray w.drew := by
        have hcell : CellsAt w (d.at_ j) oo vals := by
          rcases ho with rfl | ho
          · have hl0 : len = 0 := by omega
            have : vals = [] := List.eq_nil_of_length_eq_zero (by rw [← hvl, hol, hl0, Nat.zero_mul])
            subst this; exact fun j v hv => by simp at hv
          · have : oo = 0 := by simpa [poff] using ho
            subst this
            have hc := cellsAt_obj hh
            intro i v hv
            exact hc i v (by rw [List.getElem?_append_left (by
              have := (List.getElem?_eq_some_iff.1 hv).1; exact this)]; exact hv)
        simp only [Builtin.firstCells]
        exact loadCells_at hcell.drew (by rw [← hvl, hol, hco])
      have hrun := run_append_grow_src (P := P) w t tx ty e ti zv hu hti htz (some ⟨d.at_ j, oo, none⟩) len cap vals hold u n vnew hsr hfull (by omega) (by rw [hbo] at hroom; exact growslice_fits hfull hroom)
      obtain ⟨g1, g2⟩ := grownCap_le (w := w) (old := cap) (e := e) hneed
      have hzc : (Builtin.zeroCells zv.cells (grownCap w (len + n) cap e - (len + n))).toList.length = (grownCap w (len + n) cap e - (len + n)) * P.cellsOf e := by
        rw [Array.length_toList, size_zeroCells, ← hzs, hzl]
      have harr : (vals ++ vnew).toArray ++ Builtin.zeroCells zv.cells (grownCap w (len + n) cap e - (len + n)) = ((vals ++ vnew) ++ (Builtin.zeroCells zv.cells (grownCap w (len + n) cap e - (len + n))).toList).toArray := by
        apply Array.ext'; simp
      rw [harr] at hrun
      have htot : ((vals ++ vnew) ++ (Builtin.zeroCells zv.cells (grownCap w (len + n) cap e - (len + n))).toList).length = grownCap w (len + n) cap e * P.cellsOf e := by
        rw [List.length_append, hzc, List.length_append, ← hvl, hol, hnl, ← hco, ← Nat.add_mul, ← Nat.add_mul]; congr 1; omega
      have hany2 : (o.cells ++ new).any (L.has j) = false := hany
      refine ⟨_, _, _, hrun, ?_, (h.kill j).new (fresh_kill j S) (row := true) (cells := o.cells ++ new) (vals := vals ++ vnew) (spare := (Builtin.zeroCells zv.cells (grownCap w (len + n) cap e - (len + n))).toList) (ty := e) (fr := (0, 0)) (hd.append hnd) hany2 (fun e => by cases e) (.inl rfl) ?_ ?_ rfl rfl rfl⟩
      · refine ⟨0, grownCap w (len + n) cap e, by rw [Va.set_at], g1, g2, .inr rfl, ?_⟩
        rw [Va.set_size, htot]; omega
      · show (w.heap.push _)[w.heap.size]? = _
        simp
      · intro b hb; exact heap_keep w.drew _ b hb
  · rename_i sz rows
    split at hv <;> try (cases hv; done)
    rename_i hsz
    change PL.den _ _ _ at hs; rw [PL.den] at hs
    have hrowsAt : ∃ base cap olds, y = .slice base rows.length cap ∧ cap = rows.length ∧ All2 (L.den d) (pls rows.flatten) olds ∧ olds.length = rows.length * P.cellsOf e ∧
        (Builtin.firstCells ti.size rows.length (.slice base rows.length cap)).run P w.drew = .ok olds.toArray w.drew ∧ (base = none → rows = []) := by
      rcases hs with ⟨rfl, rfl⟩ | ⟨blk, off, cap, rfl, hlc, hcm, hex, hrows⟩
      · exact ⟨none, 0, [], rfl, rfl, .nil, by simp, by simp [Builtin.firstCells], fun _ => rfl⟩
      · have hrows' : PL.denRows d.ro blk (P.cellsOf e) rows off := by
          rcases hsz with rfl | rfl
          · exact hrows
          · simp [PL.denRows]
        obtain ⟨vals, hd, hcell, hl⟩ := denRows_vals h.ro hrows'
        exact ⟨some ⟨blk, off, none⟩, cap, vals, rfl, hex rfl, hd, hl, by simp only [Builtin.firstCells]; exact loadCells_at hcell.drew (by rw [hl, hco]), fun e => by cases e⟩
    obtain ⟨base, cap, olds, rfl, rfl, hod, hol, hold, hbase⟩ := hrowsAt
    split at hv
    · rename_i hn0
      cases hv; subst hn0
      have hvn0 : vnew = [] := List.eq_nil_of_length_eq_zero (by rw [hnl]; simp)
      refine ⟨.slice base rows.length rows.length, w, d, ?_, ?_, h⟩
      · rcases hsr.kind with ⟨e', hk'⟩ | hk' <;> (cases base <;> simp [Builtin.append_, run_underlying hu, run_underlying hk', sizeOf, typeInfo, hti, hsr.len, hsr.cells, hvn0, storeCells])
      · show PL.den _ _ _
        rw [PL.den]
        rcases hs with ⟨e1, rfl⟩ | ⟨blk, off, cap, e1, hlc, hcm, hex, hrows⟩
        · left; exact ⟨e1, rfl⟩
        · right
          refine ⟨blk, off, cap, e1, hlc, hcm, hex, ?_⟩
          rcases hsz with rfl | rfl
          · exact hrows
          · simp [PL.denRows]
    · rename_i hn0
      split at hv <;> cases hv
      rename_i hcond
      obtain ⟨hf, hroom, hany⟩ := hcond
      have hneed : rows.length + n ≤ 140737488355328 := Nat.le_trans (Nat.le_mul_of_pos_right _ (by omega)) hroom
      have hfull : rows.length < rows.length + n := by omega
      have hrun := run_append_grow_src (P := P) w t tx ty e ti zv hu hti htz base rows.length rows.length olds hold u n vnew hsr hfull (by omega) (by rw [hbo] at hroom; exact growslice_fits hfull hroom)
      obtain ⟨g1, g2⟩ := grownCap_le (w := w) (old := rows.length) (e := e) hneed
      have hzc : (Builtin.zeroCells zv.cells (grownCap w (rows.length + n) rows.length e - (rows.length + n))).toList.length = (grownCap w (rows.length + n) rows.length e - (rows.length + n)) * P.cellsOf e := by
        rw [Array.length_toList, size_zeroCells, ← hzs, hzl]
      have harr : (olds ++ vnew).toArray ++ Builtin.zeroCells zv.cells (grownCap w (rows.length + n) rows.length e - (rows.length + n)) = ((olds ++ vnew) ++ (Builtin.zeroCells zv.cells (grownCap w (rows.length + n) rows.length e - (rows.length + n))).toList).toArray := by
        apply Array.ext'; simp
      rw [harr] at hrun
      have htot : ((olds ++ vnew) ++ (Builtin.zeroCells zv.cells (grownCap w (rows.length + n) rows.length e - (rows.length + n))).toList).length = grownCap w (rows.length + n) rows.length e * P.cellsOf e := by
        rw [List.length_append, hzc, List.length_append, hol, hnl, ← hco, ← Nat.add_mul, ← Nat.add_mul]; congr 1; omega
      refine ⟨_, _, _, hrun, ?_, h.new hf (row := true) (cells := pls rows.flatten ++ new) (vals := olds ++ vnew) (spare := (Builtin.zeroCells zv.cells (grownCap w (rows.length + n) rows.length e - (rows.length + n))).toList) (ty := e) (fr := (0, 0)) (hod.append hnd) (by rw [List.any_append, pls_has, hany]; rfl) (fun e => by cases e) (.inl rfl) ?_ ?_ rfl rfl rfl⟩
      · refine ⟨0, grownCap w (rows.length + n) rows.length e, by rw [Va.set_at], g1, g2, .inr rfl, ?_⟩
        rw [Va.set_size, htot]; omega
      · show (w.heap.push _)[w.heap.size]? = _
        simp
      · intro b hb; exact heap_keep w.drew _ b hb
  · cases hv
end Go.Sy
