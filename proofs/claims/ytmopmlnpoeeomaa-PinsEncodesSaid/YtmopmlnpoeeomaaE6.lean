/- The layer: slices, texts, comparisons. -/
import Derived.Test.YtmopmlnpoeeomaaE5
set_option linter.unusedVariables false
set_option linter.unusedSimpArgs false
namespace Go.Sy

/-- a bound of a slice expression: what it is, where none stands what it is then -/
def boundV (x : Option V) (z : Nat) (most : Nat) : Option Nat :=
  match x with
  | none => some z
  | some x => match x.num with
    | some n => if 0 ≤ n ∧ n ≤ most then some n.toNat else none
    | none => none

/-- text or slice or array from l to h; 'mx': a third bound stands (the same as the second one) -/
def sliceV (P : Program) (S : St) (t : TypeId) (x : V) (lo hi mx : Option V) : Option V :=
  match P.underlying t, x with
  | some .string, .w (.one (.pl (.str s))) =>
    match mx with
    | some _ => none
    | none => match boundV hi s.length s.length with
      | none => none
      | some h => match boundV lo 0 h with
        | none => none
        | some l => some (.w (.one (.pl (.str ((s.drop l).take (h - l))))))
  | some (.array n e), .w (.one (.p k path)) =>
    match mx, look S.mem k with
    | none, some o => if P.cellsOf e ≠ 0 ∧ pok o.cells.length path ∧ psz o.cells.length path = n * P.cellsOf e ∧ n ≤ maxLen then
        match boundV hi n n with
        | none => none
        | some h => match boundV lo 0 h with
          | none => none
          | some l => some (.w (.one (.s k ((l * P.cellsOf e, (h - l) * P.cellsOf e) :: path) (h - l) (P.cellsOf e))))
      else none
    | _, _ => none
  | some (.slice e), .w (.one (.s k path len sz)) =>
    match mx with
    | some _ => none
    | none => if sz = P.cellsOf e ∧ sz ≠ 0 then
        match boundV hi len len with
        | none => none
        | some h => match boundV lo 0 h with
          | none => none
          | some l => some (.w (.one (.s k ((l * sz, (h - l) * sz) :: path) (h - l) sz)))
      else none
  | some (.slice e), .w (.one (.pl (.R ex sz rows))) =>
    if (sz = P.cellsOf e ∨ rows = []) ∧ P.cellsOf e ≠ 0 then
      match boundV hi rows.length rows.length with
      | none => none
      | some h => match boundV lo 0 h with
        | none => none
        | some l => match mx with
          | none => some (.w (.one (.pl (.R (ex && decide (h = rows.length)) (P.cellsOf e) ((rows.drop l).take (h - l))))))
          | some m => match m.num with
            | some m => if m = h ∧ hi.isSome then some (.w (.one (.pl (.R true (P.cellsOf e) ((rows.drop l).take (h - l)))))) else none
            | none => none
    else none
  | _, _ => none

theorem boundV_ok {P : Program} {d : Va} {w : World} {x : V} {j : Value} {z most y : Nat} {code : BoundsCode} {n : Nat} (hv : boundV (some x) z most = some n) (hx : x.den d j) (hm : most ≤ y) :
    (Instr.sliceBound j y code).run P w = .ok n w ∧ n ≤ most := by
  unfold boundV at hv
  simp only at hv
  split at hv <;> try (cases hv; done)
  rename_i m hn
  obtain ⟨kk, rfl⟩ := V.num_den hn hx
  split at hv <;> cases hv
  rename_i hc
  have : 0 ≤ m ∧ m ≤ (y : Int) := by omega
  exact ⟨by simp [Instr.sliceBound, asIntOf, this], by omega⟩

theorem boundV_none {z most n : Nat} (hv : boundV none z most = some n) : n = z := by
  unfold boundV at hv; cases hv; rfl

/-- the values of bounds -/
def OptDen (d : Va) (x : Option V) (j : Option Value) : Prop :=
  match x, j with
  | none, none => True
  | some x, some j => x.den d j
  | _, _ => False

theorem bounds_ok {P : Program} {d : Va} {w : World} {isSlice : Bool} {lo hi : Option V} {lj hj : Option Value} {len cap h l : Nat} (hlc : len ≤ cap)
    (hh : boundV hi len len = some h) (hl : boundV lo 0 h = some l) (dl : OptDen d lo lj) (dh : OptDen d hi hj) :
    (Instr.sliceBounds isSlice len cap lj hj none).run P w = .ok (l, h, cap) w ∧ l ≤ h ∧ h ≤ len := by
  cases hi with
  | none =>
    cases hj with
    | some _ => exact dh.elim
    | none =>
      obtain rfl := boundV_none hh
      cases lo with
      | none =>
        cases lj with
        | some _ => exact dl.elim
        | none =>
          obtain rfl := boundV_none hl
          exact ⟨by simp [Instr.sliceBounds], by omega, by omega⟩
      | some lo =>
        cases lj with
        | none => exact dl.elim
        | some lj =>
          have h2 := boundV_ok (P := P) (w := w) (y := h) (code := .sliceB) hl dl (Nat.le_refl _)
          exact ⟨by simp [Instr.sliceBounds, h2.1], h2.2, by omega⟩
  | some hi =>
    cases hj with
    | none => exact dh.elim
    | some hj =>
      have h1 := boundV_ok (P := P) (w := w) (y := cap) (code := if isSlice then .sliceAcap else .sliceAlen) hh dh hlc
      cases lo with
      | none =>
        cases lj with
        | some _ => exact dl.elim
        | none =>
          obtain rfl := boundV_none hl
          exact ⟨by simp [Instr.sliceBounds, h1.1], by omega, h1.2⟩
      | some lo =>
        cases lj with
        | none => exact dl.elim
        | some lj =>
          have h2 := boundV_ok (P := P) (w := w) (y := h) (code := .sliceB) hl dl (Nat.le_refl _)
          exact ⟨by simp [Instr.sliceBounds, h1.1, h2.1], h2.2, h1.2⟩

theorem boundV_self {x : V} {z most n : Nat} (hv : boundV (some x) z most = some n) : boundV (some x) z n = some n := by
  unfold boundV at *
  simp only at *
  split at hv <;> try (cases hv; done)
  split at hv <;> cases hv
  rename_i hc
  rw [if_pos (by omega)]

theorem bounds3_ok {P : Program} {d : Va} {w : World} {lo : Option V} {hi : V} {lj : Option Value} {hj mj : Value} {len cap h l : Nat} {m : V} (hlc : len ≤ cap)
    (hh : boundV (some hi) len len = some h) (hl : boundV lo 0 h = some l) (hm : m.num = some (h : Int)) (dl : OptDen d lo lj) (dh : hi.den d hj) (dm : m.den d mj) :
    (Instr.sliceBounds true len cap lj (some hj) (some mj)).run P w = .ok (l, h, h) w ∧ l ≤ h ∧ h ≤ len := by
  have h0 := boundV_ok (P := P) (w := w) (y := h) (code := .slice3B) (boundV_self hh) dh (Nat.le_refl _)
  have h1 := boundV_ok (P := P) (w := w) (y := len) (code := .slice3B) hh dh (Nat.le_refl _)
  have h2 : boundV (some m) 0 h = some h := by
    unfold boundV; simp only [hm]; rw [if_pos (by omega)]; rfl
  have h2 := boundV_ok (P := P) (w := w) (y := cap) (code := .slice3Acap) h2 dm (by omega)
  cases lo with
  | none =>
    cases lj with
    | some _ => exact dl.elim
    | none =>
      obtain rfl := boundV_none hl
      exact ⟨by simp [Instr.sliceBounds, h2.1, h0.1], by omega, h1.2⟩
  | some lo =>
    cases lj with
    | none => exact dl.elim
    | some lj =>
      have h3 := boundV_ok (P := P) (w := w) (y := h) (code := .slice3C) hl dl (Nat.le_refl _)
      exact ⟨by simp [Instr.sliceBounds, h2.1, h0.1, h3.1], h3.2, h1.2⟩

theorem sliceV_ok {P : Program} {B : Base} {d : Va} {S : St} {a : Act} {w : World} (hs : Sim B d S a w) {t : TypeId} {x v : V} {lo hi mx : Option V} {y : Value} {lj hj mj : Option Value}
    (hv : sliceV P S t x lo hi mx = some v) (hx : x.den d y) (dl : OptDen d lo lj) (dh : OptDen d hi hj) (dm : OptDen d mx mj) :
    ∃ z, (Instr.sliceAt t y lj hj mj).run P w = .ok z w ∧ v.den d z := by
  unfold sliceV at hv
  split at hv <;> try (cases hv; done)
  · rename_i s hu
    split at hv <;> try (cases hv; done)
    split at hv <;> try (cases hv; done)
    rename_i h hh
    split at hv <;> cases hv
    rename_i l hl
    change PL.den d.ro (.str s) y at hx
    rw [PL.den] at hx
    obtain ⟨rfl, hm⟩ := hx
    cases mj with
    | some _ => exact dm.elim
    | none =>
      have hb := bounds_ok (P := P) (w := w) (isSlice := false) (Nat.le_refl _) hh hl dl dh
      refine ⟨.string ((⟨s.toArray⟩ : ByteArray).extract l h), ?_, ?_⟩
      · have hsz : (⟨s.toArray⟩ : ByteArray).size = s.length := by simp [ByteArray.size]
        simp [Instr.sliceAt, Instr.slice, run_underlying hu w, hsz, hb.1]
      · show PL.den _ _ _
        rw [PL.den]
        refine ⟨?_, by simp; omega⟩
        congr 1
        apply ByteArray.ext
        simp [ByteArray.data_extract, List.extract_eq_take_drop]
  · rename_i n e k path hu
    split at hv <;> try (cases hv; done)
    rename_i o hk
    split at hv <;> try (cases hv; done)
    rename_i hc
    obtain ⟨h0, hp, hps, hmax⟩ := hc
    split at hv <;> try (cases hv; done)
    rename_i h hh
    split at hv <;> cases hv
    rename_i l hl
    change y = _ at hx; subst hx
    cases mj with
    | some _ => exact dm.elim
    | none =>
      have hb := bounds_ok (P := P) (w := w) (isSlice := false) (Nat.le_refl _) hh hl dl dh
      have hsz := run_size h0 w
      obtain ⟨vals, spare, ty, fr, _, _, hd, _, hlen⟩ := hs.mem k o hk
      have hle := pok_le hp
      have hvl := hd.length
      have hmul : l * P.cellsOf e + (n - l) * P.cellsOf e = n * P.cellsOf e := by rw [← Nat.add_mul]; congr 1; omega
      refine ⟨.slice (some ⟨d.at_ k, if n = l then poff path else poff path + l * P.cellsOf e, none⟩) (h - l) (n - l), ?_, ?_⟩
      · simp [Instr.sliceAt, Instr.sureAddr, run_underlying hu w, hb.1, hsz, addr_add]
        split <;> rfl
      · refine ⟨_, _, rfl, by omega, by omega, ?_, ?_⟩
        · by_cases hnl : n = l
          · left; omega
          · right; simp [hnl, poff, Nat.add_comm]
        · simp only [List.length_append] at hlen
          split
          · rename_i hnl; subst hnl; simp; omega
          · omega
  · rename_i e k path len sz hu
    split at hv <;> try (cases hv; done)
    split at hv <;> try (cases hv; done)
    rename_i hc
    obtain ⟨rfl, h0⟩ := hc
    split at hv <;> try (cases hv; done)
    rename_i h hh
    split at hv <;> cases hv
    rename_i l hl
    obtain ⟨o, cap, rfl, hlc, hcm, ho, hfit⟩ := hx
    cases mj with
    | some _ => exact dm.elim
    | none =>
      have hb := bounds_ok (P := P) (w := w) (isSlice := true) hlc hh hl dl dh
      have hsz := run_size h0 w
      have hmul : l * P.cellsOf e + (cap - l) * P.cellsOf e = cap * P.cellsOf e := by rw [← Nat.add_mul]; congr 1; omega
      refine ⟨.slice (some ⟨d.at_ k, if cap = l then o else o + l * P.cellsOf e, none⟩) (h - l) (cap - l), ?_, ?_⟩
      · simp [Instr.sliceAt, Instr.slice, run_underlying hu w, hb.1, hsz, addr_add]
        split <;> rfl
      · refine ⟨_, _, rfl, by omega, by omega, ?_, ?_⟩
        · by_cases hnl : cap = l
          · left; omega
          · right; rw [if_neg hnl]
            rcases ho with ho | ho
            · omega
            · subst ho; simp [poff, Nat.add_comm]
        · split
          · rename_i hnl; subst hnl; simp; omega
          · omega
  · rename_i e ex sz rows hu
    split at hv <;> try (cases hv; done)
    rename_i hc
    obtain ⟨hsz1, h0⟩ := hc
    have fixR : ∀ blk off, PL.denRows d.ro blk sz rows off → PL.denRows d.ro blk (P.cellsOf e) rows off := by
      intro blk off hr
      rcases hsz1 with rfl | rfl
      · exact hr
      · simp [PL.denRows]
    split at hv <;> try (cases hv; done)
    rename_i h hh
    split at hv <;> try (cases hv; done)
    rename_i l hl
    have hsz := run_size h0 w
    change PL.den d.ro (.R _ _ _) y at hx
    rw [PL.den] at hx
    split at hv
    · cases hv
      cases mj with
      | some _ => exact dm.elim
      | none =>
        rcases hx with ⟨rfl, rfl⟩ | ⟨blk, off, cap, rfl, hlc, hcm, hex, hrows⟩
        · have hb := bounds_ok (P := P) (w := w) (isSlice := true) (Nat.le_refl 0) hh hl dl dh
          obtain rfl : h = 0 := by omega
          obtain rfl : l = 0 := by omega
          refine ⟨.slice none 0 0, ?_, ?_⟩
          · simp [Instr.sliceAt, Instr.slice, run_underlying hu w, hb.1, hsz]
          · show PL.den _ _ _; rw [PL.den]; left; exact ⟨rfl, by simp⟩
        · have hb := bounds_ok (P := P) (w := w) (isSlice := true) hlc hh hl dl dh
          refine ⟨.slice (some ⟨blk, if cap = l then off else off + l * P.cellsOf e, none⟩) (h - l) (cap - l), ?_, ?_⟩
          · simp [Instr.sliceAt, Instr.slice, run_underlying hu w, hb.1, hsz, addr_add]
            split <;> rfl
          · show PL.den _ _ _
            rw [PL.den]; right
            have hl2 : ((rows.drop l).take (h - l)).length = h - l := by simp; omega
            refine ⟨blk, if cap = l then off else off + l * P.cellsOf e, cap - l, by rw [hl2], by omega, by omega, ?_, ?_⟩
            · intro hh2
              simp only [Bool.and_eq_true, decide_eq_true_eq] at hh2
              have := hex hh2.1
              rw [hl2]; omega
            · split
              · have : h - l = 0 := by omega
                rw [this]; simp [PL.denRows]
              · exact denRows_take (denRows_drop (fixR _ _ hrows) l (by omega)) _
    · rename_i m
      split at hv <;> try (cases hv; done)
      rename_i mn hmn
      split at hv <;> cases hv
      rename_i hc2
      obtain ⟨rfl, his⟩ := hc2
      cases mj with
      | none => exact dm.elim
      | some mj =>
        cases hi with
        | none => simp at his
        | some hi =>
          cases hj with
          | none => exact dh.elim
          | some hj =>
            rcases hx with ⟨rfl, rfl⟩ | ⟨blk, off, cap, rfl, hlc, hcm, hex, hrows⟩
            · have hb := bounds3_ok (P := P) (w := w) (Nat.le_refl 0) hh hl hmn dl dh dm
              obtain rfl : h = 0 := by omega
              obtain rfl : l = 0 := by omega
              refine ⟨.slice none 0 0, ?_, ?_⟩
              · simp [Instr.sliceAt, Instr.slice, run_underlying hu w, hb.1, hsz]
              · show PL.den _ _ _; rw [PL.den]; left; exact ⟨rfl, by simp⟩
            · have hb := bounds3_ok (P := P) (w := w) hlc hh hl hmn dl dh dm
              refine ⟨.slice (some ⟨blk, if h = l then off else off + l * P.cellsOf e, none⟩) (h - l) (h - l), ?_, ?_⟩
              · simp [Instr.sliceAt, Instr.slice, run_underlying hu w, hb.1, hsz, addr_add]
                split <;> rfl
              · show PL.den _ _ _
                rw [PL.den]; right
                have hl2 : ((rows.drop l).take (h - l)).length = h - l := by simp; omega
                refine ⟨blk, if h = l then off else off + l * P.cellsOf e, h - l, by rw [hl2], by omega, by omega, fun _ => hl2.symm, ?_⟩
                split
                · have : h - l = 0 := by omega
                  rw [this]; simp [PL.denRows]
                · exact denRows_take (denRows_drop (fixR _ _ hrows) l (by omega)) _
end Go.Sy
