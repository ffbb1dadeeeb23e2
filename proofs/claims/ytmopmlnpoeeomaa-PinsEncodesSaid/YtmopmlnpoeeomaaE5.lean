/- The layer: places and parts. -/
import Derived.Test.YtmopmlnpoeeomaaE4
set_option linter.unusedVariables false
set_option linter.unusedSimpArgs false
namespace Go.Sy

def V.num : V → Option Int
  | .w (.one (.pl x)) => x.num
  | _ => none

theorem V.num_den {d : Va} {x : V} {n : Int} {y : Value} (h : x.num = some n) (hd : x.den d y) : ∃ k, y = .int k n := by
  unfold V.num at h
  split at h
  · exact ⟨_, PL.num_den h hd⟩
  · cases h

theorem denRows_get {ro : Ro} {blk sz : Nat} : ∀ {rows : List (List PL)} {off : Nat}, PL.denRows ro blk sz rows off → ∀ {i : Nat}, i < rows.length →
    (rows.getD i []).length = sz ∧ PL.denAt ro blk (rows.getD i []) (off + i * sz)
  | [], _, _, i, hi => by simp at hi
  | r :: rs, off, h, i, hi => by
    rw [PL.denRows] at h
    cases i with
    | zero => simpa using ⟨h.1, h.2.1⟩
    | succ i =>
      have := denRows_get h.2.2 (i := i) (by simpa using hi)
      simp only [List.getD_cons_succ]
      rw [show off + (i + 1) * sz = off + sz + i * sz from by rw [Nat.add_mul]; omega]
      exact this

theorem denRows_drop {ro : Ro} {blk sz : Nat} : ∀ {rows : List (List PL)} {off : Nat}, PL.denRows ro blk sz rows off → ∀ n, n ≤ rows.length → PL.denRows ro blk sz (rows.drop n) (off + n * sz)
  | rows, off, h, 0, _ => by simpa using h
  | [], _, _, n + 1, hn => by simp at hn
  | r :: rs, off, h, n + 1, hn => by
    rw [PL.denRows] at h
    have := denRows_drop h.2.2 n (by simpa using hn)
    simp only [List.drop_succ_cons]
    rw [show off + (n + 1) * sz = off + sz + n * sz from by rw [Nat.add_mul]; omega]
    exact this

theorem denRows_take {ro : Ro} {blk sz : Nat} : ∀ {rows : List (List PL)} {off : Nat}, PL.denRows ro blk sz rows off → ∀ n, PL.denRows ro blk sz (rows.take n) off
  | rows, off, h, 0 => by simp [PL.denRows]
  | [], _, _, n + 1 => by simp [PL.denRows]
  | r :: rs, off, h, n + 1 => by
    rw [PL.denRows] at h
    simp only [List.take_succ_cons]
    rw [PL.denRows]
    exact ⟨h.1, h.2.1, denRows_take h.2.2 n⟩

def indexAddrV (P : Program) (t : TypeId) (x i : V) : Option V :=
  match i.num with
  | none => none
  | some n =>
    match P.underlying t with
    | some (.array len e) => if 0 ≤ n ∧ n < len ∧ P.cellsOf e ≠ 0 then
        match x with
        | .w (.one (.p k path)) => some (.w (.one (.p k ((n.toNat * P.cellsOf e, P.cellsOf e) :: path))))
        | .w (.one (.pl (.q cells path))) => some (.w (.one (.pl (.q cells ((n.toNat * P.cellsOf e, P.cellsOf e) :: path)))))
        | _ => none
      else none
    | some (.slice e) =>
      match x with
      | .w (.one (.s k path len sz)) => if 0 ≤ n ∧ n < len ∧ sz = P.cellsOf e ∧ sz ≠ 0 then some (.w (.one (.p k ((n.toNat * sz, sz) :: path)))) else none
      | .w (.one (.pl (.R ex sz rows))) => if 0 ≤ n ∧ n < rows.length ∧ sz = P.cellsOf e ∧ sz ≠ 0 then some (.w (.one (.pl (.q (rows.getD n.toNat []) [])))) else none
      | _ => none
    | _ => none

theorem indexAddrV_ok {P : Program} {d : Va} {w : World} {t : TypeId} {x i v : V} {y j : Value} (hv : indexAddrV P t x i = some v) (hx : x.den d y) (hi : i.den d j) :
    ∃ z, (Instr.indexAt t y j).run P w = .ok z w ∧ v.den d z := by
  unfold indexAddrV at hv
  split at hv <;> try (cases hv; done)
  rename_i n hn
  obtain ⟨kk, rfl⟩ := V.num_den hn hi
  split at hv <;> try (cases hv; done)
  · rename_i len e hu
    split at hv <;> try (cases hv; done)
    rename_i hc
    obtain ⟨h1, h2, h0⟩ := hc
    have hsz := run_size h0 w
    split at hv <;> cases hv
    · rename_i k path
      change y = _ at hx; subst hx
      refine ⟨.pointer (some ⟨d.at_ k, poff path + n.toNat * P.cellsOf e, none⟩), ?_, ?_⟩
      · simp [Instr.indexAt, asIntOf, run_underlying hu w, Instr.sureAddr, hsz, h1, h2, addr_add]
      · show _ = _; simp [poff, Nat.add_comm]
    · rename_i cells path
      change PL.den d.ro (.q _ _) y at hx
      rw [PL.den] at hx
      obtain ⟨blk, off, rfl, hat⟩ := hx
      refine ⟨.pointer (some ⟨blk, off + poff path + n.toNat * P.cellsOf e, none⟩), ?_, ?_⟩
      · simp [Instr.indexAt, asIntOf, run_underlying hu w, Instr.sureAddr, hsz, h1, h2, addr_add]
      · show PL.den d.ro (.q _ _) _
        rw [PL.den]; exact ⟨blk, off, by simp [poff, Nat.add_assoc, Nat.add_comm, Nat.add_left_comm], hat⟩
  · rename_i e hu
    split at hv
    · rename_i k path len sz
      split at hv <;> cases hv
      rename_i hc
      obtain ⟨h1, h2, h3, h0⟩ := hc
      subst h3
      have hsz := run_size h0 w
      obtain ⟨o, cap, rfl, hlc, _, ho, _⟩ := hx
      have ho : o = poff path := ho.resolve_left (by omega)
      subst ho
      refine ⟨.pointer (some ⟨d.at_ k, poff path + n.toNat * P.cellsOf e, none⟩), ?_, ?_⟩
      · simp [Instr.indexAt, asIntOf, run_underlying hu w, Instr.sureAddr, hsz, h1, h2, addr_add]
      · show _ = _; simp [poff, Nat.add_comm]
    · rename_i ex sz rows
      split at hv <;> cases hv
      rename_i hc
      obtain ⟨h1, h2, h3, h0⟩ := hc
      subst h3
      have hsz := run_size h0 w
      change PL.den d.ro (.R _ _ _) y at hx
      rw [PL.den] at hx
      rcases hx with ⟨_, rfl⟩ | ⟨blk, off, cap, rfl, _, _, _, hrows⟩
      · simp at h2; omega
      have hg := denRows_get hrows (i := n.toNat) (by omega)
      refine ⟨.pointer (some ⟨blk, off + n.toNat * P.cellsOf e, none⟩), ?_, ?_⟩
      · simp [Instr.indexAt, asIntOf, run_underlying hu w, Instr.sureAddr, hsz, h1, h2, addr_add]
      · show PL.den d.ro (.q _ _) _
        rw [PL.den]; exact ⟨blk, off + n.toNat * P.cellsOf e, by simp [poff], hg.2⟩
    · cases hv

theorem all2_extract {d : Va} {cs : List L} {vs : Array Value} (h : All2 (L.den d) cs vs.toList) (o n : Nat) : All2 (L.den d) (win cs o n) (vs.extract o (o + n)).toList := by
  have := h.win o n
  rw [Array.toList_extract, List.extract_eq_take_drop]
  simpa [Go.Sy.win] using this

/-- a part of an aggregate -/
def partV (P : Program) (t : TypeId) (cs : List L) (off : Nat) : Option V :=
  if off + P.cellsOf t ≤ cs.length ∧ P.cellsOf t ≠ 0 then (mkW P t (win cs off (P.cellsOf t))).map .w else none

theorem partV_ok {P : Program} {d : Va} {w : World} {t off : Nat} {cs : List L} {vs : Array Value} {v : V} (hv : partV P t cs off = some v) (h : All2 (L.den d) cs vs.toList) :
    ∃ z, (part t vs off).run P w = .ok z w ∧ v.den d z := by
  unfold partV at hv
  split at hv <;> try (cases hv; done)
  rename_i hc
  obtain ⟨hle, h0⟩ := hc
  cases hm : mkW P t (win cs off (P.cellsOf t)) with
  | none => simp [hm] at hv
  | some W =>
    simp only [hm, Option.map_some, Option.some.injEq] at hv; subst hv
    have hsz := run_size h0 w
    rcases mkW_agg hm w with ⟨rfl, ha⟩ | ⟨l, hl, rfl, ha⟩
    · refine ⟨.agg (vs.extract off (off + P.cellsOf t)), by simp [part, ha, hsz], ⟨_, rfl, all2_extract h _ _⟩⟩
    · have : cs[off]? = some l := by
        have := congrArg (fun z => z[0]?) hl
        simp only [Go.Sy.win, List.getElem?_take, List.getElem?_drop, Nat.add_zero] at this
        rw [if_pos (by omega)] at this
        simpa using this
      obtain ⟨y, hy, hd⟩ := h.get this
      refine ⟨y, ?_, hd⟩
      have hy' : vs[off]? = some y := by simpa using hy
      simp [part, ha, hy']

def indexV (P : Program) (t : TypeId) (x i : V) : Option V :=
  match i.num with
  | none => none
  | some n =>
    match P.underlying t, x with
    | some (.array len e), .w (.agg cs) => if 0 ≤ n ∧ n < len then partV P e cs (n.toNat * P.cellsOf e) else none
    | some .string, .w (.one (.pl (.str s))) => if 0 ≤ n ∧ n < s.length then some (.w (.one (.pl (.u8 (s.getD n.toNat 0))))) else none
    | _, _ => none

theorem indexV_ok {P : Program} {d : Va} {w : World} {t : TypeId} {x i v : V} {y j : Value} (hv : indexV P t x i = some v) (hx : x.den d y) (hi : i.den d j) :
    ∃ z, (Instr.index t y j).run P w = .ok z w ∧ v.den d z := by
  unfold indexV at hv
  split at hv <;> try (cases hv; done)
  rename_i n hn
  obtain ⟨kk, rfl⟩ := V.num_den hn hi
  split at hv <;> try (cases hv; done)
  · rename_i len e cs hu
    split at hv <;> try (cases hv; done)
    rename_i hc
    obtain ⟨vs, rfl, hall⟩ := hx
    obtain ⟨z, hz, hd⟩ := partV_ok (w := w) hv hall
    have h0 : P.cellsOf e ≠ 0 := by intro h; simp [partV, h] at hv
    refine ⟨z, ?_, hd⟩
    simp [Instr.index, asIntOf, run_underlying hu w, hc.1, hc.2, run_size h0 w, hz]
  · rename_i s hu
    split at hv <;> cases hv
    rename_i hc
    change PL.den d.ro (.str s) y at hx
    rw [PL.den] at hx
    obtain ⟨rfl, _⟩ := hx
    have hlt : n.toNat < s.length := by omega
    refine ⟨.int .u8 ((s.getD n.toNat 0).toNat), ?_, by show PL.den _ _ _; rw [PL.den]⟩
    have hb : (⟨s.toArray⟩ : ByteArray)[n.toNat]? = some s[n.toNat] := by
      show (if h : n.toNat < (⟨s.toArray⟩ : ByteArray).size then some _ else none) = _
      rw [dif_pos (show n.toNat < (⟨s.toArray⟩ : ByteArray).size by simpa [ByteArray.size] using hlt)]
      rfl
    simp [Instr.index, asIntOf, run_underlying hu w, hc.1, hb, List.getD, List.getElem?_eq_getElem hlt]

def extractV (x : V) (i : Nat) : Option V :=
  match x with
  | .tup xs => xs[i]?.map .w
  | _ => none

theorem extractV_ok {P : Program} {d : Va} {w : World} {x v : V} {i : Nat} {y : Value} (hv : extractV x i = some v) (hx : x.den d y) :
    ∃ z, (Instr.extract y i).run P w = .ok z w ∧ v.den d z := by
  unfold extractV at hv
  split at hv <;> try (cases hv; done)
  rename_i xs
  obtain ⟨vs, rfl, hall⟩ := hx
  cases hg : xs[i]? with
  | none => simp [hg] at hv
  | some x =>
    simp only [hg, Option.map_some, Option.some.injEq] at hv; subst hv
    obtain ⟨z, hz, hd⟩ := hall.get hg
    have : vs[i]? = some z := by simpa using hz
    exact ⟨z, by simp [Instr.extract, this], hd⟩

def unV (op : UnOp) (x : V) : Option V :=
  match op, x with
  | .not, .w (.one (.pl (.b x))) => some (.w (.one (.pl (.b (!x)))))
  | .neg, .w (.one (.pl (.i n))) => some (.w (.one (.pl (.i (Go.RowKit.wrap64 (0 - n))))))
  | .neg, .w (.one (.pl (.u64 n))) => some (.w (.one (.pl (.u64 (0 - n)))))
  | .xor, .w (.one (.pl (.u64 n))) => some (.w (.one (.pl (.u64 (~~~n)))))
  | .xor, .w (.one (.pl (.u32 n))) => some (.w (.one (.pl (.u32 (~~~n)))))
  | _, _ => none

theorem not_32 (x : UInt32) : ((BitVec.ofInt 32 (4294967295 : Int) ^^^ x.toBitVec).toNat : Int) % 4294967296 = ((~~~x).toNat : Int) := by
  rw [show (BitVec.ofInt 32 (4294967295 : Int)) = BitVec.allOnes 32 from rfl, BitVec.allOnes_xor, bit_32]; rfl
theorem not_64 (x : UInt64) : ((BitVec.ofInt 64 (18446744073709551615 : Int) ^^^ x.toBitVec).toNat : Int) % 18446744073709551616 = ((~~~x).toNat : Int) := by
  rw [show (BitVec.ofInt 64 (18446744073709551615 : Int)) = BitVec.allOnes 64 from rfl, BitVec.allOnes_xor, bit_64]; rfl
theorem neg_64 (x : UInt64) : (0 - (x.toNat : Int)) % 18446744073709551616 = ((0 - x).toNat : Int) := by
  have := sub_64 0 x; simpa using this

theorem unV_ok {P : Program} {d : Va} {w : World} {op : UnOp} {x v : V} {y : Value} (hv : unV op x = some v) (hx : x.den d y) :
    ∃ z, (Op.unary op y).run P w = .ok z w ∧ v.den d z := by
  unfold unV at hv
  split at hv <;> cases hv <;> (change PL.den d.ro _ y at hx; rw [PL.den] at hx; subst hx)
  · exact ⟨_, rfl, by show PL.den _ _ _; rw [PL.den]⟩
  · exact ⟨_, rfl, by show PL.den _ _ _; rw [PL.den, ← IntWalk.i64_left]⟩
  · exact ⟨_, rfl, by show PL.den _ _ _; rw [PL.den, wrap_u64, neg_64]⟩
  · refine ⟨_, rfl, ?_⟩
    show PL.den _ _ _
    rw [PL.den]
    show Value.int .u64 _ = _
    rw [wrap_u64]
    rename_i n
    have := not_64 n
    rw [← this, ← bv64]; rfl
  · refine ⟨_, rfl, ?_⟩
    show PL.den _ _ _
    rw [PL.den]
    show Value.int .u32 _ = _
    rw [wrap_u32]
    rename_i n
    have := not_32 n
    rw [← this, ← bv32]; rfl

/-- a number as one of another kind -/
def toKind (k : IntKind) (x : PL) : Option PL :=
  match k, x with
  | .u8, .u8 x => some (.u8 x)
  | .u8, .u32 x => some (.u8 x.toUInt8)
  | .u8, .u64 x => some (.u8 x.toUInt8)
  | .u8, .i n => some (.u8 (UInt8.ofNat (n % 256).toNat))
  | .u32, .u8 x => some (.u32 x.toUInt32)
  | .u32, .u32 x => some (.u32 x)
  | .u32, .u64 x => some (.u32 x.toUInt32)
  | .u32, .i n => some (.u32 (UInt32.ofNat (n % 4294967296).toNat))
  | .u64, .u8 x => some (.u64 x.toUInt64)
  | .u64, .u32 x => some (.u64 x.toUInt64)
  | .u64, .u64 x => some (.u64 x)
  | .u64, .i n => some (.u64 (UInt64.ofNat (n % 18446744073709551616).toNat))
  | .i64, .u8 x => some (.i x.toNat)
  | .i64, .u32 x => some (.i x.toNat)
  | .i64, .u64 x => some (.i (Go.RowKit.wrap64 x.toNat))
  | .i64, .i n => some (.i (Go.RowKit.wrap64 n))
  | _, _ => none

theorem toKind_ok {P : Program} {k : IntKind} {x z : PL} {ro : Ro} (w : World) (h : toKind k x = some z) :
    ∃ n, x.num = some n ∧ (Conv.intToInt k n).run P w = .ok z.mk w ∧ z.den ro z.mk := by
  unfold toKind at h
  split at h <;> cases h <;> refine ⟨_, rfl, ?_, by rw [PL.den]; rfl⟩
  all_goals simp only [Conv.intToInt, PL.mk, Sem.run_pure, wrap_u8, wrap_u32, wrap_u64, IntWalk.i64_left]
  · rename_i x; have := x.toNat_lt; congr 2; omega
  · congr 2
  · congr 2
  · rename_i n; congr 2; simp; omega
  · rename_i x; have := x.toNat_lt; congr 2; simp; omega
  · rename_i x; have := x.toNat_lt; congr 2; omega
  · congr 2
  · rename_i n; congr 2; simp; omega
  · rename_i x; have := x.toNat_lt; congr 2; simp; omega
  · rename_i x; have := x.toNat_lt; congr 2; simp; omega
  · rename_i x; have := x.toNat_lt; congr 2; omega
  · rename_i n; congr 2; simp; omega
  · rename_i x; have := x.toNat_lt; congr 2; exact IntWalk.wrap64_in _ (by omega)
  · rename_i x; have := x.toNat_lt; congr 2; exact IntWalk.wrap64_in _ (by omega)

/-- the bytes that cells hold -/
def bytesL : List L → Option (List UInt8)
  | [] => some []
  | .pl (.u8 x) :: r => (bytesL r).map (x :: ·)
  | _ => none
def bytesR : List (List PL) → Option (List UInt8)
  | [] => some []
  | [.u8 x] :: r => (bytesR r).map (x :: ·)
  | _ => none

theorem bytesL_ok {d : Va} : ∀ {c : List L} {bs : List UInt8} {vals : List Value}, bytesL c = some bs → All2 (L.den d) c vals → vals = bs.map fun b => .int .u8 b.toNat
  | [], bs, vals, h, hd => by cases hd; simp only [bytesL] at h; cases h; rfl
  | c :: r, bs, vals, h, hd => by
    cases hd with
    | cons h1 h2 =>
      unfold bytesL at h
      split at h
      · rename_i he; cases he
      · rename_i x r' he
        cases he
        cases hb : bytesL r with
        | none => simp [hb] at h
        | some bs' =>
          simp only [hb, Option.map_some, Option.some.injEq] at h; subst h
          rw [L.den, PL.den] at h1
          rw [h1, bytesL_ok hb h2]; rfl
      · cases h

theorem bytesR_ok {ro : Ro} {blk : Nat} {w : World} (hro : ∀ b o y, ro b o = some y → w.cell? ⟨b, o, none⟩ = some y) :
    ∀ {rows : List (List PL)} {bs : List UInt8} {off : Nat}, bytesR rows = some bs → PL.denRows ro blk 1 rows off → CellsAt w blk off (bs.map fun b => Value.int .u8 b.toNat) ∧ rows.length = bs.length
  | [], bs, off, h, _ => by simp only [bytesR] at h; cases h; exact ⟨fun j v hv => by simp at hv, rfl⟩
  | r :: rs, bs, off, h, hd => by
    unfold bytesR at h
    split at h
    · rename_i he; cases he
    · rename_i x r' he
      cases he
      cases hb : bytesR rs with
      | none => simp [hb] at h
      | some bs' =>
        simp only [hb, Option.map_some, Option.some.injEq] at h; subst h
        rw [PL.denRows, PL.denAt] at hd
        obtain ⟨_, ⟨⟨y, hy, hyd⟩, _⟩, hrest⟩ := hd
        rw [PL.den] at hyd; subst hyd
        obtain ⟨ih, hl⟩ := bytesR_ok hro hb hrest
        refine ⟨fun j v hv => ?_, by simp [hl]⟩
        cases j with
        | zero => simp at hv; subst hv; exact hro _ _ _ hy
        | succ j => have := ih j v (by simpa using hv); rw [show off + (j + 1) = off + 1 + j from by omega]; exact this
    · cases h

end Go.Sy
