/- The layer: conversions, composites, choices; all operations that only read, in one. -/
import Derived.Test.YtmopmlnpoeeomaaE8
set_option linter.unusedVariables false
set_option linter.unusedSimpArgs false
namespace Go.Sy

def convV (P : Program) (S : St) (src dst : TypeId) (x : V) : Option V :=
  match P.underlying src, P.underlying dst, x with
  | some _, some (.int k), .w (.one (.pl p)) => (toKind k p).map fun z => .w (.one (.pl z))
  | some _, some .string, .w (.one (.pl (.str s))) => some (.w (.one (.pl (.str s))))
  | some (.slice e), some .string, .w (.one (.pl (.R ex sz rows))) =>
    match P.underlying e with
    | some (.int .u8) => if sz = 1 ∨ rows = [] then (bytesR rows).map fun bs => .w (.one (.pl (.str bs))) else none
    | _ => none
  | some (.slice e), some .string, .w (.one (.s k path len sz)) =>
    match P.underlying e, look S.mem k with
    | some (.int .u8), some o => if pok o.cells.length path ∧ psz o.cells.length path = len ∧ sz = 1 then (bytesL (rd o.cells path)).map fun bs => .w (.one (.pl (.str bs))) else none
    | _, _ => none
  | _, _, _ => none

theorem pushes : ∀ (bs : List UInt8) (s : ByteArray), ((bs.map fun b => (b.toNat : Int)).foldl (fun r n => r.push (UInt8.ofNat n.toNat)) s) = s ++ ⟨bs.toArray⟩
  | [], s => by apply ByteArray.ext; simp
  | b :: bs, s => by
    rw [List.map_cons, List.foldl_cons, pushes bs]
    apply ByteArray.ext; simp

theorem run_b2s {P : Program} {w : World} {blk o cap : Nat} {bs : List UInt8} (h : CellsAt w blk o (bs.map fun b => Value.int .u8 b.toNat)) :
    (Conv.bytesToString (.slice (some ⟨blk, o, none⟩) bs.length cap)).run P w = .ok (.string ⟨bs.toArray⟩) w := by
  have hl := run_loadCells_list (P := P) w ⟨blk, o, none⟩ (bs.map fun b => Value.int .u8 b.toNat) (fun j v hv => by rw [addr_add]; exact h j v hv)
  rw [List.length_map] at hl
  rw [run_bytesToString w _ _ cap (bs.map fun b => (b.toNat : Int)) (by rw [hl]; simp [Function.comp_def]), pushes]
  simp

theorem bytesL_len : ∀ {c : List L} {bs : List UInt8}, bytesL c = some bs → bs.length = c.length
  | [], bs, h => by simp only [bytesL] at h; cases h; rfl
  | c :: r, bs, h => by
    unfold bytesL at h
    split at h
    · rename_i he; cases he
    · rename_i x r' he
      cases he
      cases hb : bytesL r with
      | none => simp [hb] at h
      | some bs' => simp only [hb, Option.map_some, Option.some.injEq] at h; subst h; simp [bytesL_len hb]
    · cases h

theorem convV_ok {P : Program} {B : Base} {d : Va} {S : St} {a : Act} {w : World} (h : Sim B d S a w) {src dst : TypeId} {x v : V} {y : Value} (hv : convV P S src dst x = some v) (hx : x.den d y) :
    ∃ z, (convert src dst y).run P w = .ok z w ∧ v.den d z := by
  unfold convV at hv
  split at hv
  · rename_i ds k p hs hd
    cases hk : toKind k p with
    | none => simp [hk] at hv
    | some z =>
      simp only [hk, Option.map_some, Option.some.injEq] at hv; subst hv
      obtain ⟨n, hn, hr, hz⟩ := toKind_ok (P := P) (ro := d.ro) w hk
      have e := PL.num_den hn hx
      subst e
      refine ⟨z.mk, ?_, hz⟩
      unfold convert
      simp only [Sem.run_bind, run_underlying hs w, run_underlying hd w, Result.andThen_ok]
      exact hr
  · rename_i ds s hs hd
    cases hv
    have hx' := hx
    change PL.den d.ro _ y at hx; rw [PL.den] at hx
    obtain ⟨rfl, hl⟩ := hx
    refine ⟨_, ?_, hx'⟩
    unfold convert
    simp only [Sem.run_bind, run_underlying hs w, run_underlying hd w, Result.andThen_ok]
    cases ds <;> simp
  · rename_i e ex sz rows hs hd
    split at hv <;> try (cases hv; done)
    rename_i he
    split at hv <;> try (cases hv; done)
    rename_i hc
    cases hb : bytesR rows with
    | none => simp [hb] at hv
    | some bs =>
      simp only [hb, Option.map_some, Option.some.injEq] at hv; subst hv
      change PL.den d.ro _ y at hx; rw [PL.den] at hx
      rcases hx with ⟨rfl, rfl⟩ | ⟨blk, off, cap, rfl, hlc, hcm, _, hrows⟩
      · simp only [bytesR] at hb; cases hb
        refine ⟨.string .empty, ?_, ?_⟩
        · rw [run_convert_bytes_string w src dst e none 0 0 hs he hd]; simp [Conv.bytesToString]
        · show PL.den _ _ _; rw [PL.den]; exact ⟨rfl, by simp⟩
      · have key : CellsAt w blk off (bs.map fun b => Value.int .u8 b.toNat) ∧ rows.length = bs.length := by
          rcases hc with rfl | rfl
          · exact bytesR_ok h.ro hb hrows
          · simp only [bytesR] at hb; cases hb; exact ⟨fun j v hv => by simp at hv, rfl⟩
        refine ⟨.string ⟨bs.toArray⟩, ?_, ?_⟩
        · rw [run_convert_bytes_string w src dst e _ _ _ hs he hd, key.2]; exact run_b2s key.1
        · show PL.den _ _ _; rw [PL.den]; exact ⟨rfl, by omega⟩
  · rename_i e k path len sz hs hd
    split at hv <;> try (cases hv; done)
    rename_i o he hk
    split at hv <;> try (cases hv; done)
    rename_i hc
    obtain ⟨hp, hps, rfl⟩ := hc
    cases hb : bytesL (rd o.cells path) with
    | none => simp [hb] at hv
    | some bs =>
      simp only [hb, Option.map_some, Option.some.injEq] at hv; subst hv
      obtain ⟨vals, hd2, hcell, hlen⟩ := h.readObj hk hp
      have hvals := bytesL_ok hb hd2
      have hbl := bytesL_len hb
      rw [length_rd _ hp, hps] at hbl
      obtain ⟨oo, cap, rfl, hlc, hcm, ho, _⟩ := hx
      refine ⟨.string ⟨bs.toArray⟩, ?_, ?_⟩
      · rw [run_convert_bytes_string w src dst e _ _ _ hs he hd, ← hbl]
        apply run_b2s
        rcases ho with ho | ho
        · have : bs = [] := List.eq_nil_of_length_eq_zero (by omega)
          subst this; exact fun j v hv => by simp at hv
        · rw [ho, ← hvals]; exact hcell
      · show PL.den _ _ _; rw [PL.den]; exact ⟨rfl, by omega⟩
  · cases hv

def lenV (P : Program) (t : TypeId) (x : V) : Option V :=
  match P.underlying t, x with
  | some .string, .w (.one (.pl (.str s))) => some (.w (.one (.pl (.i s.length))))
  | some (.array n _), _ => some (.w (.one (.pl (.i n))))
  | some (.slice _), .w (.one (.pl (.R _ _ rows))) => some (.w (.one (.pl (.i rows.length))))
  | some (.slice _), .w (.one (.s _ _ len _)) => some (.w (.one (.pl (.i len))))
  | _, _ => none

theorem lenV_ok {P : Program} {d : Va} {w : World} {t ty : TypeId} {ts : Array TypeId} {x v : V} {y : Value} (hv : lenV P t x = some v) (ht : ts[0]? = some t) (hx : x.den d y) :
    ∃ z, (Builtin.len_ ts ty #[y]).run P w = .ok z w ∧ v.den d z := by
  unfold lenV at hv
  split at hv <;> cases hv
  · rename_i s hu
    change PL.den d.ro _ y at hx; rw [PL.den] at hx
    obtain ⟨rfl, _⟩ := hx
    refine ⟨.int .i64 s.length, ?_, by show PL.den _ _ _; rw [PL.den]⟩
    simp [Builtin.len_, ht, run_underlying hu w, bytes_len, goInt]
  · rename_i n e hu
    refine ⟨.int .i64 n, ?_, by show PL.den _ _ _; rw [PL.den]⟩
    simp [Builtin.len_, ht, run_underlying hu w, goInt]
  · rename_i e ex sz rows hu
    change PL.den d.ro _ y at hx; rw [PL.den] at hx
    refine ⟨.int .i64 rows.length, ?_, by show PL.den _ _ _; rw [PL.den]⟩
    rcases hx with ⟨rfl, rfl⟩ | ⟨blk, off, cap, rfl, _⟩ <;> simp [Builtin.len_, ht, run_underlying hu w, goInt]
  · rename_i e k path len sz hu
    obtain ⟨o, cap, rfl, _⟩ := hx
    refine ⟨.int .i64 len, ?_, by show PL.den _ _ _; rw [PL.den]⟩
    simp [Builtin.len_, ht, run_underlying hu w, goInt]

def pickV (c : Bool) (x y : V) : V :=
  match x, y with
  | .w (.one (.pl (.b p))), .w (.one (.pl (.b q))) => .w (.one (.pl (.b (bif c then p else q))))
  | _, _ => bif c then x else y

theorem pickV_ok {d : Va} {c : Bool} {x y : V} {a b : Value} (hx : x.den d a) (hy : y.den d b) : (pickV c x y).den d (if c = true then a else b) := by
  unfold pickV
  split
  · change PL.den d.ro _ a at hx; change PL.den d.ro _ b at hy
    rw [PL.den] at hx hy; subst hx; subst hy
    show PL.den _ _ _; rw [PL.den]; cases c <;> rfl
  · cases c
    · exact hy
    · exact hx

def nilV : V → Option V
  | .w (.one (.p k path)) => some (.w (.one (.p k path)))
  | .w (.one (.pl (.q c path))) => some (.w (.one (.pl (.q c path))))
  | .w (.one (.fn f caps)) => some (.w (.one (.fn f caps)))
  | _ => none
end Go.Sy
