/- Opening arguments: what a law's data say, in the engine's form, type by type. -/
import Derived.Test.YtmopmlnpoeeomaaD11
import Derived.Test.YtmopmlnpoeeomaaG1
import Derived.ChangeSlices
import Derived.Lib.SmallJoins
set_option linter.unusedVariables false
set_option linter.unusedSimpArgs false
namespace Go.Sy
open Go.RowKit Go.WideShapes Go.ChangeShapes Go.ChangeAt

/-- cells of a type's form -/
def Sh (P : Program) : Nat → TypeId → List PL → Prop
  | 0, _, _ => False
  | n + 1, t, cs => match P.underlying t with
    | some .bool => ∃ b, cs = [.b b]
    | some (.int .i64) => ∃ k : Int, cs = [.i k] ∧ -9223372036854775808 ≤ k ∧ k ≤ 9223372036854775807
    | some (.int .u8) => ∃ x, cs = [.u8 x]
    | some (.int .u32) => ∃ x, cs = [.u32 x]
    | some (.int .u64) => ∃ x, cs = [.u64 x]
    | some .string => ∃ s, cs = [.str s] ∧ s.length ≤ maxLen
    | some (.slice e) => ∃ rows, cs = [.R false (P.cellsOf e) rows] ∧ (∀ r ∈ rows, Sh P n e r ∧ r.length = P.cellsOf e) ∧ rows.length ≤ maxLen
    | some (.struct fs) => ∃ ps : List (List PL), cs = ps.flatten ∧ All2 (fun (f : Field) p => Sh P n f.type p ∧ p.length = P.cellsOf f.type) fs.toList ps
    | some (.array m e) => ∃ ps : List (List PL), cs = ps.flatten ∧ ps.length = m ∧ ∀ p ∈ ps, Sh P n e p ∧ p.length = P.cellsOf e
    | _ => False

/-- what is read off a world -/
def Va.reads (w : World) : Va := ⟨fun _ => 0, fun _ => 0, fun b o => w.cell? ⟨b, o, none⟩⟩

def tileFs (P : Program) : List Field → Nat → Nat → Bool
  | [], off, n => off == n
  | f :: fs, off, n => f.offset == off && tileFs P fs (off + P.cellsOf f.type) n
/-- which types the opening knows, and that their fields lie side by side -/
def known (P : Program) (G : Nat → TypeId → Bool) : Nat → TypeId → Bool
  | 0, _ => false
  | n + 1, t => match P.underlying t with
    | some .bool | some (.int .i64) | some (.int .u8) | some (.int .u32) | some (.int .u64) | some .string => P.cellsOf t == 1
    | some (.slice e) => P.cellsOf t == 1 && (G n e && known P G n e)
    | some (.struct fs) => tileFs P fs.toList 0 (P.cellsOf t) && fs.toList.all fun f => known P G n f.type
    | some (.array m e) => P.cellsOf t == m * P.cellsOf e && known P G n e
    | _ => false

section
variable {H : Type} {enc : TypeId × Value → H} {P : Program} {w : World} {base : Nat} {spare : Nat → Bool} {held : Bool}

theorem trod_array {m : Nat} {t e : TypeId} {fuel : Nat} {cs : List Value} {x : DataW H × List MemPlace} (ht : P.underlying t = some (.array m e)) (h : DataW.trod enc P w base spare held fuel t cs = some x) :
    ∃ n, fuel = n + 1 ∧ cs.length = P.cellsOf t ∧ ∀ i, i < m → ∃ y, DataW.trod enc P w base spare held n e ((cs.drop (i * P.cellsOf e)).take (P.cellsOf e)) = some y := by
  cases fuel with
  | zero => simp [DataW.trod] at h
  | succ n =>
    unfold DataW.trod at h
    rw [ht] at h
    simp only at h
    split at h <;> try (simp at h; done)
    rename_i hl
    refine ⟨n, rfl, hl, fun i hi => ?_⟩
    obtain ⟨xs, hx, _⟩ := Option.map_eq_some_iff.mp h
    have : ∀ (l : List Nat) (ys : List (DataW H × List MemPlace)), l.mapM (fun i => DataW.trod enc P w base spare held n e ((cs.drop (i * P.cellsOf e)).take (P.cellsOf e))) = some ys → ∀ i ∈ l, ∃ y, DataW.trod enc P w base spare held n e ((cs.drop (i * P.cellsOf e)).take (P.cellsOf e)) = some y := by
      intro l
      induction l with
      | nil => intro _ _ i hi; cases hi
      | cons a r ih =>
        intro ys hy i hi
        rw [List.mapM_cons] at hy
        cases ha : DataW.trod enc P w base spare held n e ((cs.drop (a * P.cellsOf e)).take (P.cellsOf e)) with
        | none => rw [ha] at hy; simp at hy
        | some y =>
          rw [ha] at hy
          rcases List.mem_cons.mp hi with rfl | hi
          · exact ⟨y, ha⟩
          · cases hr : r.mapM (fun i => DataW.trod enc P w base spare held n e ((cs.drop (i * P.cellsOf e)).take (P.cellsOf e))) with
            | none => rw [hr] at hy; simp at hy
            | some zs => exact ih zs hr i hi
    exact this _ _ hx i (by simpa using hi)

def spotOk (v : Value) : Prop := ∀ a len cap, v = .slice (some a) len cap → a.spot = none

theorem denAt_of {ro : Ro} {blk : Nat} : ∀ {c : List PL} {vals : List Value} {off : Nat}, All2 (PL.den ro) c vals → (∀ j v, vals[j]? = some v → ro blk (off + j) = some v) → PL.denAt ro blk c off
  | [], _, _, _, _ => by rw [PL.denAt]; trivial
  | x :: c, vals, off, h, hc => by
    cases h with
    | cons h1 h2 =>
      rename_i y m
      rw [PL.denAt]
      refine ⟨⟨y, by simpa using hc 0 y rfl, h1⟩, denAt_of h2 fun j v hv => ?_⟩
      have := hc (j + 1) v (by simpa using hv)
      rwa [show off + (j + 1) = off + 1 + j from by omega] at this

theorem denRows_of {ro : Ro} {blk sz : Nat} : ∀ {rows : List (List PL)} {off : Nat}, (∀ r ∈ rows, r.length = sz) → (∀ i r, rows[i]? = some r → PL.denAt ro blk r (off + i * sz)) → PL.denRows ro blk sz rows off
  | [], _, _, _ => by rw [PL.denRows]; trivial
  | r :: rs, off, hl, h => by
    rw [PL.denRows]
    refine ⟨hl r (by simp), by simpa using h 0 r rfl, denRows_of (fun r hr => hl r (by simp [hr])) fun i r' hr => ?_⟩
    have := h (i + 1) r' (by simpa using hr)
    rwa [show off + (i + 1) * sz = off + sz + i * sz from by rw [Nat.add_mul]; omega] at this

theorem all2_flatten {ro : Ro} : ∀ {ps : List (List PL)} {vs : List (List Value)}, All2 (fun p v => All2 (PL.den ro) p v) ps vs → All2 (PL.den ro) ps.flatten vs.flatten
  | _, _, .nil => .nil
  | _, _, .cons h1 h2 => by simpa using h1.append (all2_flatten h2)

theorem choose_list {α β : Type} {p : α → β → Prop} : ∀ (l : List α), (∀ x ∈ l, ∃ y, p x y) → ∃ ys : List β, All2 p l ys
  | [], _ => ⟨[], .nil⟩
  | x :: r, h => by
    obtain ⟨y, hy⟩ := h x (by simp)
    obtain ⟨ys, hys⟩ := choose_list r fun z hz => h z (by simp [hz])
    exact ⟨y :: ys, .cons hy hys⟩

theorem All2.flip {α β : Type} {R : α → β → Prop} : ∀ {l : List α} {m : List β}, All2 R l m → All2 (fun b a => R a b) m l
  | _, _, .nil => .nil
  | _, _, .cons h1 h2 => .cons h1 h2.flip

theorem chunk_flatten {α : Type} (sz : Nat) : ∀ (m : Nat) (cs : List α), cs.length = m * sz → ((List.range m).map fun i => (cs.drop (i * sz)).take sz).flatten = cs
  | 0, cs, h => by simp at h; simp [h]
  | m + 1, cs, h => by
    rw [List.range_succ_eq_map, List.map_cons, List.flatten_cons, List.map_map]
    have h2 : (cs.drop sz).length = m * sz := by rw [List.length_drop, h, Nat.add_mul]; omega
    have ih := chunk_flatten sz m (cs.drop sz) h2
    have e : (List.range m).map ((fun i => (cs.drop (i * sz)).take sz) ∘ Nat.succ) = (List.range m).map fun i => ((cs.drop sz).drop (i * sz)).take sz := by
      refine List.map_congr_left fun i _ => ?_
      simp only [Function.comp_def, List.drop_drop]
      congr 2
      rw [Nat.succ_mul]; omega
    rw [e, ih]; simp

theorem tile_split {n : Nat} (cs : List Value) (hl : cs.length = n) : ∀ (fs : List Field) (off : Nat), tileFs P fs off n = true → (fs.map fun f => (cs.drop f.offset).take (P.cellsOf f.type)).flatten = cs.drop off
  | [], off, h => by
    simp only [tileFs, beq_iff_eq] at h
    subst h; subst hl; simp
  | f :: fs, off, h => by
    simp only [tileFs, Bool.and_eq_true, beq_iff_eq] at h
    obtain ⟨h1, h2⟩ := h
    rw [List.map_cons, List.flatten_cons, tile_split cs hl fs _ h2, h1, ← List.drop_drop, List.take_append_drop]

theorem take_len {α : Type} {cs : List α} {a b : Nat} (h : a + b ≤ cs.length) : ((cs.drop a).take b).length = b := by simp; omega

theorem tile_le {n : Nat} : ∀ (fs : List Field) (off : Nat), tileFs P fs off n = true → ∀ f ∈ fs, f.offset + P.cellsOf f.type ≤ n
  | [], _, _, f, hf => by cases hf
  | g :: fs, off, h, f, hf => by
    simp only [tileFs, Bool.and_eq_true, beq_iff_eq] at h
    have hge : ∀ (fs : List Field) (off : Nat), tileFs P fs off n = true → off ≤ n := by
      intro fs
      induction fs with
      | nil => intro off h; simp only [tileFs, beq_iff_eq] at h; omega
      | cons g fs ih => intro off h; simp only [tileFs, Bool.and_eq_true, beq_iff_eq] at h; have := ih _ h.2; omega
    rcases List.mem_cons.mp hf with rfl | hf
    · have := hge _ _ h.2; omega
    · exact tile_le fs _ h.2 f hf

theorem All2.map_r {α β γ : Type} {R : α → γ → Prop} {f : β → γ} : ∀ {l : List α} {m : List β}, All2 (fun a b => R a (f b)) l m → All2 R l (m.map f)
  | _, _, .nil => .nil
  | _, _, .cons h1 h2 => .cons h1 h2.map_r

theorem open_any {G : Nat → TypeId → Bool} (hsp : ∀ (n : Nat) (t : TypeId) (m : Nat) (cs : List Value) (y : DataW H × List MemPlace), DataW.trod enc P w base spare held n t cs = some y → G m t = true → ∀ v ∈ cs, spotOk v) : ∀ (n : Nat) (t : TypeId) (m : Nat) (cs : List Value) (y : DataW H × List MemPlace), DataW.trod enc P w base spare held n t cs = some y → known P G m t = true → (∀ v ∈ cs, spotOk v) →
    ∃ xs, Sh P m t xs ∧ xs.length = cs.length ∧ All2 (PL.den (Va.reads w).ro) xs cs := by
  intro n
  induction n with
  | zero => intro t m cs y h; simp [DataW.trod] at h
  | succ n ih =>
    intro t m cs y h hk hv
    cases m with
    | zero => simp [known] at hk
    | succ m =>
      have hk0 := hk
      unfold known at hk
      split at hk <;> try (cases hk; done)
      · rename_i ht
        obtain ⟨b, rfl, _⟩ := DataW.trod_bool ht h
        exact ⟨[.b b], by unfold Sh; rw [ht]; exact ⟨b, rfl⟩, rfl, .cons (by rw [PL.den]) .nil⟩
      · rename_i ht
        obtain ⟨k, rfl, _, hwf⟩ := DataW.trod_int ht h
        simp only [Lit.wf, IntKind.min, IntKind.max, IntKind.signed, IntKind.bits, Bool.and_eq_true, decide_eq_true_eq, if_true] at hwf
        exact ⟨[.i k], by unfold Sh; rw [ht]; exact ⟨k, rfl, by omega, by omega⟩, rfl, .cons (by rw [PL.den]) .nil⟩
      · rename_i ht
        obtain ⟨k, rfl, _, hwf⟩ := DataW.trod_int ht h
        simp only [Lit.wf, IntKind.min, IntKind.max, IntKind.signed, IntKind.bits, Bool.and_eq_true, decide_eq_true_eq] at hwf
        exact ⟨[.u8 (UInt8.ofNat k.toNat)], by unfold Sh; rw [ht]; exact ⟨_, rfl⟩, rfl, .cons (by rw [PL.den]; congr 1; simp at hwf ⊢; omega) .nil⟩
      · rename_i ht
        obtain ⟨k, rfl, _, hwf⟩ := DataW.trod_int ht h
        simp only [Lit.wf, IntKind.min, IntKind.max, IntKind.signed, IntKind.bits, Bool.and_eq_true, decide_eq_true_eq] at hwf
        exact ⟨[.u32 (UInt32.ofNat k.toNat)], by unfold Sh; rw [ht]; exact ⟨_, rfl⟩, rfl, .cons (by rw [PL.den]; congr 1; simp at hwf ⊢; omega) .nil⟩
      · rename_i ht
        obtain ⟨k, rfl, _, hwf⟩ := DataW.trod_int ht h
        simp only [Lit.wf, IntKind.min, IntKind.max, IntKind.signed, IntKind.bits, Bool.and_eq_true, decide_eq_true_eq] at hwf
        exact ⟨[.u64 (UInt64.ofNat k.toNat)], by unfold Sh; rw [ht]; exact ⟨_, rfl⟩, rfl, .cons (by rw [PL.den]; congr 1; simp at hwf ⊢; omega) .nil⟩
      · rename_i ht
        obtain ⟨s, rfl, _, hs⟩ := DataW.trod_string ht h
        have hl : s.data.toList.length = s.size := Array.length_toList
        exact ⟨[.str s.data.toList], by unfold Sh; rw [ht]; exact ⟨_, rfl, by omega⟩, rfl, .cons (by rw [PL.den]; exact ⟨by simp, by omega⟩) .nil⟩
      · rename_i e ht
        simp only [Bool.and_eq_true, beq_iff_eq] at hk
        rcases DataW.trod_slice ht h with ⟨rfl, _⟩ | ⟨a, len, cap, elems, rest, n', hn, rfl, _, hb, hl, hm, hel, hi, _⟩
        · exact ⟨[.R false (P.cellsOf e) []], by unfold Sh; rw [ht]; exact ⟨[], rfl, fun r hr => (by cases hr), Nat.zero_le _⟩, rfl, .cons (by rw [PL.den]; exact .inl ⟨rfl, rfl⟩) .nil⟩
        · cases hn
          have hsa := hv _ (by simp) a len cap rfl
          obtain ⟨blk, off, sp⟩ := a
          simp only at hsa; subst hsa
          have each : ∀ i ∈ List.range len, ∃ r : List PL, Sh P m e r ∧ r.length = P.cellsOf e ∧ PL.denAt (Va.reads w).ro blk r (off + i * P.cellsOf e) := by
            intro i hi'
            have hlt : i < len := by simpa using hi'
            have h1 := hi i hlt
            have : i < elems.length := by omega
            rw [List.getElem?_eq_getElem this] at h1
            obtain ⟨cs', hc, ht'⟩ := Option.bind_eq_some_iff.mp h1
            obtain ⟨_, hcl, hcc⟩ := World.cells?_some hc
            have hcell : ∀ j v, cs'[j]? = some v → w.cell? ⟨blk, off + i * P.cellsOf e + j, none⟩ = some v := by
              intro j v hj
              have hj' : j < P.cellsOf e := by
                have := (List.getElem?_eq_some_iff.mp hj).1; omega
              have := hcc j hj'
              rw [hj] at this
              rw [← this]
              congr 1
              rw [addr_add, addr_add]
            obtain ⟨xs, hx1, hx2, hx3⟩ := ih e m cs' _ ht' hk.2.2 (hsp _ e m cs' _ ht' hk.2.1)
            exact ⟨xs, hx1, by omega, denAt_of hx3 fun j v hj => hcell j v hj⟩
          obtain ⟨rows, hrows⟩ := choose_list _ each
          have hlen : rows.length = len := by have := hrows.length; simpa using this.symm
          have hget : ∀ i r, rows[i]? = some r → Sh P m e r ∧ r.length = P.cellsOf e ∧ PL.denAt (Va.reads w).ro blk r (off + i * P.cellsOf e) := by
            intro i r hr
            obtain ⟨j, hj, hp⟩ := hrows.flip.get hr
            have hil : i < len := by
              have := (List.getElem?_eq_some_iff.mp hr).1; omega
            rw [List.getElem?_range hil] at hj
            cases hj; exact hp
          refine ⟨[.R false (P.cellsOf e) rows], ?_, rfl, .cons ?_ .nil⟩
          · unfold Sh; rw [ht]
            refine ⟨rows, rfl, fun r hr => ?_, by omega⟩
            obtain ⟨i, hi'⟩ := List.mem_iff_getElem?.mp hr
            exact ⟨(hget i r hi').1, (hget i r hi').2.1⟩
          · rw [PL.den]
            refine .inr ⟨blk, off, cap, by rw [hlen], by omega, hm, fun h => (by cases h), denRows_of (fun r hr => ?_) fun i r hr => (hget i r hr).2.2⟩
            obtain ⟨i, hi'⟩ := List.mem_iff_getElem?.mp hr
            exact (hget i r hi').2.1
      · rename_i fs ht
        simp only [Bool.and_eq_true, List.all_eq_true] at hk
        obtain ⟨xs, n', hn, _, hl, hxs, hf⟩ := DataW.trod_struct ht h
        cases hn
        have each : ∀ f ∈ fs.toList, ∃ r : List PL, (Sh P m f.type r ∧ r.length = P.cellsOf f.type) ∧ All2 (PL.den (Va.reads w).ro) r ((cs.drop f.offset).take (P.cellsOf f.type)) := by
          intro f hf'
          obtain ⟨i, hi⟩ := List.mem_iff_getElem?.mp hf'
          rw [Array.getElem?_toList] at hi
          have h1 := hf i f hi
          have hi2 : i < xs.length := by rw [hxs]; exact (Array.getElem?_eq_some_iff.mp hi).1
          rw [List.getElem?_eq_getElem hi2] at h1
          obtain ⟨ys, hy1, hy2, hy3⟩ := ih f.type m _ _ h1 (hk.2 f hf') (fun v hv' => hv v (List.mem_of_mem_drop (List.mem_of_mem_take hv')))
          have hle := tile_le _ _ hk.1 f hf'
          exact ⟨ys, ⟨hy1, by rw [hy2, take_len (by omega)]⟩, hy3⟩
        obtain ⟨ps, hps⟩ := choose_list _ each
        have hfl := tile_split cs hl fs.toList 0 hk.1
        rw [List.drop_zero] at hfl
        have hall : All2 (PL.den (Va.reads w).ro) ps.flatten cs := by
          rw [← hfl]
          refine all2_flatten (All2.map_r ?_)
          exact hps.flip.mono fun p f _ h => h.2
        exact ⟨ps.flatten, by unfold Sh; rw [ht]; exact ⟨ps, rfl, hps.mono fun f p _ h => h.1⟩, hall.length, hall⟩
      · rename_i k e ht
        simp only [Bool.and_eq_true, beq_iff_eq] at hk
        obtain ⟨n', hn, hl, hi⟩ := trod_array ht h
        cases hn
        have each : ∀ i ∈ List.range k, ∃ r : List PL, (Sh P m e r ∧ r.length = P.cellsOf e) ∧ All2 (PL.den (Va.reads w).ro) r ((cs.drop (i * P.cellsOf e)).take (P.cellsOf e)) := by
          intro i hi'
          have hlt : i < k := by simpa using hi'
          obtain ⟨y', hy'⟩ := hi i hlt
          obtain ⟨ys, hy1, hy2, hy3⟩ := ih e m _ _ hy' hk.2 (fun v hv' => hv v (List.mem_of_mem_drop (List.mem_of_mem_take hv')))
          have hle : i * P.cellsOf e + P.cellsOf e ≤ cs.length := by
            rw [hl, hk.1]
            have : (i + 1) * P.cellsOf e ≤ k * P.cellsOf e := Nat.mul_le_mul_right _ hlt
            rw [Nat.add_mul] at this; omega
          exact ⟨ys, ⟨hy1, by rw [hy2, take_len hle]⟩, hy3⟩
        obtain ⟨ps, hps⟩ := choose_list _ each
        have hfl := chunk_flatten (P.cellsOf e) k cs (by rw [hl, hk.1])
        have hall : All2 (PL.den (Va.reads w).ro) ps.flatten cs := by
          rw [← hfl]
          refine all2_flatten (All2.map_r ?_)
          exact hps.flip.mono fun p f _ h => h.2
        refine ⟨ps.flatten, ?_, hall.length, hall⟩
        unfold Sh; rw [ht]
        refine ⟨ps, rfl, by have := hps.length; simpa using this.symm, fun p hp => ?_⟩
        obtain ⟨i, hi'⟩ := List.mem_iff_getElem?.mp hp
        obtain ⟨j, _, hj⟩ := hps.flip.get hi'
        exact hj.1
end

section
variable {P : Program}
theorem sh_bool {n : Nat} {t : TypeId} {cs : List PL} (h : Sh P n t cs) (ht : P.underlying t = some .bool) : ∃ b, cs = [.b b] := by
  cases n with
  | zero => exact h.elim
  | succ n => unfold Sh at h; rw [ht] at h; exact h
theorem sh_i64 {n : Nat} {t : TypeId} {cs : List PL} (h : Sh P n t cs) (ht : P.underlying t = some (.int .i64)) : ∃ k : Int, cs = [.i k] ∧ -9223372036854775808 ≤ k ∧ k ≤ 9223372036854775807 := by
  cases n with
  | zero => exact h.elim
  | succ n => unfold Sh at h; rw [ht] at h; exact h
theorem sh_u64 {n : Nat} {t : TypeId} {cs : List PL} (h : Sh P n t cs) (ht : P.underlying t = some (.int .u64)) : ∃ x, cs = [.u64 x] := by
  cases n with
  | zero => exact h.elim
  | succ n => unfold Sh at h; rw [ht] at h; exact h
theorem sh_u32 {n : Nat} {t : TypeId} {cs : List PL} (h : Sh P n t cs) (ht : P.underlying t = some (.int .u32)) : ∃ x, cs = [.u32 x] := by
  cases n with
  | zero => exact h.elim
  | succ n => unfold Sh at h; rw [ht] at h; exact h
theorem sh_u8 {n : Nat} {t : TypeId} {cs : List PL} (h : Sh P n t cs) (ht : P.underlying t = some (.int .u8)) : ∃ x, cs = [.u8 x] := by
  cases n with
  | zero => exact h.elim
  | succ n => unfold Sh at h; rw [ht] at h; exact h
theorem sh_str {n : Nat} {t : TypeId} {cs : List PL} (h : Sh P n t cs) (ht : P.underlying t = some .string) : ∃ s, cs = [.str s] ∧ s.length ≤ maxLen := by
  cases n with
  | zero => exact h.elim
  | succ n => unfold Sh at h; rw [ht] at h; exact h
theorem sh_slice {n : Nat} {t e : TypeId} {cs : List PL} (h : Sh P n t cs) (ht : P.underlying t = some (.slice e)) : ∃ (rows : List (List PL)) (m : Nat), cs = [.R false (P.cellsOf e) rows] ∧ (∀ r ∈ rows, Sh P m e r) ∧ rows.length ≤ maxLen := by
  cases n with
  | zero => exact h.elim
  | succ n => unfold Sh at h; rw [ht] at h; obtain ⟨rows, h1, h2, h3⟩ := h; exact ⟨rows, n, h1, fun r hr => (h2 r hr).1, h3⟩
theorem sh_struct {n : Nat} {t : TypeId} {fs : Array Field} {cs : List PL} (h : Sh P n t cs) (ht : P.underlying t = some (.struct fs)) : ∃ (ps : List (List PL)) (m : Nat), cs = ps.flatten ∧ All2 (fun (f : Field) p => Sh P m f.type p) fs.toList ps := by
  cases n with
  | zero => exact h.elim
  | succ n => unfold Sh at h; rw [ht] at h; obtain ⟨ps, h1, h2⟩ := h; exact ⟨ps, n, h1, h2.mono fun f p _ h => h.1⟩
theorem sh_array {n k : Nat} {t e : TypeId} {cs : List PL} (h : Sh P n t cs) (ht : P.underlying t = some (.array k e)) : ∃ (ps : List (List PL)) (m : Nat), cs = ps.flatten ∧ ps.length = k ∧ ∀ p ∈ ps, Sh P m e p := by
  cases n with
  | zero => exact h.elim
  | succ n => unfold Sh at h; rw [ht] at h; obtain ⟨ps, h1, h2, h3⟩ := h; exact ⟨ps, n, h1, h2, fun p hp => (h3 p hp).1⟩
theorem flat_bytes {m : Nat} {e : TypeId} (he : P.underlying e = some (.int .u8)) : ∀ {ps : List (List PL)}, (∀ p ∈ ps, Sh P m e p) → ∃ l : List UInt8, l.length = ps.length ∧ ps = l.map fun x => [.u8 x]
  | [], _ => ⟨[], rfl, rfl⟩
  | p :: r, h => by
    obtain ⟨x, hx⟩ := sh_u8 (h p (by simp)) he
    obtain ⟨l, h1, h2⟩ := flat_bytes he (ps := r) fun q hq => h q (by simp [hq])
    exact ⟨x :: l, by simp [h1], by simp [hx, ← h2]⟩
theorem flatten_sing {α : Type} {f : α → PL} : ∀ l : List α, (l.map fun x => [f x]).flatten = l.map f
  | [] => rfl
  | x :: r => by simp [flatten_sing r]
theorem sh_bytes {n k : Nat} {t e : TypeId} {cs : List PL} (h : Sh P n t cs) (ht : P.underlying t = some (.array k e)) (he : P.underlying e = some (.int .u8)) : ∃ l : List UInt8, l.length = k ∧ cs = l.map .u8 := by
  obtain ⟨ps, m, rfl, hl, hp⟩ := sh_array h ht
  obtain ⟨l, h1, rfl⟩ := flat_bytes he hp
  exact ⟨l, by omega, flatten_sing l⟩
/-- a slice of bytes -/
theorem sh_byteSlice {n : Nat} {t e : TypeId} {cs : List PL} (h : Sh P n t cs) (ht : P.underlying t = some (.slice e)) (he : P.underlying e = some (.int .u8)) (hc : P.cellsOf e = 1) : ∃ l : List UInt8, cs = [.R false 1 (byteRows l)] ∧ l.length ≤ maxLen := by
  obtain ⟨rows, m, rfl, hp, hm⟩ := sh_slice h ht
  obtain ⟨l, h1, rfl⟩ := flat_bytes he hp
  exact ⟨l, by rw [hc]; rfl, by simpa using hm⟩
theorem den_pls {d : Va} : ∀ {xs : List PL} {vs : List Value}, All2 (PL.den d.ro) xs vs → All2 (L.den d) (pls xs) vs
  | _, _, .nil => .nil
  | _, _, .cons h1 h2 => .cons h1 (den_pls h2)
end

section
variable {H : Type} {enc : TypeId × Value → H} {P : Program} {w : World} {base : Nat} {spare : Nat → Bool} {held : Bool}
/-- types without slices -/
def flat0 (P : Program) : Nat → TypeId → Bool
  | 0, _ => false
  | n + 1, t => match P.underlying t with
    | some .bool | some (.int _) | some .string => true
    | some (.struct fs) => tileFs P fs.toList 0 (P.cellsOf t) && fs.toList.all fun f => flat0 P n f.type
    | some (.array m e) => P.cellsOf t == m * P.cellsOf e && flat0 P n e
    | _ => false

theorem trod_flat : ∀ (n : Nat) (t : TypeId) (m : Nat) (cs : List Value) (y : DataW H × List MemPlace), DataW.trod enc P w base spare held n t cs = some y → flat0 P m t = true → ∀ v ∈ cs, spotOk v := by
  intro n
  induction n with
  | zero => intro t m cs y h; simp [DataW.trod] at h
  | succ n ih =>
    intro t m cs y h hk
    cases m with
    | zero => simp [flat0] at hk
    | succ m =>
      unfold flat0 at hk
      split at hk <;> try (cases hk; done)
      · rename_i ht
        obtain ⟨b, rfl, _⟩ := DataW.trod_bool ht h
        intro v hv a len cap e; simp at hv; subst hv; cases e
      · rename_i k ht
        obtain ⟨b, rfl, _⟩ := DataW.trod_int ht h
        intro v hv a len cap e; simp at hv; subst hv; cases e
      · rename_i ht
        obtain ⟨b, rfl, _⟩ := DataW.trod_string ht h
        intro v hv a len cap e; simp at hv; subst hv; cases e
      · rename_i fs ht
        simp only [Bool.and_eq_true, List.all_eq_true] at hk
        obtain ⟨xs, n', hn, _, hl, hxs, hf⟩ := DataW.trod_struct ht h
        cases hn
        have hfl := tile_split cs hl fs.toList 0 hk.1
        rw [List.drop_zero] at hfl
        intro v hv
        rw [← hfl] at hv
        obtain ⟨p, hp, hv⟩ := List.mem_flatten.mp hv
        obtain ⟨f, hf', rfl⟩ := List.mem_map.mp hp
        obtain ⟨i, hi⟩ := List.mem_iff_getElem?.mp hf'
        rw [Array.getElem?_toList] at hi
        have h1 := hf i f hi
        have hi2 : i < xs.length := by rw [hxs]; exact (Array.getElem?_eq_some_iff.mp hi).1
        rw [List.getElem?_eq_getElem hi2] at h1
        exact ih f.type m _ _ h1 (hk.2 f hf') v hv
      · rename_i k e ht
        simp only [Bool.and_eq_true, beq_iff_eq] at hk
        obtain ⟨n', hn, hl, hi⟩ := trod_array ht h
        cases hn
        have hfl := chunk_flatten (P.cellsOf e) k cs (by rw [hl, hk.1])
        intro v hv
        rw [← hfl] at hv
        obtain ⟨p, hp, hv⟩ := List.mem_flatten.mp hv
        obtain ⟨i, hi', rfl⟩ := List.mem_map.mp hp
        obtain ⟨y', hy'⟩ := hi i (by simpa using hi')
        exact ih e m _ _ hy' hk.2 v hv

/-- an argument: its cells, and what stands in them -/
theorem open_arg {sz : Nat} {t : TypeId} {v : Value} {d : DataW H} {p : List MemPlace} {b0 : Nat} (m : Nat) (hv : Value.okWide P w .any b0 t v) (hk : known P (flat0 P) m t = true) (hs : P.cellsOf t = sz) (hts : (match P.underlying t with
      | some (.struct _) | some (.array _ _) => (match P.cellTypes P.depth t with
        | some ts => ts.length == sz && sz != 0 && ts.all fun u => match P.underlying u with
          | some (.slice _) | some .bool | some (.int _) | some .string => true
          | _ => false
        | none => false)
      | some (.slice _) | some .bool | some (.int _) | some .string => true
      | _ => false) = true) (h : DataW.Trod enc P w base spare held t v d p) :
    ∃ xs : List PL, Sh P m t xs ∧ (V.w (match P.underlying t with
      | some (.struct _) | some (.array _ _) => .agg (pls xs)
      | _ => .one (.pl (xs.headD .u)))).den (Va.reads w) v := by
  obtain ⟨fuel, hf⟩ := h
  have hcell : ∀ (u : TypeId) (c : Value), Cell.okWide P w .any b0 u c → (match P.underlying u with
          | some (.slice _) | some .bool | some (.int _) | some .string => true
          | _ => false) = true → spotOk c := by
    intro u c hc hu a len cap e
    subst e
    unfold Cell.okWide at hc
    cases hund : P.underlying u with
    | none => rw [hund] at hu; cases hu
    | some d =>
      rw [hund] at hc hu
      cases d <;> first
        | (cases hu; done)
        | (simp only [Cell.ok, hund] at hc; done)
        | (simp only [Cell.ok, hund] at hc; exact hc.2.2.2.1)
  have hspot : ∀ c ∈ v.cells.toList, spotOk c := by
    unfold Value.okWide at hv
    split at hv
    · rename_i fs ht
      obtain ⟨cs, rfl, hcs, ts, hct, _, hcc⟩ := hv
      rw [ht, hct] at hts
      simp only [Bool.and_eq_true, beq_iff_eq, List.all_eq_true] at hts
      intro c hc
      obtain ⟨i, hi⟩ := List.mem_iff_getElem?.mp hc
      have hi' : cs[i]? = some c := by rw [← Array.getElem?_toList]; exact hi
      obtain ⟨u, hu, hok⟩ := hcc i c hi'
      exact hcell u c hok (hts.2 u (List.mem_of_getElem? hu))
    · rename_i k e ht
      obtain ⟨cs, rfl, hcs, ts, hct, _, hcc⟩ := hv
      rw [ht, hct] at hts
      simp only [Bool.and_eq_true, beq_iff_eq, List.all_eq_true] at hts
      intro c hc
      obtain ⟨i, hi⟩ := List.mem_iff_getElem?.mp hc
      have hi' : cs[i]? = some c := by rw [← Array.getElem?_toList]; exact hi
      obtain ⟨u, hu, hok⟩ := hcc i c hi'
      exact hcell u c hok (hts.2 u (List.mem_of_getElem? hu))
    · rename_i hn1 hn2
      have hq : (match P.underlying t with
          | some (.slice _) | some .bool | some (.int _) | some .string => true
          | _ => false) = true := by
        split at hts
        · rename_i fs ht; exact absurd ht (hn1 fs)
        · rename_i k e ht; exact absurd ht (hn2 k e)
        all_goals simp_all
      intro c hc
      have hone : v.cells = #[v] := by
        cases v <;> first | rfl | (exfalso; unfold Cell.okWide at hv; cases hu : P.underlying t with
          | none => rw [hu] at hq; cases hq
          | some d => rw [hu] at hv hq; cases d <;> first | (cases hq; done) | (simp [Cell.ok, hu] at hv))
      rw [hone] at hc
      simp at hc; subst hc
      exact hcell t c hv hq
  obtain ⟨xs, h1, h2, h3⟩ := open_any (fun n t m cs y h1 h2 => trod_flat n t m cs y h1 h2) fuel t m _ _ hf hk hspot
  refine ⟨xs, h1, ?_⟩
  have hd := den_pls (d := Va.reads w) h3
  unfold Value.okWide at hv
  split at hv
  · rename_i fs ht
    obtain ⟨cs, rfl, _⟩ := hv
    rw [ht]
    exact ⟨cs, rfl, hd⟩
  · rename_i k e ht
    obtain ⟨cs, rfl, _⟩ := hv
    rw [ht]
    exact ⟨cs, rfl, hd⟩
  · rename_i hn1 hn2
    have hq : (match P.underlying t with
          | some (.slice _) | some .bool | some (.int _) | some .string => true
          | _ => false) = true := by
      split at hts
      · rename_i fs ht; exact absurd ht (hn1 fs)
      · rename_i k e ht; exact absurd ht (hn2 k e)
      all_goals simp_all
    have hone : v.cells = #[v] := by
      cases v <;> first | rfl | (exfalso; unfold Cell.okWide at hv; cases hu : P.underlying t with
          | none => rw [hu] at hq; cases hq
          | some d => rw [hu] at hv hq; cases d <;> first | (cases hq; done) | (simp [Cell.ok, hu] at hv))
    rw [hone] at hd
    have : ∃ x, xs = [x] ∧ L.den (Va.reads w) (.pl x) v := by
      cases xs with
      | nil => cases hd
      | cons x r =>
        cases hd with
        | cons g1 g2 =>
          cases r with
          | nil => exact ⟨x, rfl, g1⟩
          | cons _ _ => cases g2
    obtain ⟨x, rfl, hx⟩ := this
    split
    · rename_i fs ht; exact absurd ht (hn1 fs)
    · rename_i k e ht; exact absurd ht (hn2 k e)
    · exact hx
end
end Go.Sy
