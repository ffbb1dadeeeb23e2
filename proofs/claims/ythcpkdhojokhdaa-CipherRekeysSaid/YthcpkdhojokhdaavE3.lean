/- The layer that reckons a function out, part 3 of 3: what it says of states, operations, regions, loops, calls. CONDITIONS: those that each theorem names. -/
import Derived.Test.YthcpkdhojokhdaavE2
import Derived.ChangeSlices
import Derived.Lib.SmallJoins
import Derived.Handed
set_option linter.unusedVariables false
set_option linter.unusedSimpArgs false
namespace Go.Sy
open Go.RowKit Go.WideShapes Go.ChangeShapes Go.ChangeAt

def Sh (P : Program) : Nat → TypeId → List PL → Prop
  | 0, _, _ => False
  | n + 1, t, cs => match P.underlying t with
    | some .bool => ∃ b, cs = [.b b]
    | some (.int .i64) => ∃ k : Int, cs = [.i k] ∧ -9223372036854775808 ≤ k ∧ k ≤ 9223372036854775807
    | some (.int .u8) => ∃ x, cs = [.u8 x]
    | some (.int .u32) => ∃ x, cs = [.u32 x]
    | some (.int .u64) => ∃ x, cs = [.u64 x]
    | some .string => ∃ s, cs = [.str s] ∧ s.length ≤ maxLen
    | some (.slice e) => ∃ rows, cs = [.R false (P.cellsOf e) rows] ∧ (∀ r ∈ rows, Sh P n e r ∧ r.length = P.cellsOf e) ∧ rows.length ≤ maxLen
    | some (.struct fs) => ∃ ps : List (List PL), cs = ps.flatten ∧ All2 (fun (f : Field) p => Sh P n f.type p ∧ p.length = P.cellsOf f.type) fs.toList ps
    | some (.array m e) => ∃ ps : List (List PL), cs = ps.flatten ∧ ps.length = m ∧ ∀ p ∈ ps, Sh P n e p ∧ p.length = P.cellsOf e
    | _ => False

def Va.reads (w : World) : Va := ⟨fun k => k - gl0, fun _ => 0, fun b o => w.cell? ⟨b, o, none⟩⟩

def tileFs (P : Program) : List Field → Nat → Nat → Bool
  | [], off, n => off == n
  | f :: fs, off, n => f.offset == off && tileFs P fs (off + P.cellsOf f.type) n
def known (P : Program) (G : Nat → TypeId → Bool) : Nat → TypeId → Bool
  | 0, _ => false
  | n + 1, t => match P.underlying t with
    | some .bool | some (.int .i64) | some (.int .u8) | some (.int .u32) | some (.int .u64) | some .string => P.cellsOf t == 1
    | some (.slice e) => P.cellsOf t == 1 && (G n e && known P G n e)
    | some (.struct fs) => tileFs P fs.toList 0 (P.cellsOf t) && fs.toList.all fun f => known P G n f.type
    | some (.array m e) => P.cellsOf t == m * P.cellsOf e && known P G n e
    | _ => false

section
variable {H : Type} {enc : TypeId × Value → H} {P : Program} {w : World} {base : Nat} {spare : Nat → Bool} {held : Bool}

theorem trod_array {m : Nat} {t e : TypeId} {fuel : Nat} {cs : List Value} {x : DataW H × List MemPlace} (ht : P.underlying t = some (.array m e)) (h : DataW.trod enc P w base spare held fuel t cs = some x) :
    ∃ n, fuel = n + 1 ∧ cs.length = P.cellsOf t ∧ ∀ i, i < m → ∃ y, DataW.trod enc P w base spare held n e ((cs.drop (i * P.cellsOf e)).take (P.cellsOf e)) = some y := by
  cases fuel with
  | zero => simp [DataW.trod] at h
  | succ n =>
    unfold DataW.trod at h
    rw [ht] at h
    simp only at h
    split at h <;> try (simp at h; done)
    rename_i hl
    refine ⟨n, rfl, hl, fun i hi => ?_⟩
    obtain ⟨xs, hx, _⟩ := Option.map_eq_some_iff.mp h
    have : ∀ (l : List Nat) (ys : List (DataW H × List MemPlace)), l.mapM (fun i => DataW.trod enc P w base spare held n e ((cs.drop (i * P.cellsOf e)).take (P.cellsOf e))) = some ys → ∀ i ∈ l, ∃ y, DataW.trod enc P w base spare held n e ((cs.drop (i * P.cellsOf e)).take (P.cellsOf e)) = some y := by
      intro l
      induction l with
      | nil => intro _ _ i hi; cases hi
      | cons a r ih =>
        intro ys hy i hi
        rw [List.mapM_cons] at hy
        cases ha : DataW.trod enc P w base spare held n e ((cs.drop (a * P.cellsOf e)).take (P.cellsOf e)) with
        | none => rw [ha] at hy; simp at hy
        | some y =>
          rw [ha] at hy
          rcases List.mem_cons.mp hi with rfl | hi
          · exact ⟨y, ha⟩
          · cases hr : r.mapM (fun i => DataW.trod enc P w base spare held n e ((cs.drop (i * P.cellsOf e)).take (P.cellsOf e))) with
            | none => rw [hr] at hy; simp at hy
            | some zs => exact ih zs hr i hi
    exact this _ _ hx i (by simpa using hi)

def spotOk (v : Value) : Prop := ∀ a len cap, v = .slice (some a) len cap → a.spot = none

theorem denAt_of {ro : Ro} {blk : Nat} : ∀ {c : List PL} {vals : List Value} {off : Nat}, All2 (PL.den ro) c vals → (∀ j v, vals[j]? = some v → ro blk (off + j) = some v) → PL.denAt ro blk c off
  | [], _, _, _, _ => by rw [PL.denAt]; trivial
  | x :: c, vals, off, h, hc => by
    cases h with
    | cons h1 h2 =>
      rename_i y m
      rw [PL.denAt]
      refine ⟨⟨y, by simpa using hc 0 y rfl, h1⟩, denAt_of h2 fun j v hv => ?_⟩
      have := hc (j + 1) v (by simpa using hv)
      rwa [show off + (j + 1) = off + 1 + j from by omega] at this

theorem denRows_of {ro : Ro} {blk sz : Nat} : ∀ {rows : List (List PL)} {off : Nat}, (∀ r ∈ rows, r.length = sz) → (∀ i r, rows[i]? = some r → PL.denAt ro blk r (off + i * sz)) → PL.denRows ro blk sz rows off
  | [], _, _, _ => by rw [PL.denRows]; trivial
  | r :: rs, off, hl, h => by
    rw [PL.denRows]
    refine ⟨hl r (by simp), by simpa using h 0 r rfl, denRows_of (fun r hr => hl r (by simp [hr])) fun i r' hr => ?_⟩
    have := h (i + 1) r' (by simpa using hr)
    rwa [show off + (i + 1) * sz = off + sz + i * sz from by rw [Nat.add_mul]; omega] at this

theorem all2_flatten {ro : Ro} : ∀ {ps : List (List PL)} {vs : List (List Value)}, All2 (fun p v => All2 (PL.den ro) p v) ps vs → All2 (PL.den ro) ps.flatten vs.flatten
  | _, _, .nil => .nil
  | _, _, .cons h1 h2 => by simpa using h1.append (all2_flatten h2)

theorem choose_list {α β : Type} {p : α → β → Prop} : ∀ (l : List α), (∀ x ∈ l, ∃ y, p x y) → ∃ ys : List β, All2 p l ys
  | [], _ => ⟨[], .nil⟩
  | x :: r, h => by
    obtain ⟨y, hy⟩ := h x (by simp)
    obtain ⟨ys, hys⟩ := choose_list r fun z hz => h z (by simp [hz])
    exact ⟨y :: ys, .cons hy hys⟩

theorem All2.flip {α β : Type} {R : α → β → Prop} : ∀ {l : List α} {m : List β}, All2 R l m → All2 (fun b a => R a b) m l
  | _, _, .nil => .nil
  | _, _, .cons h1 h2 => .cons h1 h2.flip

theorem chunk_flatten {α : Type} (sz : Nat) : ∀ (m : Nat) (cs : List α), cs.length = m * sz → ((List.range m).map fun i => (cs.drop (i * sz)).take sz).flatten = cs
  | 0, cs, h => by simp at h; simp [h]
  | m + 1, cs, h => by
    rw [List.range_succ_eq_map, List.map_cons, List.flatten_cons, List.map_map]
    have h2 : (cs.drop sz).length = m * sz := by rw [List.length_drop, h, Nat.add_mul]; omega
    have ih := chunk_flatten sz m (cs.drop sz) h2
    have e : (List.range m).map ((fun i => (cs.drop (i * sz)).take sz) ∘ Nat.succ) = (List.range m).map fun i => ((cs.drop sz).drop (i * sz)).take sz := by
      refine List.map_congr_left fun i _ => ?_
      simp only [Function.comp_def, List.drop_drop]
      congr 2
      rw [Nat.succ_mul]; omega
    rw [e, ih]; simp

theorem tile_split {n : Nat} (cs : List Value) (hl : cs.length = n) : ∀ (fs : List Field) (off : Nat), tileFs P fs off n = true → (fs.map fun f => (cs.drop f.offset).take (P.cellsOf f.type)).flatten = cs.drop off
  | [], off, h => by
    simp only [tileFs, beq_iff_eq] at h
    subst h; subst hl; simp
  | f :: fs, off, h => by
    simp only [tileFs, Bool.and_eq_true, beq_iff_eq] at h
    obtain ⟨h1, h2⟩ := h
    rw [List.map_cons, List.flatten_cons, tile_split cs hl fs _ h2, h1, ← List.drop_drop, List.take_append_drop]

theorem take_len {α : Type} {cs : List α} {a b : Nat} (h : a + b ≤ cs.length) : ((cs.drop a).take b).length = b := by simp; omega

theorem tile_le {n : Nat} : ∀ (fs : List Field) (off : Nat), tileFs P fs off n = true → ∀ f ∈ fs, f.offset + P.cellsOf f.type ≤ n
  | [], _, _, f, hf => by cases hf
  | g :: fs, off, h, f, hf => by
    simp only [tileFs, Bool.and_eq_true, beq_iff_eq] at h
    have hge : ∀ (fs : List Field) (off : Nat), tileFs P fs off n = true → off ≤ n := by
      intro fs
      induction fs with
      | nil => intro off h; simp only [tileFs, beq_iff_eq] at h; omega
      | cons g fs ih => intro off h; simp only [tileFs, Bool.and_eq_true, beq_iff_eq] at h; have := ih _ h.2; omega
    rcases List.mem_cons.mp hf with rfl | hf
    · have := hge _ _ h.2; omega
    · exact tile_le fs _ h.2 f hf

theorem All2.map_r {α β γ : Type} {R : α → γ → Prop} {f : β → γ} : ∀ {l : List α} {m : List β}, All2 (fun a b => R a (f b)) l m → All2 R l (m.map f)
  | _, _, .nil => .nil
  | _, _, .cons h1 h2 => .cons h1 h2.map_r

theorem open_any {G : Nat → TypeId → Bool} (hsp : ∀ (n : Nat) (t : TypeId) (m : Nat) (cs : List Value) (y : DataW H × List MemPlace), DataW.trod enc P w base spare held n t cs = some y → G m t = true → ∀ v ∈ cs, spotOk v) : ∀ (n : Nat) (t : TypeId) (m : Nat) (cs : List Value) (y : DataW H × List MemPlace), DataW.trod enc P w base spare held n t cs = some y → known P G m t = true → (∀ v ∈ cs, spotOk v) →
    ∃ xs, Sh P m t xs ∧ xs.length = cs.length ∧ All2 (PL.den (Va.reads w).ro) xs cs := by
  intro n
  induction n with
  | zero => intro t m cs y h; simp [DataW.trod] at h
  | succ n ih =>
    intro t m cs y h hk hv
    cases m with
    | zero => simp [known] at hk
    | succ m =>
      have hk0 := hk
      unfold known at hk
      split at hk <;> try (cases hk; done)
      · rename_i ht
        obtain ⟨b, rfl, _⟩ := DataW.trod_bool ht h
        exact ⟨[.b b], by unfold Sh; rw [ht]; exact ⟨b, rfl⟩, rfl, .cons (by rw [PL.den]) .nil⟩
      · rename_i ht
        obtain ⟨k, rfl, _, hwf⟩ := DataW.trod_int ht h
        simp only [Lit.wf, IntKind.min, IntKind.max, IntKind.signed, IntKind.bits, Bool.and_eq_true, decide_eq_true_eq, if_true] at hwf
        exact ⟨[.i k], by unfold Sh; rw [ht]; exact ⟨k, rfl, by omega, by omega⟩, rfl, .cons (by rw [PL.den]) .nil⟩
      · rename_i ht
        obtain ⟨k, rfl, _, hwf⟩ := DataW.trod_int ht h
        simp only [Lit.wf, IntKind.min, IntKind.max, IntKind.signed, IntKind.bits, Bool.and_eq_true, decide_eq_true_eq] at hwf
        exact ⟨[.u8 (UInt8.ofNat k.toNat)], by unfold Sh; rw [ht]; exact ⟨_, rfl⟩, rfl, .cons (by rw [PL.den]; congr 1; simp at hwf ⊢; omega) .nil⟩
      · rename_i ht
        obtain ⟨k, rfl, _, hwf⟩ := DataW.trod_int ht h
        simp only [Lit.wf, IntKind.min, IntKind.max, IntKind.signed, IntKind.bits, Bool.and_eq_true, decide_eq_true_eq] at hwf
        exact ⟨[.u32 (UInt32.ofNat k.toNat)], by unfold Sh; rw [ht]; exact ⟨_, rfl⟩, rfl, .cons (by rw [PL.den]; congr 1; simp at hwf ⊢; omega) .nil⟩
      · rename_i ht
        obtain ⟨k, rfl, _, hwf⟩ := DataW.trod_int ht h
        simp only [Lit.wf, IntKind.min, IntKind.max, IntKind.signed, IntKind.bits, Bool.and_eq_true, decide_eq_true_eq] at hwf
        exact ⟨[.u64 (UInt64.ofNat k.toNat)], by unfold Sh; rw [ht]; exact ⟨_, rfl⟩, rfl, .cons (by rw [PL.den]; congr 1; simp at hwf ⊢; omega) .nil⟩
      · rename_i ht
        obtain ⟨s, rfl, _, hs⟩ := DataW.trod_string ht h
        have hl : s.data.toList.length = s.size := Array.length_toList
        exact ⟨[.str s.data.toList], by unfold Sh; rw [ht]; exact ⟨_, rfl, by omega⟩, rfl, .cons (by rw [PL.den]; exact ⟨by simp, by omega⟩) .nil⟩
      · rename_i e ht
        simp only [Bool.and_eq_true, beq_iff_eq] at hk
        rcases DataW.trod_slice ht h with ⟨rfl, _⟩ | ⟨a, len, cap, elems, rest, n', hn, rfl, _, hb, hl, hm, hel, hi, _⟩
        · exact ⟨[.R false (P.cellsOf e) []], by unfold Sh; rw [ht]; exact ⟨[], rfl, fun r hr => (by cases hr), Nat.zero_le _⟩, rfl, .cons (by rw [PL.den]; exact .inl ⟨rfl, rfl⟩) .nil⟩
        · cases hn
          have hsa := hv _ (by simp) a len cap rfl
          obtain ⟨blk, off, sp⟩ := a
          simp only at hsa; subst hsa
          have each : ∀ i ∈ List.range len, ∃ r : List PL, Sh P m e r ∧ r.length = P.cellsOf e ∧ PL.denAt (Va.reads w).ro blk r (off + i * P.cellsOf e) := by
            intro i hi'
            have hlt : i < len := by simpa using hi'
            have h1 := hi i hlt
            have : i < elems.length := by omega
            rw [List.getElem?_eq_getElem this] at h1
            obtain ⟨cs', hc, ht'⟩ := Option.bind_eq_some_iff.mp h1
            obtain ⟨_, hcl, hcc⟩ := World.cells?_some hc
            have hcell : ∀ j v, cs'[j]? = some v → w.cell? ⟨blk, off + i * P.cellsOf e + j, none⟩ = some v := by
              intro j v hj
              have hj' : j < P.cellsOf e := by
                have := (List.getElem?_eq_some_iff.mp hj).1; omega
              have := hcc j hj'
              rw [hj] at this
              rw [← this]
              congr 1
              rw [addr_add, addr_add]
            obtain ⟨xs, hx1, hx2, hx3⟩ := ih e m cs' _ ht' hk.2.2 (hsp _ e m cs' _ ht' hk.2.1)
            exact ⟨xs, hx1, by omega, denAt_of hx3 fun j v hj => hcell j v hj⟩
          obtain ⟨rows, hrows⟩ := choose_list _ each
          have hlen : rows.length = len := by have := hrows.length; simpa using this.symm
          have hget : ∀ i r, rows[i]? = some r → Sh P m e r ∧ r.length = P.cellsOf e ∧ PL.denAt (Va.reads w).ro blk r (off + i * P.cellsOf e) := by
            intro i r hr
            obtain ⟨j, hj, hp⟩ := hrows.flip.get hr
            have hil : i < len := by
              have := (List.getElem?_eq_some_iff.mp hr).1; omega
            rw [List.getElem?_range hil] at hj
            cases hj; exact hp
          refine ⟨[.R false (P.cellsOf e) rows], ?_, rfl, .cons ?_ .nil⟩
          · unfold Sh; rw [ht]
            refine ⟨rows, rfl, fun r hr => ?_, by omega⟩
            obtain ⟨i, hi'⟩ := List.mem_iff_getElem?.mp hr
            exact ⟨(hget i r hi').1, (hget i r hi').2.1⟩
          · rw [PL.den]
            refine .inr ⟨blk, off, cap, by rw [hlen], by omega, hm, fun h => (by cases h), denRows_of (fun r hr => ?_) fun i r hr => (hget i r hr).2.2⟩
            obtain ⟨i, hi'⟩ := List.mem_iff_getElem?.mp hr
            exact (hget i r hi').2.1
      · rename_i fs ht
        simp only [Bool.and_eq_true, List.all_eq_true] at hk
        obtain ⟨xs, n', hn, _, hl, hxs, hf⟩ := DataW.trod_struct ht h
        cases hn
        have each : ∀ f ∈ fs.toList, ∃ r : List PL, (Sh P m f.type r ∧ r.length = P.cellsOf f.type) ∧ All2 (PL.den (Va.reads w).ro) r ((cs.drop f.offset).take (P.cellsOf f.type)) := by
          intro f hf'
          obtain ⟨i, hi⟩ := List.mem_iff_getElem?.mp hf'
          rw [Array.getElem?_toList] at hi
          have h1 := hf i f hi
          have hi2 : i < xs.length := by rw [hxs]; exact (Array.getElem?_eq_some_iff.mp hi).1
          rw [List.getElem?_eq_getElem hi2] at h1
          obtain ⟨ys, hy1, hy2, hy3⟩ := ih f.type m _ _ h1 (hk.2 f hf') (fun v hv' => hv v (List.mem_of_mem_drop (List.mem_of_mem_take hv')))
          have hle := tile_le _ _ hk.1 f hf'
          exact ⟨ys, ⟨hy1, by rw [hy2, take_len (by omega)]⟩, hy3⟩
        obtain ⟨ps, hps⟩ := choose_list _ each
        have hfl := tile_split cs hl fs.toList 0 hk.1
        rw [List.drop_zero] at hfl
        have hall : All2 (PL.den (Va.reads w).ro) ps.flatten cs := by
          rw [← hfl]
          refine all2_flatten (All2.map_r ?_)
          exact hps.flip.mono fun p f _ h => h.2
        exact ⟨ps.flatten, by unfold Sh; rw [ht]; exact ⟨ps, rfl, hps.mono fun f p _ h => h.1⟩, hall.length, hall⟩
      · rename_i k e ht
        simp only [Bool.and_eq_true, beq_iff_eq] at hk
        obtain ⟨n', hn, hl, hi⟩ := trod_array ht h
        cases hn
        have each : ∀ i ∈ List.range k, ∃ r : List PL, (Sh P m e r ∧ r.length = P.cellsOf e) ∧ All2 (PL.den (Va.reads w).ro) r ((cs.drop (i * P.cellsOf e)).take (P.cellsOf e)) := by
          intro i hi'
          have hlt : i < k := by simpa using hi'
          obtain ⟨y', hy'⟩ := hi i hlt
          obtain ⟨ys, hy1, hy2, hy3⟩ := ih e m _ _ hy' hk.2 (fun v hv' => hv v (List.mem_of_mem_drop (List.mem_of_mem_take hv')))
          have hle : i * P.cellsOf e + P.cellsOf e ≤ cs.length := by
            rw [hl, hk.1]
            have : (i + 1) * P.cellsOf e ≤ k * P.cellsOf e := Nat.mul_le_mul_right _ hlt
            rw [Nat.add_mul] at this; omega
          exact ⟨ys, ⟨hy1, by rw [hy2, take_len hle]⟩, hy3⟩
        obtain ⟨ps, hps⟩ := choose_list _ each
        have hfl := chunk_flatten (P.cellsOf e) k cs (by rw [hl, hk.1])
        have hall : All2 (PL.den (Va.reads w).ro) ps.flatten cs := by
          rw [← hfl]
          refine all2_flatten (All2.map_r ?_)
          exact hps.flip.mono fun p f _ h => h.2
        refine ⟨ps.flatten, ?_, hall.length, hall⟩
        unfold Sh; rw [ht]
        refine ⟨ps, rfl, by have := hps.length; simpa using this.symm, fun p hp => ?_⟩
        obtain ⟨i, hi'⟩ := List.mem_iff_getElem?.mp hp
        obtain ⟨j, _, hj⟩ := hps.flip.get hi'
        exact hj.1
end

section
variable {P : Program}
theorem sh_bool {n : Nat} {t : TypeId} {cs : List PL} (h : Sh P n t cs) (ht : P.underlying t = some .bool) : ∃ b, cs = [.b b] := by
  cases n with
  | zero => exact h.elim
  | succ n => unfold Sh at h; rw [ht] at h; exact h
theorem sh_u64 {n : Nat} {t : TypeId} {cs : List PL} (h : Sh P n t cs) (ht : P.underlying t = some (.int .u64)) : ∃ x, cs = [.u64 x] := by
  cases n with
  | zero => exact h.elim
  | succ n => unfold Sh at h; rw [ht] at h; exact h
theorem sh_u8 {n : Nat} {t : TypeId} {cs : List PL} (h : Sh P n t cs) (ht : P.underlying t = some (.int .u8)) : ∃ x, cs = [.u8 x] := by
  cases n with
  | zero => exact h.elim
  | succ n => unfold Sh at h; rw [ht] at h; exact h
theorem sh_slice {n : Nat} {t e : TypeId} {cs : List PL} (h : Sh P n t cs) (ht : P.underlying t = some (.slice e)) : ∃ (rows : List (List PL)) (m : Nat), cs = [.R false (P.cellsOf e) rows] ∧ (∀ r ∈ rows, Sh P m e r) ∧ rows.length ≤ maxLen := by
  cases n with
  | zero => exact h.elim
  | succ n => unfold Sh at h; rw [ht] at h; obtain ⟨rows, h1, h2, h3⟩ := h; exact ⟨rows, n, h1, fun r hr => (h2 r hr).1, h3⟩
theorem sh_struct {n : Nat} {t : TypeId} {fs : Array Field} {cs : List PL} (h : Sh P n t cs) (ht : P.underlying t = some (.struct fs)) : ∃ (ps : List (List PL)) (m : Nat), cs = ps.flatten ∧ All2 (fun (f : Field) p => Sh P m f.type p) fs.toList ps := by
  cases n with
  | zero => exact h.elim
  | succ n => unfold Sh at h; rw [ht] at h; obtain ⟨ps, h1, h2⟩ := h; exact ⟨ps, n, h1, h2.mono fun f p _ h => h.1⟩
theorem sh_array {n k : Nat} {t e : TypeId} {cs : List PL} (h : Sh P n t cs) (ht : P.underlying t = some (.array k e)) : ∃ (ps : List (List PL)) (m : Nat), cs = ps.flatten ∧ ps.length = k ∧ ∀ p ∈ ps, Sh P m e p := by
  cases n with
  | zero => exact h.elim
  | succ n => unfold Sh at h; rw [ht] at h; obtain ⟨ps, h1, h2, h3⟩ := h; exact ⟨ps, n, h1, h2, fun p hp => (h3 p hp).1⟩
theorem flat_bytes {m : Nat} {e : TypeId} (he : P.underlying e = some (.int .u8)) : ∀ {ps : List (List PL)}, (∀ p ∈ ps, Sh P m e p) → ∃ l : List UInt8, l.length = ps.length ∧ ps = l.map fun x => [.u8 x]
  | [], _ => ⟨[], rfl, rfl⟩
  | p :: r, h => by
    obtain ⟨x, hx⟩ := sh_u8 (h p (by simp)) he
    obtain ⟨l, h1, h2⟩ := flat_bytes he (ps := r) fun q hq => h q (by simp [hq])
    exact ⟨x :: l, by simp [h1], by simp [hx, ← h2]⟩
theorem flatten_sing {α : Type} {f : α → PL} : ∀ l : List α, (l.map fun x => [f x]).flatten = l.map f
  | [] => rfl
  | x :: r => by simp [flatten_sing r]
theorem sh_bytes {n k : Nat} {t e : TypeId} {cs : List PL} (h : Sh P n t cs) (ht : P.underlying t = some (.array k e)) (he : P.underlying e = some (.int .u8)) : ∃ l : List UInt8, l.length = k ∧ cs = l.map .u8 := by
  obtain ⟨ps, m, rfl, hl, hp⟩ := sh_array h ht
  obtain ⟨l, h1, rfl⟩ := flat_bytes he hp
  exact ⟨l, by omega, flatten_sing l⟩
theorem sh_byteSlice {n : Nat} {t e : TypeId} {cs : List PL} (h : Sh P n t cs) (ht : P.underlying t = some (.slice e)) (he : P.underlying e = some (.int .u8)) (hc : P.cellsOf e = 1) : ∃ l : List UInt8, cs = [.R false 1 (byteRows l)] ∧ l.length ≤ maxLen := by
  obtain ⟨rows, m, rfl, hp, hm⟩ := sh_slice h ht
  obtain ⟨l, h1, rfl⟩ := flat_bytes he hp
  exact ⟨l, by rw [hc]; rfl, by simpa using hm⟩
theorem den_pls {d : Va} : ∀ {xs : List PL} {vs : List Value}, All2 (PL.den d.ro) xs vs → All2 (L.den d) (pls xs) vs
  | _, _, .nil => .nil
  | _, _, .cons h1 h2 => .cons h1 (den_pls h2)
end

section
variable {H : Type} {enc : TypeId × Value → H} {P : Program} {w : World} {base : Nat} {spare : Nat → Bool} {held : Bool}
def flat0 (P : Program) : Nat → TypeId → Bool
  | 0, _ => false
  | n + 1, t => match P.underlying t with
    | some .bool | some (.int _) | some .string => true
    | some (.struct fs) => tileFs P fs.toList 0 (P.cellsOf t) && fs.toList.all fun f => flat0 P n f.type
    | some (.array m e) => P.cellsOf t == m * P.cellsOf e && flat0 P n e
    | _ => false

theorem trod_flat : ∀ (n : Nat) (t : TypeId) (m : Nat) (cs : List Value) (y : DataW H × List MemPlace), DataW.trod enc P w base spare held n t cs = some y → flat0 P m t = true → ∀ v ∈ cs, spotOk v := by
  intro n
  induction n with
  | zero => intro t m cs y h; simp [DataW.trod] at h
  | succ n ih =>
    intro t m cs y h hk
    cases m with
    | zero => simp [flat0] at hk
    | succ m =>
      unfold flat0 at hk
      split at hk <;> try (cases hk; done)
      · rename_i ht
        obtain ⟨b, rfl, _⟩ := DataW.trod_bool ht h
        intro v hv a len cap e; simp at hv; subst hv; cases e
      · rename_i k ht
        obtain ⟨b, rfl, _⟩ := DataW.trod_int ht h
        intro v hv a len cap e; simp at hv; subst hv; cases e
      · rename_i ht
        obtain ⟨b, rfl, _⟩ := DataW.trod_string ht h
        intro v hv a len cap e; simp at hv; subst hv; cases e
      · rename_i fs ht
        simp only [Bool.and_eq_true, List.all_eq_true] at hk
        obtain ⟨xs, n', hn, _, hl, hxs, hf⟩ := DataW.trod_struct ht h
        cases hn
        have hfl := tile_split cs hl fs.toList 0 hk.1
        rw [List.drop_zero] at hfl
        intro v hv
        rw [← hfl] at hv
        obtain ⟨p, hp, hv⟩ := List.mem_flatten.mp hv
        obtain ⟨f, hf', rfl⟩ := List.mem_map.mp hp
        obtain ⟨i, hi⟩ := List.mem_iff_getElem?.mp hf'
        rw [Array.getElem?_toList] at hi
        have h1 := hf i f hi
        have hi2 : i < xs.length := by rw [hxs]; exact (Array.getElem?_eq_some_iff.mp hi).1
        rw [List.getElem?_eq_getElem hi2] at h1
        exact ih f.type m _ _ h1 (hk.2 f hf') v hv
      · rename_i k e ht
        simp only [Bool.and_eq_true, beq_iff_eq] at hk
        obtain ⟨n', hn, hl, hi⟩ := trod_array ht h
        cases hn
        have hfl := chunk_flatten (P.cellsOf e) k cs (by rw [hl, hk.1])
        intro v hv
        rw [← hfl] at hv
        obtain ⟨p, hp, hv⟩ := List.mem_flatten.mp hv
        obtain ⟨i, hi', rfl⟩ := List.mem_map.mp hp
        obtain ⟨y', hy'⟩ := hi i (by simpa using hi')
        exact ih e m _ _ hy' hk.2 v hv

theorem open_arg {sz : Nat} {t : TypeId} {v : Value} {d : DataW H} {p : List MemPlace} {b0 : Nat} (m : Nat) (hv : Value.okWide P w .any b0 t v) (hk : known P (flat0 P) m t = true) (hs : P.cellsOf t = sz) (hts : (match P.underlying t with
      | some (.struct _) | some (.array _ _) => (match P.cellTypes P.depth t with
        | some ts => ts.length == sz && sz != 0 && ts.all fun u => match P.underlying u with
          | some (.slice _) | some .bool | some (.int _) | some .string => true
          | _ => false
        | none => false)
      | some (.slice _) | some .bool | some (.int _) | some .string => true
      | _ => false) = true) (h : DataW.Trod enc P w base spare held t v d p) :
    ∃ xs : List PL, Sh P m t xs ∧ (V.w (match P.underlying t with
      | some (.struct _) | some (.array _ _) => .agg (pls xs)
      | _ => .one (.pl (xs.headD .u)))).den (Va.reads w) v := by
  obtain ⟨fuel, hf⟩ := h
  have hcell : ∀ (u : TypeId) (c : Value), Cell.okWide P w .any b0 u c → (match P.underlying u with
          | some (.slice _) | some .bool | some (.int _) | some .string => true
          | _ => false) = true → spotOk c := by
    intro u c hc hu a len cap e
    subst e
    unfold Cell.okWide at hc
    cases hund : P.underlying u with
    | none => rw [hund] at hu; cases hu
    | some d =>
      rw [hund] at hc hu
      cases d <;> first
        | (cases hu; done)
        | (simp only [Cell.ok, hund] at hc; done)
        | (simp only [Cell.ok, hund] at hc; exact hc.2.2.2.1)
  have hspot : ∀ c ∈ v.cells.toList, spotOk c := by
    unfold Value.okWide at hv
    split at hv
    · rename_i fs ht
      obtain ⟨cs, rfl, hcs, ts, hct, _, hcc⟩ := hv
      rw [ht, hct] at hts
      simp only [Bool.and_eq_true, beq_iff_eq, List.all_eq_true] at hts
      intro c hc
      obtain ⟨i, hi⟩ := List.mem_iff_getElem?.mp hc
      have hi' : cs[i]? = some c := by rw [← Array.getElem?_toList]; exact hi
      obtain ⟨u, hu, hok⟩ := hcc i c hi'
      exact hcell u c hok (hts.2 u (List.mem_of_getElem? hu))
    · rename_i k e ht
      obtain ⟨cs, rfl, hcs, ts, hct, _, hcc⟩ := hv
      rw [ht, hct] at hts
      simp only [Bool.and_eq_true, beq_iff_eq, List.all_eq_true] at hts
      intro c hc
      obtain ⟨i, hi⟩ := List.mem_iff_getElem?.mp hc
      have hi' : cs[i]? = some c := by rw [← Array.getElem?_toList]; exact hi
      obtain ⟨u, hu, hok⟩ := hcc i c hi'
      exact hcell u c hok (hts.2 u (List.mem_of_getElem? hu))
    · rename_i hn1 hn2
      have hq : (match P.underlying t with
          | some (.slice _) | some .bool | some (.int _) | some .string => true
          | _ => false) = true := by
        split at hts
        · rename_i fs ht; exact absurd ht (hn1 fs)
        · rename_i k e ht; exact absurd ht (hn2 k e)
        all_goals simp_all
      intro c hc
      have hone : v.cells = #[v] := by
        cases v <;> first | rfl | (exfalso; unfold Cell.okWide at hv; cases hu : P.underlying t with
          | none => rw [hu] at hq; cases hq
          | some d => rw [hu] at hv hq; cases d <;> first | (cases hq; done) | (simp [Cell.ok, hu] at hv))
      rw [hone] at hc
      simp at hc; subst hc
      exact hcell t c hv hq
  obtain ⟨xs, h1, h2, h3⟩ := open_any (fun n t m cs y h1 h2 => trod_flat n t m cs y h1 h2) fuel t m _ _ hf hk hspot
  refine ⟨xs, h1, ?_⟩
  have hd := den_pls (d := Va.reads w) h3
  unfold Value.okWide at hv
  split at hv
  · rename_i fs ht
    obtain ⟨cs, rfl, _⟩ := hv
    rw [ht]
    exact ⟨cs, rfl, hd⟩
  · rename_i k e ht
    obtain ⟨cs, rfl, _⟩ := hv
    rw [ht]
    exact ⟨cs, rfl, hd⟩
  · rename_i hn1 hn2
    have hq : (match P.underlying t with
          | some (.slice _) | some .bool | some (.int _) | some .string => true
          | _ => false) = true := by
      split at hts
      · rename_i fs ht; exact absurd ht (hn1 fs)
      · rename_i k e ht; exact absurd ht (hn2 k e)
      all_goals simp_all
    have hone : v.cells = #[v] := by
      cases v <;> first | rfl | (exfalso; unfold Cell.okWide at hv; cases hu : P.underlying t with
          | none => rw [hu] at hq; cases hq
          | some d => rw [hu] at hv hq; cases d <;> first | (cases hq; done) | (simp [Cell.ok, hu] at hv))
    rw [hone] at hd
    have : ∃ x, xs = [x] ∧ L.den (Va.reads w) (.pl x) v := by
      cases xs with
      | nil => cases hd
      | cons x r =>
        cases hd with
        | cons g1 g2 =>
          cases r with
          | nil => exact ⟨x, rfl, g1⟩
          | cons _ _ => cases g2
    obtain ⟨x, rfl, hx⟩ := this
    split
    · rename_i fs ht; exact absurd ht (hn1 fs)
    · rename_i k e ht; exact absurd ht (hn2 k e)
    · exact hx
end
end Go.Sy

namespace Go.Sy

def sealL (k : Nat) (c : List PL) : L → L
  | .pl x => .pl x
  | .p j path => if j = k then .pl (.q c path) else .p j path
  | .s j path len sz => if j = k then if pok c.length path ∧ psz c.length path = len * sz then .pl (.R false sz (chunks sz len (rd c path))) else .pl .u else .s j path len sz
  | .fn f caps => if caps.any (fun j => j == k) = true then .pl .u else .fn f caps
def sealW (k : Nat) (c : List PL) : W → W
  | .one l => .one (sealL k c l)
  | .agg cs => .agg (cs.map (sealL k c))
def sealV (k : Nat) (c : List PL) : V → V
  | .w x => .w (sealW k c x)
  | .tup xs => .tup (xs.map (sealW k c))
  | .any => .any
def sealE (k : Nat) (c : List PL) : List (Nat × V) → List (Nat × V)
  | [] => []
  | x :: r => (x.1, sealV k c x.2) :: sealE k c r
def sealM (k : Nat) (c : List PL) : List (Nat × Ob) → List (Nat × Ob)
  | [] => []
  | x :: r => if x.1 = k then sealM k c r else (x.1, if x.1 < 1000000 then ⟨x.2.row, x.2.cells.map (sealL k c)⟩ else x.2) :: sealM k c r
def St.laid (k : Nat) (c : List PL) (S : St) : St := ⟨sealE k c S.env, sealM k c S.mem⟩

theorem look_sealE {k : Nat} {c : List PL} : ∀ {l : List (Nat × V)} {n : Nat}, look (sealE k c l) n = (look l n).map (sealV k c)
  | [], n => rfl
  | x :: r, n => by
    simp only [sealE, look]
    split
    · rfl
    · exact look_sealE
theorem look_sealM {k : Nat} {c : List PL} : ∀ {l : List (Nat × Ob)} {n : Nat}, look (sealM k c l) n = if n = k then none else (look l n).map fun o => if n < 1000000 then ⟨o.row, o.cells.map (sealL k c)⟩ else o
  | [], n => by simp [sealM, look]
  | x :: r, n => by
    simp only [sealM]
    split
    · rename_i e
      rw [look_sealM]
      simp only [look]
      by_cases hn : n = k
      · rw [if_pos hn, if_pos hn]
      · rw [if_neg hn, if_neg hn, if_neg (fun h => hn (h.trans e))]
    · rename_i e
      simp only [look]
      by_cases hx : n = x.1
      · subst hx; rw [if_pos rfl, if_neg e, if_pos rfl]; rfl
      · rw [if_neg hx, if_neg hx, look_sealM]

def Va.seals (d : Va) (k : Nat) (w : World) : Va := ⟨d.at_, d.size, fun b o => if b = d.at_ k then w.cell? ⟨b, o, none⟩ else d.ro b o⟩

section
variable {B : Base} {d : Va} {S : St} {a : Act} {w : World} {k : Nat} {o : Ob} {c : List PL}

theorem seal_mono (h : Sim B d S a w) (hk : look S.mem k = some o) (hkl : k < gl0) : ∀ b o y, d.ro b o = some y → (d.seals k w).ro b o = some y := fun b o' y hy => by
  simp only [Va.seals]
  split
  · rename_i e; rw [e, (h.own k (by rw [hk]; rfl) hkl).1] at hy; cases hy
  · exact hy

theorem sealL_den (h : Sim B d S a w) (hk : look S.mem k = some o) (hc : o.cells = pls c) (hkl : k < gl0) {l : L} {y : Value} (hd : l.den d y) : (sealL k c l).den (d.seals k w) y := by
  have hro := seal_mono h hk hkl
  have hb : ∀ o' y, w.cell? ⟨d.at_ k, o', none⟩ = some y → (d.seals k w).ro (d.at_ k) o' = some y := fun o' y hy => by simp only [Va.seals, if_true]; exact hy
  have hl : o.cells.length = c.length := by rw [hc, length_pls]
  cases l with
  | pl x => exact PL.den_mono hro hd
  | p j path =>
    simp only [sealL]
    split
    · rename_i e; subst e
      simp only [L.den] at hd
      rw [L.den, PL.den]
      obtain ⟨vals, hv, hcell, _⟩ := h.readObj (path := []) hk trivial
      simp only [rd, hc, poff] at hv hcell
      exact ⟨d.at_ j, 0, by rw [hd]; simp, denAt_cells' hro hb hv hcell⟩
    · exact hd
  | s j path len sz =>
    simp only [sealL]
    split
    · rename_i e; subst e
      split
      · rename_i hp
        obtain ⟨hp, hps⟩ := hp
        obtain ⟨vals, hv, hcell, _⟩ := h.readObj (path := path) hk (by rw [hl]; exact hp)
        have hcl := length_rd c hp
        have e2 : rd o.cells path = pls (rd c path) := by rw [hc]; unfold pls; rw [rd_map]
        rw [e2] at hv
        obtain ⟨oo, cap, rfl, hlc, hcm, ho, _⟩ := hd
        rw [L.den, PL.den]
        right
        rw [hps] at hcl
        refine ⟨d.at_ j, oo, cap, by rw [length_chunks], by rw [length_chunks]; exact hlc, hcm, fun e => (by cases e), ?_⟩
        refine denRows_chunks ?_ hcl
        rcases ho with ho | rfl
        · have hlen : len = 0 := by omega
          rw [hlen, Nat.zero_mul] at hcl
          have := List.eq_nil_of_length_eq_zero hcl
          rw [this]; rw [PL.denAt]; trivial
        · exact denAt_cells' hro hb hv hcell
      · have hs := L.den_scalar hd
        rw [L.den, PL.den]; exact hs
    · exact hd
  | fn f caps =>
    simp only [sealL]
    split
    · have hs := L.den_scalar hd
      rw [L.den, PL.den]; exact hs
    · exact hd

theorem sealL_all (h : Sim B d S a w) (hk : look S.mem k = some o) (hc : o.cells = pls c) (hkl : k < gl0) {cs : List L} {vs : List Value} (hd : All2 (L.den d) cs vs) : All2 (L.den (d.seals k w)) (cs.map (sealL k c)) vs :=
  All2.map_left (hd.mono fun x y _ hr => sealL_den h hk hc hkl hr)

theorem sealW_den (h : Sim B d S a w) (hk : look S.mem k = some o) (hc : o.cells = pls c) (hkl : k < gl0) {x : W} {y : Value} (hd : x.den d y) : (sealW k c x).den (d.seals k w) y := by
  cases x with
  | one l => exact sealL_den h hk hc hkl hd
  | agg cs => obtain ⟨vs, rfl, hv⟩ := hd; exact ⟨vs, rfl, sealL_all h hk hc hkl hv⟩

theorem sealV_den (h : Sim B d S a w) (hk : look S.mem k = some o) (hc : o.cells = pls c) (hkl : k < gl0) {x : V} {y : Value} (hd : x.den d y) : (sealV k c x).den (d.seals k w) y := by
  cases x with
  | w x => exact sealW_den h hk hc hkl hd
  | tup xs => obtain ⟨vs, rfl, hv⟩ := hd; exact ⟨vs, rfl, All2.map_left (hv.mono fun x y _ hr => sealW_den h hk hc hkl hr)⟩
  | any => trivial

theorem Sim.sealed (h : Sim B d S a w) (hk : look S.mem k = some o) (hc : o.cells = pls c) (hkp : k < px0) : Sim B (d.seals k w) (S.laid k c) a w := by
  have hkl : k < gl0 := Nat.lt_trans hkp px_gl
  have hmem : ∀ {j : Nat} {p : Ob}, look (S.laid k c).mem j = some p → j ≠ k ∧ ∃ q, look S.mem j = some q ∧ p = if j < 1000000 then ⟨q.row, q.cells.map (sealL k c)⟩ else q := fun {j p} hj => by
    simp only [St.laid, look_sealM] at hj
    split at hj
    · cases hj
    · rename_i hne
      obtain ⟨q, hq, rfl⟩ := Option.map_eq_some_iff.mp hj
      exact ⟨hne, q, hq, rfl⟩
  have hsome : ∀ {j : Nat}, (look (S.laid k c).mem j).isSome = true → (look S.mem j).isSome = true ∧ j ≠ k := fun {j} hj => by
    obtain ⟨p, hp⟩ := Option.isSome_iff_exists.mp hj
    obtain ⟨h1, q, h2, _⟩ := hmem hp
    exact ⟨by rw [h2]; rfl, h1⟩
  refine ⟨h.defers, h.nt, fun n v hv => ?_, fun j p hj hjl => ?_, fun j1 j2 h1 h2 hl1 hl2 he => h.inj j1 j2 (hsome h1).1 (hsome h2).1 hl1 hl2 he, fun j hj hjl => ?_, fun b o' y hy => ?_, fun b o' y hy hb => ?_, h.os, h.tape, h.output, h.size, h.block, h.gat, fun j p hj hjl => ?_, fun j p q hj hq hjl => ?_, h.fxn⟩
  · simp only [St.laid, look_sealE] at hv
    obtain ⟨u, hu, rfl⟩ := Option.map_eq_some_iff.mp hv
    obtain ⟨y, hy, hd⟩ := h.env n u hu
    exact ⟨y, hy, sealV_den h hk hc hkl hd⟩
  · obtain ⟨_, q, hq, rfl⟩ := hmem hj
    rw [if_pos hjl]
    obtain ⟨vals, spare, ty, fr, g1, g2, g3, g4, g5⟩ := h.mem j q hq hjl
    exact ⟨vals, spare, ty, fr, g1, g2, sealL_all h hk hc hkl g3, g4, g5⟩
  · obtain ⟨h1, h2⟩ := hsome hj
    obtain ⟨g1, g2⟩ := h.own j h1 hjl
    refine ⟨fun o' => ?_, g2⟩
    simp only [Va.seals]
    rw [if_neg (fun e => h2 (h.inj j k h1 (by rw [hk]; rfl) hjl hkl e))]; exact g1 o'
  · simp only [Va.seals] at hy
    split at hy
    · exact hy
    · exact h.ro b o' y hy
  · simp only [Va.seals] at hy
    split at hy
    · rename_i e
      rcases (h.own k (by rw [hk]; rfl) hkl).2 with g | g
      · omega
      · exact absurd g.1 (Nat.not_le_of_lt hkp)
    · exact h.old b o' y hy hb
  · obtain ⟨_, q, hq, rfl⟩ := hmem hj
    rw [if_neg (Nat.not_lt_of_le hjl)]
    obtain ⟨e1, cs, e2, e3⟩ := h.glob j q hq hjl
    exact ⟨e1, cs, e2, PL.denAt_mono (seal_mono h hk hkl) e3⟩
  · obtain ⟨_, u, hu, _⟩ := hmem hj
    exact h.fix j u q hu hq hjl
end

theorem mayOf_nil (d : Va) : mayOf d [] = fun _ => False := by funext b; simp [mayOf, look]
theorem fxOf_nil (d : Va) : fxOf d [] = fun _ => none := by funext b; simp [fxOf, look]
theorem Ct.hands {P : Program} {f : FuncId} {args : List V} {R : V → List (Nat × Ob) → Prop} (h : Ct P f args R) : CtM P f args [] R := by
  intro w d vals ⟨a, hs⟩ ha
  rw [mayOf_nil, fxOf_nil]
  exact h w d vals hs.ro hs.gat ha
theorem CtM.k {P : Program} {f : FuncId} {fn : Func} {c : Code} {args : List V} {m : List (Nat × Ob)} {R : V → List (Nat × Ob) → Prop} {nt : Nat} {rs : List ResultVar} (hf : P.funcs[f]? = some fn) (hb : fn.body = some c) (hnt : fn.ntmps = nt) (hrs : fn.results.toList = rs) (hn : args.length ≤ nt)
    (h : ∀ (w0 : World) (ro : Ro) (may : Nat → Prop) (fx : Nat → Option (Nat × Nat)), HT P ⟨w0, may, nt, ro, fx⟩ c ⟨argsE 0 args, m⟩ (endQ P rs R)) : CtM P f args m R := by
  subst hnt; subst hrs
  refine CtM.of hf hb hn fun w0 ro may fx => ?_
  exact (h w0 ro may fx).mono fun e S hq => by cases e <;> exact hq
theorem CtM.mono {P : Program} {f : FuncId} {args : List V} {m : List (Nat × Ob)} {R R' : V → List (Nat × Ob) → Prop} (h : CtM P f args m R) (hr : ∀ v m, R v m → R' v m) : CtM P f args m R' := by
  intro w d vals hm hargs
  exact (h w d vals hm hargs).mono fun e w' ⟨y, v, d', m', h1, h2, h3⟩ => ⟨y, v, d', m', h1, hr _ _ h2, h3⟩
end Go.Sy

namespace Go.Sy
theorem all2_caps {d : Va} : ∀ ks : List Nat, All2 (V.den d) (ks.map fun k => .w (.one (.p k []))) (ks.map fun k => Value.pointer (some ⟨d.at_ k, 0, none⟩))
  | [] => .nil
  | k :: ks => .cons (by simp [V.den, W.den, L.den, poff]) (all2_caps ks)
open Classical in
theorem call_fn {P : Program} {B : Base} {S : St} {K : St → Prop} {dst : Option Tmp} {ty : TypeId} {pos : String} {af : Array Edge} {f : FuncId} {args : List Operand} {ts : Array TypeId} {ds : List (Option Tmp)} {r : List Oper} {vs : List V} {m : List (Nat × Ob)} {R : V → List (Nat × Ob) → Prop}
    (vw : Bool) (hd : Hand) (nm : Nat → Nat) {t : Tmp} {caps ks : List Nat} (hfn : S.get (.tmp t) = some (.w (.one (.fn f caps)))) (hcaps : capsIn hd caps = some ks) (hgo : ∀ vals w, (callFunc f vals).run P w = .ok (.enter f vals) w) (hargs : valsIn vw S hd args = some vs) (hok : hdOk hd = true) (hm : handOk S hd m) (hc : CtM P f (vs ++ ks.map fun k => .w (.one (.p k []))) m R)
    (hK : ∀ v m', R v m' → leafOutV vw m' v = true ∧ outOk vw nm hd S m m' m' ∧ hd.all (fun x => (look m' x.1).isSome) = true ∧ (match dst with
      | some n => n < B.nt ∧ runOps P B ds r ⟨(n, v.ren (outN nm hd)) :: S.env, backM nm hd m' S.mem⟩ K
      | none => runOps P B ds r ⟨S.env, backM nm hd m' S.mem⟩ K)) :
    atCall P B ⟨dst, .call ⟨.value (.tmp t), args.toArray, ts⟩, ty, pos, af, none⟩ S ds r K := by
  intro d a w h next Q hn
  have hrun : (execOp a.eval ⟨dst, .call ⟨.value (.tmp t), args.toArray, ts⟩, ty, pos, af, none⟩).run P w = .ok (.enter f (args.map a.eval ++ caps.map fun k => Value.pointer (some ⟨d.at_ k, 0, none⟩)).toArray) w := by
    have hv := h.get hfn
    have hv' : a.eval (.tmp t) = .func (.func f) #[] (caps.map fun k => Value.pointer (some ⟨d.at_ k, 0, none⟩)).toArray := hv
    simp [execOp, resolve, Deferred.ofValue, hv', invoke, hgo]
  unfold Oper.wp
  rw [hrun, Oper.upon_enter]
  obtain ⟨ro, hr, hrv, hrw, hrn⟩ : ∃ ro : Ro, RoOk S hd d w vw ro ∧ (vw = false → ro = d.ro) ∧ (∀ b o y, ro b o = some y → w.cell? ⟨b, o, none⟩ = some y) ∧ (∀ k j, look hd k = some j → (look S.mem j).isSome = true → ∀ o, ro (d.at_ j) o = none) := by
    cases vw with
    | false => exact ⟨d.ro, roFalse, fun _ => rfl, h.ro, fun k j hk hj o => (h.own j hj (hdOk_look hok hk).2.2).1 o⟩
    | true =>
      refine ⟨fun b o => if (∃ k j, look hd k = some j ∧ (look S.mem j).isSome = true ∧ d.at_ j = b) then none else w.cell? ⟨b, o, none⟩, ⟨fun b o y hy => ?_, fun _ j hj hjl hn o y hy => ?_⟩, (fun h => by cases h), fun b o y hy => ?_, fun k j hk hj o => ?_⟩
      · rw [if_neg]
        · exact h.ro b o y hy
        · rintro ⟨k, j, hk, hj, rfl⟩
          have := (h.own j hj (hdOk_look hok hk).2.2).1 o
          rw [this] at hy; cases hy
      · rw [if_neg]
        · exact hy
        · rintro ⟨k, j', hk, hj', he⟩
          have := h.inj j' j hj' hj (hdOk_look hok hk).2.2 hjl he
          subst this
          have : nameIn hd j' ≠ none := by
            have key : ∀ {hd : Hand}, look hd k = some j' → nameIn hd j' ≠ none := by
              intro hd
              induction hd with
              | nil => intro h; cases h
              | cons x r ih =>
                intro h
                simp only [nameIn]
                split
                · simp
                · rename_i hne
                  simp only [look] at h
                  split at h
                  · cases h; exact absurd rfl hne
                  · exact ih h
            exact key hk
          exact this hn
      · have hy' : (if (∃ k j, look hd k = some j ∧ (look S.mem j).isSome = true ∧ d.at_ j = b) then none else w.cell? ⟨b, o, none⟩) = some y := hy
        split at hy'
        · cases hy'
        · exact hy'
      · exact if_pos ⟨k, j, hk, hj, rfl⟩
  have hmem := hand_mem' h hr hrw hrn hok hm
  have hda := valsIn_ok h hr hok hargs
  have hcp := capsIn_ok (ro := ro) h hok hcaps
  have hda2 : All2 (V.den (d.hand hd ro)) (vs ++ ks.map fun k => .w (.one (.p k []))) (args.map a.eval ++ caps.map fun k => Value.pointer (some ⟨d.at_ k, 0, none⟩)) := by
    refine hda.append ?_
    rw [← hcp]
    exact all2_caps ks
  refine (hc w (d.hand hd ro) (args.map a.eval ++ caps.map fun k => Value.pointer (some ⟨d.at_ k, 0, none⟩)).toArray hmem hda2).mono ?_
  rintro e w' ⟨y, v, d', m', rfl, hR, hvd, a2, hs⟩
  obtain ⟨hlo, hou, hall, hk⟩ := hK v m' hR
  obtain ⟨hsim, hnm, hro⟩ := back_ok h hrv hok hm hs hall hou
  have hvd2 := leafOutV_den hro hnm hlo hvd
  cases dst with
  | none => exact hn _ _ _ _ hk hsim
  | some n => exact hn _ _ _ _ hk.2 (hsim.put hk.1 hvd2)
end Go.Sy

namespace Go.Sy
def St.dropE (ks : List Nat) (S : St) : St := ⟨fgt ks S.env, S.mem⟩
theorem ht_dropE {P : Program} {B : Base} {Q : Exit → St → Prop} {S : St} {x : Code} (ks : List Nat) (h : HT P B x (S.dropE ks) Q) : HT P B x S Q := by
  refine HT.le (fun d a w hs => ⟨d, ?_⟩) h
  exact ⟨hs.defers, hs.nt, fun n v hv => hs.env n v (look_fgt hv), hs.mem, hs.inj, hs.own, hs.ro, hs.old, hs.os, hs.tape, hs.output, hs.size, hs.block, hs.gat, hs.glob, hs.fix, hs.fxn⟩
theorem dropE_mk (ks : List Nat) (e : List (Nat × V)) (m : List (Nat × Ob)) : St.dropE ks ⟨e, m⟩ = ⟨fgt ks e, m⟩ := rfl
theorem fgt_nil {α : Type} (ks : List Nat) : fgt ks ([] : List (Nat × α)) = [] := rfl
theorem fgt_cons {α : Type} (ks : List Nat) (n : Nat) (v : α) (r : List (Nat × α)) : fgt ks ((n, v) :: r) = if ks.contains n = true then fgt ks r else (n, v) :: fgt ks r := rfl
attribute [go_sem] optCons_some optCons_none fm_cons fm_nil mut_val mut_new mut_app mut_sto ns_val ns_new ns_sto ns_app nsC td_val td_new td_sto td_app chk_nil chk_cons atD_some memOp gslot Eff.free noUV noUW noUL Op.operands Call.operands Nat.reduceBneDiff bne_self_eq_false Option.toArray List.append_toArray List.toList_toArray Array.append_empty Array.empty_append
end Go.Sy

namespace Go.Sy
theorem byteRows_drop (bs : List UInt8) (n : Nat) : (byteRows bs).drop n = byteRows (bs.drop n) := by simp [byteRows]
theorem byteRows_take (bs : List UInt8) (n : Nat) : (byteRows bs).take n = byteRows (bs.take n) := by simp [byteRows]
theorem byteRows_get {bs : List UInt8} {n : Nat} (h : n < bs.length) : (byteRows bs).getD n [] = [.u8 (bs.getD n 0)] := by
  simp [byteRows, List.getD_eq_getElem?_getD, List.getElem?_map, List.getElem?_eq_getElem h]
theorem byteRows_eq {bs : List UInt8} : (byteRows bs = []) = (bs = []) := by simp [byteRows]
attribute [go_sem] byteRows_drop byteRows_take byteRows_length byteRows_flatten byteRows_eq
theorem R_nil_den {ro : Ro} {ex : Bool} {sz sz' : Nat} {y : Value} (h : PL.den ro (.R ex sz []) y) : PL.den ro (.R ex sz' []) y := by
  rw [PL.den] at h ⊢; simpa only [PL.denRows] using h
end Go.Sy

namespace Go.Sy
def Told (R : V → List (Nat × Ob) → Prop) (v : V) (m : List (Nat × Ob)) : Prop :=
  ∃ v' m', (∀ (B : Base) d y w, B.nt = 0 → v.den d y → MemOK B d m w → ∃ d', v'.den d' y ∧ MemOK B d' m' w) ∧ R v' m'
theorem CtM.told {P : Program} {f : FuncId} {args : List V} {ms : List (Nat × Ob)} {R : V → List (Nat × Ob) → Prop} (h : CtM P f args ms (Told R)) : CtM P f args ms R := by
  intro w d vals hm hargs
  refine (h w d vals hm hargs).mono fun e w' ⟨y, v, d', m', h1, ⟨v2, m2, h2, h3⟩, h4, h5⟩ => ?_
  obtain ⟨d2, h6, h7⟩ := h2 _ d' y w' rfl h4 h5
  exact ⟨y, v2, d2, m2, h1, h3, h6, h7⟩
theorem Ct.told {P : Program} {f : FuncId} {args : List V} {R : V → List (Nat × Ob) → Prop} (h : Ct P f args (Told R)) : Ct P f args R := by
  intro w d vals hro hg hargs
  refine (h w d vals hro hg hargs).mono fun e w' ⟨y, v, d', m', h1, ⟨v2, m2, h2, h3⟩, h4, h5⟩ => ?_
  obtain ⟨d2, h6, h7⟩ := h2 _ d' y w' rfl h4 h5
  exact ⟨y, v2, d2, m2, h1, h3, h6, h7⟩
section
variable {R : V → List (Nat × Ob) → Prop} {v v' : V} {m m' : List (Nat × Ob)}
theorem told_weak (hw : ∀ d y, v.den d y → v'.den d y) (h : Told R v' m) : Told R v m := by
  obtain ⟨v2, m2, h1, h2⟩ := h
  exact ⟨v2, m2, fun B d y w hb hv hm => h1 B d y w hb (hw d y hv) hm, h2⟩
theorem told_seal (k : Nat) {b : Bool} (c : List PL) (hk : look m k = some ⟨b, pls c⟩) (hl : k < 500000) (h : Told R (sealV k c v) (sealM k c m)) : Told R v m := by
  obtain ⟨v2, m2, h1, h2⟩ := h
  refine ⟨v2, m2, fun B d y w hb hv hm => ?_, h2⟩
  obtain ⟨a, hs⟩ := hm
  exact h1 B _ y w hb (sealV_den hs hk rfl (Nat.lt_trans hl px_gl) hv) ⟨a, hs.sealed hk rfl hl⟩
theorem told_tidy (h : Tidy R v m) : Told R v m := by
  obtain ⟨g, v2, m2, h1, h2, h3⟩ := h
  subst h1
  exact ⟨v2, m2, fun B d y w hb hv hm => ⟨d.via g, V.den_via hv, hm.tidy h2⟩, h3⟩
end
def plainW : W → Bool
  | .one (.pl _) => true
  | .one _ => false
  | .agg cs => cs.all fun l => match l with
    | .pl _ => true
    | _ => false
def plainV : V → Bool
  | .w x => plainW x
  | .tup xs => xs.all plainW
  | .any => true
theorem plain_ren {g : Nat → Nat} : ∀ {v : V}, plainV v = true → v.ren g = v := by
  have hl : ∀ cs : List L, (cs.all fun l => match l with | .pl _ => true | _ => false) = true → cs.map (L.ren g) = cs := by
    intro cs h
    induction cs with
    | nil => rfl
    | cons x r ih =>
      simp only [List.all_cons, Bool.and_eq_true] at h
      rw [List.map_cons, ih h.2]
      cases x <;> first | rfl | (cases h.1)
  have hw : ∀ x : W, plainW x = true → x.ren g = x := by
    intro x h
    cases x with
    | one l => cases l <;> first | rfl | (cases h)
    | agg cs => simp only [W.ren]; rw [hl cs h]
  intro v h
  cases v with
  | w x => simp only [V.ren]; rw [hw x h]
  | tup xs =>
    simp only [V.ren]
    congr 1
    simp only [plainV, List.all_eq_true] at h
    induction xs with
    | nil => rfl
    | cons x r ih => rw [List.map_cons, hw x (h x (by simp)), ih fun y hy => h y (by simp [hy])]
  | any => rfl
theorem told_plain {R : V → List (Nat × Ob) → Prop} {v : V} {m : List (Nat × Ob)} (hp : plainV v = true) (h : R v []) : Told R v m :=
  told_tidy ⟨fun k => k, v, [], (plain_ren hp).symm, .empty, h⟩
end Go.Sy

namespace Go.Sy
theorem items_ok {P : Program} {B : Base} {ops : Array Oper} {ds : List (Option Tmp)} (hds : ds = ops.toList.map (·.dst)) {Q : Exit → Act → World → Prop} {K : St → Prop} (hK : ∀ S' d' a' w', K S' → Sim B d' S' a' w' → Q .normal a' w') :
    ∀ (its : List It) (S : St), OKs P ds its S → AllNew its S → NamesApart its → (∀ x ∈ its, ∀ n, x.o.dst = some n → n < B.nt) → K (fin its S) → ∀ d a w, Sim B d S a w → wpList P ops Q (its.map (·.o)) a w
  | [], S, _, _, _, _, h, d, a, w, hs => hK _ _ _ _ h hs
  | x :: r, S, ho, hn, ha, hd, h, d, a, w, hs => by
    obtain ⟨g1, g2⟩ := ho
    have hnx : ∀ k ∈ x.e.names, New k S := fun k hk => hn x (by simp) k hk
    have hdst : ∀ n, x.o.dst = some n → n < B.nt := hd x (by simp)
    have hgo : ∀ d' a' w', Sim B d' (x.on S) a' w' → wpList P ops Q (r.map (·.o)) a' w' := fun d' a' w' hs' =>
      items_ok hds hK r (x.on S) g2 (AllNew.on (fun y hy k hk => hn y (by simp [hy]) k hk) g1 (fun y hy k hk hk2 => ha.1 y hy k hk2 hk)) ha.2.2 (fun y hy => hd y (by simp [hy])) h d' a' w' hs'
    rw [List.map_cons]
    refine wpList_step fun N hN => ?_
    have hev := g1.ev
    have hg := g1.guard
    have run : x.skip = false → x.o.wp P a w N Q := by
      intro hsk
      rw [hsk] at hev
      simp only [Bool.false_eq_true, if_false] at hev
      exact hev.run hs hnx hdst _ _ fun d' a' w' hs' => hN _ _ (hgo d' a' w' hs')
    have skp : x.skip = true → N (a.put x.o.dst undef) w := by
      intro hsk
      rw [hsk] at hev
      simp only [if_true] at hev
      refine hN _ _ (hgo d _ _ ?_)
      unfold It.on
      rw [hev]
      exact Sim.putE hs (v := .tup []) (undef_den d) hdst
    cases hgd : x.o.guard with
    | none =>
      rw [hgd] at hg
      rw [if_pos (by simp [Region.wanted, hgd])]
      exact run hg
    | some g =>
      rw [hgd] at hg
      simp only at hg
      obtain ⟨c, hc, hsk⟩ := hg
      have hw := wanted_of hs hds hgd hc
      rw [hw]
      by_cases hcg : c = g.2
      · rw [if_pos (by simp [hcg])]
        exact run (by rw [hsk, hcg]; simp)
      · rw [if_neg (by simp [hcg])]
        exact skp (by rw [hsk]; simpa using hcg)

theorem text_k {P : Program} {B : Base} {id : Nat} {l : List Oper} {S : St} {Q : Exit → St → Prop} (names : List Nat)
    (hn : names.all (fun k => fresh k S && (look S.mem k).isNone) = true)
    (h : ∀ K : St → List Da → Prop, (∀ S' D, Q .normal S' → K S' D) → runD P B.nt names (dsOf l) false l [] [] S K) : HT P B (.region id l.toArray false) S Q := by
  intro d a w hs
  obtain ⟨its, hi, hQ⟩ := runD_items (h (fun S' D => Q .normal S') (fun _ _ h1 => h1))
  refine wp_region_list ?_
  have := items_ok (P := P) (B := B) (ops := l.toArray) (ds := dsOf l) (by rw [dsOf_eq]) (Q := fun e a' w' => ∃ S' d', Q e S' ∧ Sim B d' S' a' w') (K := Q .normal) (fun S' d' a' w' hq hs' => ⟨S', d', hq, hs'⟩) its S hi.ok ?_ hi.apart hi.dst hQ d a w hs
  · rw [hi.ops] at this
    simpa only [List.toList_toArray] using this
  · intro x hx k hk
    have := (hi.nm x hx k hk).1
    simp only [List.all_eq_true, Bool.and_eq_true] at hn
    have h1 := hn k this
    have h2 := hasE_not h1.1
    exact ⟨⟨fun n v hv => hasE_look h2.1 hv, fun n o ho => hasM_look h2.2 ho, fresh_lt h1.1⟩, by simpa using h1.2⟩
end Go.Sy

namespace Go.Sy
theorem L.ren_id (l : L) : l.ren (fun k => k) = l := by cases l <;> simp [L.ren]
theorem within_sub {m m2 : List (Nat × Ob)} (h : ∀ k o, look m2 k = some o → look m k = some o) : Within (fun k => k) m2 m :=
  ⟨fun k o hk => by rw [h k o hk]; congr 1; cases o; simp only [Ob.mk.injEq, true_and]; exact (List.map_id'' L.ren_id _).symm, fun _ _ _ _ h => h, fun _ h => h, fun _ _ => rfl⟩
theorem told_keep {R : V → List (Nat × Ob) → Prop} {v : V} {m m2 : List (Nat × Ob)} (hp : plainV v = true) (hm : ∀ k o, look m2 k = some o → look m k = some o) (h : R v m2) : Told R v m :=
  told_tidy ⟨fun k => k, v, m2, (plain_ren hp).symm, within_sub hm, h⟩
theorem keep_one {m : List (Nat × Ob)} {j : Nat} {o0 : Ob} (h : look m j = some o0) : ∀ k o, look [(j, o0)] k = some o → look m k = some o := by
  intro k o hk
  simp only [look] at hk
  split at hk
  · rename_i e; cases hk; rw [e]; exact h
  · cases hk
theorem leavesIn_seg2 (vw : Bool) (S : St) (hd : Hand) (r : List L) : ∀ l : List UInt8, leavesIn vw S hd (bytesC l ++ r) = (leavesIn vw S hd r).map (bytesC l ++ ·)
  | [] => by simp [bytesC]
  | x :: l => by
    have ih := leavesIn_seg2 vw S hd r l
    simp only [bytesC] at ih
    simp only [bytesC, List.map_cons, List.cons_append, leavesIn, leafIn, ih]
    cases leavesIn vw S hd r <;> rfl
theorem leavesIn_bytes2 (vw : Bool) (S : St) (hd : Hand) (l : List UInt8) : leavesIn vw S hd (bytesC l) = some (bytesC l) := by
  have := leavesIn_seg2 vw S hd [] l
  simpa [leavesIn] using this
theorem leafOut_bytes2 (vw : Bool) (m : List (Nat × Ob)) (l : List UInt8) : (bytesC l).all (leafOut vw m) = true := by
  simp only [bytesC, List.all_eq_true, List.mem_map]
  rintro x ⟨y, _, rfl⟩
  simp [leafOut, strictL]
section
variable {P : Program} {B : Base} {ds : List (Option Tmp)} {r : List Oper} {S : St} {K : St → Prop}
theorem og_tt (j : Nat) (o : Oper) : onGuard (some true) j true P B ds o r S K = runOps P B ds (⟨o.dst, o.op, o.type, o.pos, o.after, none⟩ :: r) (setG S ds j true) K := by rw [ev_onGuard]; simp
theorem og_ff (j : Nat) (o : Oper) : onGuard (some false) j false P B ds o r S K = runOps P B ds (⟨o.dst, o.op, o.type, o.pos, o.after, none⟩ :: r) (setG S ds j false) K := by rw [ev_onGuard]; simp
theorem og_tf (j : Nat) (o : Oper) : onGuard (some true) j false P B ds o r S K = onSt ((setG S ds j true).put B.nt o.dst (.tup [])) P B ds r K := by rw [ev_onGuard]; simp
theorem og_ft (j : Nat) (o : Oper) : onGuard (some false) j true P B ds o r S K = onSt ((setG S ds j false).put B.nt o.dst (.tup [])) P B ds r K := by rw [ev_onGuard]; simp
end
section
variable {P : Program} {nt : Nat} {names : List Nat} {ds : List (Option Tmp)} {keep : Bool} {o : Oper} {N : List Nat} {D : List Da} {S : St} {k : List Nat → List Da → St → Prop}
theorem dg_tt (j : Nat) : onG P nt names ds keep o (j, true) N D S k (some true) = onO P nt names ds keep o N D S k := by rw [rd_onG]; simp
theorem dg_ft (j : Nat) : onG P nt names ds keep o (j, true) N D S k (some false) = (dstOk nt o.dst ∧ k N (D ++ bif keep then [⟨.val (.tup []), (gslot ds o).filterMap S.get, []⟩] else []) ((Eff.val (.tup [])).on o.dst S)) := by rw [rd_onG]; simp
end
attribute [go_sem high] og_tt og_ff og_tf og_ft dg_tt dg_ft
attribute [go_sem] leavesIn_seg2 leavesIn_bytes2 leafOut_bytes2 capsV
end Go.Sy

namespace Go.Sy
section
variable {k j : Nat} {c : List PL}
theorem sealL_pl (x : PL) : sealL k c (.pl x) = .pl x := rfl
theorem seal_bytes {n : Nat} {bs : List UInt8} (h : n = bs.length) : sealL k (bs.map .u8) (.s k [] n 1) = .pl (.R false 1 (byteRows bs)) := by
  subst h
  simp only [sealL, if_true, rd, pok, psz, List.length_map, Nat.mul_one, and_self, chunks_bytes]
end
end Go.Sy

namespace Go.Sy
section
variable {H : Type} {enc : TypeId × Value → H} {P : Program} {w w2 : World} {base : Nat} {spare : Nat → Bool} {held : Bool}
end
end Go.Sy

namespace Go.Sy
section
variable {P : Program}
end
end Go.Sy

namespace Go.Sy
section
variable {H : Type} {enc : TypeId × Value → H} {P : Program}
end
end Go.Sy

namespace Go.Sy
section
variable {P : Program} {B : Base} {S : St} {Q : Exit → St → Prop}
theorem top_k {c : Code} (h : ∀ Z : Exit → St → Prop, (∀ e S', Q e S' → Z e S') → HT P B c S Z) : HT P B c S Q := h Q fun _ _ h => h
theorem sr_k {id : Nat} {l : List Oper} {y : Code} (h : ∀ K : St → Prop, (∀ S', HT P B y S' Q → K S') → runOps P B (dsOf l) l S K) : HT P B (.seq (.region id l.toArray false) y) S Q :=
  seq_k fun N M hN hM => region_k fun K hK => h K fun S' hy => hK S' (hN S' hy)
theorem sd_k {id : Nat} {l : List Oper} {y : Code} (names c : List Nat) (need : List (Nat × Nat)) (hm : P.follows .mixedOrders = true) (hst : drawOk (dsOf l) c need l = true)
    (hn : names.all (fun k => fresh k S && (look S.mem k).isNone) = true)
    (h : ∀ K : St → List Da → Prop, (∀ S' D, chkD l D need → HT P B y S' Q → K S' D) → runD P B.nt names (dsOf l) (!need.isEmpty) l [] [] S K) : HT P B (.seq (.region id l.toArray true) y) S Q :=
  seq_k fun N M hN hM => draw_k names c need hm hst hn fun K hK => h K fun S' D hd hy => hK S' D hd (hN S' hy)
theorem condT_k {c : Operand} {x y : Code} (hc : S.get c = some (.w (.one (.pl (.b true))))) (h : HT P B x S Q) : HT P B (.cond c x y) S Q := cond_k hc (fun _ => h) (fun e => by cases e)
theorem condF_k {c : Operand} {x y : Code} (hc : S.get c = some (.w (.one (.pl (.b false))))) (h : HT P B y S Q) : HT P B (.cond c x y) S Q := cond_k hc (fun e => by cases e) (fun _ => h)
end
end Go.Sy

namespace Go.Sy
section
variable {P : Program}
end
end Go.Sy

namespace Go.Sy
section
variable {P : Program} {B : Base} {Q : Exit → St → Prop} {S : St} {x y : Code}
end
attribute [go_sem] deepsIn deepV deepL deepLs deepC valsIn valIn leafIn leavesIn nameIn capsIn handOk leafOutV leafOutW leafOut okN outOk inv backM outN nameOut Ob.ren V.ren W.ren L.ren setM
end Go.Sy

namespace Go.Sy

def doneTo (ops : Array Oper) (p : Nat) (listed : Array Bool) : Prop := listed.size = ops.size ∧ ∀ i, i < ops.size → listed.getD i true = decide (i < p)
def Dr (P : Program) (B : Base) (l : List Oper) (p : Nat) (S : St) (K : St → Prop) : Prop :=
  ∀ d a w, Sim B d S a w → ∀ (Q : Exit → Act → World → Prop), (∀ S' d' a' w', K S' → Sim B d' S' a' w' → Q .normal a' w') → ∀ listed, doneTo l.toArray p listed → wpAny P .any l.toArray Q (l.length - p) listed a w

theorem ready_iff (ops : Array Oper) (listed : Array Bool) (i : Nat) : i ∈ Region.ready .any ops listed ↔ i < ops.size ∧ listed.getD i true = false ∧ ∀ o, ops[i]? = some o → ∀ e ∈ o.after, Region.binds .any e = true → listed.getD e.on false = true := by
  unfold Region.ready
  simp only [List.mem_filter, List.mem_range, Bool.and_eq_true, Bool.not_eq_true']
  constructor
  · rintro ⟨h1, h2, h3⟩
    refine ⟨h1, h2, fun o ho e he hb => ?_⟩
    rw [ho] at h3
    simp only [Option.map_some, Option.getD_some, Array.all_eq_true'] at h3
    have := h3 e he
    simpa [hb] using this
  · rintro ⟨h1, h2, h3⟩
    refine ⟨h1, h2, ?_⟩
    have ho := Array.getElem?_eq_getElem h1
    rw [ho]
    simp only [Option.map_some, Option.getD_some, Array.all_eq_true']
    intro e he
    cases hb : Region.binds .any e with
    | false => rfl
    | true => simpa using h3 _ ho e he hb

theorem getD_tf {l : Array Bool} {i : Nat} (h : i < l.size) : l.getD i false = l.getD i true := by
  rw [Array.getD_eq_getD_getElem?, Array.getD_eq_getD_getElem?, Array.getElem?_eq_getElem h]; rfl
theorem doneTo.listed {ops : Array Oper} {p : Nat} {listed : Array Bool} (h : doneTo ops p listed) {i : Nat} : listed.getD i false = decide (i < p ∧ i < ops.size) := by
  by_cases hi : i < ops.size
  · rw [getD_tf (by rw [h.1]; exact hi), h.2 i hi]; simp [hi]
  · rw [Array.getD_eq_getD_getElem?, Array.getElem?_eq_none (by rw [h.1]; omega)]; simp [hi]
theorem doneTo.set {ops : Array Oper} {p : Nat} {listed : Array Bool} (h : doneTo ops p listed) (hp : p < ops.size) : doneTo ops (p + 1) (listed.setIfInBounds p true) := by
  refine ⟨by rw [Array.size_setIfInBounds]; exact h.1, fun i hi => ?_⟩
  rw [getD_set (by rw [h.1]; exact hp)]
  by_cases e : i = p
  · rw [if_pos e]; simp [e]
  · rw [if_neg e, h.2 i hi]
    by_cases h2 : i < p
    · simp [h2, Nat.lt_succ_of_lt h2]
    · have : ¬ i < p + 1 := by omega
      simp [h2, this]

def forcedB (l : List Oper) (p : Nat) : Bool :=
  (List.range l.length).all fun j => match l[j]? with
    | none => true
    | some o => if j = p then o.after.toList.all fun e => !Region.binds .any e || decide (e.on < p)
      else if p < j then o.after.toList.any fun e => Region.binds .any e && decide (p ≤ e.on) else true

theorem forced_step {P : Program} {B : Base} {l : List Oper} {p : Nat} {o : Oper} {S : St} {K : St → Prop} {ds : List (Option Tmp)} (hds : ds = dsOf l) (hf : forcedB l p = true) (ho : l[p]? = some o)
    (hN : ∀ d a w, Sim B d S a w → ∀ (next : Act → World → Prop) (Q : Exit → Act → World → Prop), (∀ S' d' a' w', Dr P B l (p + 1) S' K → Sim B d' S' a' w' → next a' w') → (if Region.wanted o (yielded l.toArray a.tmps) then o.wp P a w next Q else next (a.put o.dst undef) w)) : Dr P B l p S K := by
  intro d a w hs Q hQ listed hl
  have hp : p < l.length := (List.getElem?_eq_some_iff.mp ho).1
  have hpa : p < l.toArray.size := by simpa using hp
  have hf' := List.all_eq_true.mp hf
  rw [show l.length - p = (l.length - (p + 1)) + 1 from by omega]
  have hready : p ∈ Region.ready .any l.toArray listed := by
    refine (ready_iff _ _ _).mpr ⟨hpa, by rw [hl.2 p hpa]; simp, fun o' ho' e he hb => ?_⟩
    rw [List.getElem?_toArray, ho] at ho'; cases ho'
    have := hf' p (List.mem_range.mpr hp)
    rw [ho] at this
    simp only [if_true] at this
    have := List.all_eq_true.mp this e (by simpa using he)
    rw [hb] at this
    have hlt : e.on < p := by simpa using this
    rw [hl.listed]; simp only [decide_eq_true_eq]; exact ⟨hlt, by omega⟩
  refine ⟨fun hnil => by rw [hnil] at hready; (cases hready), fun i hi => ?_⟩
  obtain ⟨h1, h2, h3⟩ := (ready_iff _ _ _).mp hi
  have hip : i = p := by
    rw [hl.2 i h1] at h2
    have h4 : ¬ i < p := by simpa using h2
    by_cases e : i = p
    · exact e
    · exfalso
      have hlt : p < i := by omega
      have hil : i < l.length := by simpa using h1
      have := hf' i (List.mem_range.mpr hil)
      obtain ⟨o', ho'⟩ : ∃ o', l[i]? = some o' := ⟨_, List.getElem?_eq_getElem hil⟩
      rw [ho'] at this
      simp only [if_neg e, if_pos hlt] at this
      obtain ⟨e', he', h5⟩ := List.any_eq_true.mp this
      simp only [Bool.and_eq_true, decide_eq_true_eq] at h5
      have := h3 o' (by rw [List.getElem?_toArray]; exact ho') e' (by simpa using he') h5.1
      rw [hl.listed] at this
      simp only [decide_eq_true_eq] at this
      omega
  subst hip
  simp only [wpOp, List.getElem?_toArray, ho]
  have hgo := hN d a w hs (wpAny P .any l.toArray Q (l.length - (i + 1)) (listed.setIfInBounds i true)) Q (fun S' d' a' w' hK hs' => hK d' a' w' hs' Q hQ _ (hl.set hpa))
  split
  · rename_i hw
    rw [if_pos hw] at hgo; exact .inl hgo
  · rename_i hw
    rw [if_neg hw] at hgo; exact hgo

def forcedTo (l : List Oper) (p : Nat) : Nat → Bool
  | 0 => true
  | n + 1 => forcedB l p && forcedTo l (p + 1) n

theorem dr_runs_aux {P : Program} {B : Base} {l : List Oper} {ds : List (Option Tmp)} {K : St → Prop} (hds : ds = dsOf l) : ∀ (n p : Nat) (S : St), forcedTo l p n = true → runOps P B ds ((l.drop p).take n) S (fun S' => Dr P B l (p + n) S' K) → p + n ≤ l.length → Dr P B l p S K
  | 0, p, S, _, h, _ => by simpa [runOps] using h
  | n + 1, p, S, hf, h, hn => by
    simp only [forcedTo, Bool.and_eq_true] at hf
    have hp : p < l.length := by omega
    have ho := List.getElem?_eq_getElem hp
    rw [List.drop_eq_getElem_cons hp, List.take_succ_cons] at h
    have hK : ∀ S', runOps P B ds ((l.drop (p + 1)).take n) S' (fun S' => Dr P B l (p + (n + 1)) S' K) → Dr P B l (p + 1) S' K := fun S' h' => dr_runs_aux hds n (p + 1) S' hf.2 (by rw [show p + 1 + n = p + (n + 1) from by omega]; exact h') (by omega)
    refine forced_step hds hf.1 ho fun d a w hs next Q hnext => ?_
    have hds' : ds = l.toArray.toList.map (·.dst) := by rw [hds, dsOf_eq]
    generalize l[p] = o at h ho
    unfold runOps at h
    split at h
    · rename_i hg
      rw [if_pos (by simp [Region.wanted, hg])]
      split at h
      · exact h d a w hs next Q (fun S' d' a' w' hk hs' => hnext _ _ _ _ (hK _ hk) hs')
      · split at h
        · rename_i S' hst
          exact stepV_wp (K := fun S' => runOps P B ds ((l.drop (p + 1)).take n) S' (fun S' => Dr P B l (p + (n + 1)) S' K)) hst h d a w hs next Q (fun S' d' a' w' hk hs' => hnext _ _ _ _ (hK _ hk) hs')
        · exact h.elim
    · rename_i g hg
      split at h
      · rename_i c hc
        have hw := wanted_of hs hds' hg hc
        by_cases hcg : c = g.2
        · rw [hw, hcg, if_pos (by simp)]
          have h1 := h.1 hcg
          have hs2 : Sim B d (setG S ds g.1 g.2) a w := by have := setG_ok hs hc; rwa [hcg] at this
          split at h1
          · exact h1 d a w hs2 next Q (fun S' d' a' w' hk hs' => hnext _ _ _ _ (hK _ hk) hs')
          · split at h1
            · rename_i S' hst
              exact stepV_wp (K := fun S' => runOps P B ds ((l.drop (p + 1)).take n) S' (fun S' => Dr P B l (p + (n + 1)) S' K)) hst h1 d a w hs2 next Q (fun S' d' a' w' hk hs' => hnext _ _ _ _ (hK _ hk) hs')
            · exact h1.elim
        · have hc' : c = !g.2 := by cases c <;> cases hg2 : g.2 <;> simp_all
          rw [hw, if_neg (by simp [hcg])]
          have h2 := h.2 hc'
          have hs2 : Sim B d (setG S ds g.1 (!g.2)) a w := by have := setG_ok hs hc; rwa [hc'] at this
          split at h2
          · rename_i S' hput
            exact hnext _ _ _ _ (hK _ h2) (St.put_ok hs2 hput (undef_den d))
          · exact h2.elim
      · exact h.elim

theorem dr_runs {P : Program} {B : Base} {l seg : List Oper} {p : Nat} {ds : List (Option Tmp)} {S : St} {K : St → Prop} (n : Nat) (hds : dsOf l = ds) (hf : (forcedTo l p n && decide (p + n ≤ l.length)) = true) (hseg : (l.drop p).take n = seg) (h : runOps P B ds seg S (fun S' => Dr P B l (p + n) S' K)) : Dr P B l p S K := by
  simp only [Bool.and_eq_true, decide_eq_true_eq] at hf
  exact dr_runs_aux hds.symm n p S hf.1 (by rw [hseg]; exact h) hf.2

theorem dr_runs_k {P : Program} {B : Base} {l seg : List Oper} {p : Nat} {ds : List (Option Tmp)} {S : St} {K : St → Prop} (n q : Nat) (hds : dsOf l = ds) (hf : (forcedTo l p n && decide (p + n ≤ l.length)) = true) (hseg : (l.drop p).take n = seg) (hq : p + n = q) (h : ∀ N : St → Prop, (∀ S', Dr P B l q S' K → N S') → runOps P B ds seg S N) : Dr P B l p S K := by
  subst hq
  exact dr_runs n hds hf hseg (h _ fun _ h => h)

theorem dr_end {P : Program} {B : Base} {l : List Oper} {p : Nat} {S : St} {K : St → Prop} (hp : l.length = p) (h : K S) : Dr P B l p S K := by
  intro d a w hs Q hQ listed hl
  rw [show l.length - p = 0 from by omega]
  refine ⟨List.eq_nil_iff_forall_not_mem.mpr fun i hi => ?_, hQ _ _ _ _ h hs⟩
  obtain ⟨h1, h2, _⟩ := (ready_iff _ _ _).mp hi
  rw [hl.2 i h1] at h2
  simp at h1 h2
  omega

theorem dr_k {P : Program} {B : Base} {id : Nat} {l : List Oper} {S : St} {Q : Exit → St → Prop} (hm : P.follows .mixedOrders = true)
    (h : ∀ K : St → Prop, (∀ S', Q .normal S' → K S') → Dr P B l 0 S K) : HT P B (.region id l.toArray true) S Q := by
  intro d a w hs
  refine wp_region_any hm ?_
  have := h (Q .normal) (fun _ h => h) d a _ (hs.drew (w' := { w with drawn := w.drawn + 1 }) rfl rfl rfl rfl) (fun e a' w' => ∃ S' d', Q e S' ∧ Sim B d' S' a' w') (fun S' d' a' w' hq hs' => ⟨S', d', hq, hs'⟩) (Array.replicate l.toArray.size false) ⟨by simp, fun i hi => by rw [Array.getD_eq_getD_getElem?, Array.getElem?_replicate, if_pos hi]; simp⟩
  simpa using this
end Go.Sy

namespace Go.Sy

section
variable {P : Program} {B : Base} {ops : Array Oper} {ds : List (Option Tmp)} {bef : Nat → Nat → Prop}

structure Rest2 (P : Program) (B : Base) (ops : Array Oper) (ds : List (Option Tmp)) (bef : Nat → Nat → Prop) (p n : Nat) (listed : Array Bool) (R : List (Nat × It)) (S : St) : Prop where
  size : listed.size = ops.size
  le : n ≤ ops.size
  at_ : ∀ x ∈ R, ops[x.1]? = some x.2.o
  from_ : ∀ x ∈ R, p ≤ x.1
  open_ : ∀ i, (i ∈ R.map (·.1) ↔ i < n ∧ listed.getD i true = false)
  later : ∀ i, n ≤ i → i < ops.size → listed.getD i true = false
  ord : R.Pairwise fun p q => p.1 < q.1 ∧ (bef q.1 p.1 ∨ Ind ds p.2 q.2)
  ok : OKs P ds (R.map (·.2)) S
  new : AllNew (R.map (·.2)) S
  apart : NamesApart (R.map (·.2))
  dst : ∀ p ∈ R, ∀ n, p.2.o.dst = some n → n < B.nt
  closed : ∀ i o, ops[i]? = some o → listed.getD i true = true → i < ops.size → ∀ e ∈ o.after, Region.binds .any e = true → listed.getD e.on false = true

theorem seg_ok {K : St → Prop} {Q : Exit → Act → World → Prop} {p n : Nat} (hds : ds = ops.toList.map (·.dst)) (hback : ∀ i o, ops[i]? = some o → ∀ e ∈ o.after, Region.binds .any e = true → e.on < i)
    (hbef : ∀ i o, ops[i]? = some o → ∀ x, bef i x → ∃ e ∈ o.after, Region.binds .any e = true ∧ (e.on = x ∨ bef e.on x))
    (hlate : ∀ i o, ops[i]? = some o → n ≤ i → ∀ x, p ≤ x → x < n → bef i x)
    (hK : ∀ S d a w listed, K S → Sim B d S a w → doneTo ops n listed → wpAny P .any ops Q (ops.size - n) listed a w) :
    ∀ (fuel : Nat) (listed : Array Bool) (R : List (Nat × It)) (S : St) d a w, R.length = fuel → Rest2 P B ops ds bef p n listed R S → (∀ S', Eqv (fin (R.map (·.2)) S) S' → K S') → Sim B d S a w → wpAny P .any ops Q (fuel + (ops.size - n)) listed a w := by
  have hclosed : ∀ (listed : Array Bool), listed.size = ops.size → (∀ i o, ops[i]? = some o → listed.getD i true = true → i < ops.size → ∀ e ∈ o.after, Region.binds .any e = true → listed.getD e.on false = true) →
      ∀ n i o, i ≤ n → ops[i]? = some o → (∀ e ∈ o.after, Region.binds .any e = true → listed.getD e.on false = true) → ∀ x, bef i x → listed.getD x false = true := by
    intro listed hsz hcl n
    induction n with
    | zero =>
      intro i o hi ho hp x hx
      obtain ⟨e, he, hb, h⟩ := hbef i o ho x hx
      have := hback i o ho e he hb; omega
    | succ n ih =>
      intro i o hi ho hp x hx
      obtain ⟨e, he, hb, h⟩ := hbef i o ho x hx
      have hlt := hback i o ho e he hb
      have hl := hp e he hb
      rcases h with rfl | h
      · exact hl
      · have hes : e.on < ops.size := by
          have := (Array.getElem?_eq_some_iff.mp ho).1; omega
        obtain ⟨o', ho'⟩ : ∃ o', ops[e.on]? = some o' := ⟨_, Array.getElem?_eq_getElem hes⟩
        refine ih e.on o' (by omega) ho' (hcl e.on o' ho' ?_ hes) x h
        rw [← getD_tf (by omega)]; exact hl
  intro fuel
  induction fuel with
  | zero =>
    intro listed R S d a w hlen hR hfin hs
    have : R = [] := List.eq_nil_of_length_eq_zero hlen
    subst this
    rw [Nat.zero_add]
    refine hK _ _ _ _ _ (hfin S (Eqv.rfl' _)) hs ⟨hR.size, fun i hi => ?_⟩
    by_cases h : i < n
    · have := hR.open_ i
      simp only [List.map_nil, List.not_mem_nil, false_iff, not_and, Bool.not_eq_false] at this
      rw [this h]; simp [h]
    · rw [hR.later i (by omega) hi]; simp [h]
  | succ fuel ih =>
    intro listed R S d a w hlen hR hfin hs
    rw [show fuel + 1 + (ops.size - n) = fuel + (ops.size - n) + 1 from by omega]
    have hin0 : ∀ x ∈ R, x.1 < n ∧ listed.getD x.1 true = false := fun x hx => (hR.open_ x.1).mp (List.mem_map_of_mem hx)
    refine ⟨fun hnil => ?_, fun i hi => ?_⟩
    · cases R with
      | nil => cases hlen
      | cons q r =>
        exfalso
        obtain ⟨h1, h2⟩ := (hR.open_ q.1).mp (by simp)
        have : q.1 ∈ Region.ready .any ops listed := by
          refine (ready_iff ops listed q.1).mpr ⟨Nat.lt_of_lt_of_le h1 hR.le, h2, fun o ho e he hb => ?_⟩
          have hlt := hback q.1 o ho e he hb
          cases hl : listed.getD e.on false with
          | true => rfl
          | false =>
            exfalso
            have hes : e.on < listed.size := by rw [hR.size]; have := hR.le; omega
            have : listed.getD e.on true = false := by rw [← getD_tf hes]; exact hl
            have hin := (hR.open_ e.on).mpr ⟨by omega, this⟩
            simp only [List.map_cons, List.mem_cons, List.mem_map] at hin
            have hord := List.pairwise_cons.mp hR.ord
            rcases hin with hin | ⟨q, hq, hin⟩
            · omega
            · have := (hord.1 q hq).1; omega
        rw [hnil] at this; cases this
    · obtain ⟨h1, h2, h3⟩ := (ready_iff ops listed i).mp hi
      have hin : i < n := by
        rcases Nat.lt_or_ge i n with h | h
        · exact h
        · exfalso
          obtain ⟨o, ho⟩ : ∃ o, ops[i]? = some o := ⟨_, Array.getElem?_eq_getElem h1⟩
          cases R with
          | nil => cases hlen
          | cons q r =>
            obtain ⟨h4, h5⟩ := hin0 q (by simp)
            have h6 := hclosed listed hR.size hR.closed i i o (Nat.le_refl _) ho (h3 o ho) q.1 (hlate i o ho h q.1 (hR.from_ q (by simp)) h4)
            rw [getD_tf (by rw [hR.size]; have := hR.le; omega), h5] at h6; cases h6
      have hin := (hR.open_ i).mpr ⟨hin, h2⟩
      obtain ⟨⟨i', x⟩, hx, e⟩ := List.mem_map.mp hin
      simp only at e; subst e
      obtain ⟨ys, r, rfl⟩ := List.append_of_mem hx
      have hox : ops[i']? = some x.o := hR.at_ _ hx
      have hord := List.pairwise_append.mp hR.ord
      have hordi := List.pairwise_cons.mp hord.2.1
      have hind : ∀ y ∈ ys.map (·.2), Ind ds y x := by
        intro y hy
        obtain ⟨⟨j, y'⟩, hj, rfl⟩ := List.mem_map.mp hy
        have hp := hord.2.2 _ hj (i', x) (by simp)
        rcases hp.2 with hb | hb
        · exfalso
          have hl := hclosed listed hR.size hR.closed i' i' x.o (Nat.le_refl _) hox (h3 x.o hox) j hb
          have hopen := (hR.open_ j).mp (by simp only [List.map_append, List.mem_append, List.mem_map]; exact .inl ⟨_, hj, rfl⟩)
          rw [getD_tf (by rw [hR.size]; have := hR.le; have := hopen.1; omega), hopen.2] at hl; cases hl
        · exact hb
      have hok := hR.ok
      have hnew := hR.new
      have hap := hR.apart
      simp only [List.map_append, List.map_cons] at hok hnew hap
      obtain ⟨g1, g2, g3⟩ := bubble hok hnew hap hind
      have hnx : ∀ k ∈ x.e.names, New k S := fun k hk => hnew x (by simp) k hk
      have hdst : ∀ n, x.o.dst = some n → n < B.nt := hR.dst _ hx
      have hR' : Rest2 P B ops ds bef p n (listed.setIfInBounds i' true) (ys ++ r) (x.on S) := by
        have hi2 : i' < listed.size := by rw [hR.size]; exact h1
        have hlt : ∀ p ∈ ys, p.1 < i' := fun p hp => (hord.2.2 p hp (i', x) (by simp)).1
        have hgt : ∀ p ∈ r, i' < p.1 := fun p hp => (hordi.1 p hp).1
        have sub : ∀ q ∈ ys ++ r, q ∈ ys ++ (i', x) :: r := fun q hq => by
          simp only [List.mem_append, List.mem_cons] at hq ⊢; rcases hq with hq | hq; exact .inl hq; exact .inr (.inr hq)
        refine ⟨by rw [Array.size_setIfInBounds]; exact hR.size, hR.le, fun p hp => hR.at_ p (sub p hp), fun q hq => hR.from_ q (sub q hq), fun j => ?_, fun j hj hjs => ?_, ?_, ?_, ?_, ?_, fun p hp => hR.dst p (sub p hp), ?_⟩
        · have hj := hR.open_ j
          rw [getD_set hi2]
          simp only [List.map_append, List.map_cons, List.mem_append, List.mem_cons, List.mem_map] at hj ⊢
          by_cases hji : j = i'
          · subst hji
            rw [if_pos rfl]
            constructor
            · rintro (⟨p, hp, e⟩ | ⟨p, hp, e⟩)
              · have := hlt p hp; omega
              · have := hgt p hp; omega
            · rintro ⟨_, h⟩; cases h
          · rw [if_neg hji, ← hj]
            constructor
            · rintro (h | h)
              · exact .inl h
              · exact .inr (.inr h)
            · rintro (h | h | h)
              · exact .inl h
              · exact absurd h hji
              · exact .inr h
        · have := (hin0 (i', x) (by simp)).1
          rw [getD_set hi2, if_neg (by omega)]
          exact hR.later j hj hjs
        · exact List.pairwise_append.mpr ⟨hord.1, hordi.2, fun p hp q hq => hord.2.2 p hp q (by simp [hq])⟩
        · rw [List.map_append]; exact g2
        · rw [List.map_append]
          have hmid := apart_mid hap
          refine AllNew.on (P := P) (ds := ds) (x := x) (r := ys.map (·.2) ++ r.map (·.2)) (S := S) (fun y hy k hk => hnew y ?_ k hk) g1 hmid
          simp only [List.mem_append, List.mem_cons] at hy ⊢; rcases hy with hy | hy; exact .inl hy; exact .inr (.inr hy)
        · rw [List.map_append]; exact hap.drop
        · intro j o ho hl hjs e he hb
          rw [getD_set hi2] at hl ⊢
          by_cases hei : e.on = i'
          · rw [if_pos hei]
          · rw [if_neg hei]
            by_cases hji : j = i'
            · subst hji
              rw [hox] at ho; cases ho
              exact h3 _ hox e he hb
            · rw [if_neg hji] at hl
              exact hR.closed j o ho hl hjs e he hb
      have hlen' : (ys ++ r).length = fuel := by simp at hlen ⊢; omega
      have hgo : ∀ d' a' w', Sim B d' (x.on S) a' w' → wpAny P .any ops Q (fuel + (ops.size - n)) (listed.setIfInBounds i' true) a' w' := by
        intro d' a' w' hs'
        refine ih _ (ys ++ r) (x.on S) d' a' w' hlen' hR' (fun S' he => hfin S' ?_) hs'
        simp only [List.map_append, List.map_cons]
        rw [List.map_append] at he
        exact g3.trans he
      have hev := g1.ev
      have hg := g1.guard
      have run : x.skip = false → x.o.wp P a w (wpAny P .any ops Q (fuel + (ops.size - n)) (listed.setIfInBounds i' true)) Q := by
        intro hsk
        rw [hsk] at hev
        simp only [Bool.false_eq_true, if_false] at hev
        exact hev.run hs hnx hdst _ _ hgo
      have skp : x.skip = true → wpAny P .any ops Q (fuel + (ops.size - n)) (listed.setIfInBounds i' true) (a.put x.o.dst undef) w := by
        intro hsk
        rw [hsk] at hev
        simp only [if_true] at hev
        refine hgo d _ _ ?_
        unfold It.on
        rw [hev]
        exact Sim.putE hs (v := .tup []) (undef_den d) hdst
      simp only [wpOp, hox]
      cases hgd : x.o.guard with
      | none =>
        rw [hgd] at hg
        rw [if_pos (by simp [Region.wanted, hgd])]
        exact .inl (run hg)
      | some g =>
        rw [hgd] at hg
        simp only at hg
        obtain ⟨c, hc, hsk⟩ := hg
        have hw := wanted_of hs hds hgd hc
        rw [hw]
        by_cases hcg : c = g.2
        · rw [if_pos (by simp [hcg])]
          exact .inl (run (by rw [hsk, hcg]; simp))
        · rw [if_neg (by simp [hcg])]
          exact skp (by rw [hsk]; simpa using hcg)
end

def pieceOk (ds : List (Option Tmp)) (c : List Nat) (need : List (Nat × Nat)) (p n : Nat) (l : List Oper) : Bool :=
  decide (p ≤ n) && decide (n ≤ l.length) && (List.range l.length).all fun j => match l[j]? with
    | none => true
    | some o => o.after.toList.all (fun e => !Region.binds .any e || decide (e.on < j)) &&
      (List.range j).all fun i =>
        (!(c.getD j 0).testBit i || o.after.toList.any (fun e => Region.binds .any e && (e.on == i || (decide (i < e.on) && (c.getD e.on 0).testBit i)))) &&
        (decide (i < p) || decide (n ≤ i) || (c.getD j 0).testBit i || (decide (j < n) && match l[i]? with
          | some x => dstS ds x o && ((!mutOp x.op && !mutOp o.op) || need.contains (i - p, j - p))
          | none => true))

theorem dr_piece {P : Program} {B : Base} {l seg : List Oper} {p : Nat} {ds : List (Option Tmp)} {S : St} {K : St → Prop} (n : Nat) (names c : List Nat) (need : List (Nat × Nat)) (hds : dsOf l = ds) (hst : pieceOk ds c need p n l = true) (hseg : (l.drop p).take (n - p) = seg)
    (hn : names.all (fun k => fresh k S && (look S.mem k).isNone) = true)
    (h : ∀ K' : St → List Da → Prop, (∀ S' D, chkD seg D need → Dr P B l n S' K → K' S' D) → runD P B.nt names ds (!need.isEmpty) seg [] [] S K') : Dr P B l p S K := by
  intro d a w hs Q hQ listed hlisted
  obtain ⟨its, hi, hchk, hK⟩ := runD_items (h (fun S' D => chkD seg D need ∧ Dr P B l n S' K) (fun _ _ h1 h2 => ⟨h1, h2⟩))
  have hget : ∀ i o, l.toArray[i]? = some o → l[i]? = some o := fun i o h => by rw [List.getElem?_toArray] at h; exact h
  simp only [pieceOk, Bool.and_eq_true, decide_eq_true_eq, List.all_eq_true, List.mem_range] at hst
  obtain ⟨⟨hpn, hnl⟩, hst⟩ := hst
  have hst' : ∀ j o, l[j]? = some o → (∀ e ∈ o.after, Region.binds .any e = true → e.on < j) ∧ ∀ i, i < j →
      ((c.getD j 0).testBit i = true → ∃ e ∈ o.after, Region.binds .any e = true ∧ (e.on = i ∨ (i < e.on ∧ (c.getD e.on 0).testBit i = true))) ∧
      (p ≤ i → i < n → (c.getD j 0).testBit i = true ∨ (j < n ∧ ∀ x, l[i]? = some x → dstS ds x o = true ∧ ((mutOp x.op = false ∧ mutOp o.op = false) ∨ (i - p, j - p) ∈ need))) := by
    intro j o ho
    have hj := (List.getElem?_eq_some_iff.mp ho).1
    have := hst j hj
    rw [ho] at this
    simp only [Bool.and_eq_true, List.all_eq_true, List.mem_range, Bool.or_eq_true, Bool.not_eq_true', decide_eq_true_eq, List.any_eq_true, beq_iff_eq] at this
    refine ⟨fun e he hb => ?_, fun i hi => ?_⟩
    · rcases this.1 e (by simpa using he) with h1 | h1
      · rw [hb] at h1; cases h1
      · exact h1
    · obtain ⟨h1, h2⟩ := this.2 i hi
      refine ⟨fun ht => ?_, fun h3 h4 => ?_⟩
      · rcases h1 with h1 | ⟨e, he, hb, h1⟩
        · rw [ht] at h1; cases h1
        · exact ⟨e, by simpa using he, hb, h1⟩
      · rcases h2 with ((h2 | h2) | h2) | ⟨h5, h2⟩
        · omega
        · omega
        · exact .inl h2
        · right
          refine ⟨h5, fun x hx => ?_⟩
          rw [hx] at h2
          simp only [Bool.and_eq_true, Bool.or_eq_true, Bool.not_eq_true', List.contains_iff_mem] at h2
          exact h2
  have hseglen : seg.length = n - p := by rw [← hseg, List.length_take, List.length_drop]; omega
  have hlen : its.length = n - p := by rw [← hseglen, ← hi.ops, List.length_map]
  have hsegat : ∀ i o, seg[i]? = some o → l[p + i]? = some o := by
    intro i o ho
    have hlt := (List.getElem?_eq_some_iff.mp ho).1
    rw [← hseg, List.getElem?_take, if_pos (by omega), List.getElem?_drop] at ho
    exact ho
  let R : List (Nat × It) := its.zipIdx.map fun q => (q.2 + p, q.1)
  have hRmap : R.map (·.2) = its := by
    simp only [R, List.map_map]
    exact List.zipIdx_map_fst 0 its
  have hRmem : ∀ q ∈ R, p ≤ q.1 ∧ its[q.1 - p]? = some q.2 := by
    intro q hq
    obtain ⟨⟨x, i⟩, hq', rfl⟩ := List.mem_map.mp hq
    have := List.mem_zipIdx_iff_getElem?.mp hq'
    exact ⟨Nat.le_add_left _ _, by simpa using this⟩
  have hitl : ∀ (i : Nat) (x : It), its[i]? = some x → seg[i]? = some x.o := by
    intro i x hx
    rw [← hi.ops, List.getElem?_map, hx]; rfl
  have hRl : ∀ q ∈ R, l[q.1]? = some q.2.o := by
    intro q hq
    obtain ⟨h1, h2⟩ := hRmem q hq
    have := hsegat _ _ (hitl _ _ h2)
    rwa [show p + (q.1 - p) = q.1 from by omega] at this
  have hRn : ∀ q ∈ R, q.1 < n := by
    intro q hq
    obtain ⟨h1, h2⟩ := hRmem q hq
    have := (List.getElem?_eq_some_iff.mp h2).1
    omega
  have hmain := seg_ok (P := P) (B := B) (ops := l.toArray) (ds := ds) (bef := fun j i => i < j ∧ (c.getD j 0).testBit i = true) (Q := Q) (p := p) (n := n) (K := fun S' => Eqv S' (fin its S))
    (by rw [← hds, dsOf_eq]) (fun i o ho => (hst' i o (hget i o ho)).1) ?_ ?_ ?_ its.length listed R S d a w (by simp [R]) ?_ ?_ hs
  · rw [hlen, show n - p + (l.toArray.size - n) = l.length - p from by simp; omega] at hmain
    exact hmain
  · intro i o ho x ⟨hx1, hx2⟩
    obtain ⟨e, he, hb, h1⟩ := ((hst' i o (hget i o ho)).2 x hx1).1 hx2
    exact ⟨e, he, hb, h1⟩
  · intro i o ho hni x hpx hxn
    rcases ((hst' i o (hget i o ho)).2 x (by omega)).2 hpx hxn with h1 | h1
    · exact ⟨by omega, h1⟩
    · omega
  · intro S' d' a' w' listed' he hs' hl'
    have := hK d' a' w' (hs'.eqv he) Q hQ listed' hl'
    simpa using this
  · refine ⟨hlisted.1, by simpa using hnl, fun q hq => (by rw [List.getElem?_toArray]; exact hRl q hq : l.toArray[q.1]? = some q.2.o), fun q hq => (hRmem q hq).1, fun i => ?_, fun i hi1 hi2 => ?_, ?_, by rw [hRmap]; exact hi.ok, ?_, by rw [hRmap]; exact hi.apart, fun q hq => hi.dst q.2 (by rw [← hRmap]; exact List.mem_map_of_mem hq), ?_⟩
    · constructor
      · intro h1
        obtain ⟨q, hq, rfl⟩ := List.mem_map.mp h1
        have h2 := hRn q hq
        refine ⟨h2, ?_⟩
        rw [hlisted.2 q.1 (by simp; omega)]
        have := (hRmem q hq).1
        simp; omega
      · rintro ⟨h1, h2⟩
        rw [hlisted.2 i (by simp; omega)] at h2
        have h3 : p ≤ i := by simpa using h2
        have h4 : i - p < its.length := by omega
        refine List.mem_map.mpr ⟨(i, its[i - p]), ?_, rfl⟩
        refine List.mem_map.mpr ⟨(its[i - p], i - p), ?_, by simp; omega⟩
        exact List.mem_zipIdx_iff_getElem?.mpr (by simp [h4])
    · rw [hlisted.2 i hi2]; simp; omega
    · have hp1 : its.zipIdx.Pairwise fun p q => p.2 < q.2 := by
        rw [List.pairwise_iff_getElem]
        intro i j hi' hj' hij
        simp only [List.getElem_zipIdx]; omega
      have hp2 : R.Pairwise fun p q => p.1 < q.1 := List.pairwise_map.mpr (hp1.imp fun h => by simp only; omega)
      refine hp2.imp_of_mem ?_
      intro x y hp hq hlt
      refine ⟨hlt, ?_⟩
      obtain ⟨hpi0, hpi⟩ := hRmem x hp
      obtain ⟨hqi0, hqi⟩ := hRmem y hq
      rcases ((hst' y.1 y.2.o (hRl _ hq)).2 x.1 hlt).2 hpi0 (hRn _ hp) with h1 | ⟨_, h1⟩
      · exact .inl ⟨hlt, h1⟩
      · right
        obtain ⟨h2, h3⟩ := h1 _ (hRl _ hp)
        have hpm : x.2 ∈ its := List.mem_of_getElem? hpi
        have hqm : y.2 ∈ its := List.mem_of_getElem? hqi
        simp only [dstS, Bool.and_eq_true] at h2
        have sub : ∀ x : It, ∀ n, n ∈ tmpsOf (x.reads ds) → n ∈ tmpsOf (gslot ds x.o ++ x.o.op.operands.toList) := by
          intro x n hn
          unfold It.reads at hn
          simp only [tmpsOf, List.filterMap_append, List.mem_append] at hn ⊢
          rcases hn with hn | hn
          · exact .inl hn
          · right
            split at hn
            · cases hn
            · exact hn
        have hmu : (x.2.e.mut = false ∨ y.2.e.mut = false) ∧ touch x.2 y.2 ∧ touch y.2 x.2 := by
          rcases h3 with ⟨h4, h5⟩ | h4
          · have e1 : x.2.e.mut = false := by
              cases hc : x.2.e.mut with
              | false => rfl
              | true => have := hi.mu _ hpm hc; rw [h4] at this; cases this
            have e2 : y.2.e.mut = false := by
              cases hc : y.2.e.mut with
              | false => rfl
              | true => have := hi.mu _ hqm hc; rw [h5] at this; cases this
            exact ⟨.inl e1, touch_not e1, touch_not e2⟩
          · have := chkD_mem hchk _ h4
            have hk : (!need.isEmpty) = true := by
              cases need with
              | nil => cases h4
              | cons => rfl
            rw [hk] at this
            simp only [cond_true, List.nil_append, List.getElem?_map, hpi, hqi, hitl _ _ hpi, hitl _ _ hqi, Option.map_some, atD, pairD] at this
            have hd1 := hi.dp _ hpm
            have hd2 := hi.dp _ hqm
            rw [hk] at hd1 hd2
            exact ⟨this.1, touch_of this.2.1 hd2, touch_of this.2.2 hd1⟩
        refine ⟨fun n hn' hin => ?_, fun n hn' hin => ?_, fun n hn' => ?_, hmu.1, hmu.2.1, hmu.2.2⟩
        · have := h2.1
          rw [hn'] at this
          simp only [Bool.and_eq_true, Bool.not_eq_true'] at this
          have hc := sub _ _ hin
          rw [← List.contains_iff_mem] at hc
          rw [this.1] at hc; cases hc
        · have := h2.2
          rw [hn'] at this
          simp only [Bool.not_eq_true'] at this
          have hc := sub _ _ hin
          rw [← List.contains_iff_mem] at hc
          rw [this] at hc; cases hc
        · have := h2.1
          rw [hn'] at this
          simp only [Bool.and_eq_true, bne_iff_ne] at this
          exact this.2
    · rw [hRmap]
      intro x hx k hk
      have := (hi.nm x hx k hk).1
      simp only [List.all_eq_true, Bool.and_eq_true] at hn
      have h1 := hn k this
      have h2 := hasE_not h1.1
      exact ⟨⟨fun n v hv => hasE_look h2.1 hv, fun n o ho => hasM_look h2.2 ho, fresh_lt h1.1⟩, by simpa using h1.2⟩
    · intro i o ho hl hsz e he hb
      rw [hlisted.2 i hsz] at hl
      have h1 := (hst' i o (hget i o ho)).1 e he hb
      rw [hlisted.listed]
      simp at hl hsz ⊢
      omega
  · intro S' he
    rw [hRmap] at he
    exact he.symm
theorem dr_piece_k {P : Program} {B : Base} {l seg : List Oper} {p : Nat} {ds : List (Option Tmp)} {S : St} {K : St → Prop} (n : Nat) (names c : List Nat) (need : List (Nat × Nat)) (hds : dsOf l = ds) (hst : pieceOk ds c need p n l = true) (hseg : (l.drop p).take (n - p) = seg)
    (hn : names.all (fun k => fresh k S && (look S.mem k).isNone) = true)
    (h : ∀ (N : St → Prop) (K' : St → List Da → Prop), (∀ S', Dr P B l n S' K → N S') → (∀ S' D, chkD seg D need → N S' → K' S' D) → runD P B.nt names ds (!need.isEmpty) seg [] [] S K') : Dr P B l p S K :=
  dr_piece n names c need hds hst hseg hn fun K' hK' => h (fun S' => Dr P B l n S' K) K' (fun _ h => h) hK'
end Go.Sy

