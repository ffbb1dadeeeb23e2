/- The layer that reckons a function out, part 3 of 3: what it says of states, operations, regions, loops, calls. CONDITIONS: those that each theorem names. -/
import Derived.Test.YthcpkdhojokhdaavE2
import Derived.ProofKit
import Derived.Below
import Derived.ChangeSame
import Derived.Carry
import Derived.ChangeSlices
import Derived.Lib.SmallJoins
import Derived.Handed
set_option linter.unusedVariables false
set_option linter.unusedSimpArgs false
namespace Go.Sy
open Go.RowKit Go.WideShapes Go.ChangeShapes Go.ChangeAt

theorem MemOK.below {w w' : World} {d : Va} {m : List (Nat × Ob)} {ro : Ro} (h : MemOK ⟨w, fun _ => False, 0, ro, fun _ => none⟩ d m w') : Below w.heap.size w w' := by
  obtain ⟨a, hs⟩ := h
  exact ⟨hs.os, hs.tape, hs.output, hs.size, fun k hk => hs.block k hk (fun h => h.elim)⟩

theorem Ct.calls {P : Program} {f : FuncId} {args : List V} {R : V → List (Nat × Ob) → Prop} {b : Bool} (hc : Ct P f args R) (hR : ∀ v m, R v m → v = .w (.one (.pl (.b b)))) (w : World) (d : Va) (vals : Array Value)
    (hro : ∀ b o y, d.ro b o = some y → w.cell? ⟨b, o, none⟩ = some y) (hg : ∀ k, gl0 ≤ k → d.at_ k = k - gl0) (ha : All2 (V.den d) args vals.toList) : Calls P f vals w fun e w' => e = .returned (.bool b) ∧ Below w.heap.size w w' := by
  refine (hc w d vals hro hg ha).mono fun e w' ⟨y, v, d', m', he, hr, hd, hm⟩ => ?_
  rw [hR v m' hr] at hd
  exact ⟨by rw [he]; exact congrArg _ hd, hm.below⟩

section
variable {H : Type} {enc : TypeId × Value → H} {P : Program}
theorem below_trodAll (hl : laidOutB P = true) {W W' : World} (hb : Below W.heap.size W W') {sp : Nat → Bool} : ∀ (ts : List TypeId) (vs : List Value) (ds : List (DataW H)) (ps : List MemPlace),
    (ts.all fun t => P.readableRec t && decide (t < P.types.size)) = true → DataW.TrodAll enc P W 0 (fun _ => true) true ts vs ds ps → (∀ x ∈ ps, x.block < W.heap.size) → (∀ x ∈ ps, sp x.block = true) → DataW.TrodAll enc P W' 0 sp true ts vs ds ps
  | [], [], [], ps, _, h, _, _ => h
  | t :: ts, v :: vs, d :: ds, ps, hr, h, hlt, hsp => by
    obtain ⟨p, q, h1, h2, rfl⟩ := h
    simp only [List.all_cons, Bool.and_eq_true, decide_eq_true_eq] at hr
    refine ⟨p, q, WideElems.Trod_stays hl hr.1.1 hr.1.2 h1 (fun x hx => hb.same (hlt x (by simp [hx]))) (fun x hx => hsp x (by simp [hx])), ?_, rfl⟩
    exact below_trodAll hl hb ts vs ds q hr.2 h2 (fun x hx => hlt x (by simp [hx])) (fun x hx => hsp x (by simp [hx]))
  | [], _ :: _, _, _, _, h, _, _ => h.elim
  | [], [], _ :: _, _, _, h, _, _ => h.elim
  | _ :: _, [], _, _, _, h, _, _ => h.elim
  | _ :: _, _ :: _, [], _, _, h, _, _ => h.elim

theorem law_post {f : Func} {s : ChangeSpec} {apart fresh handsOn again : Bool} {t : TypeId} {W W' : World} {args : Array Value} {ds gs : List (DataW H)} {before : List MemPlace}
    (hW : DataW.Whole enc P f.params.toList s.vars apart W args.toList ds gs before) (hl : laidOutB P = true) (hr : (f.params.toList.all fun t => P.readableRec t && decide (t < P.types.size)) = true)
    (hv : s.vars = []) (hrt : f.resultTypes = #[t]) (ht : P.underlying t = some .bool) (hs : s.fn H ds = { results := [.lit (.bool true)], args := ds }) (hb : Below W.heap.size W W') :
    s.post enc P f apart fresh handsOn again W args (.bool true) W' := by
  have hW0 := hW
  obtain ⟨p, q, hA, hV, hpq, hz, hn⟩ := hW
  rw [hv] at hV
  obtain ⟨hg, hq⟩ := trodVars_none hV
  subst hg; subst hq; subst hpq
  have hlt : ∀ x ∈ p ++ [], x.block < W.heap.size := fun x hx => hW0.lt x hx
  simp only [List.append_nil] at hlt hW0
  have e : s.fn H (ds ++ []) = { results := [.lit (.bool true)], args := ds } := by rw [List.append_nil]; exact hs
  have hargs : ∀ sp : Nat → Bool, (∀ x ∈ p, sp x.block = true) → DataW.TrodAll enc P W' 0 sp true f.params.toList args.toList (s.fn H (ds ++ [])).args p := fun sp h => by
    rw [e]; exact below_trodAll hl hb _ _ _ _ hr hA hlt h
  have hres : ∀ (b : Nat) (sp : Nat → Bool) (hd : Bool), DataW.TrodAll enc P W' b sp hd f.resultTypes.toList ((Value.bool true).resultList f.resultTypes.size) (s.fn H (ds ++ [])).results [] := fun b sp hd => by
    rw [e, hrt]; exact trodAll_mk1 (shut_bool ht true)
  have hvars : ∀ sp : Nat → Bool, DataW.TrodVars enc P W' sp s.vars (s.fn H (ds ++ [])).vars [] := fun sp => by rw [e, hv]; rfl
  have hold : ∀ x ∈ p, (fun b => decide (b < W.heap.size)) x.block = true := fun x hx => by simpa using hlt x hx
  refine ⟨ds, [], p, [], p, [], hW0, hres _ _ _, hargs _ hold, hvars _, World.keptBut_mono (fun x hx => ⟨hx, ?_⟩) (hb.frame (· ∈ p)), fun _ => ?_⟩
  · exact Or.inr (by simpa using hx)
  · refine ⟨ok_one hrt rfl (okWide_bool_mk ht true), _, _, ([] ++ p) ++ [], ⟨[] ++ p, [], trodAll_append (hargs _ (fun _ _ => rfl)) (hres _ _ _), hvars _, rfl, ?_, ?_⟩, ?_⟩
    · intro b off hp
      have hin : MemPlace.cell b off ∈ p := by simpa using hp
      rw [hb.frozen (hlt _ hin)]
      exact hz b off (by simpa using hin)
    · intro ha
      have := hn ha
      simpa using this
    · intro x hx _
      simpa using hx
end
end Go.Sy
namespace Go.Sy
open Go.RowKit Go.WideShapes Go.ChangeShapes Go.ChangeAt

/-- cells of a type's form -/
def Sh (P : Program) : Nat → TypeId → List PL → Prop
  | 0, _, _ => False
  | n + 1, t, cs => match P.underlying t with
    | some .bool => ∃ b, cs = [.b b]
    | some (.int .i64) => ∃ k : Int, cs = [.i k] ∧ -9223372036854775808 ≤ k ∧ k ≤ 9223372036854775807
    | some (.int .u8) => ∃ x, cs = [.u8 x]
    | some (.int .u32) => ∃ x, cs = [.u32 x]
    | some (.int .u64) => ∃ x, cs = [.u64 x]
    | some .string => ∃ s, cs = [.str s] ∧ s.length ≤ maxLen
    | some (.slice e) => ∃ rows, cs = [.R false (P.cellsOf e) rows] ∧ (∀ r ∈ rows, Sh P n e r ∧ r.length = P.cellsOf e) ∧ rows.length ≤ maxLen
    | some (.struct fs) => ∃ ps : List (List PL), cs = ps.flatten ∧ All2 (fun (f : Field) p => Sh P n f.type p ∧ p.length = P.cellsOf f.type) fs.toList ps
    | some (.array m e) => ∃ ps : List (List PL), cs = ps.flatten ∧ ps.length = m ∧ ∀ p ∈ ps, Sh P n e p ∧ p.length = P.cellsOf e
    | _ => False

/-- what is read off a world -/
def Va.reads (w : World) : Va := ⟨fun k => k - gl0, fun _ => 0, fun b o => w.cell? ⟨b, o, none⟩⟩

def tileFs (P : Program) : List Field → Nat → Nat → Bool
  | [], off, n => off == n
  | f :: fs, off, n => f.offset == off && tileFs P fs (off + P.cellsOf f.type) n
/-- which types the opening knows, and that their fields lie side by side -/
def known (P : Program) (G : Nat → TypeId → Bool) : Nat → TypeId → Bool
  | 0, _ => false
  | n + 1, t => match P.underlying t with
    | some .bool | some (.int .i64) | some (.int .u8) | some (.int .u32) | some (.int .u64) | some .string => P.cellsOf t == 1
    | some (.slice e) => P.cellsOf t == 1 && (G n e && known P G n e)
    | some (.struct fs) => tileFs P fs.toList 0 (P.cellsOf t) && fs.toList.all fun f => known P G n f.type
    | some (.array m e) => P.cellsOf t == m * P.cellsOf e && known P G n e
    | _ => false

section
variable {H : Type} {enc : TypeId × Value → H} {P : Program} {w : World} {base : Nat} {spare : Nat → Bool} {held : Bool}

theorem trod_array {m : Nat} {t e : TypeId} {fuel : Nat} {cs : List Value} {x : DataW H × List MemPlace} (ht : P.underlying t = some (.array m e)) (h : DataW.trod enc P w base spare held fuel t cs = some x) :
    ∃ n, fuel = n + 1 ∧ cs.length = P.cellsOf t ∧ ∀ i, i < m → ∃ y, DataW.trod enc P w base spare held n e ((cs.drop (i * P.cellsOf e)).take (P.cellsOf e)) = some y := by
  cases fuel with
  | zero => simp [DataW.trod] at h
  | succ n =>
    unfold DataW.trod at h
    rw [ht] at h
    simp only at h
    split at h <;> try (simp at h; done)
    rename_i hl
    refine ⟨n, rfl, hl, fun i hi => ?_⟩
    obtain ⟨xs, hx, _⟩ := Option.map_eq_some_iff.mp h
    have : ∀ (l : List Nat) (ys : List (DataW H × List MemPlace)), l.mapM (fun i => DataW.trod enc P w base spare held n e ((cs.drop (i * P.cellsOf e)).take (P.cellsOf e))) = some ys → ∀ i ∈ l, ∃ y, DataW.trod enc P w base spare held n e ((cs.drop (i * P.cellsOf e)).take (P.cellsOf e)) = some y := by
      intro l
      induction l with
      | nil => intro _ _ i hi; cases hi
      | cons a r ih =>
        intro ys hy i hi
        rw [List.mapM_cons] at hy
        cases ha : DataW.trod enc P w base spare held n e ((cs.drop (a * P.cellsOf e)).take (P.cellsOf e)) with
        | none => rw [ha] at hy; simp at hy
        | some y =>
          rw [ha] at hy
          rcases List.mem_cons.mp hi with rfl | hi
          · exact ⟨y, ha⟩
          · cases hr : r.mapM (fun i => DataW.trod enc P w base spare held n e ((cs.drop (i * P.cellsOf e)).take (P.cellsOf e))) with
            | none => rw [hr] at hy; simp at hy
            | some zs => exact ih zs hr i hi
    exact this _ _ hx i (by simpa using hi)

def spotOk (v : Value) : Prop := ∀ a len cap, v = .slice (some a) len cap → a.spot = none

theorem denAt_of {ro : Ro} {blk : Nat} : ∀ {c : List PL} {vals : List Value} {off : Nat}, All2 (PL.den ro) c vals → (∀ j v, vals[j]? = some v → ro blk (off + j) = some v) → PL.denAt ro blk c off
  | [], _, _, _, _ => by rw [PL.denAt]; trivial
  | x :: c, vals, off, h, hc => by
    cases h with
    | cons h1 h2 =>
      rename_i y m
      rw [PL.denAt]
      refine ⟨⟨y, by simpa using hc 0 y rfl, h1⟩, denAt_of h2 fun j v hv => ?_⟩
      have := hc (j + 1) v (by simpa using hv)
      rwa [show off + (j + 1) = off + 1 + j from by omega] at this

theorem denRows_of {ro : Ro} {blk sz : Nat} : ∀ {rows : List (List PL)} {off : Nat}, (∀ r ∈ rows, r.length = sz) → (∀ i r, rows[i]? = some r → PL.denAt ro blk r (off + i * sz)) → PL.denRows ro blk sz rows off
  | [], _, _, _ => by rw [PL.denRows]; trivial
  | r :: rs, off, hl, h => by
    rw [PL.denRows]
    refine ⟨hl r (by simp), by simpa using h 0 r rfl, denRows_of (fun r hr => hl r (by simp [hr])) fun i r' hr => ?_⟩
    have := h (i + 1) r' (by simpa using hr)
    rwa [show off + (i + 1) * sz = off + sz + i * sz from by rw [Nat.add_mul]; omega] at this

theorem all2_flatten {ro : Ro} : ∀ {ps : List (List PL)} {vs : List (List Value)}, All2 (fun p v => All2 (PL.den ro) p v) ps vs → All2 (PL.den ro) ps.flatten vs.flatten
  | _, _, .nil => .nil
  | _, _, .cons h1 h2 => by simpa using h1.append (all2_flatten h2)

theorem choose_list {α β : Type} {p : α → β → Prop} : ∀ (l : List α), (∀ x ∈ l, ∃ y, p x y) → ∃ ys : List β, All2 p l ys
  | [], _ => ⟨[], .nil⟩
  | x :: r, h => by
    obtain ⟨y, hy⟩ := h x (by simp)
    obtain ⟨ys, hys⟩ := choose_list r fun z hz => h z (by simp [hz])
    exact ⟨y :: ys, .cons hy hys⟩

theorem All2.flip {α β : Type} {R : α → β → Prop} : ∀ {l : List α} {m : List β}, All2 R l m → All2 (fun b a => R a b) m l
  | _, _, .nil => .nil
  | _, _, .cons h1 h2 => .cons h1 h2.flip

theorem chunk_flatten {α : Type} (sz : Nat) : ∀ (m : Nat) (cs : List α), cs.length = m * sz → ((List.range m).map fun i => (cs.drop (i * sz)).take sz).flatten = cs
  | 0, cs, h => by simp at h; simp [h]
  | m + 1, cs, h => by
    rw [List.range_succ_eq_map, List.map_cons, List.flatten_cons, List.map_map]
    have h2 : (cs.drop sz).length = m * sz := by rw [List.length_drop, h, Nat.add_mul]; omega
    have ih := chunk_flatten sz m (cs.drop sz) h2
    have e : (List.range m).map ((fun i => (cs.drop (i * sz)).take sz) ∘ Nat.succ) = (List.range m).map fun i => ((cs.drop sz).drop (i * sz)).take sz := by
      refine List.map_congr_left fun i _ => ?_
      simp only [Function.comp_def, List.drop_drop]
      congr 2
      rw [Nat.succ_mul]; omega
    rw [e, ih]; simp

theorem tile_split {n : Nat} (cs : List Value) (hl : cs.length = n) : ∀ (fs : List Field) (off : Nat), tileFs P fs off n = true → (fs.map fun f => (cs.drop f.offset).take (P.cellsOf f.type)).flatten = cs.drop off
  | [], off, h => by
    simp only [tileFs, beq_iff_eq] at h
    subst h; subst hl; simp
  | f :: fs, off, h => by
    simp only [tileFs, Bool.and_eq_true, beq_iff_eq] at h
    obtain ⟨h1, h2⟩ := h
    rw [List.map_cons, List.flatten_cons, tile_split cs hl fs _ h2, h1, ← List.drop_drop, List.take_append_drop]

theorem take_len {α : Type} {cs : List α} {a b : Nat} (h : a + b ≤ cs.length) : ((cs.drop a).take b).length = b := by simp; omega

theorem tile_le {n : Nat} : ∀ (fs : List Field) (off : Nat), tileFs P fs off n = true → ∀ f ∈ fs, f.offset + P.cellsOf f.type ≤ n
  | [], _, _, f, hf => by cases hf
  | g :: fs, off, h, f, hf => by
    simp only [tileFs, Bool.and_eq_true, beq_iff_eq] at h
    have hge : ∀ (fs : List Field) (off : Nat), tileFs P fs off n = true → off ≤ n := by
      intro fs
      induction fs with
      | nil => intro off h; simp only [tileFs, beq_iff_eq] at h; omega
      | cons g fs ih => intro off h; simp only [tileFs, Bool.and_eq_true, beq_iff_eq] at h; have := ih _ h.2; omega
    rcases List.mem_cons.mp hf with rfl | hf
    · have := hge _ _ h.2; omega
    · exact tile_le fs _ h.2 f hf

theorem All2.map_r {α β γ : Type} {R : α → γ → Prop} {f : β → γ} : ∀ {l : List α} {m : List β}, All2 (fun a b => R a (f b)) l m → All2 R l (m.map f)
  | _, _, .nil => .nil
  | _, _, .cons h1 h2 => .cons h1 h2.map_r

theorem open_any {G : Nat → TypeId → Bool} (hsp : ∀ (n : Nat) (t : TypeId) (m : Nat) (cs : List Value) (y : DataW H × List MemPlace), DataW.trod enc P w base spare held n t cs = some y → G m t = true → ∀ v ∈ cs, spotOk v) : ∀ (n : Nat) (t : TypeId) (m : Nat) (cs : List Value) (y : DataW H × List MemPlace), DataW.trod enc P w base spare held n t cs = some y → known P G m t = true → (∀ v ∈ cs, spotOk v) →
    ∃ xs, Sh P m t xs ∧ xs.length = cs.length ∧ All2 (PL.den (Va.reads w).ro) xs cs := by
  intro n
  induction n with
  | zero => intro t m cs y h; simp [DataW.trod] at h
  | succ n ih =>
    intro t m cs y h hk hv
    cases m with
    | zero => simp [known] at hk
    | succ m =>
      have hk0 := hk
      unfold known at hk
      split at hk <;> try (cases hk; done)
      · rename_i ht
        obtain ⟨b, rfl, _⟩ := DataW.trod_bool ht h
        exact ⟨[.b b], by unfold Sh; rw [ht]; exact ⟨b, rfl⟩, rfl, .cons (by rw [PL.den]) .nil⟩
      · rename_i ht
        obtain ⟨k, rfl, _, hwf⟩ := DataW.trod_int ht h
        simp only [Lit.wf, IntKind.min, IntKind.max, IntKind.signed, IntKind.bits, Bool.and_eq_true, decide_eq_true_eq, if_true] at hwf
        exact ⟨[.i k], by unfold Sh; rw [ht]; exact ⟨k, rfl, by omega, by omega⟩, rfl, .cons (by rw [PL.den]) .nil⟩
      · rename_i ht
        obtain ⟨k, rfl, _, hwf⟩ := DataW.trod_int ht h
        simp only [Lit.wf, IntKind.min, IntKind.max, IntKind.signed, IntKind.bits, Bool.and_eq_true, decide_eq_true_eq] at hwf
        exact ⟨[.u8 (UInt8.ofNat k.toNat)], by unfold Sh; rw [ht]; exact ⟨_, rfl⟩, rfl, .cons (by rw [PL.den]; congr 1; simp at hwf ⊢; omega) .nil⟩
      · rename_i ht
        obtain ⟨k, rfl, _, hwf⟩ := DataW.trod_int ht h
        simp only [Lit.wf, IntKind.min, IntKind.max, IntKind.signed, IntKind.bits, Bool.and_eq_true, decide_eq_true_eq] at hwf
        exact ⟨[.u32 (UInt32.ofNat k.toNat)], by unfold Sh; rw [ht]; exact ⟨_, rfl⟩, rfl, .cons (by rw [PL.den]; congr 1; simp at hwf ⊢; omega) .nil⟩
      · rename_i ht
        obtain ⟨k, rfl, _, hwf⟩ := DataW.trod_int ht h
        simp only [Lit.wf, IntKind.min, IntKind.max, IntKind.signed, IntKind.bits, Bool.and_eq_true, decide_eq_true_eq] at hwf
        exact ⟨[.u64 (UInt64.ofNat k.toNat)], by unfold Sh; rw [ht]; exact ⟨_, rfl⟩, rfl, .cons (by rw [PL.den]; congr 1; simp at hwf ⊢; omega) .nil⟩
      · rename_i ht
        obtain ⟨s, rfl, _, hs⟩ := DataW.trod_string ht h
        have hl : s.data.toList.length = s.size := Array.length_toList
        exact ⟨[.str s.data.toList], by unfold Sh; rw [ht]; exact ⟨_, rfl, by omega⟩, rfl, .cons (by rw [PL.den]; exact ⟨by simp, by omega⟩) .nil⟩
      · rename_i e ht
        simp only [Bool.and_eq_true, beq_iff_eq] at hk
        rcases DataW.trod_slice ht h with ⟨rfl, _⟩ | ⟨a, len, cap, elems, rest, n', hn, rfl, _, hb, hl, hm, hel, hi, _⟩
        · exact ⟨[.R false (P.cellsOf e) []], by unfold Sh; rw [ht]; exact ⟨[], rfl, fun r hr => (by cases hr), Nat.zero_le _⟩, rfl, .cons (by rw [PL.den]; exact .inl ⟨rfl, rfl⟩) .nil⟩
        · cases hn
          have hsa := hv _ (by simp) a len cap rfl
          obtain ⟨blk, off, sp⟩ := a
          simp only at hsa; subst hsa
          have each : ∀ i ∈ List.range len, ∃ r : List PL, Sh P m e r ∧ r.length = P.cellsOf e ∧ PL.denAt (Va.reads w).ro blk r (off + i * P.cellsOf e) := by
            intro i hi'
            have hlt : i < len := by simpa using hi'
            have h1 := hi i hlt
            have : i < elems.length := by omega
            rw [List.getElem?_eq_getElem this] at h1
            obtain ⟨cs', hc, ht'⟩ := Option.bind_eq_some_iff.mp h1
            obtain ⟨_, hcl, hcc⟩ := World.cells?_some hc
            have hcell : ∀ j v, cs'[j]? = some v → w.cell? ⟨blk, off + i * P.cellsOf e + j, none⟩ = some v := by
              intro j v hj
              have hj' : j < P.cellsOf e := by
                have := (List.getElem?_eq_some_iff.mp hj).1; omega
              have := hcc j hj'
              rw [hj] at this
              rw [← this]
              congr 1
              rw [addr_add, addr_add]
            obtain ⟨xs, hx1, hx2, hx3⟩ := ih e m cs' _ ht' hk.2.2 (hsp _ e m cs' _ ht' hk.2.1)
            exact ⟨xs, hx1, by omega, denAt_of hx3 fun j v hj => hcell j v hj⟩
          obtain ⟨rows, hrows⟩ := choose_list _ each
          have hlen : rows.length = len := by have := hrows.length; simpa using this.symm
          have hget : ∀ i r, rows[i]? = some r → Sh P m e r ∧ r.length = P.cellsOf e ∧ PL.denAt (Va.reads w).ro blk r (off + i * P.cellsOf e) := by
            intro i r hr
            obtain ⟨j, hj, hp⟩ := hrows.flip.get hr
            have hil : i < len := by
              have := (List.getElem?_eq_some_iff.mp hr).1; omega
            rw [List.getElem?_range hil] at hj
            cases hj; exact hp
          refine ⟨[.R false (P.cellsOf e) rows], ?_, rfl, .cons ?_ .nil⟩
          · unfold Sh; rw [ht]
            refine ⟨rows, rfl, fun r hr => ?_, by omega⟩
            obtain ⟨i, hi'⟩ := List.mem_iff_getElem?.mp hr
            exact ⟨(hget i r hi').1, (hget i r hi').2.1⟩
          · rw [PL.den]
            refine .inr ⟨blk, off, cap, by rw [hlen], by omega, hm, fun h => (by cases h), denRows_of (fun r hr => ?_) fun i r hr => (hget i r hr).2.2⟩
            obtain ⟨i, hi'⟩ := List.mem_iff_getElem?.mp hr
            exact (hget i r hi').2.1
      · rename_i fs ht
        simp only [Bool.and_eq_true, List.all_eq_true] at hk
        obtain ⟨xs, n', hn, _, hl, hxs, hf⟩ := DataW.trod_struct ht h
        cases hn
        have each : ∀ f ∈ fs.toList, ∃ r : List PL, (Sh P m f.type r ∧ r.length = P.cellsOf f.type) ∧ All2 (PL.den (Va.reads w).ro) r ((cs.drop f.offset).take (P.cellsOf f.type)) := by
          intro f hf'
          obtain ⟨i, hi⟩ := List.mem_iff_getElem?.mp hf'
          rw [Array.getElem?_toList] at hi
          have h1 := hf i f hi
          have hi2 : i < xs.length := by rw [hxs]; exact (Array.getElem?_eq_some_iff.mp hi).1
          rw [List.getElem?_eq_getElem hi2] at h1
          obtain ⟨ys, hy1, hy2, hy3⟩ := ih f.type m _ _ h1 (hk.2 f hf') (fun v hv' => hv v (List.mem_of_mem_drop (List.mem_of_mem_take hv')))
          have hle := tile_le _ _ hk.1 f hf'
          exact ⟨ys, ⟨hy1, by rw [hy2, take_len (by omega)]⟩, hy3⟩
        obtain ⟨ps, hps⟩ := choose_list _ each
        have hfl := tile_split cs hl fs.toList 0 hk.1
        rw [List.drop_zero] at hfl
        have hall : All2 (PL.den (Va.reads w).ro) ps.flatten cs := by
          rw [← hfl]
          refine all2_flatten (All2.map_r ?_)
          exact hps.flip.mono fun p f _ h => h.2
        exact ⟨ps.flatten, by unfold Sh; rw [ht]; exact ⟨ps, rfl, hps.mono fun f p _ h => h.1⟩, hall.length, hall⟩
      · rename_i k e ht
        simp only [Bool.and_eq_true, beq_iff_eq] at hk
        obtain ⟨n', hn, hl, hi⟩ := trod_array ht h
        cases hn
        have each : ∀ i ∈ List.range k, ∃ r : List PL, (Sh P m e r ∧ r.length = P.cellsOf e) ∧ All2 (PL.den (Va.reads w).ro) r ((cs.drop (i * P.cellsOf e)).take (P.cellsOf e)) := by
          intro i hi'
          have hlt : i < k := by simpa using hi'
          obtain ⟨y', hy'⟩ := hi i hlt
          obtain ⟨ys, hy1, hy2, hy3⟩ := ih e m _ _ hy' hk.2 (fun v hv' => hv v (List.mem_of_mem_drop (List.mem_of_mem_take hv')))
          have hle : i * P.cellsOf e + P.cellsOf e ≤ cs.length := by
            rw [hl, hk.1]
            have : (i + 1) * P.cellsOf e ≤ k * P.cellsOf e := Nat.mul_le_mul_right _ hlt
            rw [Nat.add_mul] at this; omega
          exact ⟨ys, ⟨hy1, by rw [hy2, take_len hle]⟩, hy3⟩
        obtain ⟨ps, hps⟩ := choose_list _ each
        have hfl := chunk_flatten (P.cellsOf e) k cs (by rw [hl, hk.1])
        have hall : All2 (PL.den (Va.reads w).ro) ps.flatten cs := by
          rw [← hfl]
          refine all2_flatten (All2.map_r ?_)
          exact hps.flip.mono fun p f _ h => h.2
        refine ⟨ps.flatten, ?_, hall.length, hall⟩
        unfold Sh; rw [ht]
        refine ⟨ps, rfl, by have := hps.length; simpa using this.symm, fun p hp => ?_⟩
        obtain ⟨i, hi'⟩ := List.mem_iff_getElem?.mp hp
        obtain ⟨j, _, hj⟩ := hps.flip.get hi'
        exact hj.1
end

section
variable {P : Program}
theorem sh_bool {n : Nat} {t : TypeId} {cs : List PL} (h : Sh P n t cs) (ht : P.underlying t = some .bool) : ∃ b, cs = [.b b] := by
  cases n with
  | zero => exact h.elim
  | succ n => unfold Sh at h; rw [ht] at h; exact h
theorem sh_i64 {n : Nat} {t : TypeId} {cs : List PL} (h : Sh P n t cs) (ht : P.underlying t = some (.int .i64)) : ∃ k : Int, cs = [.i k] ∧ -9223372036854775808 ≤ k ∧ k ≤ 9223372036854775807 := by
  cases n with
  | zero => exact h.elim
  | succ n => unfold Sh at h; rw [ht] at h; exact h
theorem sh_u64 {n : Nat} {t : TypeId} {cs : List PL} (h : Sh P n t cs) (ht : P.underlying t = some (.int .u64)) : ∃ x, cs = [.u64 x] := by
  cases n with
  | zero => exact h.elim
  | succ n => unfold Sh at h; rw [ht] at h; exact h
theorem sh_u32 {n : Nat} {t : TypeId} {cs : List PL} (h : Sh P n t cs) (ht : P.underlying t = some (.int .u32)) : ∃ x, cs = [.u32 x] := by
  cases n with
  | zero => exact h.elim
  | succ n => unfold Sh at h; rw [ht] at h; exact h
theorem sh_u8 {n : Nat} {t : TypeId} {cs : List PL} (h : Sh P n t cs) (ht : P.underlying t = some (.int .u8)) : ∃ x, cs = [.u8 x] := by
  cases n with
  | zero => exact h.elim
  | succ n => unfold Sh at h; rw [ht] at h; exact h
theorem sh_str {n : Nat} {t : TypeId} {cs : List PL} (h : Sh P n t cs) (ht : P.underlying t = some .string) : ∃ s, cs = [.str s] ∧ s.length ≤ maxLen := by
  cases n with
  | zero => exact h.elim
  | succ n => unfold Sh at h; rw [ht] at h; exact h
theorem sh_slice {n : Nat} {t e : TypeId} {cs : List PL} (h : Sh P n t cs) (ht : P.underlying t = some (.slice e)) : ∃ (rows : List (List PL)) (m : Nat), cs = [.R false (P.cellsOf e) rows] ∧ (∀ r ∈ rows, Sh P m e r) ∧ rows.length ≤ maxLen := by
  cases n with
  | zero => exact h.elim
  | succ n => unfold Sh at h; rw [ht] at h; obtain ⟨rows, h1, h2, h3⟩ := h; exact ⟨rows, n, h1, fun r hr => (h2 r hr).1, h3⟩
theorem sh_struct {n : Nat} {t : TypeId} {fs : Array Field} {cs : List PL} (h : Sh P n t cs) (ht : P.underlying t = some (.struct fs)) : ∃ (ps : List (List PL)) (m : Nat), cs = ps.flatten ∧ All2 (fun (f : Field) p => Sh P m f.type p) fs.toList ps := by
  cases n with
  | zero => exact h.elim
  | succ n => unfold Sh at h; rw [ht] at h; obtain ⟨ps, h1, h2⟩ := h; exact ⟨ps, n, h1, h2.mono fun f p _ h => h.1⟩
theorem sh_array {n k : Nat} {t e : TypeId} {cs : List PL} (h : Sh P n t cs) (ht : P.underlying t = some (.array k e)) : ∃ (ps : List (List PL)) (m : Nat), cs = ps.flatten ∧ ps.length = k ∧ ∀ p ∈ ps, Sh P m e p := by
  cases n with
  | zero => exact h.elim
  | succ n => unfold Sh at h; rw [ht] at h; obtain ⟨ps, h1, h2, h3⟩ := h; exact ⟨ps, n, h1, h2, fun p hp => (h3 p hp).1⟩
theorem flat_bytes {m : Nat} {e : TypeId} (he : P.underlying e = some (.int .u8)) : ∀ {ps : List (List PL)}, (∀ p ∈ ps, Sh P m e p) → ∃ l : List UInt8, l.length = ps.length ∧ ps = l.map fun x => [.u8 x]
  | [], _ => ⟨[], rfl, rfl⟩
  | p :: r, h => by
    obtain ⟨x, hx⟩ := sh_u8 (h p (by simp)) he
    obtain ⟨l, h1, h2⟩ := flat_bytes he (ps := r) fun q hq => h q (by simp [hq])
    exact ⟨x :: l, by simp [h1], by simp [hx, ← h2]⟩
theorem flatten_sing {α : Type} {f : α → PL} : ∀ l : List α, (l.map fun x => [f x]).flatten = l.map f
  | [] => rfl
  | x :: r => by simp [flatten_sing r]
theorem sh_bytes {n k : Nat} {t e : TypeId} {cs : List PL} (h : Sh P n t cs) (ht : P.underlying t = some (.array k e)) (he : P.underlying e = some (.int .u8)) : ∃ l : List UInt8, l.length = k ∧ cs = l.map .u8 := by
  obtain ⟨ps, m, rfl, hl, hp⟩ := sh_array h ht
  obtain ⟨l, h1, rfl⟩ := flat_bytes he hp
  exact ⟨l, by omega, flatten_sing l⟩
/-- a slice of bytes -/
theorem sh_byteSlice {n : Nat} {t e : TypeId} {cs : List PL} (h : Sh P n t cs) (ht : P.underlying t = some (.slice e)) (he : P.underlying e = some (.int .u8)) (hc : P.cellsOf e = 1) : ∃ l : List UInt8, cs = [.R false 1 (byteRows l)] ∧ l.length ≤ maxLen := by
  obtain ⟨rows, m, rfl, hp, hm⟩ := sh_slice h ht
  obtain ⟨l, h1, rfl⟩ := flat_bytes he hp
  exact ⟨l, by rw [hc]; rfl, by simpa using hm⟩
theorem den_pls {d : Va} : ∀ {xs : List PL} {vs : List Value}, All2 (PL.den d.ro) xs vs → All2 (L.den d) (pls xs) vs
  | _, _, .nil => .nil
  | _, _, .cons h1 h2 => .cons h1 (den_pls h2)
end

section
variable {H : Type} {enc : TypeId × Value → H} {P : Program} {w : World} {base : Nat} {spare : Nat → Bool} {held : Bool}
/-- types without slices -/
def flat0 (P : Program) : Nat → TypeId → Bool
  | 0, _ => false
  | n + 1, t => match P.underlying t with
    | some .bool | some (.int _) | some .string => true
    | some (.struct fs) => tileFs P fs.toList 0 (P.cellsOf t) && fs.toList.all fun f => flat0 P n f.type
    | some (.array m e) => P.cellsOf t == m * P.cellsOf e && flat0 P n e
    | _ => false

theorem trod_flat : ∀ (n : Nat) (t : TypeId) (m : Nat) (cs : List Value) (y : DataW H × List MemPlace), DataW.trod enc P w base spare held n t cs = some y → flat0 P m t = true → ∀ v ∈ cs, spotOk v := by
  intro n
  induction n with
  | zero => intro t m cs y h; simp [DataW.trod] at h
  | succ n ih =>
    intro t m cs y h hk
    cases m with
    | zero => simp [flat0] at hk
    | succ m =>
      unfold flat0 at hk
      split at hk <;> try (cases hk; done)
      · rename_i ht
        obtain ⟨b, rfl, _⟩ := DataW.trod_bool ht h
        intro v hv a len cap e; simp at hv; subst hv; cases e
      · rename_i k ht
        obtain ⟨b, rfl, _⟩ := DataW.trod_int ht h
        intro v hv a len cap e; simp at hv; subst hv; cases e
      · rename_i ht
        obtain ⟨b, rfl, _⟩ := DataW.trod_string ht h
        intro v hv a len cap e; simp at hv; subst hv; cases e
      · rename_i fs ht
        simp only [Bool.and_eq_true, List.all_eq_true] at hk
        obtain ⟨xs, n', hn, _, hl, hxs, hf⟩ := DataW.trod_struct ht h
        cases hn
        have hfl := tile_split cs hl fs.toList 0 hk.1
        rw [List.drop_zero] at hfl
        intro v hv
        rw [← hfl] at hv
        obtain ⟨p, hp, hv⟩ := List.mem_flatten.mp hv
        obtain ⟨f, hf', rfl⟩ := List.mem_map.mp hp
        obtain ⟨i, hi⟩ := List.mem_iff_getElem?.mp hf'
        rw [Array.getElem?_toList] at hi
        have h1 := hf i f hi
        have hi2 : i < xs.length := by rw [hxs]; exact (Array.getElem?_eq_some_iff.mp hi).1
        rw [List.getElem?_eq_getElem hi2] at h1
        exact ih f.type m _ _ h1 (hk.2 f hf') v hv
      · rename_i k e ht
        simp only [Bool.and_eq_true, beq_iff_eq] at hk
        obtain ⟨n', hn, hl, hi⟩ := trod_array ht h
        cases hn
        have hfl := chunk_flatten (P.cellsOf e) k cs (by rw [hl, hk.1])
        intro v hv
        rw [← hfl] at hv
        obtain ⟨p, hp, hv⟩ := List.mem_flatten.mp hv
        obtain ⟨i, hi', rfl⟩ := List.mem_map.mp hp
        obtain ⟨y', hy'⟩ := hi i (by simpa using hi')
        exact ih e m _ _ hy' hk.2 v hv

/-- an argument: its cells, and what stands in them -/
theorem open_arg {sz : Nat} {t : TypeId} {v : Value} {d : DataW H} {p : List MemPlace} {b0 : Nat} (m : Nat) (hv : Value.okWide P w .any b0 t v) (hk : known P (flat0 P) m t = true) (hs : P.cellsOf t = sz) (hts : (match P.underlying t with
      | some (.struct _) | some (.array _ _) => (match P.cellTypes P.depth t with
        | some ts => ts.length == sz && sz != 0 && ts.all fun u => match P.underlying u with
          | some (.slice _) | some .bool | some (.int _) | some .string => true
          | _ => false
        | none => false)
      | some (.slice _) | some .bool | some (.int _) | some .string => true
      | _ => false) = true) (h : DataW.Trod enc P w base spare held t v d p) :
    ∃ xs : List PL, Sh P m t xs ∧ (V.w (match P.underlying t with
      | some (.struct _) | some (.array _ _) => .agg (pls xs)
      | _ => .one (.pl (xs.headD .u)))).den (Va.reads w) v := by
  obtain ⟨fuel, hf⟩ := h
  have hcell : ∀ (u : TypeId) (c : Value), Cell.okWide P w .any b0 u c → (match P.underlying u with
          | some (.slice _) | some .bool | some (.int _) | some .string => true
          | _ => false) = true → spotOk c := by
    intro u c hc hu a len cap e
    subst e
    unfold Cell.okWide at hc
    cases hund : P.underlying u with
    | none => rw [hund] at hu; cases hu
    | some d =>
      rw [hund] at hc hu
      cases d <;> first
        | (cases hu; done)
        | (simp only [Cell.ok, hund] at hc; done)
        | (simp only [Cell.ok, hund] at hc; exact hc.2.2.2.1)
  have hspot : ∀ c ∈ v.cells.toList, spotOk c := by
    unfold Value.okWide at hv
    split at hv
    · rename_i fs ht
      obtain ⟨cs, rfl, hcs, ts, hct, _, hcc⟩ := hv
      rw [ht, hct] at hts
      simp only [Bool.and_eq_true, beq_iff_eq, List.all_eq_true] at hts
      intro c hc
      obtain ⟨i, hi⟩ := List.mem_iff_getElem?.mp hc
      have hi' : cs[i]? = some c := by rw [← Array.getElem?_toList]; exact hi
      obtain ⟨u, hu, hok⟩ := hcc i c hi'
      exact hcell u c hok (hts.2 u (List.mem_of_getElem? hu))
    · rename_i k e ht
      obtain ⟨cs, rfl, hcs, ts, hct, _, hcc⟩ := hv
      rw [ht, hct] at hts
      simp only [Bool.and_eq_true, beq_iff_eq, List.all_eq_true] at hts
      intro c hc
      obtain ⟨i, hi⟩ := List.mem_iff_getElem?.mp hc
      have hi' : cs[i]? = some c := by rw [← Array.getElem?_toList]; exact hi
      obtain ⟨u, hu, hok⟩ := hcc i c hi'
      exact hcell u c hok (hts.2 u (List.mem_of_getElem? hu))
    · rename_i hn1 hn2
      have hq : (match P.underlying t with
          | some (.slice _) | some .bool | some (.int _) | some .string => true
          | _ => false) = true := by
        split at hts
        · rename_i fs ht; exact absurd ht (hn1 fs)
        · rename_i k e ht; exact absurd ht (hn2 k e)
        all_goals simp_all
      intro c hc
      have hone : v.cells = #[v] := by
        cases v <;> first | rfl | (exfalso; unfold Cell.okWide at hv; cases hu : P.underlying t with
          | none => rw [hu] at hq; cases hq
          | some d => rw [hu] at hv hq; cases d <;> first | (cases hq; done) | (simp [Cell.ok, hu] at hv))
      rw [hone] at hc
      simp at hc; subst hc
      exact hcell t c hv hq
  obtain ⟨xs, h1, h2, h3⟩ := open_any (fun n t m cs y h1 h2 => trod_flat n t m cs y h1 h2) fuel t m _ _ hf hk hspot
  refine ⟨xs, h1, ?_⟩
  have hd := den_pls (d := Va.reads w) h3
  unfold Value.okWide at hv
  split at hv
  · rename_i fs ht
    obtain ⟨cs, rfl, _⟩ := hv
    rw [ht]
    exact ⟨cs, rfl, hd⟩
  · rename_i k e ht
    obtain ⟨cs, rfl, _⟩ := hv
    rw [ht]
    exact ⟨cs, rfl, hd⟩
  · rename_i hn1 hn2
    have hq : (match P.underlying t with
          | some (.slice _) | some .bool | some (.int _) | some .string => true
          | _ => false) = true := by
      split at hts
      · rename_i fs ht; exact absurd ht (hn1 fs)
      · rename_i k e ht; exact absurd ht (hn2 k e)
      all_goals simp_all
    have hone : v.cells = #[v] := by
      cases v <;> first | rfl | (exfalso; unfold Cell.okWide at hv; cases hu : P.underlying t with
          | none => rw [hu] at hq; cases hq
          | some d => rw [hu] at hv hq; cases d <;> first | (cases hq; done) | (simp [Cell.ok, hu] at hv))
    rw [hone] at hd
    have : ∃ x, xs = [x] ∧ L.den (Va.reads w) (.pl x) v := by
      cases xs with
      | nil => cases hd
      | cons x r =>
        cases hd with
        | cons g1 g2 =>
          cases r with
          | nil => exact ⟨x, rfl, g1⟩
          | cons _ _ => cases g2
    obtain ⟨x, rfl, hx⟩ := this
    split
    · rename_i fs ht; exact absurd ht (hn1 fs)
    · rename_i k e ht; exact absurd ht (hn2 k e)
    · exact hx
end
end Go.Sy
namespace Go.Sy

/-- objects handed over: the callee's name, the caller's -/
abbrev Hand := List (Nat × Nat)

def nameIn : Hand → Nat → Option Nat
  | [], j => if 1000000 ≤ j then some j else none
  | x :: r, j => if j = x.2 then some x.1 else nameIn r j
def nameOut (hd : Hand) (k : Nat) : Nat := match look hd k with
  | some j => j
  | none => k
def capsIn (hd : Hand) : List Nat → Option (List Nat)
  | [] => some []
  | k :: r => match nameIn hd k, capsIn hd r with
    | some j, some js => some (j :: js)
    | _, _ => none
/-- a leaf as the callee is told it -/
def leafIn (vw : Bool) (S : St) (hd : Hand) : L → Option L
  | .pl x => some (.pl x)
  | .p j path => (nameIn hd j).map fun k => .p k path
  | .s j path len sz => if j < 1000000 then match nameIn hd j with
      | some k => some (.s k path len sz)
      | none => if vw = true then viewL S (.s j path len sz) else none
    else none
  | .fn f caps => (capsIn hd caps).map fun ks => .fn f ks
def leavesIn (vw : Bool) (S : St) (hd : Hand) : List L → Option (List L)
  | [] => some []
  | l :: r => match leafIn vw S hd l, leavesIn vw S hd r with
    | some x, some xs => some (x :: xs)
    | _, _ => none
def valIn (vw : Bool) (S : St) (hd : Hand) : V → Option V
  | .w (.one l) => (leafIn vw S hd l).map fun x => .w (.one x)
  | .w (.agg cs) => (leavesIn vw S hd cs).map fun x => .w (.agg x)
  | _ => none
def valsIn (vw : Bool) (S : St) (hd : Hand) : List Operand → Option (List V)
  | [] => some []
  | x :: r => match (S.get x).bind (valIn vw S hd), valsIn vw S hd r with
    | some v, some vs => some (v :: vs)
    | _, _ => none

def handOk (S : St) (hd : Hand) : List (Nat × Ob) → Prop
  | [] => True
  | x :: r => (if x.1 < 1000000 then (match look hd x.1 with
      | some j => (match look S.mem j with
        | some o => leavesIn false S hd o.cells = some x.2.cells ∧ o.row = x.2.row
        | none => False)
      | none => False) else look S.mem x.1 = some x.2) ∧ handOk S hd r
def hdOk : Hand → Bool
  | [] => true
  | x :: r => decide (500000 ≤ x.1) && decide (x.1 < 1000000) && decide (x.2 < 1000000) && !(r.any fun y => y.1 == x.1) && !(r.any fun y => y.2 == x.2) && hdOk r

theorem hdOk_look : ∀ {hd : Hand} {k j : Nat}, hdOk hd = true → look hd k = some j → px0 ≤ k ∧ k < gl0 ∧ j < gl0
  | x :: r, k, j, h, hl => by
    simp only [hdOk, Bool.and_eq_true, decide_eq_true_eq] at h
    simp only [look] at hl
    split at hl
    · rename_i e; subst e; cases hl; exact ⟨h.1.1.1.1.1, h.1.1.1.1.2, h.1.1.1.2⟩
    · exact hdOk_look h.2 hl

theorem look_memL {α : Type} : ∀ {l : List (Nat × α)} {k : Nat} {v : α}, look l k = some v → (k, v) ∈ l
  | x :: r, k, v, h => by
    simp only [look] at h
    split at h
    · rename_i e; subst e; cases h; simp
    · exact List.mem_cons_of_mem _ (look_memL h)

theorem hdOk_inj : ∀ {hd : Hand} {k k' j : Nat}, hdOk hd = true → look hd k = some j → look hd k' = some j → k = k'
  | x :: r, k, k', j, h, h1, h2 => by
    simp only [hdOk, Bool.and_eq_true, Bool.not_eq_true', List.any_eq_false, beq_iff_eq] at h
    simp only [look] at h1 h2
    split at h1 <;> split at h2
    · rename_i e1 e2; rw [e1, e2]
    · cases h1; exact absurd rfl (h.1.2 (k', x.2) (look_memL h2))
    · cases h2; exact absurd rfl (h.1.2 (k, x.2) (look_memL h1))
    · exact hdOk_inj h.2 h1 h2

theorem nameIn_out : ∀ {hd : Hand} {j k : Nat}, hdOk hd = true → nameIn hd j = some k → (look hd k = some j ∧ j < gl0 ∧ k < gl0) ∨ (gl0 ≤ j ∧ k = j)
  | [], j, k, _, h => by
    simp only [nameIn] at h
    split at h <;> cases h
    exact .inr ⟨by assumption, rfl⟩
  | x :: r, j, k, ho, h => by
    have ho' := ho
    simp only [hdOk, Bool.and_eq_true, decide_eq_true_eq, Bool.not_eq_true', List.any_eq_false, beq_iff_eq] at ho'
    simp only [nameIn] at h
    split at h
    · rename_i e; subst e; cases h; left; exact ⟨by simp [look], ho'.1.1.1.2, ho'.1.1.1.1.2⟩
    · rcases nameIn_out ho'.2 h with ⟨h1, h2, h3⟩ | h1
      · left
        refine ⟨?_, h2, h3⟩
        simp only [look]
        rw [if_neg (fun e => ho'.1.1.2 _ (look_memL h1) e)]; exact h1
      · exact .inr h1

/-- the callee's valuation -/
def Va.hand (d : Va) (hd : Hand) (ro : Ro) : Va := ⟨fun k => if 1000000 ≤ k then k - 1000000 else d.at_ (nameOut hd k), fun k => d.size (nameOut hd k), ro⟩

theorem hand_at {d : Va} {hd : Hand} {ro : Ro} {j k : Nat} (hg : ∀ k, gl0 ≤ k → d.at_ k = k - gl0) (ho : hdOk hd = true) (h : nameIn hd j = some k) : (d.hand hd ro).at_ k = d.at_ j := by
  rcases nameIn_out ho h with ⟨h1, h2, h3⟩ | ⟨h1, rfl⟩
  · simp only [Va.hand]; rw [if_neg (Nat.not_le_of_lt h3)]; simp only [nameOut, h1]
  · simp only [Va.hand]; rw [if_pos h1, hg _ h1]

theorem hand_size {d : Va} {hd : Hand} {ro : Ro} {j k : Nat} (ho : hdOk hd = true) (h : nameIn hd j = some k) (hl : j < gl0) : (d.hand hd ro).size k = d.size j := by
  rcases nameIn_out ho h with ⟨h1, h2, h3⟩ | ⟨h1, rfl⟩
  · simp only [Va.hand, nameOut, h1]
  · omega

theorem denAt_cells' {d : Va} {ro : Ro} {w : World} {blk : Nat} (hro : ∀ b o y, d.ro b o = some y → ro b o = some y) (hb : ∀ o y, w.cell? ⟨blk, o, none⟩ = some y → ro blk o = some y) : ∀ {c : List PL} {vals : List Value} {off : Nat}, All2 (L.den d) (pls c) vals → CellsAt w blk off vals → PL.denAt ro blk c off
  | [], _, _, _, _ => by rw [PL.denAt]; trivial
  | x :: c, vals, off, h, hc => by
    cases h with
    | cons h1 h2 =>
      rename_i y m
      rw [PL.denAt]
      refine ⟨⟨y, hb _ _ (hc 0 y rfl), PL.den_mono hro h1⟩, denAt_cells' hro hb h2 (fun j v hv => ?_)⟩
      have := hc (j + 1) v (by simpa using hv)
      rwa [show off + (j + 1) = off + 1 + j from by omega] at this

/-- what the callee may read -/
structure RoOk (S : St) (hd : Hand) (d : Va) (w : World) (vw : Bool) (ro : Ro) : Prop where
  mono : ∀ b o y, d.ro b o = some y → ro b o = some y
  view : vw = true → ∀ j, (look S.mem j).isSome = true → j < gl0 → nameIn hd j = none → ∀ o y, w.cell? ⟨d.at_ j, o, none⟩ = some y → ro (d.at_ j) o = some y

section
variable {B : Base} {d : Va} {S : St} {a : Act} {w : World} {hd : Hand} {vw : Bool} {ro : Ro}
theorem viewL_in (h : Sim B d S a w) (hr : RoOk S hd d w vw ro) (hv1 : vw = true) {j : Nat} {path : Path} {len sz : Nat} {x : L} {y : Value} (hj : j < gl0) (hn : nameIn hd j = none) (hv : viewL S (.s j path len sz) = some x) (hdn : (L.s j path len sz).den d y) : x.den (d.hand hd ro) y := by
  simp only [viewL] at hv
  split at hv <;> try (cases hv; done)
  rename_i o hk
  split at hv <;> try (cases hv; done)
  rename_i hc
  obtain ⟨hp, hps⟩ := hc
  cases hu : unpl (rd o.cells path) with
  | none => simp [hu] at hv
  | some c =>
    simp only [hu, Option.map_some, Option.some.injEq] at hv; subst hv
    obtain ⟨vals, hvd, hcell, hl⟩ := h.readObj hk hp
    have hcl := length_rd o.cells hp
    rw [unpl_eq hu] at hvd hcl
    rw [length_pls, hps] at hcl
    obtain ⟨oo, cap, rfl, hlc, hcm, ho, _⟩ := hdn
    show PL.den _ _ _
    rw [PL.den]
    right
    refine ⟨d.at_ j, oo, cap, by rw [length_chunks], by rw [length_chunks]; exact hlc, hcm, fun e => (by cases e), ?_⟩
    refine denRows_chunks ?_ hcl
    rcases ho with ho | rfl
    · have hlen : len = 0 := by omega
      rw [hlen, Nat.zero_mul] at hcl
      have := List.eq_nil_of_length_eq_zero hcl
      subst this; rw [PL.denAt]; trivial
    · exact denAt_cells' (fun b o y => hr.mono b o y) (hr.view hv1 j (by rw [hk]; rfl) hj hn) hvd hcell

theorem capsIn_ok (h : Sim B d S a w) (hok : hdOk hd = true) : ∀ {caps ks : List Nat}, capsIn hd caps = some ks → (ks.map fun k => Value.pointer (some ⟨(d.hand hd ro).at_ k, 0, none⟩)) = caps.map fun k => Value.pointer (some ⟨d.at_ k, 0, none⟩)
  | [], ks, hc => by simp only [capsIn] at hc; cases hc; rfl
  | k :: r, ks, hc => by
    simp only [capsIn] at hc
    split at hc <;> cases hc
    rename_i j js h1 h2
    rw [List.map_cons, List.map_cons, capsIn_ok h hok h2, hand_at h.gat hok h1]

theorem leafIn_ok (h : Sim B d S a w) (hr : RoOk S hd d w vw ro) (hok : hdOk hd = true) {l x : L} {y : Value} (hx : leafIn vw S hd l = some x) (hd' : l.den d y) : x.den (d.hand hd ro) y := by
  cases l with
  | pl p => simp only [leafIn] at hx; cases hx; exact PL.den_mono hr.mono hd'
  | p j path =>
    obtain ⟨k, hk, rfl⟩ := Option.map_eq_some_iff.mp hx
    simp only [L.den] at hd' ⊢
    rw [hand_at h.gat hok hk]; exact hd'
  | s j path len sz =>
    simp only [leafIn] at hx
    split at hx <;> try (cases hx; done)
    rename_i hj
    split at hx
    · rename_i k hk
      cases hx
      simp only [L.den] at hd' ⊢
      rw [hand_at h.gat hok hk, hand_size hok hk hj]; exact hd'
    · rename_i hk
      split at hx <;> try (cases hx; done)
      rename_i hvw
      exact viewL_in h hr hvw hj hk hx hd'
  | fn f caps =>
    obtain ⟨ks, hk, rfl⟩ := Option.map_eq_some_iff.mp hx
    simp only [L.den] at hd' ⊢
    rw [hd']; congr 1
    exact congrArg List.toArray (capsIn_ok h hok hk).symm

theorem leavesIn_ok (h : Sim B d S a w) (hr : RoOk S hd d w vw ro) (hok : hdOk hd = true) : ∀ {cs xs : List L} {vs : List Value}, leavesIn vw S hd cs = some xs → All2 (L.den d) cs vs → All2 (L.den (d.hand hd ro)) xs vs
  | [], xs, vs, hv, hd' => by cases hd'; simp only [leavesIn] at hv; cases hv; exact .nil
  | l :: r, xs, vs, hv, hd' => by
    cases hd' with
    | cons h1 h2 =>
      simp only [leavesIn] at hv
      split at hv <;> cases hv
      rename_i e1 e2
      exact .cons (leafIn_ok h hr hok e1 h1) (leavesIn_ok h hr hok e2 h2)

theorem valIn_ok (h : Sim B d S a w) (hr : RoOk S hd d w vw ro) (hok : hdOk hd = true) {v x : V} {y : Value} (hv : valIn vw S hd v = some x) (hd' : v.den d y) : x.den (d.hand hd ro) y := by
  unfold valIn at hv
  split at hv <;> try (cases hv; done)
  · obtain ⟨z, hz, rfl⟩ := Option.map_eq_some_iff.mp hv
    exact leafIn_ok h hr hok hz hd'
  · obtain ⟨z, hz, rfl⟩ := Option.map_eq_some_iff.mp hv
    obtain ⟨vs, rfl, hall⟩ := hd'
    exact ⟨vs, rfl, leavesIn_ok h hr hok hz hall⟩

theorem valsIn_ok (h : Sim B d S a w) (hr : RoOk S hd d w vw ro) (hok : hdOk hd = true) : ∀ {xs : List Operand} {vs : List V}, valsIn vw S hd xs = some vs → All2 (V.den (d.hand hd ro)) vs (xs.map a.eval)
  | [], vs, hv => by simp only [valsIn] at hv; cases hv; exact .nil
  | x :: r, vs, hv => by
    simp only [valsIn] at hv
    split at hv <;> cases hv
    rename_i v us e1 e2
    obtain ⟨u, hu, hv⟩ := bind_some e1
    exact .cons (valIn_ok h hr hok hv (h.get hu)) (valsIn_ok h hr hok e2)

theorem leavesIn_mem {cs xs : List L} (hx : leavesIn false S hd cs = some xs) : leavesIn false S hd cs = some xs := hx

theorem handOk_look : ∀ {m : List (Nat × Ob)}, handOk S hd m → ∀ {k : Nat} {o : Ob}, look m k = some o → (k < gl0 → ∃ j u, look hd k = some j ∧ look S.mem j = some u ∧ leavesIn false S hd u.cells = some o.cells ∧ u.row = o.row) ∧ (gl0 ≤ k → look S.mem k = some o)
  | x :: r, h, k, o, hl => by
    simp only [look] at hl
    split at hl
    · rename_i e; subst e; cases hl
      have h1 := h.1
      refine ⟨fun hk => ?_, fun hk => ?_⟩
      · rw [if_pos hk] at h1
        split at h1 <;> try (exact h1.elim)
        rename_i j hj
        split at h1 <;> try (exact h1.elim)
        rename_i u hu
        exact ⟨j, u, hj, hu, h1.1, h1.2⟩
      · rw [if_neg (Nat.not_lt_of_le hk)] at h1; exact h1
    · exact handOk_look h.2 hl

theorem roFalse : RoOk S hd d w false d.ro := ⟨fun _ _ _ h => h, fun h => (by cases h)⟩

/-- what the callee finds -/
theorem hand_mem' (h : Sim B d S a w) (hr : RoOk S hd d w vw ro) (hrw : ∀ b o y, ro b o = some y → w.cell? ⟨b, o, none⟩ = some y) (hrn : ∀ k j, look hd k = some j → (look S.mem j).isSome = true → ∀ o, ro (d.at_ j) o = none) (hok : hdOk hd = true) {m : List (Nat × Ob)} (hm : handOk S hd m) :
    MemOK ⟨w, mayOf (d.hand hd ro) m, 0, ro, fxOf (d.hand hd ro) m⟩ (d.hand hd ro) m w := by
  have hat : ∀ {k j : Nat}, k < gl0 → look hd k = some j → (d.hand hd ro).at_ k = d.at_ j := fun hk hj => by
    simp only [Va.hand]; rw [if_neg (Nat.not_le_of_lt hk)]; simp only [nameOut, hj]
  have hsz : ∀ {k j : Nat}, look hd k = some j → (d.hand hd ro).size k = d.size j := fun hj => by
    simp only [Va.hand, nameOut, hj]
  have hr0 : RoOk S hd d w false ro := ⟨hr.mono, fun h => (by cases h)⟩
  refine ⟨⟨#[], []⟩, rfl, rfl, fun n v hv => (by cases hv), fun k o hk hkl => ?_, fun k k' h1 h2 hl1 hl2 he => ?_, fun k h1 hl => ?_, hrw, fun b o y hy _ => hy, rfl, rfl, rfl, Nat.le_refl _, fun _ _ _ => rfl, fun k hk => ?_, fun k o hk hkl => ?_, fun k o p hk hp hkl => ?_, fun k p hp => ?_⟩
  · obtain ⟨j, u, hj, hu, hc, hrow⟩ := (handOk_look hm hk).1 hkl
    obtain ⟨vals, spare, ty, fr, g1, g2, g3, g4, g5⟩ := h.mem j u hu (hdOk_look hok hj).2.2
    exact ⟨vals, spare, ty, fr, by rw [hat hkl hj]; exact g1, g2, leavesIn_ok h hr0 hok hc g3, fun e => g4 (by rw [hrow]; exact e), by rw [hsz hj]; exact g5⟩
  · obtain ⟨o1, ho1⟩ := Option.isSome_iff_exists.mp h1
    obtain ⟨o2, ho2⟩ := Option.isSome_iff_exists.mp h2
    obtain ⟨j1, u1, hj1, hu1, _⟩ := (handOk_look hm ho1).1 hl1
    obtain ⟨j2, u2, hj2, hu2, _⟩ := (handOk_look hm ho2).1 hl2
    rw [hat hl1 hj1, hat hl2 hj2] at he
    have := h.inj j1 j2 (by rw [hu1]; rfl) (by rw [hu2]; rfl) (hdOk_look hok hj1).2.2 (hdOk_look hok hj2).2.2 he
    subst this
    exact hdOk_inj hok hj1 hj2
  · obtain ⟨o1, ho1⟩ := Option.isSome_iff_exists.mp h1
    obtain ⟨j1, u1, hj1, hu1, _⟩ := (handOk_look hm ho1).1 hl
    refine ⟨fun o => ?_, .inr ⟨(hdOk_look hok hj1).1, k, h1, hl, rfl⟩⟩
    rw [hat hl hj1]; exact hrn k j1 hj1 (by rw [hu1]; rfl) o
  · simp only [Va.hand]; rw [if_pos hk]
  · have hS := (handOk_look hm hk).2 hkl
    obtain ⟨g1, cs, g2, g3⟩ := h.glob k o hS hkl
    have hno : look hd k = none := by
      cases hl : look hd k with
      | none => rfl
      | some j => exact absurd (hdOk_look hok hl).2.1 (Nat.not_lt_of_le hkl)
    refine ⟨by simp only [Va.hand, nameOut, hno]; exact g1, cs, g2, PL.denAt_mono hr.mono g3⟩
  · simp only [fxOf] at hp
    split at hp <;> cases hp
    exact ⟨rfl, rfl⟩
  · simp only [fxOf] at hp
    split at hp <;> cases hp
    rename_i hc; exact hc.2.1
end
end Go.Sy
namespace Go.Sy

/-- which of the callee's own objects has this name at the caller's -/
def inv (nm : Nat → Nat) : List (Nat × Ob) → Nat → Option Nat
  | [], _ => none
  | x :: r, j => if x.1 < 500000 ∧ nm x.1 = j then some x.1 else inv nm r j
/-- the callee's names as the caller's -/
def outN (nm : Nat → Nat) (hd : Hand) (k : Nat) : Nat := if k < 500000 then nm k else nameOut hd k
def Ob.ren (f : Nat → Nat) (o : Ob) : Ob := ⟨o.row, o.cells.map (L.ren f)⟩
/-- the caller's memory afterwards -/
def backM (nm : Nat → Nat) (hd : Hand) : List (Nat × Ob) → List (Nat × Ob) → List (Nat × Ob)
  | [], M => M
  | x :: r, M => if x.1 < 500000 then (nm x.1, x.2.ren (outN nm hd)) :: backM nm hd r M
    else if x.1 < 1000000 then setM (backM nm hd r M) (outN nm hd x.1) (x.2.ren (outN nm hd)) else backM nm hd r M

def okN (m : List (Nat × Ob)) (k : Nat) : Bool := if k < 1000000 then (look m k).isSome else true
def leafOut (vw : Bool) (m : List (Nat × Ob)) : L → Bool
  | .pl x => !vw || strictL (.pl x)
  | .p k _ => okN m k
  | .s k _ _ _ => decide (k < 1000000) && okN m k
  | .fn _ caps => caps.all (okN m)
def leafOutW (vw : Bool) (m : List (Nat × Ob)) : W → Bool
  | .one l => leafOut vw m l
  | .agg cs => cs.all (leafOut vw m)
def leafOutV (vw : Bool) (m : List (Nat × Ob)) : V → Bool
  | .w x => leafOutW vw m x
  | .tup xs => xs.all (leafOutW vw m)
  | .any => true

def outOk (vw : Bool) (nm : Nat → Nat) (hd : Hand) (S : St) (m : List (Nat × Ob)) (mr : List (Nat × Ob)) : List (Nat × Ob) → Prop
  | [] => True
  | x :: r => (x.2.cells.all (leafOut vw mr) = true ∧ (look r x.1).isSome = false ∧
      (if x.1 < 500000 then fresh (nm x.1) S = true ∧ (look S.mem (nm x.1)).isSome = false ∧ inv nm r (nm x.1) = none
       else if x.1 < 1000000 then (look m x.1).isSome = true else True)) ∧ outOk vw nm hd S m mr r

section
variable {vw : Bool} {nm : Nat → Nat} {hd : Hand} {S : St} {m mr : List (Nat × Ob)}

theorem outOk_look : ∀ {l : List (Nat × Ob)}, outOk vw nm hd S m mr l → ∀ {k : Nat} {o : Ob}, look l k = some o → o.cells.all (leafOut vw mr) = true ∧ (k < px0 → fresh (nm k) S = true ∧ (look S.mem (nm k)).isSome = false ∧ inv nm l (nm k) = some k) ∧ (px0 ≤ k → k < gl0 → (look m k).isSome = true)
  | x :: r, h, k, o, hl => by
    obtain ⟨⟨h1, h2, h3⟩, hr⟩ := h
    simp only [look] at hl
    split at hl
    · rename_i e; subst e; cases hl
      refine ⟨h1, fun hk => ?_, fun hk hk2 => ?_⟩
      · rw [if_pos hk] at h3
        exact ⟨h3.1, h3.2.1, by simp only [inv]; rw [if_pos ⟨hk, trivial⟩]⟩
      · rw [if_neg (Nat.not_lt_of_le hk), if_pos hk2] at h3; exact h3
    · rename_i hne
      obtain ⟨g1, g2, g3⟩ := outOk_look hr hl
      refine ⟨g1, fun hk => ?_, g3⟩
      obtain ⟨f1, f2, f3⟩ := g2 hk
      refine ⟨f1, f2, ?_⟩
      simp only [inv]
      split
      · rename_i hc
        rw [if_pos hc.1] at h3
        rw [hc.2, f3] at h3
        exact absurd h3.2.2 (by simp)
      · exact f3

theorem inv_spec : ∀ {l : List (Nat × Ob)} {j k : Nat}, inv nm l j = some k → k < px0 ∧ nm k = j ∧ (look l k).isSome = true
  | x :: r, j, k, h => by
    simp only [inv] at h
    split at h
    · rename_i hc; cases h; exact ⟨hc.1, hc.2, by simp [look]⟩
    · obtain ⟨h1, h2, h3⟩ := inv_spec h
      refine ⟨h1, h2, ?_⟩
      simp only [look]; split
      · rfl
      · exact h3

theorem look_back : ∀ {l : List (Nat × Ob)}, outOk vw nm hd S m mr l → ∀ {j : Nat} {o2 : Ob}, look (backM nm hd l S.mem) j = some o2 →
    (∃ k o', look l k = some o' ∧ k < gl0 ∧ outN nm hd k = j ∧ o2 = o'.ren (outN nm hd)) ∨ (look S.mem j = some o2 ∧ ∀ k, (look l k).isSome = true → k < gl0 → outN nm hd k ≠ j)
  | [], _, j, o2, h => .inr ⟨h, fun k hk => (by cases hk)⟩
  | x :: r, hok, j, o2, h => by
    obtain ⟨⟨h1, h2, h3⟩, hr⟩ := hok
    have up : ∀ k o', look r k = some o' → look (x :: r) k = some o' := by
      intro k o' hk
      simp only [look]
      rw [if_neg (fun e => by subst e; rw [hk] at h2; cases h2)]; exact hk
    have step : (¬ (x.1 < gl0 ∧ outN nm hd x.1 = j)) → look (backM nm hd r S.mem) j = some o2 → (∃ k o', look (x :: r) k = some o' ∧ k < gl0 ∧ outN nm hd k = j ∧ o2 = o'.ren (outN nm hd)) ∨ (look S.mem j = some o2 ∧ ∀ k, (look (x :: r) k).isSome = true → k < gl0 → outN nm hd k ≠ j) := by
      intro hx hb
      rcases look_back hr hb with ⟨k, o', g1, g2, g3, g4⟩ | ⟨g1, g2⟩
      · exact .inl ⟨k, o', up _ _ g1, g2, g3, g4⟩
      · refine .inr ⟨g1, fun k hk hkl he => ?_⟩
        simp only [look] at hk
        split at hk
        · rename_i e; subst e; exact hx ⟨hkl, he⟩
        · exact g2 k hk hkl he
    simp only [backM] at h
    split at h
    · rename_i hx
      have hout : outN nm hd x.1 = nm x.1 := by simp only [outN, if_pos hx]
      simp only [look] at h
      split at h
      · rename_i e; cases h
        exact .inl ⟨x.1, x.2, by simp [look], Nat.lt_trans hx px_gl, by rw [hout, e], rfl⟩
      · rename_i e; exact step (fun hc => e (by rw [← hc.2, hout])) h
    · split at h
      · rename_i hx
        rw [look_setM] at h
        split at h
        · rename_i e
          obtain ⟨u, _, hu⟩ := Option.map_eq_some_iff.mp h
          exact .inl ⟨x.1, x.2, by simp [look], hx, e.symm, hu.symm⟩
        · rename_i e; exact step (fun hc => e hc.2.symm) h
      · rename_i hx; exact step (fun hc => hx hc.1) h
end

theorem L.den_agree {d d2 : Va} {l : L} {y : Value} (hro : ∀ b o y, d.ro b o = some y → d2.ro b o = some y) (h : ∀ k, l.has k = true → d2.at_ k = d.at_ k ∧ d2.size k = d.size k) (hd : l.den d y) : l.den d2 y := by
  cases l with
  | pl x => exact PL.den_mono hro hd
  | p k path =>
    have := h k (by simp [L.has])
    simp only [L.den] at *; rw [this.1]; exact hd
  | s k path len sz =>
    have := h k (by simp [L.has])
    simp only [L.den] at *; rw [this.1, this.2]; exact hd
  | fn f caps =>
    simp only [L.den] at *
    rw [hd]; congr 1
    apply congrArg
    apply List.map_congr_left
    intro k hk
    rw [(h k (by simp only [L.has, List.any_eq_true]; exact ⟨k, hk, by simp⟩)).1]

theorem all2_agree {d d2 : Va} {cs : List L} {vs : List Value} (hro : ∀ b o y, d.ro b o = some y → d2.ro b o = some y) (h : ∀ k, cs.any (L.has k) = true → d2.at_ k = d.at_ k ∧ d2.size k = d.size k) (hd : All2 (L.den d) cs vs) : All2 (L.den d2) cs vs :=
  hd.mono fun x y hx hr => L.den_agree hro (fun k hk => h k (List.any_eq_true.2 ⟨x, hx, hk⟩)) hr

theorem W.den_agree {d d2 : Va} {x : W} {y : Value} (hro : ∀ b o y, d.ro b o = some y → d2.ro b o = some y) (h : ∀ k, x.has k = true → d2.at_ k = d.at_ k ∧ d2.size k = d.size k) (hd : x.den d y) : x.den d2 y := by
  cases x with
  | one l => exact L.den_agree hro h hd
  | agg cs => obtain ⟨vs, rfl, hv⟩ := hd; exact ⟨vs, rfl, all2_agree hro h hv⟩

theorem V.den_agree {d d2 : Va} {x : V} {y : Value} (hro : ∀ b o y, d.ro b o = some y → d2.ro b o = some y) (h : ∀ k, x.has k = true → d2.at_ k = d.at_ k ∧ d2.size k = d.size k) (hd : x.den d y) : x.den d2 y := by
  cases x with
  | w x => exact W.den_agree hro h hd
  | tup xs =>
    obtain ⟨vs, rfl, hv⟩ := hd
    exact ⟨vs, rfl, hv.mono fun x y hx hr => W.den_agree hro (fun k hk => h k (List.any_eq_true.2 ⟨x, hx, hk⟩)) hr⟩
  | any => trivial

section
variable {vw : Bool} {nm : Nat → Nat} {hd : Hand} {m : List (Nat × Ob)} {d' d2 : Va}
theorem leafOut_den (hro : vw = false → ∀ b o y, d'.ro b o = some y → d2.ro b o = some y) (hk : ∀ k, okN m k = true → d2.at_ (outN nm hd k) = d'.at_ k ∧ (k < gl0 → d2.size (outN nm hd k) = d'.size k)) {l : L} {y : Value} (h : leafOut vw m l = true) (hd' : l.den d' y) : (l.ren (outN nm hd)).den d2 y := by
  cases l with
  | pl x =>
    simp only [leafOut, Bool.or_eq_true, Bool.not_eq_true'] at h
    rcases h with h | h
    · exact PL.den_mono (hro h) hd'
    · exact strictL_den h hd'
  | p k path =>
    simp only [L.ren, L.den] at *
    rw [(hk k h).1]; exact hd'
  | s k path len sz =>
    simp only [leafOut, Bool.and_eq_true, decide_eq_true_eq] at h
    simp only [L.ren, L.den] at *
    rw [(hk k h.2).1, (hk k h.2).2 h.1]; exact hd'
  | fn f caps =>
    simp only [leafOut, List.all_eq_true] at h
    simp only [L.ren, L.den] at *
    rw [hd', List.map_map]; congr 1
    apply congrArg
    apply List.map_congr_left
    intro k hkc
    simp only [Function.comp_def]
    rw [(hk k (h k hkc)).1]

theorem leafOut_all (hro : vw = false → ∀ b o y, d'.ro b o = some y → d2.ro b o = some y) (hk : ∀ k, okN m k = true → d2.at_ (outN nm hd k) = d'.at_ k ∧ (k < gl0 → d2.size (outN nm hd k) = d'.size k)) {cs : List L} {vs : List Value} (h : cs.all (leafOut vw m) = true) (hd' : All2 (L.den d') cs vs) : All2 (L.den d2) (cs.map (L.ren (outN nm hd))) vs := by
  simp only [List.all_eq_true] at h
  exact All2.map_left (hd'.mono fun x y hx hr => leafOut_den hro hk (h x hx) hr)

theorem leafOutW_den (hro : vw = false → ∀ b o y, d'.ro b o = some y → d2.ro b o = some y) (hk : ∀ k, okN m k = true → d2.at_ (outN nm hd k) = d'.at_ k ∧ (k < gl0 → d2.size (outN nm hd k) = d'.size k)) {x : W} {y : Value} (h : leafOutW vw m x = true) (hd' : x.den d' y) : (x.ren (outN nm hd)).den d2 y := by
  cases x with
  | one l => exact leafOut_den hro hk h hd'
  | agg cs => obtain ⟨vs, rfl, hv⟩ := hd'; exact ⟨vs, rfl, leafOut_all hro hk h hv⟩

theorem leafOutV_den (hro : vw = false → ∀ b o y, d'.ro b o = some y → d2.ro b o = some y) (hk : ∀ k, okN m k = true → d2.at_ (outN nm hd k) = d'.at_ k ∧ (k < gl0 → d2.size (outN nm hd k) = d'.size k)) {x : V} {y : Value} (h : leafOutV vw m x = true) (hd' : x.den d' y) : (x.ren (outN nm hd)).den d2 y := by
  cases x with
  | w x => exact leafOutW_den hro hk h hd'
  | tup xs =>
    obtain ⟨vs, rfl, hv⟩ := hd'
    simp only [leafOutV, List.all_eq_true] at h
    exact ⟨vs, rfl, All2.map_left (hv.mono fun x y hx hr => leafOutW_den hro hk (h x hx) hr)⟩
  | any => trivial
end
end Go.Sy
namespace Go.Sy

/-- the caller's valuation afterwards -/
def Va.back (d d' : Va) (vw : Bool) (nm : Nat → Nat) (m' : List (Nat × Ob)) (n : Nat) : Va :=
  ⟨fun j => match inv nm m' j with | some k => d'.at_ k | none => d.at_ j,
   fun j => match inv nm m' j with | some k => d'.size k | none => d.size j,
   fun b o => if vw = true then d.ro b o else if b < n then d.ro b o else d'.ro b o⟩

section
variable {B : Base} {d d' : Va} {S : St} {a a2 : Act} {w w' : World} {hd : Hand} {vw : Bool} {ro : Ro} {nm : Nat → Nat} {m m' : List (Nat × Ob)} {nt : Nat}

theorem back_ok (h : Sim B d S a w) (hr : vw = false → ro = d.ro) (hok : hdOk hd = true) (hm : handOk S hd m)
    (hs : Sim ⟨w, mayOf (d.hand hd ro) m, nt, ro, fxOf (d.hand hd ro) m⟩ d' ⟨[], m'⟩ a2 w') (hall : hd.all (fun x => (look m' x.1).isSome) = true) (ho : outOk vw nm hd S m m' m') :
    Sim B (d.back d' vw nm m' w.heap.size) ⟨S.env, backM nm hd m' S.mem⟩ a w' ∧
    (∀ k, okN m' k = true → (d.back d' vw nm m' w.heap.size).at_ (outN nm hd k) = d'.at_ k ∧ (k < gl0 → (d.back d' vw nm m' w.heap.size).size (outN nm hd k) = d'.size k)) ∧
    (vw = false → ∀ b o y, d'.ro b o = some y → (d.back d' vw nm m' w.heap.size).ro b o = some y) := by
  -- the callee's places
  have hat : ∀ {k j : Nat}, k < gl0 → look hd k = some j → (d.hand hd ro).at_ k = d.at_ j := fun hk hj => by
    simp only [Va.hand]; rw [if_neg (Nat.not_le_of_lt hk)]; simp only [nameOut, hj]
  have hsz : ∀ {k j : Nat}, look hd k = some j → (d.hand hd ro).size k = d.size j := fun hj => by
    simp only [Va.hand, nameOut, hj]
  -- objects of `m` below the globals
  have hmj : ∀ {k : Nat}, (look m k).isSome = true → k < gl0 → ∃ j, look hd k = some j ∧ (look S.mem j).isSome = true ∧ j < gl0 ∧ px0 ≤ k := fun {k} hk hkl => by
    obtain ⟨o, hko⟩ := Option.isSome_iff_exists.mp hk
    obtain ⟨j, u, hj, hu, _⟩ := (handOk_look hm hko).1 hkl
    exact ⟨j, hj, by rw [hu]; rfl, (hdOk_look hok hj).2.2, (hdOk_look hok hj).1⟩
  have hstay : ∀ {k : Nat}, (look m k).isSome = true → (look m' k).isSome = true → k < gl0 → ∃ j, look hd k = some j ∧ (look S.mem j).isSome = true ∧ j < gl0 ∧ d'.at_ k = d.at_ j ∧ d'.size k = d.size j := fun {k} hk hk' hkl => by
    obtain ⟨j, hj, hjs, hjl, hpx⟩ := hmj hk hkl
    obtain ⟨o', ho'⟩ := Option.isSome_iff_exists.mp hk'
    have := hs.fix k o' ((d.hand hd ro).at_ k, (d.hand hd ro).size k) ho' (by simp only [fxOf]; rw [if_pos ⟨hk, hpx, hkl⟩]) hkl
    exact ⟨j, hj, hjs, hjl, by rw [this.1, hat hkl hj], by rw [this.2, hsz hj]⟩
  have hpres : ∀ {k j : Nat}, look hd k = some j → (look m' k).isSome = true := fun {k j} hj => by
    simp only [List.all_eq_true] at hall
    exact hall (k, j) (look_memL hj)
  -- blocks
  have hmay : ∀ {b : Nat}, mayOf (d.hand hd ro) m b → ∃ k j, (look m k).isSome = true ∧ k < gl0 ∧ px0 ≤ k ∧ look hd k = some j ∧ (look S.mem j).isSome = true ∧ j < gl0 ∧ d.at_ j = b ∧ d'.at_ k = b := by
    rintro b ⟨k, hk, hkl, rfl⟩
    obtain ⟨j, hj, hjs, hjl, hpx⟩ := hmj hk hkl
    obtain ⟨j2, hj2, _, _, e, _⟩ := hstay hk (hpres hj) hkl
    rw [hj] at hj2; cases hj2
    exact ⟨k, j, hk, hkl, hpx, hj, hjs, hjl, (hat hkl hj).symm, by rw [e, hat hkl hj]⟩
  have hnew : ∀ {k : Nat}, k < px0 → (look m' k).isSome = true → w.heap.size ≤ d'.at_ k := fun {k} hk hkm => by
    rcases (hs.own k hkm (Nat.lt_trans hk px_gl)).2 with h1 | h1
    · exact h1
    · obtain ⟨k2, j, h2, h3, h4, h5, _, _, _, h6⟩ := hmay h1.2
      have := hs.inj k k2 hkm (hpres h5) (Nat.lt_trans hk px_gl) h3 h6.symm
      subst this; exact absurd hk (Nat.not_lt_of_le h4)
  -- names
  have hinv : ∀ {j k : Nat}, inv nm m' j = some k → k < px0 ∧ nm k = j ∧ (look m' k).isSome = true ∧ fresh j S = true ∧ (look S.mem j).isSome = false := fun {j k} hi => by
    obtain ⟨h1, h2, h3⟩ := inv_spec hi
    obtain ⟨o', ho'⟩ := Option.isSome_iff_exists.mp h3
    obtain ⟨g1, g2, _⟩ := (outOk_look ho ho').2.1 h1
    rw [h2] at g1 g2
    exact ⟨h1, h2, h3, g1, g2⟩
  have hinvM : ∀ {j : Nat}, (look S.mem j).isSome = true → inv nm m' j = none := fun {j} hj => by
    cases hi : inv nm m' j with
    | none => rfl
    | some k => have := (hinv hi).2.2.2.2; rw [hj] at this; cases this
  have hinvG : ∀ {j : Nat}, px0 ≤ j → inv nm m' j = none := fun {j} hj => by
    cases hi : inv nm m' j with
    | none => rfl
    | some k => exact absurd (fresh_lt (hinv hi).2.2.2.1) (Nat.not_lt_of_le hj)
  have hat2 : ∀ {j : Nat}, inv nm m' j = none → (d.back d' vw nm m' w.heap.size).at_ j = d.at_ j ∧ (d.back d' vw nm m' w.heap.size).size j = d.size j := fun hi => by
    simp only [Va.back, hi, and_self]
  have hatN : ∀ {j k : Nat}, inv nm m' j = some k → (d.back d' vw nm m' w.heap.size).at_ j = d'.at_ k ∧ (d.back d' vw nm m' w.heap.size).size j = d'.size k := fun hi => by
    simp only [Va.back, hi, and_self]
  have hroM : ∀ b o y, d.ro b o = some y → (d.back d' vw nm m' w.heap.size).ro b o = some y := fun b o y hy => by
    simp only [Va.back]
    split
    · exact hy
    · rw [if_pos (cell_lt (h.ro b o y hy))]; exact hy
  have hout : ∀ k, okN m' k = true → (d.back d' vw nm m' w.heap.size).at_ (outN nm hd k) = d'.at_ k ∧ (k < gl0 → (d.back d' vw nm m' w.heap.size).size (outN nm hd k) = d'.size k) := fun k hk => by
    simp only [okN] at hk
    split at hk
    · rename_i hkl
      obtain ⟨o', ho'⟩ := Option.isSome_iff_exists.mp hk
      rcases Nat.lt_or_ge k px0 with hp | hp
      · have hi := ((outOk_look ho ho').2.1 hp).2.2
        simp only [outN, if_pos hp]
        obtain ⟨g1, g2⟩ := hatN hi
        exact ⟨g1, fun _ => g2⟩
      · have hkm := (outOk_look ho ho').2.2 hp hkl
        obtain ⟨j, hj, hjs, hjl, g1, g2⟩ := hstay hkm hk hkl
        simp only [outN, if_neg (Nat.not_lt_of_le hp), nameOut, hj]
        obtain ⟨f1, f2⟩ := hat2 (hinvM hjs)
        exact ⟨by rw [f1, g1], fun _ => by rw [f2, g2]⟩
    · rename_i hkl
      have hkl : gl0 ≤ k := Nat.le_of_not_lt hkl
      have hno : look hd k = none := by
        cases hl : look hd k with
        | none => rfl
        | some j => exact absurd (hdOk_look hok hl).2.1 (Nat.not_lt_of_le hkl)
      have hp : ¬ k < 500000 := Nat.not_lt_of_le (Nat.le_trans (Nat.le_of_lt px_gl) hkl)
      simp only [outN, if_neg hp, nameOut, hno]
      refine ⟨?_, fun hl => absurd hl (Nat.not_lt_of_le hkl)⟩
      rw [(hat2 (hinvG (Nat.le_trans (Nat.le_of_lt px_gl) hkl))).1, h.gat k hkl, hs.gat k hkl]
  have hroR : vw = false → ∀ b o y, d'.ro b o = some y → (d.back d' vw nm m' w.heap.size).ro b o = some y := fun hv b o y hy => by
    simp only [Va.back, hv, Bool.false_eq_true, if_false]
    split
    · rename_i hb
      have := hs.old b o y hy hb
      rw [← hr hv]; exact this
    · exact hy
  refine ⟨?_, hout, hroR⟩
  -- blocks that stay as they were
  have hsame : ∀ {b : Nat}, b < w.heap.size → (∀ j, (look S.mem j).isSome = true → j < gl0 → (∃ k, (look m k).isSome = true ∧ k < gl0 ∧ look hd k = some j) → d.at_ j ≠ b) → w'.heap[b]? = w.heap[b]? := fun {b} hb hne => by
    refine hs.block b hb fun hmb => ?_
    obtain ⟨k, j, h1, h2, _, h4, h5, h6, h7, _⟩ := hmay hmb
    exact hne j h5 h6 ⟨k, h1, h2, h4⟩ h7
  have agree : ∀ {v : V}, (∀ j, fresh j S = true → v.has j = false) → ∀ j, v.has j = true → (d.back d' vw nm m' w.heap.size).at_ j = d.at_ j ∧ (d.back d' vw nm m' w.heap.size).size j = d.size j := fun hv j hj => by
    refine hat2 ?_
    cases hi : inv nm m' j with
    | none => rfl
    | some k => have := hv j (hinv hi).2.2.2.1; rw [hj] at this; cases this
  -- what an object of the new memory is
  have cls : ∀ {j : Nat}, (look (backM nm hd m' S.mem) j).isSome = true → j < gl0 → (∃ k, k < px0 ∧ (look m' k).isSome = true ∧ inv nm m' j = some k ∧ w.heap.size ≤ d'.at_ k) ∨ ((look S.mem j).isSome = true ∧ inv nm m' j = none) := fun {j} hj hjl => by
    obtain ⟨o2, ho2⟩ := Option.isSome_iff_exists.mp hj
    rcases look_back ho ho2 with ⟨k, o', g1, g2, g3, g4⟩ | ⟨g1, _⟩
    · rcases Nat.lt_or_ge k px0 with hp | hp
      · have hi := ((outOk_look ho g1).2.1 hp).2.2
        simp only [outN, if_pos hp] at g3
        rw [g3] at hi
        have hks : (look m' k).isSome = true := by rw [g1]; rfl
        exact .inl ⟨k, hp, hks, hi, hnew hp hks⟩
      · have hkm := (outOk_look ho g1).2.2 hp g2
        obtain ⟨j2, hj2, hjs, _⟩ := hmj hkm g2
        simp only [outN, if_neg (Nat.not_lt_of_le hp), nameOut, hj2] at g3
        subst g3
        exact .inr ⟨hjs, hinvM hjs⟩
    · have : (look S.mem j).isSome = true := by rw [g1]; rfl
      exact .inr ⟨this, hinvM this⟩
  refine ⟨h.defers, h.nt, fun n v hv => ?_, fun j o2 hj hjl => ?_, fun j1 j2 h1 h2 hl1 hl2 he => ?_, fun j hj hjl => ?_, fun b o y hy => ?_, fun b o y hy hb => ?_, hs.os.trans h.os, hs.tape.trans h.tape, hs.output.trans h.output, Nat.le_trans h.size hs.size, fun b hb hnb => ?_, fun j hj => ?_, fun j o hj hjl => ?_, fun j o p hj hp hjl => ?_, h.fxn⟩
  · obtain ⟨y, hy, hyd⟩ := h.env n v hv
    exact ⟨y, hy, V.den_agree hroM (agree fun j hf => hasE_look (fresh_has hf).1 hv) hyd⟩
  · rcases look_back ho hj with ⟨k, o', g1, g2, g3, g4⟩ | ⟨g1, g2⟩
    · obtain ⟨vals, spare, ty, fr, f1, f2, f3, f4, f5⟩ := hs.mem k o' g1 g2
      have hk : okN m' k = true := by simp only [okN]; rw [if_pos g2, g1]; rfl
      obtain ⟨e1, e2⟩ := hout k hk
      rw [g3] at e1 e2
      subst g4
      exact ⟨vals, spare, ty, fr, by rw [e1]; exact f1, f2, leafOut_all hroR hout (outOk_look ho g1).1 f3, f4, by rw [e2 g2]; exact f5⟩
    · obtain ⟨vals, spare, ty, fr, f1, f2, f3, f4, f5⟩ := h.mem j o2 g1 hjl
      have hjs : (look S.mem j).isSome = true := by rw [g1]; rfl
      obtain ⟨e1, e2⟩ := hat2 (hinvM hjs)
      refine ⟨vals, spare, ty, fr, ?_, f2, ?_, f4, by rw [e2]; exact f5⟩
      · rw [e1, hsame (h.mem_lt hjs hjl)]
        · exact f1
        · rintro j' hj' hjl' ⟨k, hk, hkl, hkj⟩ he
          have := h.inj j' j hj' hjs hjl' hjl he
          subst this
          refine g2 k (hpres hkj) hkl ?_
          have hp := (hdOk_look hok hkj).1
          simp only [outN, if_neg (Nat.not_lt_of_le hp), nameOut, hkj]
      · exact all2_agree hroM (fun i hi => agree (v := .w (.agg o2.cells)) (fun j' hf => hasM_look (fresh_has hf).2 g1) i hi) f3
  · rcases cls h1 hl1 with ⟨k1, p1, q1, i1, s1⟩ | ⟨q1, i1⟩ <;> rcases cls h2 hl2 with ⟨k2, p2, q2, i2, s2⟩ | ⟨q2, i2⟩
    · rw [(hatN i1).1, (hatN i2).1] at he
      have := hs.inj k1 k2 q1 q2 (Nat.lt_trans p1 px_gl) (Nat.lt_trans p2 px_gl) he
      subst this
      rw [← (inv_spec i1).2.1, ← (inv_spec i2).2.1]
    · rw [(hatN i1).1, (hat2 i2).1] at he
      have := h.mem_lt q2 hl2
      omega
    · rw [(hat2 i1).1, (hatN i2).1] at he
      have := h.mem_lt q1 hl1
      omega
    · rw [(hat2 i1).1, (hat2 i2).1] at he
      exact h.inj j1 j2 q1 q2 hl1 hl2 he
  · rcases cls hj hjl with ⟨k, p, q, i, s⟩ | ⟨q, i⟩
    · rw [(hatN i).1]
      refine ⟨fun o => ?_, .inl (Nat.le_trans h.size s)⟩
      simp only [Va.back]
      have hnone : d.ro (d'.at_ k) o = none := by
        cases hq : d.ro (d'.at_ k) o with
        | none => rfl
        | some y => have := cell_lt (h.ro _ _ _ hq); omega
      split
      · exact hnone
      · split
        · exact hnone
        · exact (hs.own k q (Nat.lt_trans p px_gl)).1 o
    · rw [(hat2 i).1]
      have hlt := h.mem_lt q hjl
      obtain ⟨g1, g2⟩ := h.own j q hjl
      refine ⟨fun o => ?_, g2⟩
      simp only [Va.back]
      split <;> first
        | exact g1 o
        | (rw [if_pos hlt]; exact g1 o)
  · have key : d.ro b o = some y → w'.cell? ⟨b, o, none⟩ = some y := fun hy => by
      have hc := h.ro b o y hy
      have hlt := cell_lt hc
      have := hsame hlt (fun j hj hjl _ he => by have := (h.own j hj hjl).1 o; rw [he, hy] at this; cases this)
      simp only [World.cell?] at hc ⊢
      rw [this]; exact hc
    simp only [Va.back] at hy
    split at hy
    · exact key hy
    · split at hy
      · exact key hy
      · exact hs.ro b o y hy
  · simp only [Va.back] at hy
    split at hy
    · exact h.old b o y hy hb
    · rw [if_pos (Nat.lt_of_lt_of_le hb h.size)] at hy; exact h.old b o y hy hb
  · rw [hsame (Nat.lt_of_lt_of_le hb h.size)]
    · exact h.block b hb hnb
    · intro j hj hjl _ he
      rcases (h.own j hj hjl).2 with g | g
      · rw [he] at g; omega
      · rw [he] at g; exact hnb g.2
  · rw [(hat2 (hinvG (Nat.le_trans (Nat.le_of_lt px_gl) hj))).1]; exact h.gat j hj
  · have hi := hinvG (Nat.le_trans (Nat.le_of_lt px_gl) hjl)
    rcases look_back ho hj with ⟨k, o', g1, g2, g3, g4⟩ | ⟨g1, _⟩
    · exfalso
      rcases Nat.lt_or_ge k px0 with hp | hp
      · have := ((outOk_look ho g1).2.1 hp).2.2
        simp only [outN, if_pos hp] at g3
        rw [g3, hi] at this; cases this
      · obtain ⟨j2, hj2, _, hl2, _⟩ := hmj ((outOk_look ho g1).2.2 hp g2) g2
        simp only [outN, if_neg (Nat.not_lt_of_le hp), nameOut, hj2] at g3
        subst g3; exact absurd hl2 (Nat.not_lt_of_le hjl)
    · obtain ⟨e1, cs, e2, e3⟩ := h.glob j o g1 hjl
      exact ⟨by rw [(hat2 hi).2]; exact e1, cs, e2, PL.denAt_mono hroM e3⟩
  · have hi := hinvG (h.fxn j p hp)
    rcases cls (by rw [hj]; rfl) hjl with ⟨k, _, _, i, _⟩ | ⟨q, i⟩
    · rw [hi] at i; cases i
    · obtain ⟨u, hu⟩ := Option.isSome_iff_exists.mp q
      rw [(hat2 hi).1, (hat2 hi).2]; exact h.fix j u p hu hp hjl
end

open Classical in
/-- a call of a function whose contract takes objects of the caller's -/
theorem call_hand {P : Program} {B : Base} {S : St} {K : St → Prop} {dst : Option Tmp} {ty : TypeId} {pos : String} {af : Array Edge} {f : FuncId} {args : List Operand} {ts : Array TypeId} {ds : List (Option Tmp)} {r : List Oper} {vs : List V} {m : List (Nat × Ob)} {R : V → List (Nat × Ob) → Prop}
    (vw : Bool) (hd : Hand) (nm : Nat → Nat) (hgo : ∀ vals w, (callFunc f vals).run P w = .ok (.enter f vals) w) (hargs : valsIn vw S hd args = some vs) (hok : hdOk hd = true) (hm : handOk S hd m) (hc : CtM P f vs m R)
    (hK : ∀ v m', R v m' → leafOutV vw m' v = true ∧ outOk vw nm hd S m m' m' ∧ hd.all (fun x => (look m' x.1).isSome) = true ∧ (match dst with
      | some n => n < B.nt ∧ runOps P B ds r ⟨(n, v.ren (outN nm hd)) :: S.env, backM nm hd m' S.mem⟩ K
      | none => runOps P B ds r ⟨S.env, backM nm hd m' S.mem⟩ K)) :
    atCall P B ⟨dst, .call ⟨.value (.func f), args.toArray, ts⟩, ty, pos, af, none⟩ S ds r K := by
  intro d a w h next Q hn
  have hrun : (execOp a.eval ⟨dst, .call ⟨.value (.func f), args.toArray, ts⟩, ty, pos, af, none⟩).run P w = .ok (.enter f (args.map a.eval).toArray) w := by
    simp [execOp, resolve, Deferred.ofValue, Act.eval, invoke, hgo]
  unfold Oper.wp
  rw [hrun, Oper.upon_enter]
  obtain ⟨ro, hr, hrv, hrw, hrn⟩ : ∃ ro : Ro, RoOk S hd d w vw ro ∧ (vw = false → ro = d.ro) ∧ (∀ b o y, ro b o = some y → w.cell? ⟨b, o, none⟩ = some y) ∧ (∀ k j, look hd k = some j → (look S.mem j).isSome = true → ∀ o, ro (d.at_ j) o = none) := by
    cases vw with
    | false => exact ⟨d.ro, roFalse, fun _ => rfl, h.ro, fun k j hk hj o => (h.own j hj (hdOk_look hok hk).2.2).1 o⟩
    | true =>
      refine ⟨fun b o => if (∃ k j, look hd k = some j ∧ (look S.mem j).isSome = true ∧ d.at_ j = b) then none else w.cell? ⟨b, o, none⟩, ⟨fun b o y hy => ?_, fun _ j hj hjl hn o y hy => ?_⟩, (fun h => by cases h), fun b o y hy => ?_, fun k j hk hj o => ?_⟩
      · rw [if_neg]
        · exact h.ro b o y hy
        · rintro ⟨k, j, hk, hj, rfl⟩
          have := (h.own j hj (hdOk_look hok hk).2.2).1 o
          rw [this] at hy; cases hy
      · rw [if_neg]
        · exact hy
        · rintro ⟨k, j', hk, hj', he⟩
          have := h.inj j' j hj' hj (hdOk_look hok hk).2.2 hjl he
          subst this
          have : nameIn hd j' ≠ none := by
            have key : ∀ {hd : Hand}, look hd k = some j' → nameIn hd j' ≠ none := by
              intro hd
              induction hd with
              | nil => intro h; cases h
              | cons x r ih =>
                intro h
                simp only [nameIn]
                split
                · simp
                · rename_i hne
                  simp only [look] at h
                  split at h
                  · cases h; exact absurd rfl hne
                  · exact ih h
            exact key hk
          exact this hn
      · have hy' : (if (∃ k j, look hd k = some j ∧ (look S.mem j).isSome = true ∧ d.at_ j = b) then none else w.cell? ⟨b, o, none⟩) = some y := hy
        split at hy'
        · cases hy'
        · exact hy'
      · exact if_pos ⟨k, j, hk, hj, rfl⟩
  have hmem := hand_mem' h hr hrw hrn hok hm
  have hda := valsIn_ok h hr hok hargs
  refine (hc w (d.hand hd ro) (args.map a.eval).toArray hmem (by simpa using hda)).mono ?_
  rintro e w' ⟨y, v, d', m', rfl, hR, hvd, a2, hs⟩
  obtain ⟨hlo, hou, hall, hk⟩ := hK v m' hR
  obtain ⟨hsim, hnm, hro⟩ := back_ok h hrv hok hm hs hall hou
  have hvd2 := leafOutV_den hro hnm hlo hvd
  cases dst with
  | none => exact hn _ _ _ _ hk hsim
  | some n => exact hn _ _ _ _ hk.2 (hsim.put hk.1 hvd2)
end Go.Sy
namespace Go.Sy

/-- leaves, once object `k`, which holds these cells, is only read -/
def sealL (k : Nat) (c : List PL) : L → L
  | .pl x => .pl x
  | .p j path => if j = k then .pl (.q c path) else .p j path
  | .s j path len sz => if j = k then if pok c.length path ∧ psz c.length path = len * sz then .pl (.R false sz (chunks sz len (rd c path))) else .pl .u else .s j path len sz
  | .fn f caps => if caps.any (fun j => j == k) = true then .pl .u else .fn f caps
def sealW (k : Nat) (c : List PL) : W → W
  | .one l => .one (sealL k c l)
  | .agg cs => .agg (cs.map (sealL k c))
def sealV (k : Nat) (c : List PL) : V → V
  | .w x => .w (sealW k c x)
  | .tup xs => .tup (xs.map (sealW k c))
  | .any => .any
def sealE (k : Nat) (c : List PL) : List (Nat × V) → List (Nat × V)
  | [] => []
  | x :: r => (x.1, sealV k c x.2) :: sealE k c r
def sealM (k : Nat) (c : List PL) : List (Nat × Ob) → List (Nat × Ob)
  | [] => []
  | x :: r => if x.1 = k then sealM k c r else (x.1, if x.1 < 1000000 then ⟨x.2.row, x.2.cells.map (sealL k c)⟩ else x.2) :: sealM k c r
def St.laid (k : Nat) (c : List PL) (S : St) : St := ⟨sealE k c S.env, sealM k c S.mem⟩

theorem look_sealE {k : Nat} {c : List PL} : ∀ {l : List (Nat × V)} {n : Nat}, look (sealE k c l) n = (look l n).map (sealV k c)
  | [], n => rfl
  | x :: r, n => by
    simp only [sealE, look]
    split
    · rfl
    · exact look_sealE
theorem look_sealM {k : Nat} {c : List PL} : ∀ {l : List (Nat × Ob)} {n : Nat}, look (sealM k c l) n = if n = k then none else (look l n).map fun o => if n < 1000000 then ⟨o.row, o.cells.map (sealL k c)⟩ else o
  | [], n => by simp [sealM, look]
  | x :: r, n => by
    simp only [sealM]
    split
    · rename_i e
      rw [look_sealM]
      simp only [look]
      by_cases hn : n = k
      · rw [if_pos hn, if_pos hn]
      · rw [if_neg hn, if_neg hn, if_neg (fun h => hn (h.trans e))]
    · rename_i e
      simp only [look]
      by_cases hx : n = x.1
      · subst hx; rw [if_pos rfl, if_neg e, if_pos rfl]; rfl
      · rw [if_neg hx, if_neg hx, look_sealM]

/-- the valuation, once the object is only read -/
def Va.seals (d : Va) (k : Nat) (w : World) : Va := ⟨d.at_, d.size, fun b o => if b = d.at_ k then w.cell? ⟨b, o, none⟩ else d.ro b o⟩

section
variable {B : Base} {d : Va} {S : St} {a : Act} {w : World} {k : Nat} {o : Ob} {c : List PL}

theorem seal_mono (h : Sim B d S a w) (hk : look S.mem k = some o) (hkl : k < gl0) : ∀ b o y, d.ro b o = some y → (d.seals k w).ro b o = some y := fun b o' y hy => by
  simp only [Va.seals]
  split
  · rename_i e; rw [e, (h.own k (by rw [hk]; rfl) hkl).1] at hy; cases hy
  · exact hy

theorem sealL_den (h : Sim B d S a w) (hk : look S.mem k = some o) (hc : o.cells = pls c) (hkl : k < gl0) {l : L} {y : Value} (hd : l.den d y) : (sealL k c l).den (d.seals k w) y := by
  have hro := seal_mono h hk hkl
  have hb : ∀ o' y, w.cell? ⟨d.at_ k, o', none⟩ = some y → (d.seals k w).ro (d.at_ k) o' = some y := fun o' y hy => by simp only [Va.seals, if_true]; exact hy
  have hl : o.cells.length = c.length := by rw [hc, length_pls]
  cases l with
  | pl x => exact PL.den_mono hro hd
  | p j path =>
    simp only [sealL]
    split
    · rename_i e; subst e
      simp only [L.den] at hd
      rw [L.den, PL.den]
      obtain ⟨vals, hv, hcell, _⟩ := h.readObj (path := []) hk trivial
      simp only [rd, hc, poff] at hv hcell
      exact ⟨d.at_ j, 0, by rw [hd]; simp, denAt_cells' hro hb hv hcell⟩
    · exact hd
  | s j path len sz =>
    simp only [sealL]
    split
    · rename_i e; subst e
      split
      · rename_i hp
        obtain ⟨hp, hps⟩ := hp
        obtain ⟨vals, hv, hcell, _⟩ := h.readObj (path := path) hk (by rw [hl]; exact hp)
        have hcl := length_rd c hp
        have e2 : rd o.cells path = pls (rd c path) := by rw [hc]; unfold pls; rw [rd_map]
        rw [e2] at hv
        obtain ⟨oo, cap, rfl, hlc, hcm, ho, _⟩ := hd
        rw [L.den, PL.den]
        right
        rw [hps] at hcl
        refine ⟨d.at_ j, oo, cap, by rw [length_chunks], by rw [length_chunks]; exact hlc, hcm, fun e => (by cases e), ?_⟩
        refine denRows_chunks ?_ hcl
        rcases ho with ho | rfl
        · have hlen : len = 0 := by omega
          rw [hlen, Nat.zero_mul] at hcl
          have := List.eq_nil_of_length_eq_zero hcl
          rw [this]; rw [PL.denAt]; trivial
        · exact denAt_cells' hro hb hv hcell
      · have hs := L.den_scalar hd
        rw [L.den, PL.den]; exact hs
    · exact hd
  | fn f caps =>
    simp only [sealL]
    split
    · have hs := L.den_scalar hd
      rw [L.den, PL.den]; exact hs
    · exact hd

theorem sealL_all (h : Sim B d S a w) (hk : look S.mem k = some o) (hc : o.cells = pls c) (hkl : k < gl0) {cs : List L} {vs : List Value} (hd : All2 (L.den d) cs vs) : All2 (L.den (d.seals k w)) (cs.map (sealL k c)) vs :=
  All2.map_left (hd.mono fun x y _ hr => sealL_den h hk hc hkl hr)

theorem sealW_den (h : Sim B d S a w) (hk : look S.mem k = some o) (hc : o.cells = pls c) (hkl : k < gl0) {x : W} {y : Value} (hd : x.den d y) : (sealW k c x).den (d.seals k w) y := by
  cases x with
  | one l => exact sealL_den h hk hc hkl hd
  | agg cs => obtain ⟨vs, rfl, hv⟩ := hd; exact ⟨vs, rfl, sealL_all h hk hc hkl hv⟩

theorem sealV_den (h : Sim B d S a w) (hk : look S.mem k = some o) (hc : o.cells = pls c) (hkl : k < gl0) {x : V} {y : Value} (hd : x.den d y) : (sealV k c x).den (d.seals k w) y := by
  cases x with
  | w x => exact sealW_den h hk hc hkl hd
  | tup xs => obtain ⟨vs, rfl, hv⟩ := hd; exact ⟨vs, rfl, All2.map_left (hv.mono fun x y _ hr => sealW_den h hk hc hkl hr)⟩
  | any => trivial

theorem Sim.sealed (h : Sim B d S a w) (hk : look S.mem k = some o) (hc : o.cells = pls c) (hkp : k < px0) : Sim B (d.seals k w) (S.laid k c) a w := by
  have hkl : k < gl0 := Nat.lt_trans hkp px_gl
  have hmem : ∀ {j : Nat} {p : Ob}, look (S.laid k c).mem j = some p → j ≠ k ∧ ∃ q, look S.mem j = some q ∧ p = if j < 1000000 then ⟨q.row, q.cells.map (sealL k c)⟩ else q := fun {j p} hj => by
    simp only [St.laid, look_sealM] at hj
    split at hj
    · cases hj
    · rename_i hne
      obtain ⟨q, hq, rfl⟩ := Option.map_eq_some_iff.mp hj
      exact ⟨hne, q, hq, rfl⟩
  have hsome : ∀ {j : Nat}, (look (S.laid k c).mem j).isSome = true → (look S.mem j).isSome = true ∧ j ≠ k := fun {j} hj => by
    obtain ⟨p, hp⟩ := Option.isSome_iff_exists.mp hj
    obtain ⟨h1, q, h2, _⟩ := hmem hp
    exact ⟨by rw [h2]; rfl, h1⟩
  refine ⟨h.defers, h.nt, fun n v hv => ?_, fun j p hj hjl => ?_, fun j1 j2 h1 h2 hl1 hl2 he => h.inj j1 j2 (hsome h1).1 (hsome h2).1 hl1 hl2 he, fun j hj hjl => ?_, fun b o' y hy => ?_, fun b o' y hy hb => ?_, h.os, h.tape, h.output, h.size, h.block, h.gat, fun j p hj hjl => ?_, fun j p q hj hq hjl => ?_, h.fxn⟩
  · simp only [St.laid, look_sealE] at hv
    obtain ⟨u, hu, rfl⟩ := Option.map_eq_some_iff.mp hv
    obtain ⟨y, hy, hd⟩ := h.env n u hu
    exact ⟨y, hy, sealV_den h hk hc hkl hd⟩
  · obtain ⟨_, q, hq, rfl⟩ := hmem hj
    rw [if_pos hjl]
    obtain ⟨vals, spare, ty, fr, g1, g2, g3, g4, g5⟩ := h.mem j q hq hjl
    exact ⟨vals, spare, ty, fr, g1, g2, sealL_all h hk hc hkl g3, g4, g5⟩
  · obtain ⟨h1, h2⟩ := hsome hj
    obtain ⟨g1, g2⟩ := h.own j h1 hjl
    refine ⟨fun o' => ?_, g2⟩
    simp only [Va.seals]
    rw [if_neg (fun e => h2 (h.inj j k h1 (by rw [hk]; rfl) hjl hkl e))]; exact g1 o'
  · simp only [Va.seals] at hy
    split at hy
    · exact hy
    · exact h.ro b o' y hy
  · simp only [Va.seals] at hy
    split at hy
    · rename_i e
      rcases (h.own k (by rw [hk]; rfl) hkl).2 with g | g
      · omega
      · exact absurd g.1 (Nat.not_le_of_lt hkp)
    · exact h.old b o' y hy hb
  · obtain ⟨_, q, hq, rfl⟩ := hmem hj
    rw [if_neg (Nat.not_lt_of_le hjl)]
    obtain ⟨e1, cs, e2, e3⟩ := h.glob j q hq hjl
    exact ⟨e1, cs, e2, PL.denAt_mono (seal_mono h hk hkl) e3⟩
  · obtain ⟨_, u, hu, _⟩ := hmem hj
    exact h.fix j u q hu hq hjl
end

theorem Le.laid {B : Base} {S : St} {k : Nat} {b : Bool} (c : List PL) (hk : look S.mem k = some ⟨b, pls c⟩) (hkp : k < 500000) : Le B S (S.laid k c) := fun d a w h => ⟨d.seals k w, h.sealed hk rfl hkp⟩
theorem ht_seal {P : Program} {B : Base} {Q : Exit → St → Prop} {S : St} {x : Code} (k : Nat) {b : Bool} (c : List PL) (hk : look S.mem k = some ⟨b, pls c⟩) (hkp : k < 500000) (h : HT P B x (S.laid k c) Q) : HT P B x S Q := HT.le (Le.laid c hk hkp) h
theorem at_le {P : Program} {B : Base} {o : Oper} {S S' : St} {ds : List (Option Tmp)} {r : List Oper} {K : St → Prop} (hl : Le B S S') (h : atCall P B o S' ds r K) : atCall P B o S ds r K := fun d a w hs next Q hn => by
  obtain ⟨d', hs'⟩ := hl d a w hs
  exact h d' a w hs' next Q hn
theorem at_seal {P : Program} {B : Base} {o : Oper} {S : St} {ds : List (Option Tmp)} {r : List Oper} {K : St → Prop} (k : Nat) {b : Bool} (c : List PL) (hk : look S.mem k = some ⟨b, pls c⟩) (hkp : k < 500000) (h : atCall P B o (S.laid k c) ds r K) : atCall P B o S ds r K := at_le (Le.laid c hk hkp) h

theorem mayOf_nil (d : Va) : mayOf d [] = fun _ => False := by funext b; simp [mayOf, look]
theorem fxOf_nil (d : Va) : fxOf d [] = fun _ => none := by funext b; simp [fxOf, look]
theorem Ct.hands {P : Program} {f : FuncId} {args : List V} {R : V → List (Nat × Ob) → Prop} (h : Ct P f args R) : CtM P f args [] R := by
  intro w d vals ⟨a, hs⟩ ha
  rw [mayOf_nil, fxOf_nil]
  exact h w d vals hs.ro hs.gat ha
theorem CtM.k {P : Program} {f : FuncId} {fn : Func} {c : Code} {args : List V} {m : List (Nat × Ob)} {R : V → List (Nat × Ob) → Prop} {nt : Nat} {rs : List ResultVar} (hf : P.funcs[f]? = some fn) (hb : fn.body = some c) (hnt : fn.ntmps = nt) (hrs : fn.results.toList = rs) (hn : args.length ≤ nt)
    (h : ∀ (w0 : World) (ro : Ro) (may : Nat → Prop) (fx : Nat → Option (Nat × Nat)), HT P ⟨w0, may, nt, ro, fx⟩ c ⟨argsE 0 args, m⟩ (endQ P rs R)) : CtM P f args m R := by
  subst hnt; subst hrs
  refine CtM.of hf hb hn fun w0 ro may fx => ?_
  exact (h w0 ro may fx).mono fun e S hq => by cases e <;> exact hq
theorem CtM.mono {P : Program} {f : FuncId} {args : List V} {m : List (Nat × Ob)} {R R' : V → List (Nat × Ob) → Prop} (h : CtM P f args m R) (hr : ∀ v m, R v m → R' v m) : CtM P f args m R' := by
  intro w d vals hm hargs
  exact (h w d vals hm hargs).mono fun e w' ⟨y, v, d', m', h1, h2, h3⟩ => ⟨y, v, d', m', h1, hr _ _ h2, h3⟩
end Go.Sy
namespace Go.Sy
theorem all2_caps {d : Va} : ∀ ks : List Nat, All2 (V.den d) (ks.map fun k => .w (.one (.p k []))) (ks.map fun k => Value.pointer (some ⟨d.at_ k, 0, none⟩))
  | [] => .nil
  | k :: ks => .cons (by simp [V.den, W.den, L.den, poff]) (all2_caps ks)
open Classical in
/-- a call of what a slot holds: a function, and the boxes that it has caught -/
theorem call_fn {P : Program} {B : Base} {S : St} {K : St → Prop} {dst : Option Tmp} {ty : TypeId} {pos : String} {af : Array Edge} {f : FuncId} {args : List Operand} {ts : Array TypeId} {ds : List (Option Tmp)} {r : List Oper} {vs : List V} {m : List (Nat × Ob)} {R : V → List (Nat × Ob) → Prop}
    (vw : Bool) (hd : Hand) (nm : Nat → Nat) {t : Tmp} {caps ks : List Nat} (hfn : S.get (.tmp t) = some (.w (.one (.fn f caps)))) (hcaps : capsIn hd caps = some ks) (hgo : ∀ vals w, (callFunc f vals).run P w = .ok (.enter f vals) w) (hargs : valsIn vw S hd args = some vs) (hok : hdOk hd = true) (hm : handOk S hd m) (hc : CtM P f (vs ++ ks.map fun k => .w (.one (.p k []))) m R)
    (hK : ∀ v m', R v m' → leafOutV vw m' v = true ∧ outOk vw nm hd S m m' m' ∧ hd.all (fun x => (look m' x.1).isSome) = true ∧ (match dst with
      | some n => n < B.nt ∧ runOps P B ds r ⟨(n, v.ren (outN nm hd)) :: S.env, backM nm hd m' S.mem⟩ K
      | none => runOps P B ds r ⟨S.env, backM nm hd m' S.mem⟩ K)) :
    atCall P B ⟨dst, .call ⟨.value (.tmp t), args.toArray, ts⟩, ty, pos, af, none⟩ S ds r K := by
  intro d a w h next Q hn
  have hrun : (execOp a.eval ⟨dst, .call ⟨.value (.tmp t), args.toArray, ts⟩, ty, pos, af, none⟩).run P w = .ok (.enter f (args.map a.eval ++ caps.map fun k => Value.pointer (some ⟨d.at_ k, 0, none⟩)).toArray) w := by
    have hv := h.get hfn
    have hv' : a.eval (.tmp t) = .func (.func f) #[] (caps.map fun k => Value.pointer (some ⟨d.at_ k, 0, none⟩)).toArray := hv
    simp [execOp, resolve, Deferred.ofValue, hv', invoke, hgo]
  unfold Oper.wp
  rw [hrun, Oper.upon_enter]
  obtain ⟨ro, hr, hrv, hrw, hrn⟩ : ∃ ro : Ro, RoOk S hd d w vw ro ∧ (vw = false → ro = d.ro) ∧ (∀ b o y, ro b o = some y → w.cell? ⟨b, o, none⟩ = some y) ∧ (∀ k j, look hd k = some j → (look S.mem j).isSome = true → ∀ o, ro (d.at_ j) o = none) := by
    cases vw with
    | false => exact ⟨d.ro, roFalse, fun _ => rfl, h.ro, fun k j hk hj o => (h.own j hj (hdOk_look hok hk).2.2).1 o⟩
    | true =>
      refine ⟨fun b o => if (∃ k j, look hd k = some j ∧ (look S.mem j).isSome = true ∧ d.at_ j = b) then none else w.cell? ⟨b, o, none⟩, ⟨fun b o y hy => ?_, fun _ j hj hjl hn o y hy => ?_⟩, (fun h => by cases h), fun b o y hy => ?_, fun k j hk hj o => ?_⟩
      · rw [if_neg]
        · exact h.ro b o y hy
        · rintro ⟨k, j, hk, hj, rfl⟩
          have := (h.own j hj (hdOk_look hok hk).2.2).1 o
          rw [this] at hy; cases hy
      · rw [if_neg]
        · exact hy
        · rintro ⟨k, j', hk, hj', he⟩
          have := h.inj j' j hj' hj (hdOk_look hok hk).2.2 hjl he
          subst this
          have : nameIn hd j' ≠ none := by
            have key : ∀ {hd : Hand}, look hd k = some j' → nameIn hd j' ≠ none := by
              intro hd
              induction hd with
              | nil => intro h; cases h
              | cons x r ih =>
                intro h
                simp only [nameIn]
                split
                · simp
                · rename_i hne
                  simp only [look] at h
                  split at h
                  · cases h; exact absurd rfl hne
                  · exact ih h
            exact key hk
          exact this hn
      · have hy' : (if (∃ k j, look hd k = some j ∧ (look S.mem j).isSome = true ∧ d.at_ j = b) then none else w.cell? ⟨b, o, none⟩) = some y := hy
        split at hy'
        · cases hy'
        · exact hy'
      · exact if_pos ⟨k, j, hk, hj, rfl⟩
  have hmem := hand_mem' h hr hrw hrn hok hm
  have hda := valsIn_ok h hr hok hargs
  have hcp := capsIn_ok (ro := ro) h hok hcaps
  have hda2 : All2 (V.den (d.hand hd ro)) (vs ++ ks.map fun k => .w (.one (.p k []))) (args.map a.eval ++ caps.map fun k => Value.pointer (some ⟨d.at_ k, 0, none⟩)) := by
    refine hda.append ?_
    rw [← hcp]
    exact all2_caps ks
  refine (hc w (d.hand hd ro) (args.map a.eval ++ caps.map fun k => Value.pointer (some ⟨d.at_ k, 0, none⟩)).toArray hmem hda2).mono ?_
  rintro e w' ⟨y, v, d', m', rfl, hR, hvd, a2, hs⟩
  obtain ⟨hlo, hou, hall, hk⟩ := hK v m' hR
  obtain ⟨hsim, hnm, hro⟩ := back_ok h hrv hok hm hs hall hou
  have hvd2 := leafOutV_den hro hnm hlo hvd
  cases dst with
  | none => exact hn _ _ _ _ hk hsim
  | some n => exact hn _ _ _ _ hk.2 (hsim.put hk.1 hvd2)
end Go.Sy
namespace Go.Sy
/-- slots, forgotten -/
def St.dropE (ks : List Nat) (S : St) : St := ⟨fgt ks S.env, S.mem⟩
theorem ht_dropE {P : Program} {B : Base} {Q : Exit → St → Prop} {S : St} {x : Code} (ks : List Nat) (h : HT P B x (S.dropE ks) Q) : HT P B x S Q := by
  refine HT.le (fun d a w hs => ⟨d, ?_⟩) h
  exact ⟨hs.defers, hs.nt, fun n v hv => hs.env n v (look_fgt hv), hs.mem, hs.inj, hs.own, hs.ro, hs.old, hs.os, hs.tape, hs.output, hs.size, hs.block, hs.gat, hs.glob, hs.fix, hs.fxn⟩
theorem dropE_mk (ks : List Nat) (e : List (Nat × V)) (m : List (Nat × Ob)) : St.dropE ks ⟨e, m⟩ = ⟨fgt ks e, m⟩ := rfl
theorem fgt_nil {α : Type} (ks : List Nat) : fgt ks ([] : List (Nat × α)) = [] := rfl
theorem fgt_cons {α : Type} (ks : List Nat) (n : Nat) (v : α) (r : List (Nat × α)) : fgt ks ((n, v) :: r) = if ks.contains n = true then fgt ks r else (n, v) :: fgt ks r := rfl
attribute [go_sem] optCons_some optCons_none fm_cons fm_nil mut_val mut_new mut_app mut_sto ns_val ns_new ns_sto ns_app nsC td_val td_new td_sto td_app chk_nil chk_cons atD_some bytes_noU memOp gslot Eff.free noUV noUW noUL Op.operands Call.operands Nat.reduceBneDiff bne_self_eq_false Option.toArray List.append_toArray List.toList_toArray Array.append_empty Array.empty_append
end Go.Sy
namespace Go.Sy
theorem byteRows_drop (bs : List UInt8) (n : Nat) : (byteRows bs).drop n = byteRows (bs.drop n) := by simp [byteRows]
theorem byteRows_take (bs : List UInt8) (n : Nat) : (byteRows bs).take n = byteRows (bs.take n) := by simp [byteRows]
theorem byteRows_get {bs : List UInt8} {n : Nat} (h : n < bs.length) : (byteRows bs).getD n [] = [.u8 (bs.getD n 0)] := by
  simp [byteRows, List.getD_eq_getElem?_getD, List.getElem?_map, List.getElem?_eq_getElem h]
theorem byteRows_eq {bs : List UInt8} : (byteRows bs = []) = (bs = []) := by simp [byteRows]
attribute [go_sem] byteRows_drop byteRows_take byteRows_length byteRows_flatten byteRows_eq
/-- the empty slice has no size of its own -/
theorem R_nil_den {ro : Ro} {ex : Bool} {sz sz' : Nat} {y : Value} (h : PL.den ro (.R ex sz []) y) : PL.den ro (.R ex sz' []) y := by
  rw [PL.den] at h ⊢; simpa only [PL.denRows] using h
theorem Ct.args {P : Program} {f : FuncId} {args args' : List V} {R : V → List (Nat × Ob) → Prop} (h : Ct P f args R) (ha : ∀ d vs, All2 (V.den d) args' vs → All2 (V.den d) args vs) : Ct P f args' R :=
  fun w d vals hro hg hv => h w d vals hro hg (ha d _ hv)
theorem Ct.nil1 {P : Program} {f : FuncId} {ex : Bool} {sz sz' : Nat} {r : List V} {R : V → List (Nat × Ob) → Prop} (h : Ct P f (.w (.one (.pl (.R ex sz []))) :: r) R) : Ct P f (.w (.one (.pl (.R ex sz' []))) :: r) R :=
  h.args fun d vs hv => by cases hv with | cons h1 h2 => exact .cons (R_nil_den h1) h2
end Go.Sy
namespace Go.Sy
def Told (R : V → List (Nat × Ob) → Prop) (v : V) (m : List (Nat × Ob)) : Prop :=
  ∃ v' m', (∀ (B : Base) d y w, B.nt = 0 → v.den d y → MemOK B d m w → ∃ d', v'.den d' y ∧ MemOK B d' m' w) ∧ R v' m'
theorem CtM.told {P : Program} {f : FuncId} {args : List V} {ms : List (Nat × Ob)} {R : V → List (Nat × Ob) → Prop} (h : CtM P f args ms (Told R)) : CtM P f args ms R := by
  intro w d vals hm hargs
  refine (h w d vals hm hargs).mono fun e w' ⟨y, v, d', m', h1, ⟨v2, m2, h2, h3⟩, h4, h5⟩ => ?_
  obtain ⟨d2, h6, h7⟩ := h2 _ d' y w' rfl h4 h5
  exact ⟨y, v2, d2, m2, h1, h3, h6, h7⟩
theorem Ct.told {P : Program} {f : FuncId} {args : List V} {R : V → List (Nat × Ob) → Prop} (h : Ct P f args (Told R)) : Ct P f args R := by
  intro w d vals hro hg hargs
  refine (h w d vals hro hg hargs).mono fun e w' ⟨y, v, d', m', h1, ⟨v2, m2, h2, h3⟩, h4, h5⟩ => ?_
  obtain ⟨d2, h6, h7⟩ := h2 _ d' y w' rfl h4 h5
  exact ⟨y, v2, d2, m2, h1, h3, h6, h7⟩
section
variable {R : V → List (Nat × Ob) → Prop} {v v' : V} {m m' : List (Nat × Ob)}
theorem told_refl (h : R v m) : Told R v m := ⟨v, m, fun _ d _ _ _ h1 h2 => ⟨d, h1, h2⟩, h⟩
theorem told_weak (hw : ∀ d y, v.den d y → v'.den d y) (h : Told R v' m) : Told R v m := by
  obtain ⟨v2, m2, h1, h2⟩ := h
  exact ⟨v2, m2, fun B d y w hb hv hm => h1 B d y w hb (hw d y hv) hm, h2⟩
theorem told_seal (k : Nat) {b : Bool} (c : List PL) (hk : look m k = some ⟨b, pls c⟩) (hl : k < 500000) (h : Told R (sealV k c v) (sealM k c m)) : Told R v m := by
  obtain ⟨v2, m2, h1, h2⟩ := h
  refine ⟨v2, m2, fun B d y w hb hv hm => ?_, h2⟩
  obtain ⟨a, hs⟩ := hm
  exact h1 B _ y w hb (sealV_den hs hk rfl (Nat.lt_trans hl px_gl) hv) ⟨a, hs.sealed hk rfl hl⟩
theorem told_tidy (h : Tidy R v m) : Told R v m := by
  obtain ⟨g, v2, m2, h1, h2, h3⟩ := h
  subst h1
  exact ⟨v2, m2, fun B d y w hb hv hm => ⟨d.via g, V.den_via hv, hm.tidy h2⟩, h3⟩
end
/-- values without names -/
def plainW : W → Bool
  | .one (.pl _) => true
  | .one _ => false
  | .agg cs => cs.all fun l => match l with
    | .pl _ => true
    | _ => false
def plainV : V → Bool
  | .w x => plainW x
  | .tup xs => xs.all plainW
  | .any => true
theorem plain_ren {g : Nat → Nat} : ∀ {v : V}, plainV v = true → v.ren g = v := by
  have hl : ∀ cs : List L, (cs.all fun l => match l with | .pl _ => true | _ => false) = true → cs.map (L.ren g) = cs := by
    intro cs h
    induction cs with
    | nil => rfl
    | cons x r ih =>
      simp only [List.all_cons, Bool.and_eq_true] at h
      rw [List.map_cons, ih h.2]
      cases x <;> first | rfl | (cases h.1)
  have hw : ∀ x : W, plainW x = true → x.ren g = x := by
    intro x h
    cases x with
    | one l => cases l <;> first | rfl | (cases h)
    | agg cs => simp only [W.ren]; rw [hl cs h]
  intro v h
  cases v with
  | w x => simp only [V.ren]; rw [hw x h]
  | tup xs =>
    simp only [V.ren]
    congr 1
    simp only [plainV, List.all_eq_true] at h
    induction xs with
    | nil => rfl
    | cons x r ih => rw [List.map_cons, hw x (h x (by simp)), ih fun y hy => h y (by simp [hy])]
  | any => rfl
/-- all objects dropped -/
theorem told_plain {R : V → List (Nat × Ob) → Prop} {v : V} {m : List (Nat × Ob)} (hp : plainV v = true) (h : R v []) : Told R v m :=
  told_tidy ⟨fun k => k, v, [], (plain_ren hp).symm, .empty, h⟩
end Go.Sy
namespace Go.Sy
theorem items_ok {P : Program} {B : Base} {ops : Array Oper} {ds : List (Option Tmp)} (hds : ds = ops.toList.map (·.dst)) {Q : Exit → Act → World → Prop} {K : St → Prop} (hK : ∀ S' d' a' w', K S' → Sim B d' S' a' w' → Q .normal a' w') :
    ∀ (its : List It) (S : St), OKs P ds its S → AllNew its S → NamesApart its → (∀ x ∈ its, ∀ n, x.o.dst = some n → n < B.nt) → K (fin its S) → ∀ d a w, Sim B d S a w → wpList P ops Q (its.map (·.o)) a w
  | [], S, _, _, _, _, h, d, a, w, hs => hK _ _ _ _ h hs
  | x :: r, S, ho, hn, ha, hd, h, d, a, w, hs => by
    obtain ⟨g1, g2⟩ := ho
    have hnx : ∀ k ∈ x.e.names, New k S := fun k hk => hn x (by simp) k hk
    have hdst : ∀ n, x.o.dst = some n → n < B.nt := hd x (by simp)
    have hgo : ∀ d' a' w', Sim B d' (x.on S) a' w' → wpList P ops Q (r.map (·.o)) a' w' := fun d' a' w' hs' =>
      items_ok hds hK r (x.on S) g2 (AllNew.on (fun y hy k hk => hn y (by simp [hy]) k hk) g1 (fun y hy k hk hk2 => ha.1 y hy k hk2 hk)) ha.2.2 (fun y hy => hd y (by simp [hy])) h d' a' w' hs'
    rw [List.map_cons]
    refine wpList_step fun N hN => ?_
    have hev := g1.ev
    have hg := g1.guard
    have run : x.skip = false → x.o.wp P a w N Q := by
      intro hsk
      rw [hsk] at hev
      simp only [Bool.false_eq_true, if_false] at hev
      exact hev.run hs hnx hdst _ _ fun d' a' w' hs' => hN _ _ (hgo d' a' w' hs')
    have skp : x.skip = true → N (a.put x.o.dst undef) w := by
      intro hsk
      rw [hsk] at hev
      simp only [if_true] at hev
      refine hN _ _ (hgo d _ _ ?_)
      unfold It.on
      rw [hev]
      exact Sim.putE hs (v := .tup []) (undef_den d) hdst
    cases hgd : x.o.guard with
    | none =>
      rw [hgd] at hg
      rw [if_pos (by simp [Region.wanted, hgd])]
      exact run hg
    | some g =>
      rw [hgd] at hg
      simp only at hg
      obtain ⟨c, hc, hsk⟩ := hg
      have hw := wanted_of hs hds hgd hc
      rw [hw]
      by_cases hcg : c = g.2
      · rw [if_pos (by simp [hcg])]
        exact run (by rw [hsk, hcg]; simp)
      · rw [if_neg (by simp [hcg])]
        exact skp (by rw [hsk]; simpa using hcg)

/-- a region in the order of its text, reckoned by effects -/
theorem text_k {P : Program} {B : Base} {id : Nat} {l : List Oper} {S : St} {Q : Exit → St → Prop} (names : List Nat)
    (hn : names.all (fun k => fresh k S && (look S.mem k).isNone) = true)
    (h : ∀ K : St → List Da → Prop, (∀ S' D, Q .normal S' → K S' D) → runD P B.nt names (dsOf l) false l [] [] S K) : HT P B (.region id l.toArray false) S Q := by
  intro d a w hs
  obtain ⟨its, hi, hQ⟩ := runD_items (h (fun S' D => Q .normal S') (fun _ _ h1 => h1))
  refine wp_region_list ?_
  have := items_ok (P := P) (B := B) (ops := l.toArray) (ds := dsOf l) (by rw [dsOf_eq]) (Q := fun e a' w' => ∃ S' d', Q e S' ∧ Sim B d' S' a' w') (K := Q .normal) (fun S' d' a' w' hq hs' => ⟨S', d', hq, hs'⟩) its S hi.ok ?_ hi.apart hi.dst hQ d a w hs
  · rw [hi.ops] at this
    simpa only [List.toList_toArray] using this
  · intro x hx k hk
    have := (hi.nm x hx k hk).1
    simp only [List.all_eq_true, Bool.and_eq_true] at hn
    have h1 := hn k this
    have h2 := hasE_not h1.1
    exact ⟨⟨fun n v hv => hasE_look h2.1 hv, fun n o ho => hasM_look h2.2 ho, fresh_lt h1.1⟩, by simpa using h1.2⟩
end Go.Sy
namespace Go.Sy
theorem ren_pls (g : Nat → Nat) (c : List PL) : (pls c).map (L.ren g) = pls c := by simp [pls, L.ren, Function.comp_def]
theorem within_one {m : List (Nat × Ob)} {j : Nat} {r : Bool} {c : List PL} (h : look m j = some ⟨r, pls c⟩) (hj : j < px0) : Within (only j) [(0, ⟨r, pls c⟩)] m := by
  refine ⟨fun k o hk => ?_, fun k k' h1 h2 _ => ?_, fun k hk => ?_, fun k hk => ?_⟩
  · simp only [look] at hk
    split at hk
    · rename_i e; subst e; cases hk; rw [show only j 0 = j from rfl, h, ren_pls]
    · cases hk
  · have e : ∀ k, (look [(0, (⟨r, pls c⟩ : Ob))] k).isSome = true → k = 0 := by
      intro k hk
      simp only [look] at hk
      split at hk
      · rename_i h0
        first | exact h0 | exact h0.symm | exact (beq_iff_eq.mp h0).symm | exact beq_iff_eq.mp h0
      · cases hk
    rw [e k h1, e k' h2]
  · rw [only, if_pos hk]; exact hj
  · rw [only, if_neg (by omega)]
/-- an own slice alone -/
theorem one_own {m : List (Nat × Ob)} {j n sz : Nat} {r : Bool} {c : List PL} (h : look m j = some ⟨r, pls c⟩) (hj : j < 500000 := by decide) :
    Tidy (fun v m => v = .w (.one (.s 0 [] n sz)) ∧ m = [(0, ⟨r, pls c⟩)]) (.w (.one (.s j [] n sz))) m :=
  ⟨only j, .w (.one (.s 0 [] n sz)), [(0, ⟨r, pls c⟩)], rfl, within_one h hj, rfl, rfl⟩
theorem L.ren_id (l : L) : l.ren (fun k => k) = l := by cases l <;> simp [L.ren]
theorem within_sub {m m2 : List (Nat × Ob)} (h : ∀ k o, look m2 k = some o → look m k = some o) : Within (fun k => k) m2 m :=
  ⟨fun k o hk => by rw [h k o hk]; congr 1; cases o; simp only [Ob.mk.injEq, true_and]; exact (List.map_id'' L.ren_id _).symm, fun _ _ _ _ h => h, fun _ h => h, fun _ _ => rfl⟩
theorem told_keep {R : V → List (Nat × Ob) → Prop} {v : V} {m m2 : List (Nat × Ob)} (hp : plainV v = true) (hm : ∀ k o, look m2 k = some o → look m k = some o) (h : R v m2) : Told R v m :=
  told_tidy ⟨fun k => k, v, m2, (plain_ren hp).symm, within_sub hm, h⟩
theorem keep_one {m : List (Nat × Ob)} {j : Nat} {o0 : Ob} (h : look m j = some o0) : ∀ k o, look [(j, o0)] k = some o → look m k = some o := by
  intro k o hk
  simp only [look] at hk
  split at hk
  · rename_i e; cases hk; rw [e]; exact h
  · cases hk
theorem keep_nil {m : List (Nat × Ob)} : ∀ k o, look ([] : List (Nat × Ob)) k = some o → look m k = some o := fun k o h => by cases h
theorem seal_pls (k : Nat) (c d : List PL) : (pls d).map (sealL k c) = pls d := by simp [pls, sealL, Function.comp_def]
theorem look_seal_keep {m : List (Nat × Ob)} {k j : Nat} {c d : List PL} {r : Bool} (hne : j ≠ k) (hj : j < 1000000) (h : look m j = some ⟨r, pls d⟩) : look (sealM k c m) j = some ⟨r, pls d⟩ := by
  rw [look_sealM, if_neg hne, h]; simp only [Option.map_some, if_pos hj, seal_pls]
theorem leavesIn_seg2 (vw : Bool) (S : St) (hd : Hand) (r : List L) : ∀ l : List UInt8, leavesIn vw S hd (bytesC l ++ r) = (leavesIn vw S hd r).map (bytesC l ++ ·)
  | [] => by simp [bytesC]
  | x :: l => by
    have ih := leavesIn_seg2 vw S hd r l
    simp only [bytesC] at ih
    simp only [bytesC, List.map_cons, List.cons_append, leavesIn, leafIn, ih]
    cases leavesIn vw S hd r <;> rfl
theorem leavesIn_bytes2 (vw : Bool) (S : St) (hd : Hand) (l : List UInt8) : leavesIn vw S hd (bytesC l) = some (bytesC l) := by
  have := leavesIn_seg2 vw S hd [] l
  simpa [leavesIn] using this
theorem leafOut_bytes2 (vw : Bool) (m : List (Nat × Ob)) (l : List UInt8) : (bytesC l).all (leafOut vw m) = true := by
  simp only [bytesC, List.all_eq_true, List.mem_map]
  rintro x ⟨y, _, rfl⟩
  simp [leafOut, strictL]
section
variable {P : Program} {B : Base} {ds : List (Option Tmp)} {r : List Oper} {S : St} {K : St → Prop}
theorem og_tt (j : Nat) (o : Oper) : onGuard (some true) j true P B ds o r S K = runOps P B ds (⟨o.dst, o.op, o.type, o.pos, o.after, none⟩ :: r) (setG S ds j true) K := by rw [ev_onGuard]; simp
theorem og_ff (j : Nat) (o : Oper) : onGuard (some false) j false P B ds o r S K = runOps P B ds (⟨o.dst, o.op, o.type, o.pos, o.after, none⟩ :: r) (setG S ds j false) K := by rw [ev_onGuard]; simp
theorem og_tf (j : Nat) (o : Oper) : onGuard (some true) j false P B ds o r S K = onSt ((setG S ds j true).put B.nt o.dst (.tup [])) P B ds r K := by rw [ev_onGuard]; simp
theorem og_ft (j : Nat) (o : Oper) : onGuard (some false) j true P B ds o r S K = onSt ((setG S ds j false).put B.nt o.dst (.tup [])) P B ds r K := by rw [ev_onGuard]; simp
end
section
variable {P : Program} {nt : Nat} {names : List Nat} {ds : List (Option Tmp)} {keep : Bool} {o : Oper} {N : List Nat} {D : List Da} {S : St} {k : List Nat → List Da → St → Prop}
theorem dg_tt (j : Nat) : onG P nt names ds keep o (j, true) N D S k (some true) = onO P nt names ds keep o N D S k := by rw [rd_onG]; simp
theorem dg_ff (j : Nat) : onG P nt names ds keep o (j, false) N D S k (some false) = onO P nt names ds keep o N D S k := by rw [rd_onG]; simp
theorem dg_tf (j : Nat) : onG P nt names ds keep o (j, false) N D S k (some true) = (dstOk nt o.dst ∧ k N (D ++ bif keep then [⟨.val (.tup []), (gslot ds o).filterMap S.get, []⟩] else []) ((Eff.val (.tup [])).on o.dst S)) := by rw [rd_onG]; simp
theorem dg_ft (j : Nat) : onG P nt names ds keep o (j, true) N D S k (some false) = (dstOk nt o.dst ∧ k N (D ++ bif keep then [⟨.val (.tup []), (gslot ds o).filterMap S.get, []⟩] else []) ((Eff.val (.tup [])).on o.dst S)) := by rw [rd_onG]; simp
end
attribute [go_sem high] og_tt og_ff og_tf og_ft dg_tt dg_ff dg_tf dg_ft
attribute [go_sem] leavesIn_seg2 leavesIn_bytes2 leafOut_bytes2 capsV
end Go.Sy
namespace Go.Sy
section
variable {k j : Nat} {c : List PL}
theorem sealL_pl (x : PL) : sealL k c (.pl x) = .pl x := rfl
theorem sealL_pne {path : Path} (h : (j = k) = False) : sealL k c (.p j path) = .p j path := by simp only [sealL, h, if_false]
theorem sealL_sne {path : Path} {n sz : Nat} (h : (j = k) = False) : sealL k c (.s j path n sz) = .s j path n sz := by simp only [sealL, h, if_false]
theorem sealL_peq {path : Path} : sealL k c (.p k path) = .pl (.q c path) := by simp only [sealL, if_true]
theorem sealL_fn0 (f : Nat) : sealL k c (.fn f []) = .fn f [] := by simp [sealL]
theorem seal_bytes {n : Nat} {bs : List UInt8} (h : n = bs.length) : sealL k (bs.map .u8) (.s k [] n 1) = .pl (.R false 1 (byteRows bs)) := by
  subst h
  simp only [sealL, if_true, rd, pok, psz, List.length_map, Nat.mul_one, and_self, chunks_bytes]
theorem map_sealB (l : List UInt8) : (bytesC l).map (sealL k c) = bytesC l := by simp [bytesC, sealL]
theorem take_drop_all {α : Type} (l : List α) (k : Nat) : (l.drop k).take (l.length - k) = l.drop k := List.take_of_length_le (by simp)
end
end Go.Sy
namespace Go.Sy
section
variable {H : Type} {enc : TypeId × Value → H} {P : Program} {w w2 : World} {base : Nat} {spare : Nat → Bool} {held : Bool}
theorem slice_reads {e t : TypeId} {v : Value} {d : DataW H} {p : List MemPlace} {ex : Bool} {sz : Nat} {rows : List (List PL)} (ht : P.underlying t = some (.slice e)) (h : DataW.Trod enc P w base spare held t v d p) (hd : (V.w (.one (.pl (.R ex sz rows)))).den (Va.reads w2) v) :
    rows.length = 0 ∨ ∃ elems rest, d = .slice elems rest ∧ elems.length = rows.length := by
  obtain ⟨fuel, h⟩ := h
  simp only [V.den, W.den, L.den] at hd
  rw [PL.den] at hd
  rcases hd with ⟨_, rfl⟩ | ⟨blk, off, cap, rfl, _⟩
  · exact .inl rfl
  · rcases DataW.trod_slice ht h with ⟨h0, _⟩ | ⟨a, len, cap', elems, rest, n, _, hc, hx, _, _, _, hlen, _⟩
    · simp [Value.cells] at h0
    · simp only [Value.cells, List.cons.injEq, Value.slice.injEq, and_true] at hc
      obtain ⟨_, e2, _⟩ := hc
      cases hx
      exact .inr ⟨_, _, rfl, by rw [List.length_map]; omega⟩
end
end Go.Sy
namespace Go.Sy
section
variable {P : Program}
theorem flat_u64 {m : Nat} {e : TypeId} (he : P.underlying e = some (.int .u64)) : ∀ {ps : List (List PL)}, (∀ p ∈ ps, Sh P m e p) → ∃ l : List UInt64, l.length = ps.length ∧ ps = l.map fun x => [.u64 x]
  | [], _ => ⟨[], rfl, rfl⟩
  | p :: r, h => by
    obtain ⟨x, hx⟩ := sh_u64 (h p (by simp)) he
    obtain ⟨l, h1, h2⟩ := flat_u64 he (ps := r) fun q hq => h q (by simp [hq])
    exact ⟨x :: l, by simp [h1], by simp [hx, ← h2]⟩
theorem sh_u64s {n k : Nat} {t e : TypeId} {cs : List PL} (h : Sh P n t cs) (ht : P.underlying t = some (.array k e)) (he : P.underlying e = some (.int .u64)) : ∃ l : List UInt64, l.length = k ∧ cs = l.map .u64 := by
  obtain ⟨ps, m, rfl, hl, hp⟩ := sh_array h ht
  obtain ⟨l, h1, rfl⟩ := flat_u64 he hp
  exact ⟨l, by omega, flatten_sing l⟩
theorem sh_u64x2 {n : Nat} {t e : TypeId} {cs : List PL} (h : Sh P n t cs) (ht : P.underlying t = some (.array 2 e)) (he : P.underlying e = some (.int .u64)) : ∃ a b, cs = [.u64 a, .u64 b] := by
  obtain ⟨l, hl, rfl⟩ := sh_u64s h ht he
  match l, hl with
  | [a, b], _ => exact ⟨a, b, rfl⟩
theorem sh_u64x3 {n : Nat} {t e : TypeId} {cs : List PL} (h : Sh P n t cs) (ht : P.underlying t = some (.array 3 e)) (he : P.underlying e = some (.int .u64)) : ∃ a b c, cs = [.u64 a, .u64 b, .u64 c] := by
  obtain ⟨l, hl, rfl⟩ := sh_u64s h ht he
  match l, hl with
  | [a, b, c], _ => exact ⟨a, b, c, rfl⟩
end
end Go.Sy
namespace Go.Sy
section
variable {H : Type} {enc : TypeId × Value → H} {P : Program}
theorem rih {a : Assume} {C : Checked} {os : Os} {f : FuncId} {fn : Func} {s : ChangeSpec} {conds : List PathCond} {apart fresh handsOn again : Bool}
    (own : ownKnob C.prog.godebug = none) (started : os.Started) (noInit : C.prog.inits.idxOf? f = none) (hfn : C.prog.funcs[f]? = some fn)
    (witness : ∃ (w : World) (tape : Tape) (i : Input), w.os = os ∧ (w.forCall tape i).Shaped C.prog ∧ i.vars = [] ∧ Input.okWide C.prog (w.forCall tape i) .any w.heap.size f i ∧
      s.pre6 enc C.prog fn conds apart (w.forCall tape i).memory i.args ∧ a.holds C.prog (lone (Frame.enter C.prog f i.args .normal) [] (w.forCall tape i)))
    (contract : ∀ (W : World) (base : Nat) (args : Array Value) (ds gs : List (DataW H)) (before : List MemPlace),
      (∀ (j : Nat) t v, fn.params[j]? = some t → args[j]? = some v → Value.okWide C.prog W .any base t v) →
      DataW.Whole enc C.prog fn.params.toList s.vars apart W args.toList ds gs before →
      (DataW.weightsEach C.prog (fn.params.toList ++ s.plain.varTypes C.prog) (ds ++ gs)).all (· ≤ reachBytes) = true →
      Calls C.prog f args W fun e W' => ∃ v, e = .returned v ∧ s.post enc C.prog fn apart fresh handsOn again W args v W') :
    ReturnsInHanded a C os f .any (s.pre6 enc C.prog fn conds apart) (s.post enc C.prog fn apart fresh handsOn again) := by
  have h := returnsInHanded_of_change_and (X := fun _ _ => True) (fresh := fresh) (handsOn := handsOn) (again := again) (fun _ _ _ _ h => h) own started noInit hfn
    (by obtain ⟨w, t, i, h1, h2, h3, h4, h5, h6⟩ := witness; exact ⟨w, t, i, h1, h2, h3, h4, ⟨⟨h5.1, trivial⟩, h5.2⟩, h6⟩)
    (fun W base args ds gs before h1 h2 _ h4 _ _ => contract W base args ds gs before h1 h2 h4)
  have e : (fun w args => (s.pre enc C.prog fn conds apart w args ∧ True) ∧ sizedMet enc C.prog fn (OpenSpec.ofChange s) apart w args) = s.pre6 enc C.prog fn conds apart := by
    funext w args; simp only [and_true]; rfl
  rw [← e]; exact h
theorem weight_rows {t e : TypeId} {d : DataW H} {n k : Nat} (ht : P.underlying t = some (.slice e)) (hb : P.bytesOf e = k) (h : n = 0 ∨ ∃ elems rest, d = .slice elems rest ∧ elems.length = n) (hw : (d.weights P t).all (· ≤ reachBytes) = true) : n * k ≤ 140737488351232 := by
  rcases h with rfl | ⟨elems, rest, rfl, rfl⟩
  · simp
  · simp only [DataW.weights, ht, hb, List.all_cons, Bool.and_eq_true, decide_eq_true_eq] at hw
    exact Nat.le_trans (Nat.mul_le_mul_right k (Nat.le_add_right _ _)) hw.1
theorem weights_cons {p : Nat → Bool} {t : TypeId} {ts : List TypeId} {d : DataW H} {ds : List (DataW H)} (h : (DataW.weightsEach P (t :: ts) (d :: ds)).all p = true) : (d.weights P t).all p = true ∧ (DataW.weightsEach P ts ds).all p = true := by
  simpa only [DataW.weightsEach, List.all_append, Bool.and_eq_true] using h
end
end Go.Sy
namespace Go.Sy
section
variable {P : Program} {B : Base} {S : St} {Q : Exit → St → Prop}
theorem sr_k {id : Nat} {l : List Oper} {y : Code} (h : ∀ K : St → Prop, (∀ S', HT P B y S' Q → K S') → runOps P B (dsOf l) l S K) : HT P B (.seq (.region id l.toArray false) y) S Q :=
  seq_k fun N M hN hM => region_k fun K hK => h K fun S' hy => hK S' (hN S' hy)
theorem sd_k {id : Nat} {l : List Oper} {y : Code} (names c : List Nat) (need : List (Nat × Nat)) (hm : P.follows .mixedOrders = true) (hst : drawOk (dsOf l) c need l = true)
    (hn : names.all (fun k => fresh k S && (look S.mem k).isNone) = true)
    (h : ∀ K : St → List Da → Prop, (∀ S' D, chkD l D need → HT P B y S' Q → K S' D) → runD P B.nt names (dsOf l) (!need.isEmpty) l [] [] S K) : HT P B (.seq (.region id l.toArray true) y) S Q :=
  seq_k fun N M hN hM => draw_k names c need hm hst hn fun K hK => h K fun S' D hd hy => hK S' D hd (hN S' hy)
theorem condT_k {c : Operand} {x y : Code} (hc : S.get c = some (.w (.one (.pl (.b true))))) (h : HT P B x S Q) : HT P B (.cond c x y) S Q := cond_k hc (fun _ => h) (fun e => by cases e)
theorem condF_k {c : Operand} {x y : Code} (hc : S.get c = some (.w (.one (.pl (.b false))))) (h : HT P B y S Q) : HT P B (.cond c x y) S Q := cond_k hc (fun e => by cases e) (fun _ => h)
end
end Go.Sy
