/- The layer: a region in the order of its text. -/
import Derived.Test.YtmopmlnpoeeomaaE15
set_option linter.unusedVariables false
set_option linter.unusedSimpArgs false
namespace Go.Sy

def St.put (nt : Nat) (dst : Option Tmp) (v : V) (S : St) : Option St :=
  match dst with
  | none => some S
  | some n => if n < nt then some ⟨(n, v) :: S.env, S.mem⟩ else none

/-- one operation that is no call of a Go function -/
def stepV (P : Program) (nt : Nat) (o : Oper) (S : St) : Option St :=
  match o.op with
  | .store t x y => match S.get x, S.get y with
    | some u, some v => match o.dst with
      | none => storeV P S t u v
      | some _ => none
    | _, _ => none
  | .call ⟨.builtin .append, args, ts⟩ => match args.toList, ts.toList, o.dst with
    | [x, y], [t, tx], some k => match S.get x, S.get y with
      | some u, some v => match appendV P k S t tx u v with
        | some r => r.2.put nt o.dst r.1
        | none => none
      | _, _ => none
    | _, _, _ => none
  | .alloc _ | .box _ _ | .buildSlice _ _ _ | .makeSlice _ _ _ => match o.dst with
    | some k => if fresh k S = true then
        match allocV P k S o.op with
        | some r => St.put nt (some k) r.1 ⟨S.env, (k, r.2) :: S.mem⟩
        | none => none
      else none
    | none => none
  | _ => match pureV P S o.op with
    | some v => S.put nt o.dst v
    | none => match o.dst with
      | some k => if fresh k S = true then
          match allocV P k S o.op with
          | some r => St.put nt (some k) r.1 ⟨S.env, (k, r.2) :: S.mem⟩
          | none => none
        else none
      | none => none

theorem St.put_ok {B : Base} {d : Va} {S S' : St} {a : Act} {w : World} (h : Sim B d S a w) {dst : Option Tmp} {v : V} {y : Value} (hp : S.put B.nt dst v = some S') (hd : v.den d y) : Sim B d S' (a.put dst y) w := by
  unfold St.put at hp
  split at hp
  · cases hp; exact h
  · split at hp <;> cases hp
    rename_i n hn
    exact h.put hn hd

theorem alloc_step {P : Program} {B : Base} {d : Va} {S S' : St} {a : Act} {w : World} (h : Sim B d S a w) {o : Oper}
    (hv : (match o.dst with
      | some k => if fresh k S = true then
          match allocV P k S o.op with
          | some r => St.put B.nt (some k) r.1 ⟨S.env, (k, r.2) :: S.mem⟩
          | none => none
        else none
      | none => none) = some S') :
    ∃ y w' d', (execOp a.eval o).run P w = .ok (.value y) w' ∧ Sim B d' S' (a.put o.dst y) w' := by
  split at hv <;> try (cases hv; done)
  rename_i k hk
  split at hv <;> try (cases hv; done)
  rename_i hf
  split at hv <;> try (cases hv; done)
  rename_i r hr
  obtain ⟨y, w', d', hrun, hd, hs⟩ := allocV_ok h hf (v := r.1) (ob := r.2) hr
  exact ⟨y, w', d', hrun, by rw [hk]; exact St.put_ok hs hv hd⟩

theorem pure_step {P : Program} {B : Base} {d : Va} {S S' : St} {a : Act} {w : World} (h : Sim B d S a w) {o : Oper}
    (hv : (match pureV P S o.op with
    | some v => S.put B.nt o.dst v
    | none => match o.dst with
      | some k => if fresh k S = true then
          match allocV P k S o.op with
          | some r => St.put B.nt (some k) r.1 ⟨S.env, (k, r.2) :: S.mem⟩
          | none => none
        else none
      | none => none) = some S') :
    ∃ y w' d', (execOp a.eval o).run P w = .ok (.value y) w' ∧ Sim B d' S' (a.put o.dst y) w' := by
  split at hv
  · rename_i v hp
    obtain ⟨y, hrun, hd⟩ := pureV_ok h hp
    exact ⟨y, w, d, hrun, St.put_ok h hv hd⟩
  · exact alloc_step h hv

/-- what an operation comes to, for the walk -/
theorem stepV_ok {P : Program} {B : Base} {d : Va} {S S' : St} {a : Act} {w : World} (h : Sim B d S a w) {o : Oper} (hv : stepV P B.nt o S = some S') :
    (∃ y w' d', (execOp a.eval o).run P w = .ok (.value y) w' ∧ Sim B d' S' (a.put o.dst y) w') ∨
    (∃ w' d', (execOp a.eval o).run P w = .ok .skip w' ∧ o.dst = none ∧ Sim B d' S' a w') := by
  unfold stepV at hv
  split at hv
  · rename_i t x y ho
    split at hv <;> try (cases hv; done)
    rename_i u v hx hy
    split at hv <;> try (cases hv; done)
    rename_i hdst
    obtain ⟨w', hr, hs⟩ := storeV_ok h hv (h.get hx) (h.get hy)
    right
    refine ⟨w', d, ?_, hdst, hs⟩
    unfold execOp
    rw [ho]
    simp [hr]
  · rename_i args ts ho
    split at hv <;> try (cases hv; done)
    rename_i x y t tx k ha ht hdst
    split at hv <;> try (cases hv; done)
    rename_i u v hx hy
    split at hv <;> try (cases hv; done)
    rename_i r hr
    left
    have ea : args = #[x, y] := by rw [← Array.toList_inj, ha]
    have et : ts = #[t, tx] := by rw [← Array.toList_inj, ht]
    subst ea; subst et
    obtain ⟨z, w', d', hrun, hd, hs⟩ := appendV_ok (ty := o.type) h (v := r.1) (S' := r.2) hr (h.get hx) (h.get hy)
    refine ⟨z, w', d', ?_, St.put_ok hs hv hd⟩
    unfold execOp
    rw [ho]
    simp [resolve, invoke, builtin, hrun]
  · exact .inl (alloc_step h hv)
  · exact .inl (alloc_step h hv)
  · exact .inl (alloc_step h hv)
  · exact .inl (alloc_step h hv)
  · exact .inl (pure_step h hv)

/-- an operation, from a state to one that is such -/
def OpHT (P : Program) (B : Base) (o : Oper) (S : St) (K : St → Prop) : Prop :=
  ∀ d a w, Sim B d S a w → ∀ (next : Act → World → Prop) (Q : Exit → Act → World → Prop), (∀ S' d' a' w', K S' → Sim B d' S' a' w' → next a' w') → o.wp P a w next Q

theorem stepV_wp {P : Program} {B : Base} {S S' : St} {o : Oper} {K : St → Prop} (hv : stepV P B.nt o S = some S') (hK : K S') : OpHT P B o S K := by
  intro d a w h next Q hn
  rcases stepV_ok h hv with ⟨y, w', d', hr, hs⟩ | ⟨w', d', hr, hdst, hs⟩
  · unfold Oper.wp; rw [hr]; exact hn _ _ _ _ hK hs
  · unfold Oper.wp; rw [hr]; rw [Oper.upon_skip, hdst]; exact hn _ _ _ _ hK hs

def isCall : Op → Bool
  | .call ⟨.value _, _, _⟩ => true
  | _ => false

/-- what a guard has come to; what was skipped itself lets nothing through -/
def guardV (S : St) (ds : List (Option Tmp)) (j : Nat) (want : Bool) : Option Bool :=
  match ds[j]? with
  | some (some t) => match look S.env t with
    | some (.w (.one (.pl (.b c)))) => some c
    | some (.tup []) => some (!want)
    | _ => none
  | _ => none

/-- the state, once it is known what a guard has come to -/
def setG (S : St) (ds : List (Option Tmp)) (j : Nat) (c : Bool) : St :=
  match ds[j]? with
  | some (some t) => match look S.env t with
    | some (.w (.one (.pl (.b _)))) => ⟨(t, .w (.one (.pl (.b c)))) :: S.env, S.mem⟩
    | _ => S
  | _ => S

theorem setG_ok {B : Base} {d : Va} {S : St} {a : Act} {w : World} (h : Sim B d S a w) {ds : List (Option Tmp)} {j : Nat} {c want : Bool} (hg : guardV S ds j want = some c) : Sim B d (setG S ds j c) a w := by
  unfold guardV at hg
  unfold setG
  split at hg <;> try (cases hg; done)
  rename_i t ht
  split at hg <;> try (cases hg; done)
  · rename_i c' hl
    cases hg
    simp only [hl]
    refine ⟨h.defers, h.nt, fun n v hv => ?_, h.mem, h.inj, h.own, h.ro, h.old, h.os, h.tape, h.output, h.size, h.block⟩
    simp only [look] at hv
    split at hv
    · rename_i e; cases hv; subst e; exact h.env _ _ hl
    · exact h.env n v hv
  · rename_i hl
    simp only [hl]; exact h

theorem undef_den (d : Va) : V.den d (.tup []) undef := ⟨#[], rfl, .nil⟩

/-- a region's operations, one after the other -/
def runOps (P : Program) (B : Base) (ds : List (Option Tmp)) : List Oper → St → (St → Prop) → Prop
  | [], S, K => K S
  | o :: r, S, K =>
    match o.guard with
    | none => if isCall o.op = true then OpHT P B o S fun S' => runOps P B ds r S' K else
        match stepV P B.nt o S with
        | some S' => runOps P B ds r S' K
        | none => False
    | some g => match guardV S ds g.1 g.2 with
      | some c =>
        (c = g.2 → if isCall o.op = true then OpHT P B o (setG S ds g.1 g.2) fun S' => runOps P B ds r S' K else
          match stepV P B.nt o (setG S ds g.1 g.2) with
          | some S' => runOps P B ds r S' K
          | none => False) ∧
        (c = (!g.2) → match (setG S ds g.1 (!g.2)).put B.nt o.dst (.tup []) with
          | some S' => runOps P B ds r S' K
          | none => False)
      | none => False

theorem wanted_of {B : Base} {d : Va} {S : St} {a : Act} {w : World} (h : Sim B d S a w) {ops : Array Oper} {ds : List (Option Tmp)} (hds : ds = ops.toList.map (·.dst)) {o : Oper} {g : Nat × Bool} {c : Bool} (ho : o.guard = some g) (hg : guardV S ds g.1 g.2 = some c) : Region.wanted o (yielded ops a.tmps) = (some c == some g.2) := by
  unfold Region.wanted
  rw [ho]
  unfold guardV at hg
  split at hg <;> try (cases hg; done)
  rename_i t ht
  have hd0 : (ops[g.1]?).bind (·.dst) = some t := by
    subst hds
    rw [List.getElem?_map] at ht
    cases ho : ops[g.1]? with
    | none => simp [ho] at ht
    | some o => simp [ho] at ht; simp [ht]
  split at hg <;> try (cases hg; done)
  · rename_i c' hl
    cases hg
    obtain ⟨y, hy, hd⟩ := h.env _ _ hl
    change PL.den _ _ _ at hd; rw [PL.den] at hd; subst hd
    simp [yielded, hd0, hy]
  · rename_i hl
    cases hg
    obtain ⟨y, hy, hd⟩ := h.env _ _ hl
    obtain ⟨vs, rfl, _⟩ := hd
    simp [yielded, hd0, hy]

theorem runOps_ok {P : Program} {B : Base} {ops : Array Oper} {ds : List (Option Tmp)} (hds : ds = ops.toList.map (·.dst)) {Q : Exit → Act → World → Prop} {K : St → Prop} (hK : ∀ S' d' a' w', K S' → Sim B d' S' a' w' → Q .normal a' w') :
    ∀ (l : List Oper) (S : St), runOps P B ds l S K → ∀ d a w, Sim B d S a w → wpList P ops Q l a w
  | [], S, h, d, a, w, hs => hK _ _ _ _ h hs
  | o :: r, S, h, d, a, w, hs => by
    unfold runOps at h
    split at h
    · rename_i hg
      refine wpList_plain hg fun N hN => ?_
      split at h
      · exact h d a w hs N Q (fun S' d' a' w' hk hs' => hN _ _ (runOps_ok hds hK r S' hk d' a' w' hs'))
      · split at h
        · rename_i S' hst
          exact stepV_wp (K := fun S' => runOps P B ds r S' K) hst h d a w hs N Q (fun S' d' a' w' hk hs' => hN _ _ (runOps_ok hds hK r S' hk d' a' w' hs'))
        · exact h.elim
    · rename_i g hg
      split at h
      · rename_i c hc
        have hw := wanted_of hs hds hg hc
        refine wpList_step fun N hN => ?_
        by_cases hcg : c = g.2
        · rw [hw, hcg, if_pos (by simp)]
          have h1 := h.1 hcg
          have hs := setG_ok (c := g.2) (j := g.1) (want := g.2) (ds := ds) hs (by rw [hc, hcg])
          split at h1
          · exact h1 d a w hs N Q (fun S' d' a' w' hk hs' => hN _ _ (runOps_ok hds hK r S' hk d' a' w' hs'))
          · split at h1
            · rename_i S' hst
              exact stepV_wp (K := fun S' => runOps P B ds r S' K) hst h1 d a w hs N Q (fun S' d' a' w' hk hs' => hN _ _ (runOps_ok hds hK r S' hk d' a' w' hs'))
            · exact h1.elim
        · have hcg' : c = !g.2 := by cases c <;> cases hg2 : g.2 <;> simp_all
          rw [hw, if_neg (by simp [hcg])]
          have h2 := h.2 hcg'
          have hs := setG_ok (c := !g.2) (j := g.1) (want := g.2) (ds := ds) hs (by rw [hc, hcg'])
          split at h2
          · rename_i S' hst
            exact hN _ _ (runOps_ok hds hK r S' h2 d _ w (St.put_ok hs hst (undef_den d)))
          · exact h2.elim
      · exact h.elim
end Go.Sy
