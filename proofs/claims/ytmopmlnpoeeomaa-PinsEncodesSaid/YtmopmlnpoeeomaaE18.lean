/- The layer: functions. -/
import Derived.Test.YtmopmlnpoeeomaaE17
set_option linter.unusedVariables false
set_option linter.unusedSimpArgs false
namespace Go.Sy

/-- what a result's variable holds -/
def resW (P : Program) (S : St) : ResultVar → Option W
  | .tmp t => match look S.env t with
    | some (.w x) => some x
    | _ => none
  | .cell a t => match look S.env a with
    | some v => match loadV P S t v with
      | some (.w x) => some x
      | _ => none
    | none => none
def resWs (P : Program) (S : St) : List ResultVar → Option (List W)
  | [] => some []
  | r :: rs => match resW P S r, resWs P S rs with
    | some x, some xs => some (x :: xs)
    | _, _ => none
def resV (P : Program) (S : St) (rs : List ResultVar) : Option V :=
  match resWs P S rs with
  | some [x] => some (.w x)
  | some xs => some (.tup xs)
  | none => none

def runRes (tmps : Array Value) : ResultVar → Sem Value
  | .tmp t => pure (tmps.getD t undef)
  | .cell a t => do loadVar t (← asAddr (tmps.getD a undef))

theorem resW_ok {P : Program} {B : Base} {d : Va} {S : St} {a : Act} {w : World} (h : Sim B d S a w) {r : ResultVar} {x : W} (hr : resW P S r = some x) : ∃ y, (runRes a.tmps r).run P w = .ok y w ∧ x.den d y := by
  unfold resW at hr
  split at hr
  · split at hr <;> cases hr
    rename_i t x hl
    obtain ⟨y, hy, hd⟩ := h.env _ _ hl
    exact ⟨y, by simp [runRes, Array.getD_eq_getD_getElem?, hy], hd⟩
  · rename_i ra rt
    split at hr <;> try (cases hr; done)
    rename_i v hl
    split at hr <;> cases hr
    rename_i x hx
    obtain ⟨y, hy, hd⟩ := h.env _ _ hl
    obtain ⟨z, hz, hzd⟩ := loadV_ok h hx hd
    refine ⟨z, ?_, hzd⟩
    have hy' : a.tmps.getD ra undef = y := by simp [Array.getD_eq_getD_getElem?, hy]
    simp only [runRes, hy']
    unfold Instr.loadAt Instr.sureAddr at hz
    cases y <;> first | (simp at hz; done) | skip
    rename_i q
    cases q with
    | none => simp at hz
    | some q => simpa [asAddr] using hz

theorem resWs_ok {P : Program} {B : Base} {d : Va} {S : St} {a : Act} {w : World} (h : Sim B d S a w) : ∀ {rs : List ResultVar} {xs : List W}, resWs P S rs = some xs → ∃ ys, (rs.mapM (runRes a.tmps)).run P w = .ok ys w ∧ All2 (W.den d) xs ys
  | [], xs, hr => by simp only [resWs] at hr; cases hr; exact ⟨[], by simp, .nil⟩
  | r :: rs, xs, hr => by
    simp only [resWs] at hr
    cases h1 : resW P S r with
    | none => simp [h1] at hr
    | some x =>
      cases h2 : resWs P S rs with
      | none => simp [h1, h2] at hr
      | some xs' =>
        simp only [h1, h2, Option.some.injEq] at hr; subst hr
        obtain ⟨y, hy, hd⟩ := resW_ok h h1
        obtain ⟨ys, hys, hds⟩ := resWs_ok h h2
        exact ⟨y :: ys, by simp [List.mapM_cons, hy, hys], .cons hd hds⟩

theorem resV_ok {P : Program} {B : Base} {d : Va} {S : St} {a : Act} {w : World} (h : Sim B d S a w) {fn : Func} {v : V} (hr : resV P S fn.results.toList = some v) : ∃ y, (results fn a.tmps).run P w = .ok y w ∧ v.den d y := by
  unfold resV at hr
  have key : ∀ ys : List Value, (fn.results.toList.mapM (runRes a.tmps)).run P w = .ok ys w → (results fn a.tmps).run P w = .ok (if h : ys.toArray.size = 1 then ys.toArray[0] else .tuple ys.toArray) w := by
    intro ys hy
    have e : (fn.results.mapM (runRes a.tmps)).run P w = .ok ys.toArray w := by
      rw [Array.mapM_eq_mapM_toList]; simp [hy]
    have e2 : results fn a.tmps = (do let vs ← fn.results.mapM (runRes a.tmps); pure (if h : vs.size = 1 then vs[0] else .tuple vs)) := rfl
    rw [e2, Sem.run_bind, e]; rfl
  split at hr
  · rename_i x hx
    cases hr
    obtain ⟨ys, hys, hds⟩ := resWs_ok h hx
    cases hds with
    | cons h1 h2 => cases h2; exact ⟨_, key _ hys, h1⟩
  · rename_i xs hne hx
    cases hr
    obtain ⟨ys, hys, hds⟩ := resWs_ok h hx
    refine ⟨.tuple ys.toArray, ?_, ⟨_, rfl, by simpa using hds⟩⟩
    rw [key _ hys]
    have : ¬ ys.toArray.size = 1 := by
      intro e
      have hl := hds.length
      simp only [List.size_toArray] at e
      rw [e] at hl
      match xs, hl with
      | [x], _ => exact hne x rfl
    rw [dif_neg this]
  · cases hr

/-- what a function's body ends with -/
def FnQ (P : Program) (fn : Func) (R : V → List (Nat × Ob) → Prop) : Exit → St → Prop
  | .normal, S | .ret, S => match resV P S fn.results.toList with
    | some v => R v S.mem
    | none => False
  | _, _ => False

def argsE : Nat → List V → List (Nat × V)
  | _, [] => []
  | n, v :: r => (n, v) :: argsE (n + 1) r

theorem look_argsE : ∀ {n : Nat} {l : List V} {j : Nat} {v : V}, look (argsE n l) j = some v → n ≤ j ∧ l[j - n]? = some v
  | n, [], j, v, h => by cases h
  | n, x :: r, j, v, h => by
    simp only [argsE, look] at h
    split at h
    · rename_i e; cases h; subst e; simp
    · rename_i e
      obtain ⟨h1, h2⟩ := look_argsE h
      refine ⟨by omega, ?_⟩
      rw [show j - n = (j - (n + 1)) + 1 from by omega]; simpa using h2

/-- objects, as they lie in a world -/
def MemOK (B : Base) (d : Va) (m : List (Nat × Ob)) (w : World) : Prop := ∃ a : Act, Sim { B with nt := a.tmps.size } d ⟨[], m⟩ a w

/-- a contract: called with such values the function returns one that is such, with objects of its own; of what was there nothing has turned -/
def Ct (P : Program) (f : FuncId) (args : List V) (R : V → List (Nat × Ob) → Prop) : Prop :=
  ∀ (w : World) (d : Va) (vals : Array Value), (∀ b o y, d.ro b o = some y → w.cell? ⟨b, o, none⟩ = some y) → All2 (V.den d) args vals.toList →
    Calls P f vals w fun e w' => ∃ y v d' m', e = .returned y ∧ R v m' ∧ v.den d' y ∧ MemOK ⟨w, fun _ => False, 0, d.ro⟩ d' m' w'

theorem Ct.of {P : Program} {f : FuncId} {fn : Func} {c : Code} {args : List V} {R : V → List (Nat × Ob) → Prop} (hf : P.funcs[f]? = some fn) (hb : fn.body = some c) (hn : args.length ≤ fn.ntmps)
    (h : ∀ (w0 : World) (ro : Ro), HT P ⟨w0, fun _ => False, fn.ntmps, ro⟩ c ⟨argsE 0 args, []⟩ (FnQ P fn R)) : Ct P f args R := by
  intro w d vals hro hargs
  refine calls_of_wp hf hb ?_
  have hl := hargs.length
  have hs : Sim ⟨w, fun _ => False, fn.ntmps, d.ro⟩ d ⟨argsE 0 args, []⟩ { tmps := vals ++ Array.replicate (fn.ntmps - vals.size) undef, defers := [] } w := by
    refine ⟨rfl, ?_, ?_, fun k o hk => (by cases hk), fun k k' h1 => (by cases h1), fun k h1 => (by cases h1), hro, fun b o y hy _ => hy, rfl, rfl, rfl, Nat.le_refl _, fun _ _ _ => rfl⟩
    · simp at hl ⊢; omega
    · intro n v hv
      obtain ⟨_, hv⟩ := look_argsE hv
      obtain ⟨y, hy, hd⟩ := hargs.get (by simpa using hv)
      refine ⟨y, ?_, hd⟩
      have hlt : n < vals.size := by
        have := (List.getElem?_eq_some_iff.1 hy).1; simpa using this
      rw [Array.getElem?_append_left hlt]
      simpa using hy
  refine Code.wp_mono ?_ (h w d.ro d _ w hs)
  rintro e a' w' ⟨S', d', hq, hs'⟩
  have fin : (match resV P S' fn.results.toList with | some v => R v S'.mem | none => False) → a'.defers = [] ∧ ∃ v, (results fn a'.tmps).run P w' = .ok v w' ∧ ∃ y v1 d1 m1, Ending.returned v = .returned y ∧ R v1 m1 ∧ v1.den d1 y ∧ MemOK ⟨w, fun _ => False, 0, d.ro⟩ d1 m1 w' := by
    intro hq
    refine ⟨hs'.defers, ?_⟩
    split at hq
    · rename_i v hv
      obtain ⟨y, hy, hd⟩ := resV_ok hs' hv
      refine ⟨y, hy, y, v, d', S'.mem, rfl, hq, hd, ⟨a', ?_⟩⟩
      exact ⟨hs'.defers, rfl, fun n v hv => (by cases hv), hs'.mem, hs'.inj, hs'.own, hs'.ro, hs'.old, hs'.os, hs'.tape, hs'.output, hs'.size, hs'.block⟩
    · exact hq.elim
  cases e with
  | normal => exact fin hq
  | ret => exact fin hq
  | _ => exact hq.elim

theorem Ct.mono {P : Program} {f : FuncId} {args : List V} {R R' : V → List (Nat × Ob) → Prop} (h : Ct P f args R) (hr : ∀ v m, R v m → R' v m) : Ct P f args R' := by
  intro w d vals hro hargs
  exact (h w d vals hro hargs).mono fun e w' ⟨y, v, d', m', h1, h2, h3⟩ => ⟨y, v, d', m', h1, hr _ _ h2, h3⟩
end Go.Sy
