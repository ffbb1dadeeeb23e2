/- The layer: the reckoning, as rules for simp. -/
import Derived.Test.YtmopmlnpoeeomaaE18
set_option linter.unusedVariables false
set_option linter.unusedSimpArgs false
namespace Go.Sy

def dsOf : List Oper → List (Option Tmp)
  | [] => []
  | o :: r => o.dst :: dsOf r
theorem dsOf_eq : ∀ l, dsOf l = l.map (·.dst)
  | [] => rfl
  | o :: r => by simp [dsOf, dsOf_eq r]

/-- what comes behind -/
def seqQ (P : Program) (B : Base) (y : Code) (Q : Exit → St → Prop) : Exit → St → Prop := thenQ (fun S' => xc P B y S' Q) Q
def restQ (P : Program) (B : Base) (ds : List (Option Tmp)) (r : List Oper) (K : St → Prop) : St → Prop := fun S' => runOps P B ds r S' K
/-- a call, and what comes behind it -/
def atCall (P : Program) (B : Base) (o : Oper) (S : St) (ds : List (Option Tmp)) (r : List Oper) (K : St → Prop) : Prop := OpHT P B o S (restQ P B ds r K)
/-- a step that has come to a state, or not -/
def onSt (x : Option St) (P : Program) (B : Base) (ds : List (Option Tmp)) (r : List Oper) (K : St → Prop) : Prop :=
  match x with
  | some S' => runOps P B ds r S' K
  | none => False
def onGuard (x : Option Bool) (j : Nat) (want : Bool) (P : Program) (B : Base) (ds : List (Option Tmp)) (o : Oper) (r : List Oper) (S : St) (K : St → Prop) : Prop :=
  match x with
  | some c => (c = want → runOps P B ds (⟨o.dst, o.op, o.type, o.pos, o.after, none⟩ :: r) (setG S ds j want) K) ∧ (c = (!want) → onSt ((setG S ds j (!want)).put B.nt o.dst (.tup [])) P B ds r K)
  | none => False
def onCond (x : Option V) (P : Program) (B : Base) (a b : Code) (S : St) (Q : Exit → St → Prop) : Prop :=
  match x with
  | some (.w (.one (.pl (.b t)))) => (t = true → xc P B a S Q) ∧ (t = false → xc P B b S Q)
  | _ => False
def atLoop (P : Program) (B : Base) (x : Code) (S : St) (Q : Exit → St → Prop) : Prop := HT P B (.loop x) S Q
def atDraw (P : Program) (B : Base) (id : Nat) (ops : Array Oper) (S : St) (Q : Exit → St → Prop) : Prop := HT P B (.region id ops true) S Q

section
variable {P : Program} {B : Base} {S : St} {Q : Exit → St → Prop} {K : St → Prop} {ds : List (Option Tmp)} {r : List Oper}
theorem ev_seq (x y : Code) : xc P B (.seq x y) S Q = xc P B x S (seqQ P B y Q) := rfl
theorem ev_seqN (y : Code) : seqQ P B y Q .normal S = xc P B y S Q := rfl
theorem ev_seqR (y : Code) : seqQ P B y Q .ret S = Q .ret S := rfl
theorem ev_seqE (y : Code) (i : Nat) : seqQ P B y Q (.exit i) S = Q (.exit i) S := rfl
theorem ev_block (id : Nat) (x : Code) : xc P B (.block id x) S Q = xc P B x S (blockQ id Q) := rfl
theorem ev_blockN (id : Nat) : blockQ id Q .normal S = Q .normal S := rfl
theorem ev_blockR (id : Nat) : blockQ id Q .ret S = Q .ret S := rfl
theorem ev_blockE (id i : Nat) : blockQ id Q (.exit i) S = if i = id then Q .normal S else Q (.exit i) S := rfl
theorem ev_exit (i : Nat) : xc P B (.exit i) S Q = Q (.exit i) S := rfl
theorem ev_ret : xc P B .ret S Q = Q .ret S := rfl
theorem ev_skip : xc P B .skip S Q = Q .normal S := rfl
theorem ev_loop (x : Code) : xc P B (.loop x) S Q = atLoop P B x S Q := rfl
theorem ev_cond (c : Operand) (x y : Code) : xc P B (.cond c x y) S Q = onCond (S.get c) P B x y S Q := by
  unfold xc onCond; split <;> simp_all
theorem ev_onCond (t : Bool) (x y : Code) : onCond (some (.w (.one (.pl (.b t))))) P B x y S Q = ((t = true → xc P B x S Q) ∧ (t = false → xc P B y S Q)) := rfl
theorem ev_region (id : Nat) (l : List Oper) : xc P B (.region id l.toArray false) S Q = runOps P B (dsOf l) l S (Q .normal) := by
  unfold xc; rw [dsOf_eq]; simp
theorem ev_draw (id : Nat) (l : Array Oper) : xc P B (.region id l true) S Q = atDraw P B id l S Q := rfl
theorem ev_nil : runOps P B ds [] S K = K S := rfl
theorem ev_op (dst : Option Tmp) (op : Op) (ty : TypeId) (pos : String) (after : Array Edge) :
    runOps P B ds (⟨dst, op, ty, pos, after, none⟩ :: r) S K = if isCall op = true then atCall P B ⟨dst, op, ty, pos, after, none⟩ S ds r K else onSt (stepV P B.nt ⟨dst, op, ty, pos, after, none⟩ S) P B ds r K := by
  simp only [runOps, atCall, restQ]
  split
  · rfl
  · unfold onSt; rfl
theorem ev_guard (dst : Option Tmp) (op : Op) (ty : TypeId) (pos : String) (after : Array Edge) (g : Nat × Bool) :
    runOps P B ds (⟨dst, op, ty, pos, after, some g⟩ :: r) S K = onGuard (guardV S ds g.1 g.2) g.1 g.2 P B ds ⟨dst, op, ty, pos, after, some g⟩ r S K := by
  simp only [runOps, atCall, onGuard, onSt]; rfl
theorem ev_onSt (S' : St) : onSt (some S') P B ds r K = runOps P B ds r S' K := rfl
theorem ev_onGuard (c want : Bool) (j : Nat) (o : Oper) : onGuard (some c) j want P B ds o r S K = ((c = want → runOps P B ds (⟨o.dst, o.op, o.type, o.pos, o.after, none⟩ :: r) (setG S ds j want) K) ∧ (c = (!want) → onSt ((setG S ds j (!want)).put B.nt o.dst (.tup [])) P B ds r K)) := rfl
theorem ev_put (nt n : Nat) (v : V) (e : List (Nat × V)) (m : List (Nat × Ob)) (h : n < nt) : St.put nt (some n) v ⟨e, m⟩ = some ⟨(n, v) :: e, m⟩ := by simp [St.put, h]
theorem ev_putN (nt : Nat) (v : V) : St.put nt none v S = some S := rfl
end

/-- what a function's body ends with: its results' variables -/
def endQ (P : Program) (rs : List ResultVar) (R : V → List (Nat × Ob) → Prop) : Exit → St → Prop
  | .normal, S | .ret, S => match resV P S rs with
    | some v => R v S.mem
    | none => False
  | _, _ => False
def onRes (x : Option V) (m : List (Nat × Ob)) (R : V → List (Nat × Ob) → Prop) : Prop :=
  match x with
  | some v => R v m
  | none => False
theorem ev_endR (P : Program) (rs : List ResultVar) (R : V → List (Nat × Ob) → Prop) (S : St) : endQ P rs R .ret S = onRes (resV P S rs) S.mem R := rfl
theorem ev_endN (P : Program) (rs : List ResultVar) (R : V → List (Nat × Ob) → Prop) (S : St) : endQ P rs R .normal S = onRes (resV P S rs) S.mem R := rfl
theorem ev_onRes (v : V) (m : List (Nat × Ob)) (R : V → List (Nat × Ob) → Prop) : onRes (some v) m R = R v m := rfl

theorem Ct.ev {P : Program} {f : FuncId} {fn : Func} {c : Code} {args : List V} {R : V → List (Nat × Ob) → Prop} {nt : Nat} {rs : List ResultVar} (hf : P.funcs[f]? = some fn) (hb : fn.body = some c) (hnt : fn.ntmps = nt) (hrs : fn.results.toList = rs) (hn : args.length ≤ nt)
    (h : ∀ (w0 : World) (ro : Ro), xc P ⟨w0, fun _ => False, nt, ro⟩ c ⟨argsE 0 args, []⟩ (endQ P rs R)) : Ct P f args R := by
  subst hnt; subst hrs
  refine Ct.of hf hb hn fun w0 ro => ?_
  exact (xc_ok (h w0 ro)).mono fun e S hq => by cases e <;> exact hq
end Go.Sy
