/- The layer: the reckoning, operation by operation. -/
import Derived.Test.YtmopmlnpoeeomaaE19
set_option linter.unusedVariables false
set_option linter.unusedSimpArgs false
namespace Go.Sy

/-- a value goes into a slot, and on -/
def goV (x : Option V) (dst : Option Tmp) (P : Program) (B : Base) (ds : List (Option Tmp)) (r : List Oper) (S : St) (K : St → Prop) : Prop :=
  match x with
  | some v => match dst with
    | some n => if n < B.nt then runOps P B ds r ⟨(n, v) :: S.env, S.mem⟩ K else False
    | none => runOps P B ds r S K
  | none => False
/-- a new object, its place goes into a slot, and on -/
def goA (x : Option (V × Ob)) (dst : Option Tmp) (P : Program) (B : Base) (ds : List (Option Tmp)) (r : List Oper) (S : St) (K : St → Prop) : Prop :=
  match dst with
  | some n => if fresh n S = true then match x with
      | some y => if n < B.nt then runOps P B ds r ⟨(n, y.1) :: S.env, (n, y.2) :: S.mem⟩ K else False
      | none => False
    else False
  | none => False
def goS (x : Option (V × St)) (dst : Option Tmp) (P : Program) (B : Base) (ds : List (Option Tmp)) (r : List Oper) (K : St → Prop) : Prop :=
  match x with
  | some y => match dst with
    | some n => if n < B.nt then runOps P B ds r ⟨(n, y.1) :: y.2.env, y.2.mem⟩ K else False
    | none => runOps P B ds r y.2 K
  | none => False
def b2 (x y : Option V) (f : V → V → Option V) : Option V :=
  match x, y with
  | some u, some v => f u v
  | _, _ => none
theorem b2_some (u v : V) (f : V → V → Option V) : b2 (some u) (some v) f = f u v := rfl
def b3 (c x y : Option V) : Option V :=
  match c, x, y with
  | some (.w (.one (.pl (.b b)))), some u, some v => some (pickV b u v)
  | _, _, _ => none
theorem b3_some (b : Bool) (u v : V) : b3 (some (.w (.one (.pl (.b b))))) (some u) (some v) = some (pickV b u v) := rfl

section
variable {P : Program} {B : Base} {S : St} {K : St → Prop} {ds : List (Option Tmp)} {r : List Oper} {dst : Option Tmp} {ty : TypeId} {pos : String} {af : Array Edge}

theorem goV_some (v : V) (n : Nat) (e : List (Nat × V)) (m : List (Nat × Ob)) : goV (some v) (some n) P B ds r ⟨e, m⟩ K = if n < B.nt then runOps P B ds r ⟨(n, v) :: e, m⟩ K else False := rfl
theorem goV_some_none (v : V) : goV (some v) none P B ds r S K = runOps P B ds r S K := rfl
theorem goA_some (n : Nat) (v : V) (o : Ob) (e : List (Nat × V)) (m : List (Nat × Ob)) : goA (some (v, o)) (some n) P B ds r ⟨e, m⟩ K = if fresh n ⟨e, m⟩ = true then if n < B.nt then runOps P B ds r ⟨(n, v) :: e, (n, o) :: m⟩ K else False else False := rfl
theorem goS_some (v : V) (n : Nat) (e : List (Nat × V)) (m : List (Nat × Ob)) : goS (some (v, ⟨e, m⟩)) (some n) P B ds r K = if n < B.nt then runOps P B ds r ⟨(n, v) :: e, m⟩ K else False := rfl

theorem pure_go {op : Op} (h0 : isCall op = false) (hs : stepV P B.nt ⟨dst, op, ty, pos, af, none⟩ S = match pureV P S op with
    | some v => S.put B.nt dst v
    | none => none) :
    runOps P B ds (⟨dst, op, ty, pos, af, none⟩ :: r) S K = goV (pureV P S op) dst P B ds r S K := by
  rw [ev_op, h0, hs]
  simp only [Bool.false_eq_true, if_false]
  unfold goV onSt
  cases pureV P S op with
  | none => rfl
  | some v =>
    cases dst with
    | none => rfl
    | some n => simp only [St.put]; by_cases hn : n < B.nt <;> simp [hn]

theorem alloc_none {k : Nat} {op : Op} (h : allocV P k S op = none) : (match pureV P S op with
    | some v => S.put B.nt dst v
    | none => match dst with
      | some k => if fresh k S = true then
          match allocV P k S op with
          | some r => St.put B.nt (some k) r.1 ⟨S.env, (k, r.2) :: S.mem⟩
          | none => none
        else none
      | none => none) = (match pureV P S op with
    | some v => S.put B.nt dst v
    | none => none) ∨ True := .inr trivial

theorem op_move (x : Operand) : runOps P B ds (⟨dst, .move x, ty, pos, af, none⟩ :: r) S K = goV (S.get x) dst P B ds r S K := by
  have hs : stepV P B.nt ⟨dst, .move x, ty, pos, af, none⟩ S = match pureV P S (.move x) with
    | some v => S.put B.nt dst v
    | none => none := by
    simp only [stepV]
    cases pureV P S (.move x) with
    | some v => rfl
    | none => cases dst with
      | none => rfl
      | some k => simp [allocV]
  rw [pure_go rfl hs]
  first | rfl | (congr 1; unfold pureV; simp; done) | (congr 1; simp only [pureV, b2, b3]; first | rfl | (split <;> simp_all))

theorem op_assign (x : Operand) : runOps P B ds (⟨dst, .assign x, ty, pos, af, none⟩ :: r) S K = goV (S.get x) dst P B ds r S K := by
  have hs : stepV P B.nt ⟨dst, .assign x, ty, pos, af, none⟩ S = match pureV P S (.assign x) with
    | some v => S.put B.nt dst v
    | none => none := by
    simp only [stepV]
    cases pureV P S (.assign x) with
    | some v => rfl
    | none => cases dst with
      | none => rfl
      | some k => simp [allocV]
  rw [pure_go rfl hs]
  first | rfl | (congr 1; unfold pureV; simp; done) | (congr 1; simp only [pureV, b2, b3]; first | rfl | (split <;> simp_all))

theorem op_pick (c x y : Operand) : runOps P B ds (⟨dst, .pick c x y, ty, pos, af, none⟩ :: r) S K = goV (b3 (S.get c) (S.get x) (S.get y)) dst P B ds r S K := by
  have hs : stepV P B.nt ⟨dst, .pick c x y, ty, pos, af, none⟩ S = match pureV P S (.pick c x y) with
    | some v => S.put B.nt dst v
    | none => none := by
    simp only [stepV]
    cases pureV P S (.pick c x y) with
    | some v => rfl
    | none => cases dst with
      | none => rfl
      | some k => simp [allocV]
  rw [pure_go rfl hs]
  first | rfl | (congr 1; unfold pureV; simp; done) | (congr 1; simp only [pureV, b2, b3]; first | rfl | (split <;> simp_all))

theorem op_build (t : TypeId) (ps : List (Nat × Operand)) : runOps P B ds (⟨dst, .build t ps.toArray, ty, pos, af, none⟩ :: r) S K = goV (buildV P S t ps) dst P B ds r S K := by
  have hs : stepV P B.nt ⟨dst, .build t ps.toArray, ty, pos, af, none⟩ S = match pureV P S (.build t ps.toArray) with
    | some v => S.put B.nt dst v
    | none => none := by
    simp only [stepV]
    cases pureV P S (.build t ps.toArray) with
    | some v => rfl
    | none => cases dst with
      | none => rfl
      | some k => simp [allocV]
  rw [pure_go rfl hs]
  first | rfl | (congr 1; unfold pureV; simp; done) | (congr 1; simp only [pureV, b2, b3]; first | rfl | (split <;> simp_all))

theorem op_load (t : TypeId) (x : Operand) : runOps P B ds (⟨dst, .load t x, ty, pos, af, none⟩ :: r) S K = goV ((S.get x).bind (loadV P S t)) dst P B ds r S K := by
  have hs : stepV P B.nt ⟨dst, .load t x, ty, pos, af, none⟩ S = match pureV P S (.load t x) with
    | some v => S.put B.nt dst v
    | none => none := by
    simp only [stepV]
    cases pureV P S (.load t x) with
    | some v => rfl
    | none => cases dst with
      | none => rfl
      | some k => simp [allocV]
  rw [pure_go rfl hs]
  first | rfl | (congr 1; unfold pureV; simp; done) | (congr 1; simp only [pureV, b2, b3]; first | rfl | (split <;> simp_all))

theorem op_nilCheck (x : Operand) : runOps P B ds (⟨dst, .nilCheck x, ty, pos, af, none⟩ :: r) S K = goV ((S.get x).bind nilV) dst P B ds r S K := by
  have hs : stepV P B.nt ⟨dst, .nilCheck x, ty, pos, af, none⟩ S = match pureV P S (.nilCheck x) with
    | some v => S.put B.nt dst v
    | none => none := by
    simp only [stepV]
    cases pureV P S (.nilCheck x) with
    | some v => rfl
    | none => cases dst with
      | none => rfl
      | some k => simp [allocV]
  rw [pure_go rfl hs]
  first | rfl | (congr 1; unfold pureV; simp; done) | (congr 1; simp only [pureV, b2, b3]; first | rfl | (split <;> simp_all))

theorem op_binOp (op : BinOp) (t t2 : TypeId) (x y : Operand) : runOps P B ds (⟨dst, .binOp op t x y t2, ty, pos, af, none⟩ :: r) S K = goV (b2 (S.get x) (S.get y) (binV P op t)) dst P B ds r S K := by
  have hs : stepV P B.nt ⟨dst, .binOp op t x y t2, ty, pos, af, none⟩ S = match pureV P S (.binOp op t x y t2) with
    | some v => S.put B.nt dst v
    | none => none := by
    simp only [stepV]
    cases pureV P S (.binOp op t x y t2) with
    | some v => rfl
    | none => cases dst with
      | none => rfl
      | some k => simp [allocV]
  rw [pure_go rfl hs]
  first | rfl | (congr 1; unfold pureV; simp; done) | (congr 1; simp only [pureV, b2, b3]; first | rfl | (split <;> simp_all))

theorem op_unOp (op : UnOp) (t : TypeId) (x : Operand) : runOps P B ds (⟨dst, .unOp op t x, ty, pos, af, none⟩ :: r) S K = goV ((S.get x).bind (unV op)) dst P B ds r S K := by
  have hs : stepV P B.nt ⟨dst, .unOp op t x, ty, pos, af, none⟩ S = match pureV P S (.unOp op t x) with
    | some v => S.put B.nt dst v
    | none => none := by
    simp only [stepV]
    cases pureV P S (.unOp op t x) with
    | some v => rfl
    | none => cases dst with
      | none => rfl
      | some k => simp [allocV]
  rw [pure_go rfl hs]
  first | rfl | (congr 1; unfold pureV; simp; done) | (congr 1; simp only [pureV, b2, b3]; first | rfl | (split <;> simp_all))

theorem op_fieldAddr (t : TypeId) (x : Operand) (f : Nat) : runOps P B ds (⟨dst, .fieldAddr t x f, ty, pos, af, none⟩ :: r) S K = goV ((S.get x).bind (fieldV P t f)) dst P B ds r S K := by
  have hs : stepV P B.nt ⟨dst, .fieldAddr t x f, ty, pos, af, none⟩ S = match pureV P S (.fieldAddr t x f) with
    | some v => S.put B.nt dst v
    | none => none := by
    simp only [stepV]
    cases pureV P S (.fieldAddr t x f) with
    | some v => rfl
    | none => cases dst with
      | none => rfl
      | some k => simp [allocV]
  rw [pure_go rfl hs]
  first | rfl | (congr 1; unfold pureV; simp; done) | (congr 1; simp only [pureV, b2, b3]; first | rfl | (split <;> simp_all))

theorem op_indexAddr (t : TypeId) (x i : Operand) : runOps P B ds (⟨dst, .indexAddr t x i, ty, pos, af, none⟩ :: r) S K = goV (b2 (S.get x) (S.get i) (indexAddrV P t)) dst P B ds r S K := by
  have hs : stepV P B.nt ⟨dst, .indexAddr t x i, ty, pos, af, none⟩ S = match pureV P S (.indexAddr t x i) with
    | some v => S.put B.nt dst v
    | none => none := by
    simp only [stepV]
    cases pureV P S (.indexAddr t x i) with
    | some v => rfl
    | none => cases dst with
      | none => rfl
      | some k => simp [allocV]
  rw [pure_go rfl hs]
  first | rfl | (congr 1; unfold pureV; simp; done) | (congr 1; simp only [pureV, b2, b3]; first | rfl | (split <;> simp_all))

theorem op_index (t : TypeId) (x i : Operand) : runOps P B ds (⟨dst, .index t x i, ty, pos, af, none⟩ :: r) S K = goV (b2 (S.get x) (S.get i) (indexV P t)) dst P B ds r S K := by
  have hs : stepV P B.nt ⟨dst, .index t x i, ty, pos, af, none⟩ S = match pureV P S (.index t x i) with
    | some v => S.put B.nt dst v
    | none => none := by
    simp only [stepV]
    cases pureV P S (.index t x i) with
    | some v => rfl
    | none => cases dst with
      | none => rfl
      | some k => simp [allocV]
  rw [pure_go rfl hs]
  first | rfl | (congr 1; unfold pureV; simp; done) | (congr 1; simp only [pureV, b2, b3]; first | rfl | (split <;> simp_all))

theorem op_extract (x : Operand) (i : Nat) : runOps P B ds (⟨dst, .extract x i, ty, pos, af, none⟩ :: r) S K = goV ((S.get x).bind fun v => extractV v i) dst P B ds r S K := by
  have hs : stepV P B.nt ⟨dst, .extract x i, ty, pos, af, none⟩ S = match pureV P S (.extract x i) with
    | some v => S.put B.nt dst v
    | none => none := by
    simp only [stepV]
    cases pureV P S (.extract x i) with
    | some v => rfl
    | none => cases dst with
      | none => rfl
      | some k => simp [allocV]
  rw [pure_go rfl hs]
  first | rfl | (congr 1; unfold pureV; simp; done) | (congr 1; simp only [pureV, b2, b3]; first | rfl | (split <;> simp_all))

theorem op_slice (t : TypeId) (x : Operand) (lo hi mx : Option Operand) : runOps P B ds (⟨dst, .slice t x lo hi mx, ty, pos, af, none⟩ :: r) S K = goV (pureV P S (.slice t x lo hi mx)) dst P B ds r S K := by
  refine pure_go rfl ?_
  simp only [stepV]
  cases pureV P S (.slice t x lo hi mx) with
  | some v => rfl
  | none => cases dst with
    | none => rfl
    | some k => simp [allocV]
theorem op_makeFunc (f : Fn) (a b : Array Operand) : runOps P B ds (⟨dst, .makeFunc f a b, ty, pos, af, none⟩ :: r) S K = goV (pureV P S (.makeFunc f a b)) dst P B ds r S K := by
  refine pure_go rfl ?_
  simp only [stepV]
  cases pureV P S (.makeFunc f a b) with
  | some v => rfl
  | none => cases dst with
    | none => rfl
    | some k => simp [allocV]
theorem op_len (x : Operand) (t : TypeId) : runOps P B ds (⟨dst, .call ⟨.builtin .len, #[x], #[t]⟩, ty, pos, af, none⟩ :: r) S K = goV ((S.get x).bind (lenV P t)) dst P B ds r S K := by
  refine (pure_go rfl ?_).trans rfl
  simp only [stepV]
  cases pureV P S (.call ⟨.builtin .len, #[x], #[t]⟩) with
  | some v => rfl
  | none => cases dst with
    | none => rfl
    | some k => simp [allocV]
theorem op_min (x y : Operand) (t : Array TypeId) : runOps P B ds (⟨dst, .call ⟨.builtin .min, #[x, y], t⟩, ty, pos, af, none⟩ :: r) S K = goV (b2 (S.get x) (S.get y) (minmaxV .min)) dst P B ds r S K := by
  refine (pure_go rfl ?_).trans rfl
  simp only [stepV]
  cases pureV P S (.call ⟨.builtin .min, #[x, y], t⟩) with
  | some v => rfl
  | none => cases dst with
    | none => rfl
    | some k => simp [allocV]
theorem op_max (x y : Operand) (t : Array TypeId) : runOps P B ds (⟨dst, .call ⟨.builtin .max, #[x, y], t⟩, ty, pos, af, none⟩ :: r) S K = goV (b2 (S.get x) (S.get y) (minmaxV .max)) dst P B ds r S K := by
  refine (pure_go rfl ?_).trans rfl
  simp only [stepV]
  cases pureV P S (.call ⟨.builtin .max, #[x, y], t⟩) with
  | some v => rfl
  | none => cases dst with
    | none => rfl
    | some k => simp [allocV]

theorem alloc_go {op : Op} (h0 : isCall op = false) (hs : stepV P B.nt ⟨dst, op, ty, pos, af, none⟩ S = match dst with
      | some k => if fresh k S = true then
          match allocV P k S op with
          | some r => St.put B.nt (some k) r.1 ⟨S.env, (k, r.2) :: S.mem⟩
          | none => none
        else none
      | none => none) :
    runOps P B ds (⟨dst, op, ty, pos, af, none⟩ :: r) S K = goA (allocV P (dst.getD 0) S op) dst P B ds r S K := by
  rw [ev_op, h0, hs]
  simp only [Bool.false_eq_true, if_false]
  unfold goA onSt
  cases dst with
  | none => rfl
  | some n =>
    simp only [Option.getD_some]
    by_cases hf : fresh n S = true
    · simp only [hf, if_true]
      cases allocV P n S op with
      | none => rfl
      | some y => simp only [St.put]; by_cases hn : n < B.nt <;> simp [hn]
    · simp only [hf, Bool.false_eq_true, if_false]
theorem op_alloc (t : TypeId) : runOps P B ds (⟨dst, .alloc t, ty, pos, af, none⟩ :: r) S K = goA ((zeroC P t).map fun cs => (.w (.one (.p (dst.getD 0) [])), ⟨false, cs⟩)) dst P B ds r S K := alloc_go rfl rfl
def boxV (k : Nat) (x : Option V) : Option (V × Ob) :=
  match x with
  | some (.w v) => some (.w (.one (.p k [])), ⟨false, v.cells⟩)
  | _ => none
theorem boxV_some (k : Nat) (v : W) : boxV k (some (.w v)) = some (.w (.one (.p k [])), ⟨false, v.cells⟩) := rfl
theorem op_box (t : TypeId) (x : Operand) : runOps P B ds (⟨dst, .box t x, ty, pos, af, none⟩ :: r) S K = goA (boxV (dst.getD 0) (S.get x)) dst P B ds r S K := alloc_go rfl rfl
theorem op_buildSlice (t : TypeId) (n : Nat) (ps : List (Nat × Operand)) : runOps P B ds (⟨dst, .buildSlice t n ps.toArray, ty, pos, af, none⟩ :: r) S K = goA (allocV P (dst.getD 0) S (.buildSlice t n ps.toArray)) dst P B ds r S K := alloc_go rfl rfl
theorem op_makeSlice (t : TypeId) (l c : Operand) : runOps P B ds (⟨dst, .makeSlice t l c, ty, pos, af, none⟩ :: r) S K = goA (allocV P (dst.getD 0) S (.makeSlice t l c)) dst P B ds r S K := alloc_go rfl rfl
def appG (P : Program) (k : Nat) (S : St) (t tx : TypeId) (x y : Option V) : Option (V × St) :=
  match x, y with
  | some u, some v => appendV P k S t tx u v
  | _, _ => none
theorem appG_some (k : Nat) (t tx : TypeId) (u v : V) : appG P k S t tx (some u) (some v) = appendV P k S t tx u v := rfl
theorem op_append (x y : Operand) (t tx : TypeId) (k : Nat) : runOps P B ds (⟨some k, .call ⟨.builtin .append, #[x, y], #[t, tx]⟩, ty, pos, af, none⟩ :: r) S K = goS (appG P k S t tx (S.get x) (S.get y)) (some k) P B ds r K := by
  rw [ev_op]
  simp only [isCall, stepV, Bool.false_eq_true, if_false]
  unfold goS appG
  cases S.get x with
  | none => rfl
  | some u =>
    cases S.get y with
    | none => rfl
    | some v =>
      simp only
      cases appendV P k S t tx u v with
      | none => rfl
      | some q => simp only [St.put]; by_cases hn : k < B.nt <;> simp [hn, onSt]
def stG (P : Program) (S : St) (t : TypeId) (x y : Option V) : Option St :=
  match x, y with
  | some u, some v => storeV P S t u v
  | _, _ => none
theorem stG_some (t : TypeId) (u v : V) : stG P S t (some u) (some v) = storeV P S t u v := rfl
theorem op_store (t : TypeId) (x y : Operand) : runOps P B ds (⟨none, .store t x y, ty, pos, af, none⟩ :: r) S K = onSt (stG P S t (S.get x) (S.get y)) P B ds r K := by
  rw [ev_op]
  simp only [isCall, stepV, Bool.false_eq_true, if_false]
  unfold stG
  cases S.get x with
  | none => rfl
  | some u => cases S.get y <;> rfl
theorem op_call (f : Operand) (args : Array Operand) (ts : Array TypeId) : runOps P B ds (⟨dst, .call ⟨.value f, args, ts⟩, ty, pos, af, none⟩ :: r) S K = atCall P B ⟨dst, .call ⟨.value f, args, ts⟩, ty, pos, af, none⟩ S ds r K := by
  rw [ev_op]; rfl
/-- a conversion: of a value, or one that makes memory -/
def cvG (x : Option V) (y : Option (V × Ob)) (dst : Option Tmp) (P : Program) (B : Base) (ds : List (Option Tmp)) (r : List Oper) (S : St) (K : St → Prop) : Prop :=
  match x with
  | some v => goV (some v) dst P B ds r S K
  | none => goA y dst P B ds r S K
theorem cvG_some (v : V) (y : Option (V × Ob)) : cvG (some v) y dst P B ds r S K = goV (some v) dst P B ds r S K := rfl
theorem cvG_none (y : Option (V × Ob)) : cvG none y dst P B ds r S K = goA y dst P B ds r S K := rfl
theorem op_convert (s t : TypeId) (x : Operand) : runOps P B ds (⟨dst, .convert s t x, ty, pos, af, none⟩ :: r) S K =
    cvG ((S.get x).bind (convV P S s t)) (allocV P (dst.getD 0) S (.convert s t x)) dst P B ds r S K := by
  unfold cvG
  cases h : (S.get x).bind (convV P S s t) with
  | some v =>
    rw [ev_op]
    simp only [isCall, stepV, pureV, Bool.false_eq_true, if_false, h]
    unfold goV onSt
    cases dst with
    | none => rfl
    | some n => simp only [St.put]; by_cases hn : n < B.nt <;> simp [hn]
  | none =>
    simp only
    refine alloc_go rfl ?_
    simp only [stepV, pureV, h]; rfl

theorem get_tmp (t : Tmp) : S.get (.tmp t) = look S.env t := rfl
theorem get_const (c : Value) : S.get (.const c) = (lit c).map .w := rfl
theorem get_func (f : FuncId) : S.get (.func f) = some (.w (.one (.fn f []))) := rfl
theorem lit_i (n : Int) : lit (.int .i64 n) = some (.one (.pl (.i n))) := rfl
theorem lit_b (b : Bool) : lit (.bool b) = some (.one (.pl (.b b))) := rfl
theorem lit_u8 (n : Int) : lit (.int .u8 n) = if 0 ≤ n ∧ n < 256 then some (.one (.pl (.u8 (UInt8.ofNat n.toNat)))) else none := by
  simp only [lit, litL]; split <;> rfl
theorem lit_u32 (n : Int) : lit (.int .u32 n) = if 0 ≤ n ∧ n < 4294967296 then some (.one (.pl (.u32 (UInt32.ofNat n.toNat)))) else none := by
  simp only [lit, litL]; split <;> rfl
theorem lit_u64 (n : Int) : lit (.int .u64 n) = if 0 ≤ n ∧ n < 18446744073709551616 then some (.one (.pl (.u64 (UInt64.ofNat n.toNat)))) else none := by
  simp only [lit, litL]; split <;> rfl
theorem lit_nil : lit (.slice none 0 0) = some (.one (.pl (.R true 1 []))) := rfl
theorem lit_str (s : ByteArray) : lit (.string s) = if s.size ≤ 65536 then some (.one (.pl (.str s.data.toList))) else none := by
  simp only [lit, litL]; split <;> rfl
theorem look_cons {α : Type} (m n : Nat) (v : α) (e : List (Nat × α)) : look ((m, v) :: e) n = if n = m then some v else look e n := rfl
end

theorem bin_add_u8 (P : Program) (t : TypeId) (x y : UInt8) : binV P .add t (.w (.one (.pl (.u8 x)))) (.w (.one (.pl (.u8 y)))) = some (.w (.one (.pl (.u8 (x + y))))) := rfl
theorem bin_sub_u8 (P : Program) (t : TypeId) (x y : UInt8) : binV P .sub t (.w (.one (.pl (.u8 x)))) (.w (.one (.pl (.u8 y)))) = some (.w (.one (.pl (.u8 (x - y))))) := rfl
theorem bin_mul_u8 (P : Program) (t : TypeId) (x y : UInt8) : binV P .mul t (.w (.one (.pl (.u8 x)))) (.w (.one (.pl (.u8 y)))) = some (.w (.one (.pl (.u8 (x * y))))) := rfl
theorem bin_and_u8 (P : Program) (t : TypeId) (x y : UInt8) : binV P .and t (.w (.one (.pl (.u8 x)))) (.w (.one (.pl (.u8 y)))) = some (.w (.one (.pl (.u8 (x &&& y))))) := rfl
theorem bin_or_u8 (P : Program) (t : TypeId) (x y : UInt8) : binV P .or t (.w (.one (.pl (.u8 x)))) (.w (.one (.pl (.u8 y)))) = some (.w (.one (.pl (.u8 (x ||| y))))) := rfl
theorem bin_xor_u8 (P : Program) (t : TypeId) (x y : UInt8) : binV P .xor t (.w (.one (.pl (.u8 x)))) (.w (.one (.pl (.u8 y)))) = some (.w (.one (.pl (.u8 (x ^^^ y))))) := rfl
theorem bin_andNot_u8 (P : Program) (t : TypeId) (x y : UInt8) : binV P .andNot t (.w (.one (.pl (.u8 x)))) (.w (.one (.pl (.u8 y)))) = some (.w (.one (.pl (.u8 (x &&& ~~~y))))) := rfl
theorem bin_eql_u8 (P : Program) (t : TypeId) (x y : UInt8) : binV P .eql t (.w (.one (.pl (.u8 x)))) (.w (.one (.pl (.u8 y)))) = some (.w (.one (.pl (.b (decide (x = y)))))) := rfl
theorem bin_neq_u8 (P : Program) (t : TypeId) (x y : UInt8) : binV P .neq t (.w (.one (.pl (.u8 x)))) (.w (.one (.pl (.u8 y)))) = some (.w (.one (.pl (.b (!decide (x = y)))))) := rfl
theorem bin_lss_u8 (P : Program) (t : TypeId) (x y : UInt8) : binV P .lss t (.w (.one (.pl (.u8 x)))) (.w (.one (.pl (.u8 y)))) = some (.w (.one (.pl (.b (decide (x < y)))))) := rfl
theorem bin_leq_u8 (P : Program) (t : TypeId) (x y : UInt8) : binV P .leq t (.w (.one (.pl (.u8 x)))) (.w (.one (.pl (.u8 y)))) = some (.w (.one (.pl (.b (decide (x ≤ y)))))) := rfl
theorem bin_gtr_u8 (P : Program) (t : TypeId) (x y : UInt8) : binV P .gtr t (.w (.one (.pl (.u8 x)))) (.w (.one (.pl (.u8 y)))) = some (.w (.one (.pl (.b (decide (y < x)))))) := rfl
theorem bin_geq_u8 (P : Program) (t : TypeId) (x y : UInt8) : binV P .geq t (.w (.one (.pl (.u8 x)))) (.w (.one (.pl (.u8 y)))) = some (.w (.one (.pl (.b (decide (y ≤ x)))))) := rfl
theorem bin_quo_u8 (P : Program) (t : TypeId) (x y : UInt8) (h : ¬ y = 0) : binV P .quo t (.w (.one (.pl (.u8 x)))) (.w (.one (.pl (.u8 y)))) = some (.w (.one (.pl (.u8 (x / y))))) := by simp [binV, arithV, h]
theorem bin_rem_u8 (P : Program) (t : TypeId) (x y : UInt8) (h : ¬ y = 0) : binV P .rem t (.w (.one (.pl (.u8 x)))) (.w (.one (.pl (.u8 y)))) = some (.w (.one (.pl (.u8 (x % y))))) := by simp [binV, arithV, h]
theorem bin_shl_u8_u8 (P : Program) (t : TypeId) (x : UInt8) (y : UInt8) : binV P .shl t (.w (.one (.pl (.u8 x)))) (.w (.one (.pl (.u8 y)))) = some (.w (.one (.pl (.u8 (shl8 x y.toNat))))) := by simp [binV, shiftV, PL.num]
theorem bin_shr_u8_u8 (P : Program) (t : TypeId) (x : UInt8) (y : UInt8) : binV P .shr t (.w (.one (.pl (.u8 x)))) (.w (.one (.pl (.u8 y)))) = some (.w (.one (.pl (.u8 (shr8 x y.toNat))))) := by simp [binV, shiftV, PL.num]
theorem bin_shl_u8_u32 (P : Program) (t : TypeId) (x : UInt8) (y : UInt32) : binV P .shl t (.w (.one (.pl (.u8 x)))) (.w (.one (.pl (.u32 y)))) = some (.w (.one (.pl (.u8 (shl8 x y.toNat))))) := by simp [binV, shiftV, PL.num]
theorem bin_shr_u8_u32 (P : Program) (t : TypeId) (x : UInt8) (y : UInt32) : binV P .shr t (.w (.one (.pl (.u8 x)))) (.w (.one (.pl (.u32 y)))) = some (.w (.one (.pl (.u8 (shr8 x y.toNat))))) := by simp [binV, shiftV, PL.num]
theorem bin_shl_u8_u64 (P : Program) (t : TypeId) (x : UInt8) (y : UInt64) : binV P .shl t (.w (.one (.pl (.u8 x)))) (.w (.one (.pl (.u64 y)))) = some (.w (.one (.pl (.u8 (shl8 x y.toNat))))) := by simp [binV, shiftV, PL.num]
theorem bin_shr_u8_u64 (P : Program) (t : TypeId) (x : UInt8) (y : UInt64) : binV P .shr t (.w (.one (.pl (.u8 x)))) (.w (.one (.pl (.u64 y)))) = some (.w (.one (.pl (.u8 (shr8 x y.toNat))))) := by simp [binV, shiftV, PL.num]
theorem bin_shl_u8_i (P : Program) (t : TypeId) (x : UInt8) (y : Int) (h : 0 ≤ y) : binV P .shl t (.w (.one (.pl (.u8 x)))) (.w (.one (.pl (.i y)))) = some (.w (.one (.pl (.u8 (shl8 x y.toNat))))) := by simp [binV, shiftV, PL.num, h]
theorem bin_shr_u8_i (P : Program) (t : TypeId) (x : UInt8) (y : Int) (h : 0 ≤ y) : binV P .shr t (.w (.one (.pl (.u8 x)))) (.w (.one (.pl (.i y)))) = some (.w (.one (.pl (.u8 (shr8 x y.toNat))))) := by simp [binV, shiftV, PL.num, h]
theorem bin_add_u32 (P : Program) (t : TypeId) (x y : UInt32) : binV P .add t (.w (.one (.pl (.u32 x)))) (.w (.one (.pl (.u32 y)))) = some (.w (.one (.pl (.u32 (x + y))))) := rfl
theorem bin_sub_u32 (P : Program) (t : TypeId) (x y : UInt32) : binV P .sub t (.w (.one (.pl (.u32 x)))) (.w (.one (.pl (.u32 y)))) = some (.w (.one (.pl (.u32 (x - y))))) := rfl
theorem bin_mul_u32 (P : Program) (t : TypeId) (x y : UInt32) : binV P .mul t (.w (.one (.pl (.u32 x)))) (.w (.one (.pl (.u32 y)))) = some (.w (.one (.pl (.u32 (x * y))))) := rfl
theorem bin_and_u32 (P : Program) (t : TypeId) (x y : UInt32) : binV P .and t (.w (.one (.pl (.u32 x)))) (.w (.one (.pl (.u32 y)))) = some (.w (.one (.pl (.u32 (x &&& y))))) := rfl
theorem bin_or_u32 (P : Program) (t : TypeId) (x y : UInt32) : binV P .or t (.w (.one (.pl (.u32 x)))) (.w (.one (.pl (.u32 y)))) = some (.w (.one (.pl (.u32 (x ||| y))))) := rfl
theorem bin_xor_u32 (P : Program) (t : TypeId) (x y : UInt32) : binV P .xor t (.w (.one (.pl (.u32 x)))) (.w (.one (.pl (.u32 y)))) = some (.w (.one (.pl (.u32 (x ^^^ y))))) := rfl
theorem bin_andNot_u32 (P : Program) (t : TypeId) (x y : UInt32) : binV P .andNot t (.w (.one (.pl (.u32 x)))) (.w (.one (.pl (.u32 y)))) = some (.w (.one (.pl (.u32 (x &&& ~~~y))))) := rfl
theorem bin_eql_u32 (P : Program) (t : TypeId) (x y : UInt32) : binV P .eql t (.w (.one (.pl (.u32 x)))) (.w (.one (.pl (.u32 y)))) = some (.w (.one (.pl (.b (decide (x = y)))))) := rfl
theorem bin_neq_u32 (P : Program) (t : TypeId) (x y : UInt32) : binV P .neq t (.w (.one (.pl (.u32 x)))) (.w (.one (.pl (.u32 y)))) = some (.w (.one (.pl (.b (!decide (x = y)))))) := rfl
theorem bin_lss_u32 (P : Program) (t : TypeId) (x y : UInt32) : binV P .lss t (.w (.one (.pl (.u32 x)))) (.w (.one (.pl (.u32 y)))) = some (.w (.one (.pl (.b (decide (x < y)))))) := rfl
theorem bin_leq_u32 (P : Program) (t : TypeId) (x y : UInt32) : binV P .leq t (.w (.one (.pl (.u32 x)))) (.w (.one (.pl (.u32 y)))) = some (.w (.one (.pl (.b (decide (x ≤ y)))))) := rfl
theorem bin_gtr_u32 (P : Program) (t : TypeId) (x y : UInt32) : binV P .gtr t (.w (.one (.pl (.u32 x)))) (.w (.one (.pl (.u32 y)))) = some (.w (.one (.pl (.b (decide (y < x)))))) := rfl
theorem bin_geq_u32 (P : Program) (t : TypeId) (x y : UInt32) : binV P .geq t (.w (.one (.pl (.u32 x)))) (.w (.one (.pl (.u32 y)))) = some (.w (.one (.pl (.b (decide (y ≤ x)))))) := rfl
theorem bin_quo_u32 (P : Program) (t : TypeId) (x y : UInt32) (h : ¬ y = 0) : binV P .quo t (.w (.one (.pl (.u32 x)))) (.w (.one (.pl (.u32 y)))) = some (.w (.one (.pl (.u32 (x / y))))) := by simp [binV, arithV, h]
theorem bin_rem_u32 (P : Program) (t : TypeId) (x y : UInt32) (h : ¬ y = 0) : binV P .rem t (.w (.one (.pl (.u32 x)))) (.w (.one (.pl (.u32 y)))) = some (.w (.one (.pl (.u32 (x % y))))) := by simp [binV, arithV, h]
theorem bin_shl_u32_u8 (P : Program) (t : TypeId) (x : UInt32) (y : UInt8) : binV P .shl t (.w (.one (.pl (.u32 x)))) (.w (.one (.pl (.u8 y)))) = some (.w (.one (.pl (.u32 (shl32 x y.toNat))))) := by simp [binV, shiftV, PL.num]
theorem bin_shr_u32_u8 (P : Program) (t : TypeId) (x : UInt32) (y : UInt8) : binV P .shr t (.w (.one (.pl (.u32 x)))) (.w (.one (.pl (.u8 y)))) = some (.w (.one (.pl (.u32 (shr32 x y.toNat))))) := by simp [binV, shiftV, PL.num]
theorem bin_shl_u32_u32 (P : Program) (t : TypeId) (x : UInt32) (y : UInt32) : binV P .shl t (.w (.one (.pl (.u32 x)))) (.w (.one (.pl (.u32 y)))) = some (.w (.one (.pl (.u32 (shl32 x y.toNat))))) := by simp [binV, shiftV, PL.num]
theorem bin_shr_u32_u32 (P : Program) (t : TypeId) (x : UInt32) (y : UInt32) : binV P .shr t (.w (.one (.pl (.u32 x)))) (.w (.one (.pl (.u32 y)))) = some (.w (.one (.pl (.u32 (shr32 x y.toNat))))) := by simp [binV, shiftV, PL.num]
theorem bin_shl_u32_u64 (P : Program) (t : TypeId) (x : UInt32) (y : UInt64) : binV P .shl t (.w (.one (.pl (.u32 x)))) (.w (.one (.pl (.u64 y)))) = some (.w (.one (.pl (.u32 (shl32 x y.toNat))))) := by simp [binV, shiftV, PL.num]
theorem bin_shr_u32_u64 (P : Program) (t : TypeId) (x : UInt32) (y : UInt64) : binV P .shr t (.w (.one (.pl (.u32 x)))) (.w (.one (.pl (.u64 y)))) = some (.w (.one (.pl (.u32 (shr32 x y.toNat))))) := by simp [binV, shiftV, PL.num]
theorem bin_shl_u32_i (P : Program) (t : TypeId) (x : UInt32) (y : Int) (h : 0 ≤ y) : binV P .shl t (.w (.one (.pl (.u32 x)))) (.w (.one (.pl (.i y)))) = some (.w (.one (.pl (.u32 (shl32 x y.toNat))))) := by simp [binV, shiftV, PL.num, h]
theorem bin_shr_u32_i (P : Program) (t : TypeId) (x : UInt32) (y : Int) (h : 0 ≤ y) : binV P .shr t (.w (.one (.pl (.u32 x)))) (.w (.one (.pl (.i y)))) = some (.w (.one (.pl (.u32 (shr32 x y.toNat))))) := by simp [binV, shiftV, PL.num, h]
theorem bin_add_u64 (P : Program) (t : TypeId) (x y : UInt64) : binV P .add t (.w (.one (.pl (.u64 x)))) (.w (.one (.pl (.u64 y)))) = some (.w (.one (.pl (.u64 (x + y))))) := rfl
theorem bin_sub_u64 (P : Program) (t : TypeId) (x y : UInt64) : binV P .sub t (.w (.one (.pl (.u64 x)))) (.w (.one (.pl (.u64 y)))) = some (.w (.one (.pl (.u64 (x - y))))) := rfl
theorem bin_mul_u64 (P : Program) (t : TypeId) (x y : UInt64) : binV P .mul t (.w (.one (.pl (.u64 x)))) (.w (.one (.pl (.u64 y)))) = some (.w (.one (.pl (.u64 (x * y))))) := rfl
theorem bin_and_u64 (P : Program) (t : TypeId) (x y : UInt64) : binV P .and t (.w (.one (.pl (.u64 x)))) (.w (.one (.pl (.u64 y)))) = some (.w (.one (.pl (.u64 (x &&& y))))) := rfl
theorem bin_or_u64 (P : Program) (t : TypeId) (x y : UInt64) : binV P .or t (.w (.one (.pl (.u64 x)))) (.w (.one (.pl (.u64 y)))) = some (.w (.one (.pl (.u64 (x ||| y))))) := rfl
theorem bin_xor_u64 (P : Program) (t : TypeId) (x y : UInt64) : binV P .xor t (.w (.one (.pl (.u64 x)))) (.w (.one (.pl (.u64 y)))) = some (.w (.one (.pl (.u64 (x ^^^ y))))) := rfl
theorem bin_andNot_u64 (P : Program) (t : TypeId) (x y : UInt64) : binV P .andNot t (.w (.one (.pl (.u64 x)))) (.w (.one (.pl (.u64 y)))) = some (.w (.one (.pl (.u64 (x &&& ~~~y))))) := rfl
theorem bin_eql_u64 (P : Program) (t : TypeId) (x y : UInt64) : binV P .eql t (.w (.one (.pl (.u64 x)))) (.w (.one (.pl (.u64 y)))) = some (.w (.one (.pl (.b (decide (x = y)))))) := rfl
theorem bin_neq_u64 (P : Program) (t : TypeId) (x y : UInt64) : binV P .neq t (.w (.one (.pl (.u64 x)))) (.w (.one (.pl (.u64 y)))) = some (.w (.one (.pl (.b (!decide (x = y)))))) := rfl
theorem bin_lss_u64 (P : Program) (t : TypeId) (x y : UInt64) : binV P .lss t (.w (.one (.pl (.u64 x)))) (.w (.one (.pl (.u64 y)))) = some (.w (.one (.pl (.b (decide (x < y)))))) := rfl
theorem bin_leq_u64 (P : Program) (t : TypeId) (x y : UInt64) : binV P .leq t (.w (.one (.pl (.u64 x)))) (.w (.one (.pl (.u64 y)))) = some (.w (.one (.pl (.b (decide (x ≤ y)))))) := rfl
theorem bin_gtr_u64 (P : Program) (t : TypeId) (x y : UInt64) : binV P .gtr t (.w (.one (.pl (.u64 x)))) (.w (.one (.pl (.u64 y)))) = some (.w (.one (.pl (.b (decide (y < x)))))) := rfl
theorem bin_geq_u64 (P : Program) (t : TypeId) (x y : UInt64) : binV P .geq t (.w (.one (.pl (.u64 x)))) (.w (.one (.pl (.u64 y)))) = some (.w (.one (.pl (.b (decide (y ≤ x)))))) := rfl
theorem bin_quo_u64 (P : Program) (t : TypeId) (x y : UInt64) (h : ¬ y = 0) : binV P .quo t (.w (.one (.pl (.u64 x)))) (.w (.one (.pl (.u64 y)))) = some (.w (.one (.pl (.u64 (x / y))))) := by simp [binV, arithV, h]
theorem bin_rem_u64 (P : Program) (t : TypeId) (x y : UInt64) (h : ¬ y = 0) : binV P .rem t (.w (.one (.pl (.u64 x)))) (.w (.one (.pl (.u64 y)))) = some (.w (.one (.pl (.u64 (x % y))))) := by simp [binV, arithV, h]
theorem bin_shl_u64_u8 (P : Program) (t : TypeId) (x : UInt64) (y : UInt8) : binV P .shl t (.w (.one (.pl (.u64 x)))) (.w (.one (.pl (.u8 y)))) = some (.w (.one (.pl (.u64 (shl64 x y.toNat))))) := by simp [binV, shiftV, PL.num]
theorem bin_shr_u64_u8 (P : Program) (t : TypeId) (x : UInt64) (y : UInt8) : binV P .shr t (.w (.one (.pl (.u64 x)))) (.w (.one (.pl (.u8 y)))) = some (.w (.one (.pl (.u64 (shr64 x y.toNat))))) := by simp [binV, shiftV, PL.num]
theorem bin_shl_u64_u32 (P : Program) (t : TypeId) (x : UInt64) (y : UInt32) : binV P .shl t (.w (.one (.pl (.u64 x)))) (.w (.one (.pl (.u32 y)))) = some (.w (.one (.pl (.u64 (shl64 x y.toNat))))) := by simp [binV, shiftV, PL.num]
theorem bin_shr_u64_u32 (P : Program) (t : TypeId) (x : UInt64) (y : UInt32) : binV P .shr t (.w (.one (.pl (.u64 x)))) (.w (.one (.pl (.u32 y)))) = some (.w (.one (.pl (.u64 (shr64 x y.toNat))))) := by simp [binV, shiftV, PL.num]
theorem bin_shl_u64_u64 (P : Program) (t : TypeId) (x : UInt64) (y : UInt64) : binV P .shl t (.w (.one (.pl (.u64 x)))) (.w (.one (.pl (.u64 y)))) = some (.w (.one (.pl (.u64 (shl64 x y.toNat))))) := by simp [binV, shiftV, PL.num]
theorem bin_shr_u64_u64 (P : Program) (t : TypeId) (x : UInt64) (y : UInt64) : binV P .shr t (.w (.one (.pl (.u64 x)))) (.w (.one (.pl (.u64 y)))) = some (.w (.one (.pl (.u64 (shr64 x y.toNat))))) := by simp [binV, shiftV, PL.num]
theorem bin_shl_u64_i (P : Program) (t : TypeId) (x : UInt64) (y : Int) (h : 0 ≤ y) : binV P .shl t (.w (.one (.pl (.u64 x)))) (.w (.one (.pl (.i y)))) = some (.w (.one (.pl (.u64 (shl64 x y.toNat))))) := by simp [binV, shiftV, PL.num, h]
theorem bin_shr_u64_i (P : Program) (t : TypeId) (x : UInt64) (y : Int) (h : 0 ≤ y) : binV P .shr t (.w (.one (.pl (.u64 x)))) (.w (.one (.pl (.i y)))) = some (.w (.one (.pl (.u64 (shr64 x y.toNat))))) := by simp [binV, shiftV, PL.num, h]
theorem bin_add_i (P : Program) (t : TypeId) (x y : Int) : binV P .add t (.w (.one (.pl (.i x)))) (.w (.one (.pl (.i y)))) = some (.w (.one (.pl (.i (Go.RowKit.wrap64 (x + y)))))) := rfl
theorem bin_sub_i (P : Program) (t : TypeId) (x y : Int) : binV P .sub t (.w (.one (.pl (.i x)))) (.w (.one (.pl (.i y)))) = some (.w (.one (.pl (.i (Go.RowKit.wrap64 (x - y)))))) := rfl
theorem bin_mul_i (P : Program) (t : TypeId) (x y : Int) : binV P .mul t (.w (.one (.pl (.i x)))) (.w (.one (.pl (.i y)))) = some (.w (.one (.pl (.i (Go.RowKit.wrap64 (x * y)))))) := rfl
theorem bin_and_i (P : Program) (t : TypeId) (x y : Int) : binV P .and t (.w (.one (.pl (.i x)))) (.w (.one (.pl (.i y)))) = some (.w (.one (.pl (.i (iand x y))))) := rfl
theorem bin_or_i (P : Program) (t : TypeId) (x y : Int) : binV P .or t (.w (.one (.pl (.i x)))) (.w (.one (.pl (.i y)))) = some (.w (.one (.pl (.i (ior x y))))) := rfl
theorem bin_xor_i (P : Program) (t : TypeId) (x y : Int) : binV P .xor t (.w (.one (.pl (.i x)))) (.w (.one (.pl (.i y)))) = some (.w (.one (.pl (.i (ixor x y))))) := rfl
theorem bin_andNot_i (P : Program) (t : TypeId) (x y : Int) : binV P .andNot t (.w (.one (.pl (.i x)))) (.w (.one (.pl (.i y)))) = some (.w (.one (.pl (.i (iandNot x y))))) := rfl
theorem bin_eql_i (P : Program) (t : TypeId) (x y : Int) : binV P .eql t (.w (.one (.pl (.i x)))) (.w (.one (.pl (.i y)))) = some (.w (.one (.pl (.b (decide (x = y)))))) := rfl
theorem bin_neq_i (P : Program) (t : TypeId) (x y : Int) : binV P .neq t (.w (.one (.pl (.i x)))) (.w (.one (.pl (.i y)))) = some (.w (.one (.pl (.b (!decide (x = y)))))) := rfl
theorem bin_lss_i (P : Program) (t : TypeId) (x y : Int) : binV P .lss t (.w (.one (.pl (.i x)))) (.w (.one (.pl (.i y)))) = some (.w (.one (.pl (.b (decide (x < y)))))) := rfl
theorem bin_leq_i (P : Program) (t : TypeId) (x y : Int) : binV P .leq t (.w (.one (.pl (.i x)))) (.w (.one (.pl (.i y)))) = some (.w (.one (.pl (.b (decide (x ≤ y)))))) := rfl
theorem bin_gtr_i (P : Program) (t : TypeId) (x y : Int) : binV P .gtr t (.w (.one (.pl (.i x)))) (.w (.one (.pl (.i y)))) = some (.w (.one (.pl (.b (decide (y < x)))))) := rfl
theorem bin_geq_i (P : Program) (t : TypeId) (x y : Int) : binV P .geq t (.w (.one (.pl (.i x)))) (.w (.one (.pl (.i y)))) = some (.w (.one (.pl (.b (decide (y ≤ x)))))) := rfl
theorem bin_quo_i (P : Program) (t : TypeId) (x y : Int) (h : ¬ y = 0) : binV P .quo t (.w (.one (.pl (.i x)))) (.w (.one (.pl (.i y)))) = some (.w (.one (.pl (.i (Go.RowKit.wrap64 (x.tdiv y)))))) := by simp [binV, arithV, h]
theorem bin_rem_i (P : Program) (t : TypeId) (x y : Int) (h : ¬ y = 0) : binV P .rem t (.w (.one (.pl (.i x)))) (.w (.one (.pl (.i y)))) = some (.w (.one (.pl (.i (x.tmod y))))) := by simp [binV, arithV, h]
theorem bin_shl_i_u8 (P : Program) (t : TypeId) (x : Int) (y : UInt8) : binV P .shl t (.w (.one (.pl (.i x)))) (.w (.one (.pl (.u8 y)))) = some (.w (.one (.pl (.i (ishl x y.toNat))))) := by simp [binV, shiftV, PL.num]
theorem bin_shr_i_u8 (P : Program) (t : TypeId) (x : Int) (y : UInt8) : binV P .shr t (.w (.one (.pl (.i x)))) (.w (.one (.pl (.u8 y)))) = some (.w (.one (.pl (.i (ishr x y.toNat))))) := by simp [binV, shiftV, PL.num]
theorem bin_shl_i_u32 (P : Program) (t : TypeId) (x : Int) (y : UInt32) : binV P .shl t (.w (.one (.pl (.i x)))) (.w (.one (.pl (.u32 y)))) = some (.w (.one (.pl (.i (ishl x y.toNat))))) := by simp [binV, shiftV, PL.num]
theorem bin_shr_i_u32 (P : Program) (t : TypeId) (x : Int) (y : UInt32) : binV P .shr t (.w (.one (.pl (.i x)))) (.w (.one (.pl (.u32 y)))) = some (.w (.one (.pl (.i (ishr x y.toNat))))) := by simp [binV, shiftV, PL.num]
theorem bin_shl_i_u64 (P : Program) (t : TypeId) (x : Int) (y : UInt64) : binV P .shl t (.w (.one (.pl (.i x)))) (.w (.one (.pl (.u64 y)))) = some (.w (.one (.pl (.i (ishl x y.toNat))))) := by simp [binV, shiftV, PL.num]
theorem bin_shr_i_u64 (P : Program) (t : TypeId) (x : Int) (y : UInt64) : binV P .shr t (.w (.one (.pl (.i x)))) (.w (.one (.pl (.u64 y)))) = some (.w (.one (.pl (.i (ishr x y.toNat))))) := by simp [binV, shiftV, PL.num]
theorem bin_shl_i_i (P : Program) (t : TypeId) (x : Int) (y : Int) (h : 0 ≤ y) : binV P .shl t (.w (.one (.pl (.i x)))) (.w (.one (.pl (.i y)))) = some (.w (.one (.pl (.i (ishl x y.toNat))))) := by simp [binV, shiftV, PL.num, h]
theorem bin_shr_i_i (P : Program) (t : TypeId) (x : Int) (y : Int) (h : 0 ≤ y) : binV P .shr t (.w (.one (.pl (.i x)))) (.w (.one (.pl (.i y)))) = some (.w (.one (.pl (.i (ishr x y.toNat))))) := by simp [binV, shiftV, PL.num, h]
theorem bin_eql_str (P : Program) (t : TypeId) (x y : List UInt8) : binV P .eql t (.w (.one (.pl (.str x)))) (.w (.one (.pl (.str y)))) = some (.w (.one (.pl (.b (decide (x = y)))))) := rfl
theorem bin_neq_str (P : Program) (t : TypeId) (x y : List UInt8) : binV P .neq t (.w (.one (.pl (.str x)))) (.w (.one (.pl (.str y)))) = some (.w (.one (.pl (.b (!decide (x = y)))))) := rfl
theorem bin_lss_str (P : Program) (t : TypeId) (x y : List UInt8) : binV P .lss t (.w (.one (.pl (.str x)))) (.w (.one (.pl (.str y)))) = some (.w (.one (.pl (.b (Op.bytesLess x y))))) := rfl
theorem bin_leq_str (P : Program) (t : TypeId) (x y : List UInt8) : binV P .leq t (.w (.one (.pl (.str x)))) (.w (.one (.pl (.str y)))) = some (.w (.one (.pl (.b (Op.bytesLess x y || decide (x = y)))))) := rfl
theorem bin_gtr_str (P : Program) (t : TypeId) (x y : List UInt8) : binV P .gtr t (.w (.one (.pl (.str x)))) (.w (.one (.pl (.str y)))) = some (.w (.one (.pl (.b (!(Op.bytesLess x y || decide (x = y))))))) := rfl
theorem bin_geq_str (P : Program) (t : TypeId) (x y : List UInt8) : binV P .geq t (.w (.one (.pl (.str x)))) (.w (.one (.pl (.str y)))) = some (.w (.one (.pl (.b (!Op.bytesLess x y))))) := rfl
theorem bin_add_str (P : Program) (t : TypeId) (x y : List UInt8) (h : x.length + y.length ≤ maxLen) : binV P .add t (.w (.one (.pl (.str x)))) (.w (.one (.pl (.str y)))) = some (.w (.one (.pl (.str (x ++ y))))) := by simp [binV, h]
theorem bin_eql_agg (P : Program) (t : TypeId) (xs ys : List L) (h : isAggT P t = true) : binV P .eql t (.w (.agg xs)) (.w (.agg ys)) = (aggEq P t xs ys).map fun z => .w (.one (.pl (.b z))) := by simp [binV, h]
theorem bin_neq_agg (P : Program) (t : TypeId) (xs ys : List L) (h : isAggT P t = true) : binV P .neq t (.w (.agg xs)) (.w (.agg ys)) = (aggEq P t xs ys).map fun z => .w (.one (.pl (.b (!z)))) := by simp [binV, h]
theorem pick_b (c p q : Bool) : pickV c (.w (.one (.pl (.b p)))) (.w (.one (.pl (.b q)))) = .w (.one (.pl (.b (bif c then p else q)))) := rfl
theorem pick_true (x y : V) : pickV true x y = x := by
  unfold pickV; split <;> rfl
theorem pick_false (x y : V) : pickV false x y = y := by
  unfold pickV; split <;> rfl

attribute [go_sem] ev_seq ev_seqN ev_seqR ev_seqE ev_block ev_blockN ev_blockR ev_blockE ev_exit ev_ret ev_skip ev_loop ev_cond ev_onCond ev_region ev_draw ev_nil ev_guard ev_onSt ev_onGuard ev_put ev_putN ev_endR ev_endN ev_onRes op_move op_assign op_pick op_build op_load op_nilCheck op_binOp op_unOp op_fieldAddr op_indexAddr op_index op_extract op_slice op_makeFunc op_len op_min op_max op_alloc op_box op_buildSlice op_makeSlice op_append op_store op_call op_convert goV_some goV_some_none goA_some cvG_some cvG_none goS_some b2_some b3_some boxV_some appG_some stG_some get_tmp get_const get_func lit_i lit_b lit_u8 lit_u32 lit_u64 lit_nil lit_str look_cons pick_true pick_false pick_b bin_add_u8 bin_sub_u8 bin_mul_u8 bin_and_u8 bin_or_u8 bin_xor_u8 bin_andNot_u8 bin_eql_u8 bin_neq_u8 bin_lss_u8 bin_leq_u8 bin_gtr_u8 bin_geq_u8 bin_quo_u8 bin_rem_u8 bin_shl_u8_u8 bin_shr_u8_u8 bin_shl_u8_u32 bin_shr_u8_u32 bin_shl_u8_u64 bin_shr_u8_u64 bin_shl_u8_i bin_shr_u8_i bin_add_u32 bin_sub_u32 bin_mul_u32 bin_and_u32 bin_or_u32 bin_xor_u32 bin_andNot_u32 bin_eql_u32 bin_neq_u32 bin_lss_u32 bin_leq_u32 bin_gtr_u32 bin_geq_u32 bin_quo_u32 bin_rem_u32 bin_shl_u32_u8 bin_shr_u32_u8 bin_shl_u32_u32 bin_shr_u32_u32 bin_shl_u32_u64 bin_shr_u32_u64 bin_shl_u32_i bin_shr_u32_i bin_add_u64 bin_sub_u64 bin_mul_u64 bin_and_u64 bin_or_u64 bin_xor_u64 bin_andNot_u64 bin_eql_u64 bin_neq_u64 bin_lss_u64 bin_leq_u64 bin_gtr_u64 bin_geq_u64 bin_quo_u64 bin_rem_u64 bin_shl_u64_u8 bin_shr_u64_u8 bin_shl_u64_u32 bin_shr_u64_u32 bin_shl_u64_u64 bin_shr_u64_u64 bin_shl_u64_i bin_shr_u64_i bin_add_i bin_sub_i bin_mul_i bin_and_i bin_or_i bin_xor_i bin_andNot_i bin_eql_i bin_neq_i bin_lss_i bin_leq_i bin_gtr_i bin_geq_i bin_quo_i bin_rem_i bin_shl_i_u8 bin_shr_i_u8 bin_shl_i_u32 bin_shr_i_u32 bin_shl_i_u64 bin_shr_i_u64 bin_shl_i_i bin_shr_i_i bin_eql_str bin_neq_str bin_lss_str bin_leq_str bin_gtr_str bin_geq_str bin_add_str bin_eql_agg bin_neq_agg
attribute [go_sem] dsOf argsE resV resWs resW isCall guardV setG fresh hasE hasM Ob.has V.has W.has L.has W.cells
end Go.Sy
