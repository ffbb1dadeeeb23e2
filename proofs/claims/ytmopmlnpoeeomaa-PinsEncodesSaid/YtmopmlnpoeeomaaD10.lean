/- Regions that draw their order: the reckoning, as rules for simp. -/
import Derived.Test.YtmopmlnpoeeomaaD9
set_option linter.unusedVariables false
set_option linter.unusedSimpArgs false
namespace Go.Sy

section
variable {P : Program} {nt : Nat} {names : List Nat} {ds : List (Option Tmp)} {keep : Bool} {N : List Nat} {D : List Da} {S : St} {K : St → List Da → Prop} {k : List Nat → List Da → St → Prop} {r : List Oper} {o : Oper} {dst : Option Tmp} {ty : TypeId} {pos : String} {af : Array Edge}

def contD (P : Program) (nt : Nat) (names : List Nat) (ds : List (Option Tmp)) (keep : Bool) (r : List Oper) (K : St → List Da → Prop) : List Nat → List Da → St → Prop := fun N D S => runD P nt names ds keep r N D S K
theorem rd_cont : contD P nt names ds keep r K N D S = runD P nt names ds keep r N D S K := rfl
theorem rd_nil : runD P nt names ds keep [] N D S K = K S D := rfl
theorem rd_op (op : Op) : runD P nt names ds keep (⟨dst, op, ty, pos, af, none⟩ :: r) N D S K = onO P nt names ds keep ⟨dst, op, ty, pos, af, none⟩ N D S (contD P nt names ds keep r K) := rfl
theorem rd_guard (op : Op) (g : Nat × Bool) : runD P nt names ds keep (⟨dst, op, ty, pos, af, some g⟩ :: r) N D S K = onG P nt names ds keep ⟨dst, op, ty, pos, af, some g⟩ g N D S (contD P nt names ds keep r K) (guardV S ds g.1 g.2) := rfl
theorem rd_onG (c : Bool) (g : Nat × Bool) : onG P nt names ds keep o g N D S k (some c) = ((c = g.2 → onO P nt names ds keep o N D S k) ∧ (c = (!g.2) → dstOk nt o.dst ∧ k N (D ++ bif keep then [⟨.val (.tup []), (gslot ds o).filterMap S.get, []⟩] else []) ((Eff.val (.tup [])).on o.dst S))) := rfl
theorem rd_onE (e : Eff) : onE nt names ds keep o N D S k (some e) = (nmOk names N e.names = true ∧ dstOk nt o.dst ∧ k (e.names ++ N) (D ++ daOf keep ds S o e) (e.on o.dst S)) := rfl
theorem rd_onO {g : Option (Nat × Bool)} (op : Op) (h : isCall op = false) : onO P nt names ds keep ⟨dst, op, ty, pos, af, g⟩ N D S k = onE nt names ds keep ⟨dst, op, ty, pos, af, g⟩ N D S k (evalE P S dst op) := by
  unfold onO; rw [h]; rfl
theorem rd_onOc {g : Option (Nat × Bool)} (f : Operand) (args : Array Operand) (ts : Array TypeId) : onO P nt names ds keep ⟨dst, .call ⟨.value f, args, ts⟩, ty, pos, af, g⟩ N D S k = onC P nt names ds keep ⟨dst, .call ⟨.value f, args, ts⟩, ty, pos, af, g⟩ N D S k := rfl
theorem ro_move {g : Option (Nat × Bool)} (x : Operand) : onO P nt names ds keep ⟨dst, .move x, ty, pos, af, g⟩ N D S k = onE nt names ds keep ⟨dst, .move x, ty, pos, af, g⟩ N D S k (evalE P S dst (.move x)) := rd_onO _ rfl
theorem ro_assign {g : Option (Nat × Bool)} (x : Operand) : onO P nt names ds keep ⟨dst, .assign x, ty, pos, af, g⟩ N D S k = onE nt names ds keep ⟨dst, .assign x, ty, pos, af, g⟩ N D S k (evalE P S dst (.assign x)) := rd_onO _ rfl
theorem ro_pick {g : Option (Nat × Bool)} (c x y : Operand) : onO P nt names ds keep ⟨dst, .pick c x y, ty, pos, af, g⟩ N D S k = onE nt names ds keep ⟨dst, .pick c x y, ty, pos, af, g⟩ N D S k (evalE P S dst (.pick c x y)) := rd_onO _ rfl
theorem ro_build {g : Option (Nat × Bool)} (t : TypeId) (ps : Array (Nat × Operand)) : onO P nt names ds keep ⟨dst, .build t ps, ty, pos, af, g⟩ N D S k = onE nt names ds keep ⟨dst, .build t ps, ty, pos, af, g⟩ N D S k (evalE P S dst (.build t ps)) := rd_onO _ rfl
theorem ro_load {g : Option (Nat × Bool)} (t : TypeId) (x : Operand) : onO P nt names ds keep ⟨dst, .load t x, ty, pos, af, g⟩ N D S k = onE nt names ds keep ⟨dst, .load t x, ty, pos, af, g⟩ N D S k (evalE P S dst (.load t x)) := rd_onO _ rfl
theorem ro_nilCheck {g : Option (Nat × Bool)} (x : Operand) : onO P nt names ds keep ⟨dst, .nilCheck x, ty, pos, af, g⟩ N D S k = onE nt names ds keep ⟨dst, .nilCheck x, ty, pos, af, g⟩ N D S k (evalE P S dst (.nilCheck x)) := rd_onO _ rfl
theorem ro_binOp {g : Option (Nat × Bool)} (op : BinOp) (t t2 : TypeId) (x y : Operand) : onO P nt names ds keep ⟨dst, .binOp op t x y t2, ty, pos, af, g⟩ N D S k = onE nt names ds keep ⟨dst, .binOp op t x y t2, ty, pos, af, g⟩ N D S k (evalE P S dst (.binOp op t x y t2)) := rd_onO _ rfl
theorem ro_unOp {g : Option (Nat × Bool)} (op : UnOp) (t : TypeId) (x : Operand) : onO P nt names ds keep ⟨dst, .unOp op t x, ty, pos, af, g⟩ N D S k = onE nt names ds keep ⟨dst, .unOp op t x, ty, pos, af, g⟩ N D S k (evalE P S dst (.unOp op t x)) := rd_onO _ rfl
theorem ro_fieldAddr {g : Option (Nat × Bool)} (t : TypeId) (x : Operand) (f : Nat) : onO P nt names ds keep ⟨dst, .fieldAddr t x f, ty, pos, af, g⟩ N D S k = onE nt names ds keep ⟨dst, .fieldAddr t x f, ty, pos, af, g⟩ N D S k (evalE P S dst (.fieldAddr t x f)) := rd_onO _ rfl
theorem ro_indexAddr {g : Option (Nat × Bool)} (t : TypeId) (x i : Operand) : onO P nt names ds keep ⟨dst, .indexAddr t x i, ty, pos, af, g⟩ N D S k = onE nt names ds keep ⟨dst, .indexAddr t x i, ty, pos, af, g⟩ N D S k (evalE P S dst (.indexAddr t x i)) := rd_onO _ rfl
theorem ro_index {g : Option (Nat × Bool)} (t : TypeId) (x i : Operand) : onO P nt names ds keep ⟨dst, .index t x i, ty, pos, af, g⟩ N D S k = onE nt names ds keep ⟨dst, .index t x i, ty, pos, af, g⟩ N D S k (evalE P S dst (.index t x i)) := rd_onO _ rfl
theorem ro_extract {g : Option (Nat × Bool)} (x : Operand) (i : Nat) : onO P nt names ds keep ⟨dst, .extract x i, ty, pos, af, g⟩ N D S k = onE nt names ds keep ⟨dst, .extract x i, ty, pos, af, g⟩ N D S k (evalE P S dst (.extract x i)) := rd_onO _ rfl
theorem ro_slice {g : Option (Nat × Bool)} (t : TypeId) (x : Operand) (lo hi mx : Option Operand) : onO P nt names ds keep ⟨dst, .slice t x lo hi mx, ty, pos, af, g⟩ N D S k = onE nt names ds keep ⟨dst, .slice t x lo hi mx, ty, pos, af, g⟩ N D S k (evalE P S dst (.slice t x lo hi mx)) := rd_onO _ rfl
theorem ro_makeFunc {g : Option (Nat × Bool)} (f : Fn) (a b : Array Operand) : onO P nt names ds keep ⟨dst, .makeFunc f a b, ty, pos, af, g⟩ N D S k = onE nt names ds keep ⟨dst, .makeFunc f a b, ty, pos, af, g⟩ N D S k (evalE P S dst (.makeFunc f a b)) := rd_onO _ rfl
theorem ro_builtin {g : Option (Nat × Bool)} (b : Builtin) (a : Array Operand) (t : Array TypeId) : onO P nt names ds keep ⟨dst, .call ⟨.builtin b, a, t⟩, ty, pos, af, g⟩ N D S k = onE nt names ds keep ⟨dst, .call ⟨.builtin b, a, t⟩, ty, pos, af, g⟩ N D S k (evalE P S dst (.call ⟨.builtin b, a, t⟩)) := rd_onO _ rfl
theorem ro_alloc {g : Option (Nat × Bool)} (t : TypeId) : onO P nt names ds keep ⟨dst, .alloc t, ty, pos, af, g⟩ N D S k = onE nt names ds keep ⟨dst, .alloc t, ty, pos, af, g⟩ N D S k (evalE P S dst (.alloc t)) := rd_onO _ rfl
theorem ro_box {g : Option (Nat × Bool)} (t : TypeId) (x : Operand) : onO P nt names ds keep ⟨dst, .box t x, ty, pos, af, g⟩ N D S k = onE nt names ds keep ⟨dst, .box t x, ty, pos, af, g⟩ N D S k (evalE P S dst (.box t x)) := rd_onO _ rfl
theorem ro_buildSlice {g : Option (Nat × Bool)} (t : TypeId) (n : Nat) (ps : Array (Nat × Operand)) : onO P nt names ds keep ⟨dst, .buildSlice t n ps, ty, pos, af, g⟩ N D S k = onE nt names ds keep ⟨dst, .buildSlice t n ps, ty, pos, af, g⟩ N D S k (evalE P S dst (.buildSlice t n ps)) := rd_onO _ rfl
theorem ro_makeSlice {g : Option (Nat × Bool)} (t : TypeId) (l c : Operand) : onO P nt names ds keep ⟨dst, .makeSlice t l c, ty, pos, af, g⟩ N D S k = onE nt names ds keep ⟨dst, .makeSlice t l c, ty, pos, af, g⟩ N D S k (evalE P S dst (.makeSlice t l c)) := rd_onO _ rfl
theorem ro_convert {g : Option (Nat × Bool)} (a b : TypeId) (x : Operand) : onO P nt names ds keep ⟨dst, .convert a b x, ty, pos, af, g⟩ N D S k = onE nt names ds keep ⟨dst, .convert a b x, ty, pos, af, g⟩ N D S k (evalE P S dst (.convert a b x)) := rd_onO _ rfl
theorem ro_store {g : Option (Nat × Bool)} (t : TypeId) (x y : Operand) : onO P nt names ds keep ⟨dst, .store t x y, ty, pos, af, g⟩ N D S k = onE nt names ds keep ⟨dst, .store t x y, ty, pos, af, g⟩ N D S k (evalE P S dst (.store t x y)) := rd_onO _ rfl
theorem da_false (e : Eff) : daOf false ds S o e = [] := rfl
theorem da_true (e : Eff) : daOf true ds S o e = [⟨e, (gslot ds o ++ o.op.operands.toList).filterMap S.get, nsOf e S.mem⟩] := rfl
theorem dstOk_some (n : Nat) : dstOk nt (some n) = (n < nt) := rfl
theorem dstOk_none : dstOk nt none = True := rfl
theorem on_val (n : Nat) (v : V) (e : List (Nat × V)) (m : List (Nat × Ob)) : (Eff.val v).on (some n) ⟨e, m⟩ = ⟨(n, v) :: e, m⟩ := rfl
theorem on_val0 (v : V) (S : St) : (Eff.val v).on none S = S := rfl
theorem on_new (n : Nat) (v : V) (ms : List (Nat × Ob)) (e : List (Nat × V)) (m : List (Nat × Ob)) : (Eff.new v ms).on (some n) ⟨e, m⟩ = ⟨(n, v) :: e, ms ++ m⟩ := rfl
theorem on_new0 (v : V) (ms : List (Nat × Ob)) (e : List (Nat × V)) (m : List (Nat × Ob)) : (Eff.new v ms).on none ⟨e, m⟩ = ⟨e, ms ++ m⟩ := rfl
theorem on_app (n j : Nat) (v : V) (o : Ob) (e : List (Nat × V)) (m : List (Nat × Ob)) : (Eff.app v j o).on (some n) ⟨e, m⟩ = ⟨(n, v) :: killE j e, (j, o) :: killM j m⟩ := rfl
theorem on_sto (n j : Nat) (v : V) (o : Ob) (e : List (Nat × V)) (m : List (Nat × Ob)) : (Eff.sto v j o).on (some n) ⟨e, m⟩ = ⟨(n, v) :: e, setM m j o⟩ := rfl
theorem on_sto0 (j : Nat) (v : V) (o : Ob) (e : List (Nat × V)) (m : List (Nat × Ob)) : (Eff.sto v j o).on none ⟨e, m⟩ = ⟨e, setM m j o⟩ := rfl
theorem nm_val (v : V) : (Eff.val v).names = [] := rfl
theorem nm_new (v : V) (ms : List (Nat × Ob)) : (Eff.new v ms).names = ms.map (·.1) := rfl
theorem nm_app (v : V) (j : Nat) (o : Ob) : (Eff.app v j o).names = [] := rfl
theorem nm_sto (v : V) (j : Nat) (o : Ob) : (Eff.sto v j o).names = [] := rfl
theorem nm_nil (N : List Nat) : nmOk names N [] = true := rfl

def eV : Option V → Option Eff
  | some v => some (.val v)
  | none => none
def eA (k : Nat) : Option (V × Ob) → Option Eff
  | some r => some (.new r.1 [(k, r.2)])
  | none => none
def eC (k : Nat) (x : Option V) (y : Option (V × Ob)) : Option Eff :=
  match x with
  | some v => some (.val v)
  | none => eA k y
theorem eV_some (v : V) : eV (some v) = some (.val v) := rfl
theorem eA_some (k : Nat) (v : V) (o : Ob) : eA k (some (v, o)) = some (.new v [(k, o)]) := rfl
theorem eC_some (k : Nat) (v : V) (y : Option (V × Ob)) : eC k (some v) y = some (.val v) := rfl
theorem eC_none (k : Nat) (y : Option (V × Ob)) : eC k none y = eA k y := rfl
def e2 (x y : Option V) (f : V → V → Option Eff) : Option Eff :=
  match x, y with
  | some u, some v => f u v
  | _, _ => none
theorem e2_some (u v : V) (f : V → V → Option Eff) : e2 (some u) (some v) f = f u v := rfl

theorem ee_pure {op : Op} (h : ∀ k, allocV P k S op = none) (h1 : evalE P S dst op = match pureV P S op with
    | some v => some (.val v)
    | none => match dst with
      | some k => (allocV P k S op).map fun r => .new r.1 [(k, r.2)]
      | none => none) : evalE P S dst op = eV (pureV P S op) := by
  rw [h1]
  cases pureV P S op with
  | some v => rfl
  | none => cases dst with
    | none => rfl
    | some k => simp only [h, Option.map_none, eV]

theorem ee_move (x : Operand) : evalE P S dst (.move x) = eV (S.get x) := ee_pure (fun _ => rfl) rfl
theorem ee_assign (x : Operand) : evalE P S dst (.assign x) = eV (S.get x) := ee_pure (fun _ => rfl) rfl
theorem ee_pick (c x y : Operand) : evalE P S dst (.pick c x y) = eV (b3 (S.get c) (S.get x) (S.get y)) := by
  rw [ee_pure (fun _ => rfl) rfl]; congr 1
theorem ee_build (t : TypeId) (ps : List (Nat × Operand)) : evalE P S dst (.build t ps.toArray) = eV (buildV P S t ps) := ee_pure (fun _ => rfl) rfl
theorem ee_load (t : TypeId) (x : Operand) : evalE P S dst (.load t x) = eV ((S.get x).bind (loadV P S t)) := ee_pure (fun _ => rfl) rfl
theorem ee_nilCheck (x : Operand) : evalE P S dst (.nilCheck x) = eV ((S.get x).bind nilV) := ee_pure (fun _ => rfl) rfl
theorem ee_binOp (op : BinOp) (t t2 : TypeId) (x y : Operand) : evalE P S dst (.binOp op t x y t2) = eV (b2 (S.get x) (S.get y) (binV P op t)) := by
  rw [ee_pure (fun _ => rfl) rfl]; congr 1
theorem ee_unOp (op : UnOp) (t : TypeId) (x : Operand) : evalE P S dst (.unOp op t x) = eV ((S.get x).bind (unV op)) := ee_pure (fun _ => rfl) rfl
theorem ee_fieldAddr (t : TypeId) (x : Operand) (f : Nat) : evalE P S dst (.fieldAddr t x f) = eV ((S.get x).bind (fieldV P t f)) := ee_pure (fun _ => rfl) rfl
theorem ee_indexAddr (t : TypeId) (x i : Operand) : evalE P S dst (.indexAddr t x i) = eV (b2 (S.get x) (S.get i) (indexAddrV P t)) := by
  rw [ee_pure (fun _ => rfl) rfl]; congr 1
theorem ee_index (t : TypeId) (x i : Operand) : evalE P S dst (.index t x i) = eV (b2 (S.get x) (S.get i) (indexV P t)) := by
  rw [ee_pure (fun _ => rfl) rfl]; congr 1
theorem ee_extract (x : Operand) (i : Nat) : evalE P S dst (.extract x i) = eV ((S.get x).bind fun v => extractV v i) := ee_pure (fun _ => rfl) rfl
theorem ee_slice (t : TypeId) (x : Operand) (lo hi mx : Option Operand) : evalE P S dst (.slice t x lo hi mx) = eV (pureV P S (.slice t x lo hi mx)) := ee_pure (fun _ => rfl) rfl
theorem ee_makeFunc (f : Fn) (a b : Array Operand) : evalE P S dst (.makeFunc f a b) = eV (pureV P S (.makeFunc f a b)) := ee_pure (fun _ => rfl) rfl
theorem ee_len (x : Operand) (t : TypeId) : evalE P S dst (.call ⟨.builtin .len, #[x], #[t]⟩) = eV ((S.get x).bind (lenV P t)) := ee_pure (fun _ => rfl) rfl
theorem ee_min (x y : Operand) (t : Array TypeId) : evalE P S dst (.call ⟨.builtin .min, #[x, y], t⟩) = eV (b2 (S.get x) (S.get y) (minmaxV .min)) := by
  rw [ee_pure (fun _ => rfl) rfl]; congr 1
theorem ee_max (x y : Operand) (t : Array TypeId) : evalE P S dst (.call ⟨.builtin .max, #[x, y], t⟩) = eV (b2 (S.get x) (S.get y) (minmaxV .max)) := by
  rw [ee_pure (fun _ => rfl) rfl]; congr 1
theorem ee_alloc (k : Nat) (t : TypeId) : evalE P S (some k) (.alloc t) = eA k ((zeroC P t).map fun cs => (.w (.one (.p k [])), ⟨false, cs⟩)) := by
  show (allocV P k S _).map _ = _; unfold eA; cases h : zeroC P t <;> simp [allocV, h]
theorem ee_box (k : Nat) (t : TypeId) (x : Operand) : evalE P S (some k) (.box t x) = eA k (boxV k (S.get x)) := by
  show (allocV P k S _).map _ = _
  have : allocV P k S (.box t x) = boxV k (S.get x) := rfl
  rw [this]
  unfold eA; cases boxV k (S.get x) <;> rfl
theorem ee_buildSlice (k : Nat) (t : TypeId) (n : Nat) (ps : List (Nat × Operand)) : evalE P S (some k) (.buildSlice t n ps.toArray) = eA k (allocV P k S (.buildSlice t n ps.toArray)) := by
  show (allocV P k S _).map _ = _; unfold eA; cases allocV P k S (.buildSlice t n ps.toArray) <;> rfl
theorem ee_makeSlice (k : Nat) (t : TypeId) (l c : Operand) : evalE P S (some k) (.makeSlice t l c) = eA k (allocV P k S (.makeSlice t l c)) := by
  show (allocV P k S _).map _ = _; unfold eA; cases allocV P k S (.makeSlice t l c) <;> rfl
theorem ee_convert (k : Nat) (s t : TypeId) (x : Operand) : evalE P S (some k) (.convert s t x) = eC k ((S.get x).bind (convV P S s t)) (allocV P k S (.convert s t x)) := by
  show (match pureV P S (.convert s t x) with | some v => _ | none => _) = _
  unfold eC
  have : pureV P S (.convert s t x) = (S.get x).bind (convV P S s t) := rfl
  rw [this]
  cases (S.get x).bind (convV P S s t) with
  | some v => rfl
  | none => show (allocV P k S _).map _ = _; unfold eA; cases allocV P k S (.convert s t x) <;> rfl
theorem ee_append (k : Nat) (x y : Operand) (t tx : TypeId) : evalE P S (some k) (.call ⟨.builtin .append, #[x, y], #[t, tx]⟩) = e2 (S.get x) (S.get y) (appendE P k S t tx) := by
  show (match S.get x, S.get y with | some u, some v => _ | _, _ => _) = _
  unfold e2; rfl
theorem ee_copy (x y : Operand) (t tx : TypeId) : evalE P S dst (.call ⟨.builtin .copy, #[x, y], #[t, tx]⟩) = e2 (S.get x) (S.get y) (fun u v => copyE (copyV P S t tx u v)) := by
  show (match S.get x, S.get y with | some u, some v => _ | _, _ => _) = _
  unfold e2; rfl
theorem ee_store (t : TypeId) (x y : Operand) : evalE P S none (.store t x y) = e2 (S.get x) (S.get y) (storeE P S t) := by
  simp only [evalE, e2]
  cases S.get x <;> cases S.get y <;> rfl

/-- a call by contract, in such a region -/
theorem call_draw {f : FuncId} {args : List Operand} {ts : Array TypeId} {vs : List V} {g : Option (Nat × Bool)} (nm : Nat → Nat) (X : V) (M : List (Nat × Ob)) (hgo : ∀ vals w, (callFunc f vals).run P w = .ok (.enter f vals) w) (hargs : viewVs S args = some vs) (hc : Ct P f vs (fun v m => v = X ∧ m = M))
    (hr : resOkV M X = true ∧ strictM M = true ∧ nodupB (M.map fun x => nm x.1) = true ∧ nodupB (M.map fun x => x.1) = true)
    (hk : nmOk names N (M.map fun x => nm x.1) = true ∧ dstOk nt dst ∧ k ((M.map fun x => nm x.1) ++ N) (D ++ daOf keep ds S ⟨dst, .call ⟨.value (.func f), args.toArray, ts⟩, ty, pos, af, g⟩ (.new (X.ren nm) (renM nm M))) ((Eff.new (X.ren nm) (renM nm M)).on dst S)) :
    onC P nt names ds keep ⟨dst, .call ⟨.value (.func f), args.toArray, ts⟩, ty, pos, af, g⟩ N D S k := by
  have e : (Eff.new (X.ren nm) (renM nm M)).names = M.map fun x => nm x.1 := by simp [Eff.names, renM, Function.comp_def]
  refine ⟨.new (X.ren nm) (renM nm M), .call rfl hgo hargs hc hr.1 hr.2.1 ?_ (nodupB_ok hr.2.2.2), ?_⟩
  · have := nodupB_ok hr.2.2.1
    rw [show (renM nm M).map (·.1) = M.map fun x => nm x.1 from by simp [renM, Function.comp_def]]; exact this
  · rw [e]; exact hk
end

theorem draw_k {P : Program} {B : Base} {id : Nat} {l : List Oper} {S : St} {Q : Exit → St → Prop} (names c : List Nat) (need : List (Nat × Nat)) (hm : P.follows .mixedOrders = true) (hst : drawOk (dsOf l) c need l = true)
    (hn : names.all (fun k => fresh k S && (look S.mem k).isNone) = true)
    (h : ∀ K : St → List Da → Prop, (∀ S' D, chkD l D need → Q .normal S' → K S' D) → runD P B.nt names (dsOf l) (!need.isEmpty) l [] [] S K) : HT P B (.region id l.toArray true) S Q := HT.draw names c need hm hst hn h

attribute [go_sem] rd_cont rd_nil rd_op rd_guard rd_onG rd_onE rd_onOc ro_move ro_assign ro_pick ro_build ro_load ro_nilCheck ro_binOp ro_unOp ro_fieldAddr ro_indexAddr ro_index ro_extract ro_slice ro_makeFunc ro_builtin ro_alloc ro_box ro_buildSlice ro_makeSlice ro_convert ro_store da_false da_true dstOk_some dstOk_none on_val on_val0 on_new on_new0 on_app on_sto on_sto0 nm_val nm_new nm_app nm_sto nm_nil
  eV_some eA_some eC_some eC_none e2_some ee_move ee_assign ee_pick ee_build ee_load ee_nilCheck ee_binOp ee_unOp ee_fieldAddr ee_indexAddr ee_index ee_extract ee_slice ee_makeFunc ee_len ee_min ee_max ee_alloc ee_box ee_buildSlice ee_makeSlice ee_convert ee_append ee_copy ee_store
attribute [go_sem] nmOk nodupB renM strictM storeE appendE copyE copyV List.map_cons List.map_nil List.all_cons List.all_nil List.contains_cons List.contains_nil List.nil_append List.cons_append List.append_nil Bool.and_self Bool.and_true Bool.true_and List.isEmpty_nil List.isEmpty_cons Option.isNone_none Option.isNone_some
end Go.Sy
