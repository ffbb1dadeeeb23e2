/- The layer that reckons a function out, part 3 of 3: what it says of states, operations, regions, loops, calls. CONDITIONS: those that each theorem names. -/
import Derived.Test.YtbfllkipgfpkkaavE2
import Derived.LoopN
import Derived.ProofKit
import Derived.Below
import Derived.ChangeSame
import Derived.Carry
import Derived.ChangeSlices
import Derived.Lib.SmallJoins
import Derived.Handed
import Derived.Lib.LaidTab
import Derived.LaidLaws
import Derived.KernelRfl
set_option linter.unusedVariables false
set_option linter.unusedSimpArgs false
namespace Go.Sy

section
variable {P : Program} {nt : Nat} {names : List Nat} {ds : List (Option Tmp)} {keep : Bool} {N : List Nat} {D : List Da} {S : St} {K : St → List Da → Prop} {k : List Nat → List Da → St → Prop} {r : List Oper} {o : Oper} {dst : Option Tmp} {ty : TypeId} {pos : String} {af : Array Edge}

def contD (P : Program) (nt : Nat) (names : List Nat) (ds : List (Option Tmp)) (keep : Bool) (r : List Oper) (K : St → List Da → Prop) : List Nat → List Da → St → Prop := fun N D S => runD P nt names ds keep r N D S K
theorem rd_cont : contD P nt names ds keep r K N D S = runD P nt names ds keep r N D S K := rfl
theorem rd_nil : runD P nt names ds keep [] N D S K = K S D := rfl
theorem rd_op (op : Op) : runD P nt names ds keep (⟨dst, op, ty, pos, af, none⟩ :: r) N D S K = onO P nt names ds keep ⟨dst, op, ty, pos, af, none⟩ N D S (contD P nt names ds keep r K) := rfl
theorem rd_guard (op : Op) (g : Nat × Bool) : runD P nt names ds keep (⟨dst, op, ty, pos, af, some g⟩ :: r) N D S K = onG P nt names ds keep ⟨dst, op, ty, pos, af, some g⟩ g N D S (contD P nt names ds keep r K) (guardV S ds g.1 g.2) := rfl
theorem rd_onG (c : Bool) (g : Nat × Bool) : onG P nt names ds keep o g N D S k (some c) = ((c = g.2 → onO P nt names ds keep o N D S k) ∧ (c = (!g.2) → dstOk nt o.dst ∧ k N (D ++ bif keep then [⟨.val (.tup []), (gslot ds o).filterMap S.get, []⟩] else []) ((Eff.val (.tup [])).on o.dst S))) := rfl
theorem rd_onE (e : Eff) : onE nt names ds keep o N D S k (some e) = (nmOk names N e.names = true ∧ dstOk nt o.dst ∧ k (e.names ++ N) (D ++ daOf keep ds S o e) (e.on o.dst S)) := rfl
theorem rd_onO {g : Option (Nat × Bool)} (op : Op) (h : isCall op = false) : onO P nt names ds keep ⟨dst, op, ty, pos, af, g⟩ N D S k = onE nt names ds keep ⟨dst, op, ty, pos, af, g⟩ N D S k (evalE P S dst op) := by
  unfold onO; rw [h]; rfl
theorem rd_onOc {g : Option (Nat × Bool)} (f : Operand) (args : Array Operand) (ts : Array TypeId) : onO P nt names ds keep ⟨dst, .call ⟨.value f, args, ts⟩, ty, pos, af, g⟩ N D S k = onC P nt names ds keep ⟨dst, .call ⟨.value f, args, ts⟩, ty, pos, af, g⟩ N D S k := rfl
theorem ro_move {g : Option (Nat × Bool)} (x : Operand) : onO P nt names ds keep ⟨dst, .move x, ty, pos, af, g⟩ N D S k = onE nt names ds keep ⟨dst, .move x, ty, pos, af, g⟩ N D S k (evalE P S dst (.move x)) := rd_onO _ rfl
theorem ro_assign {g : Option (Nat × Bool)} (x : Operand) : onO P nt names ds keep ⟨dst, .assign x, ty, pos, af, g⟩ N D S k = onE nt names ds keep ⟨dst, .assign x, ty, pos, af, g⟩ N D S k (evalE P S dst (.assign x)) := rd_onO _ rfl
theorem ro_pick {g : Option (Nat × Bool)} (c x y : Operand) : onO P nt names ds keep ⟨dst, .pick c x y, ty, pos, af, g⟩ N D S k = onE nt names ds keep ⟨dst, .pick c x y, ty, pos, af, g⟩ N D S k (evalE P S dst (.pick c x y)) := rd_onO _ rfl
theorem ro_build {g : Option (Nat × Bool)} (t : TypeId) (ps : Array (Nat × Operand)) : onO P nt names ds keep ⟨dst, .build t ps, ty, pos, af, g⟩ N D S k = onE nt names ds keep ⟨dst, .build t ps, ty, pos, af, g⟩ N D S k (evalE P S dst (.build t ps)) := rd_onO _ rfl
theorem ro_load {g : Option (Nat × Bool)} (t : TypeId) (x : Operand) : onO P nt names ds keep ⟨dst, .load t x, ty, pos, af, g⟩ N D S k = onE nt names ds keep ⟨dst, .load t x, ty, pos, af, g⟩ N D S k (evalE P S dst (.load t x)) := rd_onO _ rfl
theorem ro_nilCheck {g : Option (Nat × Bool)} (x : Operand) : onO P nt names ds keep ⟨dst, .nilCheck x, ty, pos, af, g⟩ N D S k = onE nt names ds keep ⟨dst, .nilCheck x, ty, pos, af, g⟩ N D S k (evalE P S dst (.nilCheck x)) := rd_onO _ rfl
theorem ro_binOp {g : Option (Nat × Bool)} (op : BinOp) (t t2 : TypeId) (x y : Operand) : onO P nt names ds keep ⟨dst, .binOp op t x y t2, ty, pos, af, g⟩ N D S k = onE nt names ds keep ⟨dst, .binOp op t x y t2, ty, pos, af, g⟩ N D S k (evalE P S dst (.binOp op t x y t2)) := rd_onO _ rfl
theorem ro_unOp {g : Option (Nat × Bool)} (op : UnOp) (t : TypeId) (x : Operand) : onO P nt names ds keep ⟨dst, .unOp op t x, ty, pos, af, g⟩ N D S k = onE nt names ds keep ⟨dst, .unOp op t x, ty, pos, af, g⟩ N D S k (evalE P S dst (.unOp op t x)) := rd_onO _ rfl
theorem ro_fieldAddr {g : Option (Nat × Bool)} (t : TypeId) (x : Operand) (f : Nat) : onO P nt names ds keep ⟨dst, .fieldAddr t x f, ty, pos, af, g⟩ N D S k = onE nt names ds keep ⟨dst, .fieldAddr t x f, ty, pos, af, g⟩ N D S k (evalE P S dst (.fieldAddr t x f)) := rd_onO _ rfl
theorem ro_indexAddr {g : Option (Nat × Bool)} (t : TypeId) (x i : Operand) : onO P nt names ds keep ⟨dst, .indexAddr t x i, ty, pos, af, g⟩ N D S k = onE nt names ds keep ⟨dst, .indexAddr t x i, ty, pos, af, g⟩ N D S k (evalE P S dst (.indexAddr t x i)) := rd_onO _ rfl
theorem ro_slice {g : Option (Nat × Bool)} (t : TypeId) (x : Operand) (lo hi mx : Option Operand) : onO P nt names ds keep ⟨dst, .slice t x lo hi mx, ty, pos, af, g⟩ N D S k = onE nt names ds keep ⟨dst, .slice t x lo hi mx, ty, pos, af, g⟩ N D S k (evalE P S dst (.slice t x lo hi mx)) := rd_onO _ rfl
theorem ro_builtin {g : Option (Nat × Bool)} (b : Builtin) (a : Array Operand) (t : Array TypeId) : onO P nt names ds keep ⟨dst, .call ⟨.builtin b, a, t⟩, ty, pos, af, g⟩ N D S k = onE nt names ds keep ⟨dst, .call ⟨.builtin b, a, t⟩, ty, pos, af, g⟩ N D S k (evalE P S dst (.call ⟨.builtin b, a, t⟩)) := rd_onO _ rfl
theorem ro_alloc {g : Option (Nat × Bool)} (t : TypeId) : onO P nt names ds keep ⟨dst, .alloc t, ty, pos, af, g⟩ N D S k = onE nt names ds keep ⟨dst, .alloc t, ty, pos, af, g⟩ N D S k (evalE P S dst (.alloc t)) := rd_onO _ rfl
theorem ro_buildSlice {g : Option (Nat × Bool)} (t : TypeId) (n : Nat) (ps : Array (Nat × Operand)) : onO P nt names ds keep ⟨dst, .buildSlice t n ps, ty, pos, af, g⟩ N D S k = onE nt names ds keep ⟨dst, .buildSlice t n ps, ty, pos, af, g⟩ N D S k (evalE P S dst (.buildSlice t n ps)) := rd_onO _ rfl
theorem ro_store {g : Option (Nat × Bool)} (t : TypeId) (x y : Operand) : onO P nt names ds keep ⟨dst, .store t x y, ty, pos, af, g⟩ N D S k = onE nt names ds keep ⟨dst, .store t x y, ty, pos, af, g⟩ N D S k (evalE P S dst (.store t x y)) := rd_onO _ rfl
theorem da_false (e : Eff) : daOf false ds S o e = [] := rfl
theorem da_true (e : Eff) : daOf true ds S o e = [⟨e, (gslot ds o ++ o.op.operands.toList).filterMap S.get, nsOf e S.mem⟩] := rfl
theorem dstOk_some (n : Nat) : dstOk nt (some n) = (n < nt) := rfl
theorem dstOk_none : dstOk nt none = True := rfl
theorem on_val (n : Nat) (v : V) (e : List (Nat × V)) (m : List (Nat × Ob)) : (Eff.val v).on (some n) ⟨e, m⟩ = ⟨(n, v) :: e, m⟩ := rfl
theorem on_val0 (v : V) (S : St) : (Eff.val v).on none S = S := rfl
theorem on_new (n : Nat) (v : V) (ms : List (Nat × Ob)) (e : List (Nat × V)) (m : List (Nat × Ob)) : (Eff.new v ms).on (some n) ⟨e, m⟩ = ⟨(n, v) :: e, ms ++ m⟩ := rfl
theorem on_new0 (v : V) (ms : List (Nat × Ob)) (e : List (Nat × V)) (m : List (Nat × Ob)) : (Eff.new v ms).on none ⟨e, m⟩ = ⟨e, ms ++ m⟩ := rfl
theorem on_app (n j : Nat) (v : V) (o : Ob) (e : List (Nat × V)) (m : List (Nat × Ob)) : (Eff.app v j o).on (some n) ⟨e, m⟩ = ⟨(n, v) :: killE j e, (j, o) :: killM j m⟩ := rfl
theorem on_sto (n j : Nat) (v : V) (o : Ob) (e : List (Nat × V)) (m : List (Nat × Ob)) : (Eff.sto v j o).on (some n) ⟨e, m⟩ = ⟨(n, v) :: e, setM m j o⟩ := rfl
theorem on_sto0 (j : Nat) (v : V) (o : Ob) (e : List (Nat × V)) (m : List (Nat × Ob)) : (Eff.sto v j o).on none ⟨e, m⟩ = ⟨e, setM m j o⟩ := rfl
theorem nm_val (v : V) : (Eff.val v).names = [] := rfl
theorem nm_new (v : V) (ms : List (Nat × Ob)) : (Eff.new v ms).names = ms.map (·.1) := rfl
theorem nm_app (v : V) (j : Nat) (o : Ob) : (Eff.app v j o).names = [] := rfl
theorem nm_sto (v : V) (j : Nat) (o : Ob) : (Eff.sto v j o).names = [] := rfl
theorem nm_nil (N : List Nat) : nmOk names N [] = true := rfl

def eV : Option V → Option Eff
  | some v => some (.val v)
  | none => none
def eA (k : Nat) : Option (V × Ob) → Option Eff
  | some r => some (.new r.1 [(k, r.2)])
  | none => none
def eC (k : Nat) (x : Option V) (y : Option (V × Ob)) : Option Eff :=
  match x with
  | some v => some (.val v)
  | none => eA k y
theorem eV_some (v : V) : eV (some v) = some (.val v) := rfl
theorem eA_some (k : Nat) (v : V) (o : Ob) : eA k (some (v, o)) = some (.new v [(k, o)]) := rfl
theorem eC_some (k : Nat) (v : V) (y : Option (V × Ob)) : eC k (some v) y = some (.val v) := rfl
theorem eC_none (k : Nat) (y : Option (V × Ob)) : eC k none y = eA k y := rfl
def e2 (x y : Option V) (f : V → V → Option Eff) : Option Eff :=
  match x, y with
  | some u, some v => f u v
  | _, _ => none
theorem e2_some (u v : V) (f : V → V → Option Eff) : e2 (some u) (some v) f = f u v := rfl

theorem ee_pure {op : Op} (h : ∀ k, allocV P k S op = none) (h1 : evalE P S dst op = match pureV P S op with
    | some v => some (.val v)
    | none => match dst with
      | some k => (allocV P k S op).map fun r => .new r.1 [(k, r.2)]
      | none => none) : evalE P S dst op = eV (pureV P S op) := by
  rw [h1]
  cases pureV P S op with
  | some v => rfl
  | none => cases dst with
    | none => rfl
    | some k => simp only [h, Option.map_none, eV]

theorem ee_move (x : Operand) : evalE P S dst (.move x) = eV (S.get x) := ee_pure (fun _ => rfl) rfl
theorem ee_assign (x : Operand) : evalE P S dst (.assign x) = eV (S.get x) := ee_pure (fun _ => rfl) rfl
theorem ee_pick (c x y : Operand) : evalE P S dst (.pick c x y) = eV (b3 (S.get c) (S.get x) (S.get y)) := by
  rw [ee_pure (fun _ => rfl) rfl]; congr 1
theorem ee_build (t : TypeId) (ps : List (Nat × Operand)) : evalE P S dst (.build t ps.toArray) = eV (buildV P S t ps) := ee_pure (fun _ => rfl) rfl
theorem ee_load (t : TypeId) (x : Operand) : evalE P S dst (.load t x) = eV ((S.get x).bind (loadV P S t)) := ee_pure (fun _ => rfl) rfl
theorem ee_nilCheck (x : Operand) : evalE P S dst (.nilCheck x) = eV ((S.get x).bind nilV) := ee_pure (fun _ => rfl) rfl
theorem ee_binOp (op : BinOp) (t t2 : TypeId) (x y : Operand) : evalE P S dst (.binOp op t x y t2) = eV (b2 (S.get x) (S.get y) (binV P op t)) := by
  rw [ee_pure (fun _ => rfl) rfl]; congr 1
theorem ee_unOp (op : UnOp) (t : TypeId) (x : Operand) : evalE P S dst (.unOp op t x) = eV ((S.get x).bind (unV op)) := ee_pure (fun _ => rfl) rfl
theorem ee_fieldAddr (t : TypeId) (x : Operand) (f : Nat) : evalE P S dst (.fieldAddr t x f) = eV ((S.get x).bind (fieldV P t f)) := ee_pure (fun _ => rfl) rfl
theorem ee_indexAddr (t : TypeId) (x i : Operand) : evalE P S dst (.indexAddr t x i) = eV (b2 (S.get x) (S.get i) (indexAddrV P t)) := by
  rw [ee_pure (fun _ => rfl) rfl]; congr 1
theorem ee_slice (t : TypeId) (x : Operand) (lo hi mx : Option Operand) : evalE P S dst (.slice t x lo hi mx) = eV (pureV P S (.slice t x lo hi mx)) := ee_pure (fun _ => rfl) rfl
theorem ee_len (x : Operand) (t : TypeId) : evalE P S dst (.call ⟨.builtin .len, #[x], #[t]⟩) = eV ((S.get x).bind (lenV P t)) := ee_pure (fun _ => rfl) rfl
theorem ee_min (x y : Operand) (t : Array TypeId) : evalE P S dst (.call ⟨.builtin .min, #[x, y], t⟩) = eV (b2 (S.get x) (S.get y) (minmaxV .min)) := by
  rw [ee_pure (fun _ => rfl) rfl]; congr 1
theorem ee_max (x y : Operand) (t : Array TypeId) : evalE P S dst (.call ⟨.builtin .max, #[x, y], t⟩) = eV (b2 (S.get x) (S.get y) (minmaxV .max)) := by
  rw [ee_pure (fun _ => rfl) rfl]; congr 1
theorem ee_alloc (k : Nat) (t : TypeId) : evalE P S (some k) (.alloc t) = eA k ((zeroC P t).map fun cs => (.w (.one (.p k [])), ⟨false, cs⟩)) := by
  show (allocV P k S _).map _ = _; unfold eA; cases h : zeroC P t <;> simp [allocV, h]
theorem ee_buildSlice (k : Nat) (t : TypeId) (n : Nat) (ps : List (Nat × Operand)) : evalE P S (some k) (.buildSlice t n ps.toArray) = eA k (allocV P k S (.buildSlice t n ps.toArray)) := by
  show (allocV P k S _).map _ = _; unfold eA; cases allocV P k S (.buildSlice t n ps.toArray) <;> rfl
theorem ee_append (k : Nat) (x y : Operand) (t tx : TypeId) : evalE P S (some k) (.call ⟨.builtin .append, #[x, y], #[t, tx]⟩) = e2 (S.get x) (S.get y) (appendE P k S t tx) := by
  show (match S.get x, S.get y with | some u, some v => _ | _, _ => _) = _
  unfold e2; rfl
theorem ee_store (t : TypeId) (x y : Operand) : evalE P S none (.store t x y) = e2 (S.get x) (S.get y) (storeE P S t) := by
  simp only [evalE, e2]
  cases S.get x <;> cases S.get y <;> rfl

theorem call_draw {f : FuncId} {args : List Operand} {ts : Array TypeId} {vs : List V} {g : Option (Nat × Bool)} (nm : Nat → Nat) (X : V) (M : List (Nat × Ob)) (hgo : ∀ vals w, (callFunc f vals).run P w = .ok (.enter f vals) w) (hargs : viewVs S args = some vs) (hc : Ct P f vs (fun v m => v = X ∧ m = M))
    (hr : resOkV M X = true ∧ strictM M = true ∧ nodupB (M.map fun x => nm x.1) = true ∧ nodupB (M.map fun x => x.1) = true)
    (hk : nmOk names N (M.map fun x => nm x.1) = true ∧ dstOk nt dst ∧ k ((M.map fun x => nm x.1) ++ N) (D ++ daOf keep ds S ⟨dst, .call ⟨.value (.func f), args.toArray, ts⟩, ty, pos, af, g⟩ (.new (X.ren nm) (renM nm M))) ((Eff.new (X.ren nm) (renM nm M)).on dst S)) :
    onC P nt names ds keep ⟨dst, .call ⟨.value (.func f), args.toArray, ts⟩, ty, pos, af, g⟩ N D S k := by
  have e : (Eff.new (X.ren nm) (renM nm M)).names = M.map fun x => nm x.1 := by simp [Eff.names, renM, Function.comp_def]
  refine ⟨.new (X.ren nm) (renM nm M), .call rfl hgo hargs hc hr.1 hr.2.1 ?_ (nodupB_ok hr.2.2.2), ?_⟩
  · have := nodupB_ok hr.2.2.1
    rw [show (renM nm M).map (·.1) = M.map fun x => nm x.1 from by simp [renM, Function.comp_def]]; exact this
  · rw [e]; exact hk
theorem call_drawh {f : FuncId} {args : List Operand} {ts : Array TypeId} {vs : List V} {g : Option (Nat × Bool)} {G : List (Nat × Ob)} (vw : Bool) (nm : Nat → Nat) (X : V) (M : List (Nat × Ob)) (hgo : ∀ vals w, (callFunc f vals).run P w = .ok (.enter f vals) w) (hargs : valsIn vw S [] args = some vs) (hG : handOk S [] G) (hGf : G.all (fun x => fixO x.2) = true) (hc : CtM P f vs G (fun v m => v = X ∧ m = M))
    (hr : leafOutV vw M X = true ∧ strictM M = true ∧ nodupB (M.map fun x => nm x.1) = true ∧ nodupB (M.map fun x => x.1) = true)
    (hk : nmOk names N (M.map fun x => nm x.1) = true ∧ dstOk nt dst ∧ k ((M.map fun x => nm x.1) ++ N) (D ++ daOf keep ds S ⟨dst, .call ⟨.value (.func f), args.toArray, ts⟩, ty, pos, af, g⟩ (.new (X.ren (outN nm [])) (renM nm M))) ((Eff.new (X.ren (outN nm [])) (renM nm M)).on dst S)) :
    onC P nt names ds keep ⟨dst, .call ⟨.value (.func f), args.toArray, ts⟩, ty, pos, af, g⟩ N D S k := by
  have e : (Eff.new (X.ren (outN nm [])) (renM nm M)).names = M.map fun x => nm x.1 := by simp [Eff.names, renM, Function.comp_def]
  refine ⟨.new (X.ren (outN nm [])) (renM nm M), .gcall rfl hgo hargs hG hGf hc hr.1 hr.2.1 ?_ (nodupB_ok hr.2.2.2), ?_⟩
  · have := nodupB_ok hr.2.2.1
    rw [show (renM nm M).map (·.1) = M.map fun x => nm x.1 from by simp [renM, Function.comp_def]]; exact this
  · rw [e]; exact hk
def hangB (S : St) (hd : Hand) (caps : List Nat) : Bool := hd.all fun x => caps.contains x.2 || caps.any fun c => match look S.mem c with
  | some ob => ob.has x.2
  | none => false
theorem hangB_ok {S : St} {hd : Hand} {caps : List Nat} (h : hangB S hd caps = true) {k j : Nat} (hk : look hd k = some j) : j ∈ caps ∨ ∃ c ∈ caps, ∃ ob, look S.mem c = some ob ∧ ob.has j = true := by
  have := List.all_eq_true.mp h (k, j) (look_memL hk)
  simp only [Bool.or_eq_true, List.contains_iff_mem, List.any_eq_true] at this
  rcases this with h1 | ⟨c, hc, h1⟩
  · exact .inl h1
  · right
    cases ho : look S.mem c with
    | none => rw [ho] at h1; cases h1
    | some ob => rw [ho] at h1; exact ⟨c, hc, ob, ho, h1⟩
theorem call_drawhf {f : FuncId} {args : List Operand} {ts : Array TypeId} {vs : List V} {t : Tmp} {caps ks : List Nat} {g : Option (Nat × Bool)} {m : List (Nat × Ob)} (hkp : keep = false) (hd : Hand) (X : V) (hfn : S.get (.tmp t) = some (.w (.one (.fn f caps)))) (hcp : capsIn hd caps = some ks) (hgo : ∀ vals w, (callFunc f vals).run P w = .ok (.enter f vals) w) (hargs : valsIn false S hd args = some vs) (hok : hdOk hd = true) (hm : handOk S hd m) (hh : hangB S hd caps = true) (hml : m.all (fun x => decide (500000 ≤ x.1) && decide (x.1 < 1000000)) = true)
    (hc : CtM P f (vs ++ ks.map fun k => .w (.one (.p k []))) m (fun v m' => v = X ∧ m' = m)) (hr : leafOutV false m X = true) (hX : X.ren (outN (fun k => k) hd) = X ∧ ∀ k, X.has k = false) (hou : ∀ S', outOk false (fun k => k) hd S' m m m) (hall : hd.all (fun x => (look m x.1).isSome) = true)
    (hk : dstOk nt dst ∧ k N (D ++ daOf keep ds S ⟨dst, .call ⟨.value (.tmp t), args.toArray, ts⟩, ty, pos, af, g⟩ (.val X)) ((Eff.val X).on dst S)) :
    onC P nt names ds keep ⟨dst, .call ⟨.value (.tmp t), args.toArray, ts⟩, ty, pos, af, g⟩ N D S k :=
  ⟨.val X, .hcall (by rw [hkp]; rfl) rfl hgo hfn hcp hargs hok hm (fun _ _ h => hangB_ok hh h) hml hc hr hX.1 hX.2 hou hall, rfl, hk.1, hk.2⟩
end

theorem draw_k {P : Program} {B : Base} {id : Nat} {l : List Oper} {S : St} {Q : Exit → St → Prop} (names c : List Nat) (need : List (Nat × Nat)) (hm : P.follows .mixedOrders = true) (hst : drawOk (dsOf l) c need l = true)
    (hn : names.all (fun k => fresh k S && (look S.mem k).isNone) = true)
    (h : ∀ K : St → List Da → Prop, (∀ S' D, chkD l D need → Q .normal S' → K S' D) → runD P B.nt names (dsOf l) (!need.isEmpty) l [] [] S K) : HT P B (.region id l.toArray true) S Q := HT.draw names c need hm hst hn h

attribute [go_sem] rd_cont rd_nil rd_op rd_guard rd_onG rd_onE rd_onOc ro_move ro_assign ro_pick ro_build ro_load ro_nilCheck ro_binOp ro_unOp ro_fieldAddr ro_indexAddr ro_slice ro_builtin ro_alloc ro_buildSlice ro_store da_false da_true dstOk_some dstOk_none on_val on_val0 on_new on_new0 on_app on_sto on_sto0 nm_val nm_new nm_app nm_sto nm_nil eV_some eA_some eC_some eC_none e2_some ee_move ee_assign ee_pick ee_build ee_load ee_nilCheck ee_binOp ee_unOp ee_fieldAddr ee_indexAddr ee_slice ee_len ee_min ee_max ee_alloc ee_buildSlice ee_append ee_store
attribute [go_sem] nmOk nodupB renM strictM storeE appendE copyE copyV List.map_cons List.map_nil List.all_cons List.all_nil List.contains_cons List.contains_nil List.nil_append List.cons_append List.append_nil Bool.and_self Bool.and_true Bool.true_and List.isEmpty_nil List.isEmpty_cons Option.isNone_none Option.isNone_some
end Go.Sy

namespace Go.Sy

def leX {α : Type} (ks : List Nat) (e : List (Nat × α)) : List (Nat × α) → Prop
  | [] => True
  | x :: r => (if ks.contains x.1 = true then True else look e x.1 = some x.2) ∧ leX (x.1 :: ks) e r

theorem leX_look {α : Type} {e : List (Nat × α)} : ∀ {l : List (Nat × α)} {ks : List Nat}, leX ks e l → ∀ {n : Nat} {v : α}, n ∉ ks → look l n = some v → look e n = some v
  | [], _, _, _, _, _, h => by cases h
  | x :: r, ks, h, n, v, hn, hl => by
    simp only [look] at hl
    split at hl
    · rename_i en; cases hl; subst en
      have := h.1
      rw [if_neg (by simpa using hn)] at this; exact this
    · rename_i en
      exact leX_look h.2 (by simp only [List.mem_cons, not_or]; exact ⟨en, hn⟩) hl

theorem Le.ofX {B : Base} {S S' : St} (he : leX [] S.env S'.env) (hm : leX [] S.mem S'.mem) : Le B S S' := by
  intro d a w h
  have hsome : ∀ j, (look S'.mem j).isSome = true → (look S.mem j).isSome = true := by
    intro j hj
    cases ho : look S'.mem j with
    | none => simp [ho] at hj
    | some o => rw [leX_look hm (by simp) ho]; rfl
  exact ⟨d, h.defers, h.nt, fun n v hv => h.env n v (leX_look he (by simp) hv), fun k o hk => h.mem k o (leX_look hm (by simp) hk), fun k k' h1 h2 => h.inj k k' (hsome _ h1) (hsome _ h2), fun k hk => h.own k (hsome _ hk), h.ro, h.old, h.os, h.tape, h.output, h.size, h.block, h.gat, fun k o hk => h.glob k o (leX_look hm (by simp) hk), fun k o p hk => h.fix k o p (leX_look hm (by simp) hk), h.fxn⟩

section
variable {P : Program} {B : Base} {S : St} {Q : Exit → St → Prop}
theorem loop_k {x : Code} {ι : Type} (e : ι → List (Nat × V)) (m : ι → List (Nat × Ob)) (μ : ι → Nat) (i₀ : ι) (h0 : leX [] S.env (e i₀ ++ S.env)) (h1 : leX [] S.mem (m i₀ ++ S.mem))
    (round : ∀ i, ∀ (N : St → Prop) (M : Exit → St → Prop), (∀ j S', μ j < μ i → leX [] S'.env (e j ++ S.env) → leX [] S'.mem (m j ++ S.mem) → N S') → (∀ e S', Q e S' → M e S') → HT P B x ⟨e i ++ S.env, m i ++ S.mem⟩ (thenQ N M)) : HT P B (.loop x) S Q := by
  refine HT.loop (fun i => ⟨e i ++ S.env, m i ++ S.mem⟩) μ i₀ (Le.ofX h0 h1) fun i => ?_
  exact round i _ Q (fun j S' hj he hm => ⟨j, hj, Le.ofX he hm⟩) (fun _ _ h => h)

def rnd (P : Program) (B : Base) (x : Code) (Q : Exit → St → Prop) : Nat → St → Prop
  | 0, _ => False
  | n + 1, S => HT P B x S (thenQ (rnd P B x Q n) Q)

theorem rnd_ok {x : Code} : ∀ {n : Nat} {S : St} {d : Va} {a : Act} {w : World}, rnd P B x Q n S → Sim B d S a w → Code.rounds P x (fun e a' w' => ∃ S' d', Q e S' ∧ Sim B d' S' a' w') n a w
  | 0, _, _, _, _, h, _ => h.elim
  | n + 1, S, d, a, w, h, hs => by
    rw [rounds_succ]
    refine Code.wp_mono ?_ (h d a w hs)
    rintro e a' w' ⟨S', d', hq, hs'⟩
    cases e <;> first | exact rnd_ok hq hs' | exact ⟨S', d', hq, hs'⟩

theorem rounds_k {x : Code} (n : Nat) (h : rnd P B x Q n S) : HT P B (.loop x) S Q := fun d a w hs => wp_loop_rounds n (rnd_ok h hs)

theorem rnd_k {x : Code} {n : Nat} (h : ∀ (N : St → Prop) (M : Exit → St → Prop), (∀ S', rnd P B x Q n S' → N S') → (∀ e S', Q e S' → M e S') → HT P B x S (thenQ N M)) : rnd P B x Q (n + 1) S := h _ Q (fun _ h => h) (fun _ _ h => h)
end

def fgt {α : Type} (ks : List Nat) : List (Nat × α) → List (Nat × α)
  | [] => []
  | x :: r => if ks.contains x.1 = true then fgt ks r else x :: fgt ks r
theorem look_fgt {α : Type} {ks : List Nat} : ∀ {l : List (Nat × α)} {n : Nat} {v : α}, look (fgt ks l) n = some v → look l n = some v
  | [], _, _, h => by cases h
  | x :: r, n, v, h => by
    have key : ∀ {l : List (Nat × α)} {n : Nat} {v : α}, look (fgt ks l) n = some v → ks.contains n = false := by
      intro l
      induction l with
      | nil => intro n v h; cases h
      | cons y l ih =>
        intro n v h
        simp only [fgt] at h
        split at h
        · exact ih h
        · rename_i hc
          simp only [look] at h
          split at h
          · rename_i e; subst e; simpa using hc
          · exact ih h
    simp only [fgt] at h
    simp only [look]
    split at h
    · rename_i hc
      have := key h
      rw [if_neg (fun e => by subst e; rw [hc] at this; cases this)]
      exact look_fgt h
    · simp only [look] at h
      by_cases e : n = x.1
      · rw [if_pos e] at h ⊢; exact h
      · rw [if_neg e] at h ⊢; exact look_fgt h
def St.forget (ks : List Nat) (S : St) : St := ⟨fgt ks S.env, fgt ks S.mem⟩
theorem Le.forget {B : Base} (ks : List Nat) (S : St) : Le B S (S.forget ks) := by
  intro d a w h
  have hsome : ∀ j, (look (fgt ks S.mem) j).isSome = true → (look S.mem j).isSome = true := by
    intro j hj
    cases ho : look (fgt ks S.mem) j with
    | none => simp [ho] at hj
    | some o => rw [look_fgt ho]; rfl
  exact ⟨d, h.defers, h.nt, fun n v hv => h.env n v (look_fgt hv), fun k o hk => h.mem k o (look_fgt hk), fun k k' h1 h2 => h.inj k k' (hsome _ h1) (hsome _ h2), fun k hk => h.own k (hsome _ hk), h.ro, h.old, h.os, h.tape, h.output, h.size, h.block, h.gat, fun k o hk => h.glob k o (look_fgt hk), fun k o p hk => h.fix k o p (look_fgt hk), h.fxn⟩
theorem rnd_forget {P : Program} {B : Base} {Q : Exit → St → Prop} {S : St} {x : Code} (ks : List Nat) : ∀ {n : Nat}, rnd P B x Q n (S.forget ks) → rnd P B x Q n S
  | 0, h => h
  | _ + 1, h => HT.le (Le.forget ks S) h
theorem w64 {n : Int} (h : -9223372036854775808 ≤ n ∧ n ≤ 9223372036854775807) : Go.RowKit.wrap64 n = n := by unfold Go.RowKit.wrap64; omega

def byteRows (bs : List UInt8) : List (List PL) := bs.map fun b => [PL.u8 b]
theorem bytesL_nil : bytesL [] = some [] := rfl
theorem maxLen_eq : maxLen = 9223372036854775807 := rfl
theorem rep_flat {α : Type} (n : Nat) (z : List α) : (List.replicate (n + 1) z).flatten = z ++ (List.replicate n z).flatten := by simp [List.replicate_succ]
theorem rep_flat0 {α : Type} (z : List α) : (List.replicate 0 z).flatten = [] := rfl
theorem pls_bytes (l : List UInt8) : pls (l.map .u8) = bytesC l := by simp [pls, bytesC, Function.comp_def]

theorem pls_append (a b : List PL) : pls (a ++ b) = pls a ++ pls b := by simp [pls]
theorem pls_cons (a : PL) (b : List PL) : pls (a :: b) = .pl a :: pls b := rfl
theorem pls_nil : pls [] = [] := rfl
def optCons {α : Type} : Option α → List α → List α
  | some v, l => v :: l
  | none, l => l
theorem optCons_some {α : Type} (v : α) (l : List α) : optCons (some v) l = v :: l := rfl
theorem optCons_none {α : Type} (l : List α) : optCons none l = l := rfl
theorem fm_cons (S : St) (x : Operand) (r : List Operand) : (x :: r).filterMap S.get = optCons (S.get x) (r.filterMap S.get) := by
  rw [List.filterMap_cons]; cases S.get x <;> rfl
theorem fm_nil (S : St) : ([] : List Operand).filterMap S.get = [] := rfl
theorem mut_val (v : V) : (Eff.val v).mut = false := rfl
theorem mut_new (v : V) (m : List (Nat × Ob)) : (Eff.new v m).mut = false := rfl
theorem mut_app (v : V) (j : Nat) (o : Ob) : (Eff.app v j o).mut = true := rfl
theorem mut_sto (v : V) (j : Nat) (o : Ob) : (Eff.sto v j o).mut = true := rfl
theorem ns_val (v : V) (m : List (Nat × Ob)) : nsOf (.val v) m = [] := rfl
theorem ns_new (v : V) (x m : List (Nat × Ob)) : nsOf (.new v x) m = [] := rfl
theorem ns_sto (v : V) (j : Nat) (o : Ob) (m : List (Nat × Ob)) : nsOf (.sto v j o) m = [] := rfl
def nsC (j : Nat) : List (Nat × Ob) → List Nat
  | [] => []
  | x :: r => if (x.1 != j && x.2.has j) = true then x.1 :: nsC j r else nsC j r
theorem ns_app (v : V) (j : Nat) (o : Ob) (m : List (Nat × Ob)) : nsOf (.app v j o) m = nsC j m := by
  simp only [nsOf]
  induction m with
  | nil => rfl
  | cons x r ih =>
    rw [List.filter_cons]; simp only [nsC]
    split
    · rw [List.map_cons, ih]
    · exact ih
theorem td_val (m : Bool × Bool) (v : V) (rv : List V) (ns : List Nat) (b : Da) : touchD m ⟨.val v, rv, ns⟩ b = True := rfl
theorem td_new (m : Bool × Bool) (v : V) (x : List (Nat × Ob)) (rv : List V) (ns : List Nat) (b : Da) : touchD m ⟨.new v x, rv, ns⟩ b = True := rfl
theorem td_sto (m : Bool × Bool) (v : V) (k : Nat) (o : Ob) (rv : List V) (ns : List Nat) (b : Da) : touchD m ⟨.sto v k o, rv, ns⟩ b = (m.1 = true → b.rv.all (fun v => !v.has k) = true ∨ (m.2 = true ∧ awayE k b.e)) := rfl
theorem td_app (m : Bool × Bool) (v : V) (j : Nat) (o : Ob) (rv : List V) (ns : List Nat) (b : Da) : touchD m ⟨.app v j o, rv, ns⟩ b = (b.rv.all (fun v => !v.has j && noUV v) = true ∧ b.e.free j = true ∧ (m.1 = true → b.rv.all (fun v => ns.all fun k => !v.has k) = true)) := rfl
theorem chk_nil (l : List Oper) (D : List Da) : chkD l D [] = True := rfl
theorem chk_cons (l : List Oper) (D : List Da) (p : Nat × Nat) (r : List (Nat × Nat)) : chkD l D (p :: r) = (atD (l[p.1]?.map fun o => (memOp o.op, stoOp o.op)) (l[p.2]?.map fun o => (memOp o.op, stoOp o.op)) D[p.1]? D[p.2]? ∧ chkD l D r) := rfl
theorem atD_some (x y : Bool × Bool) (a b : Da) : atD (some x) (some y) (some a) (some b) = ((a.e.mut = false ∨ b.e.mut = false ∨ apartE a.e b.e) ∧ touchD y a b ∧ touchD x b a) := rfl
theorem look_nil {α : Type} (n : Nat) : look ([] : List (Nat × α)) n = none := rfl
theorem bytesC_nil : bytesC [] = [] := rfl
theorem take_seg {α : Type} {a b : List α} {n : Nat} (h : a.length ≤ n) : (a ++ b).take n = a ++ b.take (n - a.length) := by
  rw [List.take_append, List.take_of_length_le h]
theorem take_in {α : Type} {a b : List α} {n : Nat} (h : n ≤ a.length) : (a ++ b).take n = a.take n := List.take_append_of_le_length h
theorem drop_seg {α : Type} {a b : List α} {n : Nat} (h : a.length ≤ n) : (a ++ b).drop n = b.drop (n - a.length) := by
  rw [List.drop_append, List.drop_of_length_le h, List.nil_append]
theorem drop_in {α : Type} {a b : List α} {n : Nat} (h : n ≤ a.length) : (a ++ b).drop n = a.drop n ++ b := List.drop_append_of_le_length h
theorem take_all {α : Type} {a : List α} {n : Nat} (h : a.length ≤ n) : a.take n = a := List.take_of_length_le h
theorem drop_all {α : Type} {a : List α} {n : Nat} (h : a.length ≤ n) : a.drop n = [] := List.drop_of_length_le h
theorem byteRows_nil : byteRows [] = [] := rfl

theorem eqL_u8 (x y : UInt8) : eqL (.pl (.u8 x)) (.pl (.u8 y)) = decide (x = y) := rfl
theorem eqL_u32 (x y : UInt32) : eqL (.pl (.u32 x)) (.pl (.u32 y)) = decide (x = y) := rfl
theorem eqL_u64 (x y : UInt64) : eqL (.pl (.u64 x)) (.pl (.u64 y)) = decide (x = y) := rfl
theorem eqL_i (x y : Int) : eqL (.pl (.i x)) (.pl (.i y)) = decide (x = y) := rfl
theorem eqL_b (x y : Bool) : eqL (.pl (.b x)) (.pl (.b y)) = decide (x = y) := rfl
theorem eqL_str (x y : List UInt8) : eqL (.pl (.str x)) (.pl (.str y)) = decide (x = y) := rfl
theorem eqC_cons (x y : L) (xs ys : List L) : eqC (x :: xs) (y :: ys) = (eqL x y && eqC xs ys) := rfl
theorem kindL_u8 (x : UInt8) : kindL (.pl (.u8 x)) = some (.int .u8) := rfl
theorem kindL_u32 (x : UInt32) : kindL (.pl (.u32 x)) = some (.int .u32) := rfl
theorem kindL_u64 (x : UInt64) : kindL (.pl (.u64 x)) = some (.int .u64) := rfl
theorem kindL_i (x : Int) : kindL (.pl (.i x)) = some (.int .i64) := rfl
theorem kindL_b (x : Bool) : kindL (.pl (.b x)) = some .b := rfl
theorem kindL_str (x : List UInt8) : kindL (.pl (.str x)) = some .s := rfl
attribute [go_sem] pls_bytes pls_append pls_cons pls_nil false_and and_false true_or or_true false_or or_false Int.cast_ofNat_Int Int.reduceEq Int.reduceNe Int.natCast_zero rep_flat rep_flat0 List.size_toArray Nat.mul_one Nat.one_mul bytesL_nil maxLen_eq decide_true decide_false w64 Option.bind_none Option.map_none List.all_append look_nil bytesC_nil take_seg take_in drop_seg drop_in take_all drop_all byteRows_nil eqL_u8 eqL_u32 eqL_u64 eqL_i eqL_b eqL_str eqC_cons kindL_u8 kindL_u32 kindL_u64 kindL_i kindL_b kindL_str
theorem fillL_nil (place : Nat → Option (Nat × Nat)) (cells : List L) : fillL place cells [] = some cells := by cases cells <;> rfl
theorem fillL_cons (place : Nat → Option (Nat × Nat)) (cells : List L) (i : Nat) (v : W) (rest : List (Nat × V)) : fillL place cells ((i, .w v) :: rest) = (match place i with
    | some pl => if v.cells.length = pl.2 ∧ pl.1 + pl.2 ≤ cells.length then fillL place (upd cells pl.1 pl.2 v.cells) rest else none
    | none => none) := by
  cases h : place i with
  | none => simp only [fillL, h]
  | some pl => simp only [fillL, h]
attribute [go_sem] fillL_nil fillL_cons upd wr buildV partsV placesOf storeV appendV srcA allocV sliceV boundV V.num PL.num indexAddrV indexV partV partOfV extractV nilV minmaxV getOpt pureV srcV viewVs viewV viewL viewLs unpl killE killM V.kill W.kill killL setM toKind runeV resOkV resOkW resL strictL adoptOk List.any_append Option.isSome_some Option.isSome_none List.map_append List.map_replicate List.length_append List.length_replicate Nat.sub_self Nat.reduceSub Nat.add_zero Nat.reduceBneDiff Nat.reduceMul Int.reduceLT Int.reduceLE Int.reduceToNat UInt8.reduceOfNat UInt32.reduceOfNat UInt64.reduceOfNat Int.toNat_zero Int.reduceNeg Nat.reduceDiv Int.reduceAdd Int.reduceSub Int.reduceMul Int.toNat_natCast
end Go.Sy

namespace Go.Sy
open Go.RowKit Go.WideShapes Go.ChangeShapes Go.ChangeAt

theorem MemOK.below {w w' : World} {d : Va} {m : List (Nat × Ob)} {ro : Ro} (h : MemOK ⟨w, fun _ => False, 0, ro, fun _ => none⟩ d m w') : Below w.heap.size w w' := by
  obtain ⟨a, hs⟩ := h
  exact ⟨hs.os, hs.tape, hs.output, hs.size, fun k hk => hs.block k hk (fun h => h.elim)⟩

theorem Ct.calls {P : Program} {f : FuncId} {args : List V} {R : V → List (Nat × Ob) → Prop} {b : Bool} (hc : Ct P f args R) (hR : ∀ v m, R v m → v = .w (.one (.pl (.b b)))) (w : World) (d : Va) (vals : Array Value)
    (hro : ∀ b o y, d.ro b o = some y → w.cell? ⟨b, o, none⟩ = some y) (hg : ∀ k, gl0 ≤ k → d.at_ k = k - gl0) (ha : All2 (V.den d) args vals.toList) : Calls P f vals w fun e w' => e = .returned (.bool b) ∧ Below w.heap.size w w' := by
  refine (hc w d vals hro hg ha).mono fun e w' ⟨y, v, d', m', he, hr, hd, hm⟩ => ?_
  rw [hR v m' hr] at hd
  exact ⟨by rw [he]; exact congrArg _ hd, hm.below⟩

section
variable {H : Type} {enc : TypeId × Value → H} {P : Program}
theorem below_trodAll (hl : laidOutB P = true) {W W' : World} (hb : Below W.heap.size W W') {sp : Nat → Bool} : ∀ (ts : List TypeId) (vs : List Value) (ds : List (DataW H)) (ps : List MemPlace),
    (ts.all fun t => P.readableRec t && decide (t < P.types.size)) = true → DataW.TrodAll enc P W 0 (fun _ => true) true ts vs ds ps → (∀ x ∈ ps, x.block < W.heap.size) → (∀ x ∈ ps, sp x.block = true) → DataW.TrodAll enc P W' 0 sp true ts vs ds ps
  | [], [], [], ps, _, h, _, _ => h
  | t :: ts, v :: vs, d :: ds, ps, hr, h, hlt, hsp => by
    obtain ⟨p, q, h1, h2, rfl⟩ := h
    simp only [List.all_cons, Bool.and_eq_true, decide_eq_true_eq] at hr
    refine ⟨p, q, WideElems.Trod_stays hl hr.1.1 hr.1.2 h1 (fun x hx => hb.same (hlt x (by simp [hx]))) (fun x hx => hsp x (by simp [hx])), ?_, rfl⟩
    exact below_trodAll hl hb ts vs ds q hr.2 h2 (fun x hx => hlt x (by simp [hx])) (fun x hx => hsp x (by simp [hx]))
  | [], _ :: _, _, _, _, h, _, _ => h.elim
  | [], [], _ :: _, _, _, h, _, _ => h.elim
  | _ :: _, [], _, _, _, h, _, _ => h.elim
  | _ :: _, _ :: _, [], _, _, h, _, _ => h.elim

theorem law_post {f : Func} {s : ChangeSpec} {apart fresh handsOn again : Bool} {t : TypeId} {W W' : World} {args : Array Value} {ds gs : List (DataW H)} {before : List MemPlace}
    (hW : DataW.Whole enc P f.params.toList s.vars apart W args.toList ds gs before) (hl : laidOutB P = true) (hr : (f.params.toList.all fun t => P.readableRec t && decide (t < P.types.size)) = true)
    (hv : s.vars = []) (hrt : f.resultTypes = #[t]) (ht : P.underlying t = some .bool) (hs : s.fn H ds = { results := [.lit (.bool true)], args := ds }) (hb : Below W.heap.size W W') :
    s.post enc P f apart fresh handsOn again W args (.bool true) W' := by
  have hW0 := hW
  obtain ⟨p, q, hA, hV, hpq, hz, hn⟩ := hW
  rw [hv] at hV
  obtain ⟨hg, hq⟩ := trodVars_none hV
  subst hg; subst hq; subst hpq
  have hlt : ∀ x ∈ p ++ [], x.block < W.heap.size := fun x hx => hW0.lt x hx
  simp only [List.append_nil] at hlt hW0
  have e : s.fn H (ds ++ []) = { results := [.lit (.bool true)], args := ds } := by rw [List.append_nil]; exact hs
  have hargs : ∀ sp : Nat → Bool, (∀ x ∈ p, sp x.block = true) → DataW.TrodAll enc P W' 0 sp true f.params.toList args.toList (s.fn H (ds ++ [])).args p := fun sp h => by
    rw [e]; exact below_trodAll hl hb _ _ _ _ hr hA hlt h
  have hres : ∀ (b : Nat) (sp : Nat → Bool) (hd : Bool), DataW.TrodAll enc P W' b sp hd f.resultTypes.toList ((Value.bool true).resultList f.resultTypes.size) (s.fn H (ds ++ [])).results [] := fun b sp hd => by
    rw [e, hrt]; exact trodAll_mk1 (shut_bool ht true)
  have hvars : ∀ sp : Nat → Bool, DataW.TrodVars enc P W' sp s.vars (s.fn H (ds ++ [])).vars [] := fun sp => by rw [e, hv]; rfl
  have hold : ∀ x ∈ p, (fun b => decide (b < W.heap.size)) x.block = true := fun x hx => by simpa using hlt x hx
  refine ⟨ds, [], p, [], p, [], hW0, hres _ _ _, hargs _ hold, hvars _, World.keptBut_mono (fun x hx => ⟨hx, ?_⟩) (hb.frame (· ∈ p)), fun _ => ?_⟩
  · exact Or.inr (by simpa using hx)
  · refine ⟨ok_one hrt rfl (okWide_bool_mk ht true), _, _, ([] ++ p) ++ [], ⟨[] ++ p, [], trodAll_append (hargs _ (fun _ _ => rfl)) (hres _ _ _), hvars _, rfl, ?_, ?_⟩, ?_⟩
    · intro b off hp
      have hin : MemPlace.cell b off ∈ p := by simpa using hp
      rw [hb.frozen (hlt _ hin)]
      exact hz b off (by simpa using hin)
    · intro ha
      have := hn ha
      simpa using this
    · intro x hx _
      simpa using hx
end
end Go.Sy

namespace Go.Sy
open Go.RowKit Go.WideShapes Go.ChangeShapes Go.ChangeAt

def Sh (P : Program) : Nat → TypeId → List PL → Prop
  | 0, _, _ => False
  | n + 1, t, cs => match P.underlying t with
    | some .bool => ∃ b, cs = [.b b]
    | some (.int .i64) => ∃ k : Int, cs = [.i k] ∧ -9223372036854775808 ≤ k ∧ k ≤ 9223372036854775807
    | some (.int .u8) => ∃ x, cs = [.u8 x]
    | some (.int .u32) => ∃ x, cs = [.u32 x]
    | some (.int .u64) => ∃ x, cs = [.u64 x]
    | some .string => ∃ s, cs = [.str s] ∧ s.length ≤ maxLen
    | some (.slice e) => ∃ rows, cs = [.R false (P.cellsOf e) rows] ∧ (∀ r ∈ rows, Sh P n e r ∧ r.length = P.cellsOf e) ∧ rows.length ≤ maxLen
    | some (.struct fs) => ∃ ps : List (List PL), cs = ps.flatten ∧ All2 (fun (f : Field) p => Sh P n f.type p ∧ p.length = P.cellsOf f.type) fs.toList ps
    | some (.array m e) => ∃ ps : List (List PL), cs = ps.flatten ∧ ps.length = m ∧ ∀ p ∈ ps, Sh P n e p ∧ p.length = P.cellsOf e
    | _ => False

def Va.reads (w : World) : Va := ⟨fun k => k - gl0, fun _ => 0, fun b o => w.cell? ⟨b, o, none⟩⟩

def tileFs (P : Program) : List Field → Nat → Nat → Bool
  | [], off, n => off == n
  | f :: fs, off, n => f.offset == off && tileFs P fs (off + P.cellsOf f.type) n
section
variable {H : Type} {enc : TypeId × Value → H} {P : Program} {w : World} {base : Nat} {spare : Nat → Bool} {held : Bool}

theorem trod_array {m : Nat} {t e : TypeId} {fuel : Nat} {cs : List Value} {x : DataW H × List MemPlace} (ht : P.underlying t = some (.array m e)) (h : DataW.trod enc P w base spare held fuel t cs = some x) :
    ∃ n, fuel = n + 1 ∧ cs.length = P.cellsOf t ∧ ∀ i, i < m → ∃ y, DataW.trod enc P w base spare held n e ((cs.drop (i * P.cellsOf e)).take (P.cellsOf e)) = some y := by
  cases fuel with
  | zero => simp [DataW.trod] at h
  | succ n =>
    unfold DataW.trod at h
    rw [ht] at h
    simp only at h
    split at h <;> try (simp at h; done)
    rename_i hl
    refine ⟨n, rfl, hl, fun i hi => ?_⟩
    obtain ⟨xs, hx, _⟩ := Option.map_eq_some_iff.mp h
    have : ∀ (l : List Nat) (ys : List (DataW H × List MemPlace)), l.mapM (fun i => DataW.trod enc P w base spare held n e ((cs.drop (i * P.cellsOf e)).take (P.cellsOf e))) = some ys → ∀ i ∈ l, ∃ y, DataW.trod enc P w base spare held n e ((cs.drop (i * P.cellsOf e)).take (P.cellsOf e)) = some y := by
      intro l
      induction l with
      | nil => intro _ _ i hi; cases hi
      | cons a r ih =>
        intro ys hy i hi
        rw [List.mapM_cons] at hy
        cases ha : DataW.trod enc P w base spare held n e ((cs.drop (a * P.cellsOf e)).take (P.cellsOf e)) with
        | none => rw [ha] at hy; simp at hy
        | some y =>
          rw [ha] at hy
          rcases List.mem_cons.mp hi with rfl | hi
          · exact ⟨y, ha⟩
          · cases hr : r.mapM (fun i => DataW.trod enc P w base spare held n e ((cs.drop (i * P.cellsOf e)).take (P.cellsOf e))) with
            | none => rw [hr] at hy; simp at hy
            | some zs => exact ih zs hr i hi
    exact this _ _ hx i (by simpa using hi)

theorem denAt_of {ro : Ro} {blk : Nat} : ∀ {c : List PL} {vals : List Value} {off : Nat}, All2 (PL.den ro) c vals → (∀ j v, vals[j]? = some v → ro blk (off + j) = some v) → PL.denAt ro blk c off
  | [], _, _, _, _ => by rw [PL.denAt]; trivial
  | x :: c, vals, off, h, hc => by
    cases h with
    | cons h1 h2 =>
      rename_i y m
      rw [PL.denAt]
      refine ⟨⟨y, by simpa using hc 0 y rfl, h1⟩, denAt_of h2 fun j v hv => ?_⟩
      have := hc (j + 1) v (by simpa using hv)
      rwa [show off + (j + 1) = off + 1 + j from by omega] at this

theorem denRows_of {ro : Ro} {blk sz : Nat} : ∀ {rows : List (List PL)} {off : Nat}, (∀ r ∈ rows, r.length = sz) → (∀ i r, rows[i]? = some r → PL.denAt ro blk r (off + i * sz)) → PL.denRows ro blk sz rows off
  | [], _, _, _ => by rw [PL.denRows]; trivial
  | r :: rs, off, hl, h => by
    rw [PL.denRows]
    refine ⟨hl r (by simp), by simpa using h 0 r rfl, denRows_of (fun r hr => hl r (by simp [hr])) fun i r' hr => ?_⟩
    have := h (i + 1) r' (by simpa using hr)
    rwa [show off + (i + 1) * sz = off + sz + i * sz from by rw [Nat.add_mul]; omega] at this

theorem all2_flatten {ro : Ro} : ∀ {ps : List (List PL)} {vs : List (List Value)}, All2 (fun p v => All2 (PL.den ro) p v) ps vs → All2 (PL.den ro) ps.flatten vs.flatten
  | _, _, .nil => .nil
  | _, _, .cons h1 h2 => by simpa using h1.append (all2_flatten h2)

theorem choose_list {α β : Type} {p : α → β → Prop} : ∀ (l : List α), (∀ x ∈ l, ∃ y, p x y) → ∃ ys : List β, All2 p l ys
  | [], _ => ⟨[], .nil⟩
  | x :: r, h => by
    obtain ⟨y, hy⟩ := h x (by simp)
    obtain ⟨ys, hys⟩ := choose_list r fun z hz => h z (by simp [hz])
    exact ⟨y :: ys, .cons hy hys⟩

theorem All2.flip {α β : Type} {R : α → β → Prop} : ∀ {l : List α} {m : List β}, All2 R l m → All2 (fun b a => R a b) m l
  | _, _, .nil => .nil
  | _, _, .cons h1 h2 => .cons h1 h2.flip

theorem chunk_flatten {α : Type} (sz : Nat) : ∀ (m : Nat) (cs : List α), cs.length = m * sz → ((List.range m).map fun i => (cs.drop (i * sz)).take sz).flatten = cs
  | 0, cs, h => by simp at h; simp [h]
  | m + 1, cs, h => by
    rw [List.range_succ_eq_map, List.map_cons, List.flatten_cons, List.map_map]
    have h2 : (cs.drop sz).length = m * sz := by rw [List.length_drop, h, Nat.add_mul]; omega
    have ih := chunk_flatten sz m (cs.drop sz) h2
    have e : (List.range m).map ((fun i => (cs.drop (i * sz)).take sz) ∘ Nat.succ) = (List.range m).map fun i => ((cs.drop sz).drop (i * sz)).take sz := by
      refine List.map_congr_left fun i _ => ?_
      simp only [Function.comp_def, List.drop_drop]
      congr 2
      rw [Nat.succ_mul]; omega
    rw [e, ih]; simp

theorem tile_split {n : Nat} (cs : List Value) (hl : cs.length = n) : ∀ (fs : List Field) (off : Nat), tileFs P fs off n = true → (fs.map fun f => (cs.drop f.offset).take (P.cellsOf f.type)).flatten = cs.drop off
  | [], off, h => by
    simp only [tileFs, beq_iff_eq] at h
    subst h; subst hl; simp
  | f :: fs, off, h => by
    simp only [tileFs, Bool.and_eq_true, beq_iff_eq] at h
    obtain ⟨h1, h2⟩ := h
    rw [List.map_cons, List.flatten_cons, tile_split cs hl fs _ h2, h1, ← List.drop_drop, List.take_append_drop]

theorem take_len {α : Type} {cs : List α} {a b : Nat} (h : a + b ≤ cs.length) : ((cs.drop a).take b).length = b := by simp; omega

theorem tile_le {n : Nat} : ∀ (fs : List Field) (off : Nat), tileFs P fs off n = true → ∀ f ∈ fs, f.offset + P.cellsOf f.type ≤ n
  | [], _, _, f, hf => by cases hf
  | g :: fs, off, h, f, hf => by
    simp only [tileFs, Bool.and_eq_true, beq_iff_eq] at h
    have hge : ∀ (fs : List Field) (off : Nat), tileFs P fs off n = true → off ≤ n := by
      intro fs
      induction fs with
      | nil => intro off h; simp only [tileFs, beq_iff_eq] at h; omega
      | cons g fs ih => intro off h; simp only [tileFs, Bool.and_eq_true, beq_iff_eq] at h; have := ih _ h.2; omega
    rcases List.mem_cons.mp hf with rfl | hf
    · have := hge _ _ h.2; omega
    · exact tile_le fs _ h.2 f hf

theorem All2.map_r {α β γ : Type} {R : α → γ → Prop} {f : β → γ} : ∀ {l : List α} {m : List β}, All2 (fun a b => R a (f b)) l m → All2 R l (m.map f)
  | _, _, .nil => .nil
  | _, _, .cons h1 h2 => .cons h1 h2.map_r

end

section
variable {P : Program}
theorem sh_bool {n : Nat} {t : TypeId} {cs : List PL} (h : Sh P n t cs) (ht : P.underlying t = some .bool) : ∃ b, cs = [.b b] := by
  cases n with
  | zero => exact h.elim
  | succ n => unfold Sh at h; rw [ht] at h; exact h
theorem sh_i64 {n : Nat} {t : TypeId} {cs : List PL} (h : Sh P n t cs) (ht : P.underlying t = some (.int .i64)) : ∃ k : Int, cs = [.i k] ∧ -9223372036854775808 ≤ k ∧ k ≤ 9223372036854775807 := by
  cases n with
  | zero => exact h.elim
  | succ n => unfold Sh at h; rw [ht] at h; exact h
theorem sh_str {n : Nat} {t : TypeId} {cs : List PL} (h : Sh P n t cs) (ht : P.underlying t = some .string) : ∃ s, cs = [.str s] ∧ s.length ≤ maxLen := by
  cases n with
  | zero => exact h.elim
  | succ n => unfold Sh at h; rw [ht] at h; exact h
theorem sh_slice {n : Nat} {t e : TypeId} {cs : List PL} (h : Sh P n t cs) (ht : P.underlying t = some (.slice e)) : ∃ (rows : List (List PL)) (m : Nat), cs = [.R false (P.cellsOf e) rows] ∧ (∀ r ∈ rows, Sh P m e r) ∧ rows.length ≤ maxLen := by
  cases n with
  | zero => exact h.elim
  | succ n => unfold Sh at h; rw [ht] at h; obtain ⟨rows, h1, h2, h3⟩ := h; exact ⟨rows, n, h1, fun r hr => (h2 r hr).1, h3⟩
theorem sh_struct {n : Nat} {t : TypeId} {fs : Array Field} {cs : List PL} (h : Sh P n t cs) (ht : P.underlying t = some (.struct fs)) : ∃ (ps : List (List PL)) (m : Nat), cs = ps.flatten ∧ All2 (fun (f : Field) p => Sh P m f.type p) fs.toList ps := by
  cases n with
  | zero => exact h.elim
  | succ n => unfold Sh at h; rw [ht] at h; obtain ⟨ps, h1, h2⟩ := h; exact ⟨ps, n, h1, h2.mono fun f p _ h => h.1⟩
theorem sh_array {n k : Nat} {t e : TypeId} {cs : List PL} (h : Sh P n t cs) (ht : P.underlying t = some (.array k e)) : ∃ (ps : List (List PL)) (m : Nat), cs = ps.flatten ∧ ps.length = k ∧ ∀ p ∈ ps, Sh P m e p := by
  cases n with
  | zero => exact h.elim
  | succ n => unfold Sh at h; rw [ht] at h; obtain ⟨ps, h1, h2, h3⟩ := h; exact ⟨ps, n, h1, h2, fun p hp => (h3 p hp).1⟩
theorem den_pls {d : Va} : ∀ {xs : List PL} {vs : List Value}, All2 (PL.den d.ro) xs vs → All2 (L.den d) (pls xs) vs
  | _, _, .nil => .nil
  | _, _, .cons h1 h2 => .cons h1 (den_pls h2)
end

section
variable {H : Type} {enc : TypeId × Value → H} {P : Program} {w : World} {base : Nat} {spare : Nat → Bool} {held : Bool}
end
end Go.Sy

namespace Go.Sy
def St.dropE (ks : List Nat) (S : St) : St := ⟨fgt ks S.env, S.mem⟩
theorem ht_dropE {P : Program} {B : Base} {Q : Exit → St → Prop} {S : St} {x : Code} (ks : List Nat) (h : HT P B x (S.dropE ks) Q) : HT P B x S Q := by
  refine HT.le (fun d a w hs => ⟨d, ?_⟩) h
  exact ⟨hs.defers, hs.nt, fun n v hv => hs.env n v (look_fgt hv), hs.mem, hs.inj, hs.own, hs.ro, hs.old, hs.os, hs.tape, hs.output, hs.size, hs.block, hs.gat, hs.glob, hs.fix, hs.fxn⟩
theorem dropE_mk (ks : List Nat) (e : List (Nat × V)) (m : List (Nat × Ob)) : St.dropE ks ⟨e, m⟩ = ⟨fgt ks e, m⟩ := rfl
theorem fgt_nil {α : Type} (ks : List Nat) : fgt ks ([] : List (Nat × α)) = [] := rfl
theorem fgt_cons {α : Type} (ks : List Nat) (n : Nat) (v : α) (r : List (Nat × α)) : fgt ks ((n, v) :: r) = if ks.contains n = true then fgt ks r else (n, v) :: fgt ks r := rfl
attribute [go_sem] optCons_some optCons_none fm_cons fm_nil mut_val mut_new mut_app mut_sto ns_val ns_new ns_sto ns_app nsC td_val td_new td_sto td_app awayE apartE stoOp chk_nil chk_cons atD_some memOp gslot Eff.free noUV noUW noUL Op.operands Call.operands Nat.reduceBneDiff bne_self_eq_false Option.toArray List.append_toArray List.toList_toArray Array.append_empty Array.empty_append
end Go.Sy

namespace Go.Sy
end Go.Sy

namespace Go.Sy
def Told (R : V → List (Nat × Ob) → Prop) (v : V) (m : List (Nat × Ob)) : Prop :=
  ∃ v' m', (∀ (B : Base) d y w, B.nt = 0 → v.den d y → MemOK B d m w → ∃ d', v'.den d' y ∧ MemOK B d' m' w) ∧ R v' m'
theorem CtM.told {P : Program} {f : FuncId} {args : List V} {ms : List (Nat × Ob)} {R : V → List (Nat × Ob) → Prop} (h : CtM P f args ms (Told R)) : CtM P f args ms R := by
  intro w d vals hm hargs
  refine (h w d vals hm hargs).mono fun e w' ⟨y, v, d', m', h1, ⟨v2, m2, h2, h3⟩, h4, h5⟩ => ?_
  obtain ⟨d2, h6, h7⟩ := h2 _ d' y w' rfl h4 h5
  exact ⟨y, v2, d2, m2, h1, h3, h6, h7⟩
theorem Ct.told {P : Program} {f : FuncId} {args : List V} {R : V → List (Nat × Ob) → Prop} (h : Ct P f args (Told R)) : Ct P f args R := by
  intro w d vals hro hg hargs
  refine (h w d vals hro hg hargs).mono fun e w' ⟨y, v, d', m', h1, ⟨v2, m2, h2, h3⟩, h4, h5⟩ => ?_
  obtain ⟨d2, h6, h7⟩ := h2 _ d' y w' rfl h4 h5
  exact ⟨y, v2, d2, m2, h1, h3, h6, h7⟩
section
variable {R : V → List (Nat × Ob) → Prop} {v v' : V} {m m' : List (Nat × Ob)}
theorem told_weak (hw : ∀ d y, v.den d y → v'.den d y) (h : Told R v' m) : Told R v m := by
  obtain ⟨v2, m2, h1, h2⟩ := h
  exact ⟨v2, m2, fun B d y w hb hv hm => h1 B d y w hb (hw d y hv) hm, h2⟩
theorem told_seal (k : Nat) {b : Bool} (c : List PL) (hk : look m k = some ⟨b, pls c⟩) (hl : k < 500000) (h : Told R (sealV k c v) (sealM k c m)) : Told R v m := by
  obtain ⟨v2, m2, h1, h2⟩ := h
  refine ⟨v2, m2, fun B d y w hb hv hm => ?_, h2⟩
  obtain ⟨a, hs⟩ := hm
  exact h1 B _ y w hb (sealV_den hs hk rfl (Nat.lt_trans hl px_gl) hv) ⟨a, hs.sealed hk rfl hl⟩
theorem told_tidy (h : Tidy R v m) : Told R v m := by
  obtain ⟨g, v2, m2, h1, h2, h3⟩ := h
  subst h1
  exact ⟨v2, m2, fun B d y w hb hv hm => ⟨d.via g, V.den_via hv, hm.tidy h2⟩, h3⟩
end
def plainW : W → Bool
  | .one (.pl _) => true
  | .one _ => false
  | .agg cs => cs.all fun l => match l with
    | .pl _ => true
    | _ => false
def plainV : V → Bool
  | .w x => plainW x
  | .tup xs => xs.all plainW
  | .any => true
theorem plain_ren {g : Nat → Nat} : ∀ {v : V}, plainV v = true → v.ren g = v := by
  have hl : ∀ cs : List L, (cs.all fun l => match l with | .pl _ => true | _ => false) = true → cs.map (L.ren g) = cs := by
    intro cs h
    induction cs with
    | nil => rfl
    | cons x r ih =>
      simp only [List.all_cons, Bool.and_eq_true] at h
      rw [List.map_cons, ih h.2]
      cases x <;> first | rfl | (cases h.1)
  have hw : ∀ x : W, plainW x = true → x.ren g = x := by
    intro x h
    cases x with
    | one l => cases l <;> first | rfl | (cases h)
    | agg cs => simp only [W.ren]; rw [hl cs h]
  intro v h
  cases v with
  | w x => simp only [V.ren]; rw [hw x h]
  | tup xs =>
    simp only [V.ren]
    congr 1
    simp only [plainV, List.all_eq_true] at h
    induction xs with
    | nil => rfl
    | cons x r ih => rw [List.map_cons, hw x (h x (by simp)), ih fun y hy => h y (by simp [hy])]
  | any => rfl
theorem told_plain {R : V → List (Nat × Ob) → Prop} {v : V} {m : List (Nat × Ob)} (hp : plainV v = true) (h : R v []) : Told R v m :=
  told_tidy ⟨fun k => k, v, [], (plain_ren hp).symm, .empty, h⟩
end Go.Sy

namespace Go.Sy
end Go.Sy

namespace Go.Sy
theorem ren_pls (g : Nat → Nat) (c : List PL) : (pls c).map (L.ren g) = pls c := by simp [pls, L.ren, Function.comp_def]
theorem L.ren_id (l : L) : l.ren (fun k => k) = l := by cases l <;> simp [L.ren]
theorem within_sub {m m2 : List (Nat × Ob)} (h : ∀ k o, look m2 k = some o → look m k = some o) : Within (fun k => k) m2 m :=
  ⟨fun k o hk => by rw [h k o hk]; congr 1; cases o; simp only [Ob.mk.injEq, true_and]; exact (List.map_id'' L.ren_id _).symm, fun _ _ _ _ h => h, fun _ h => h, fun _ _ => rfl⟩
theorem told_keep {R : V → List (Nat × Ob) → Prop} {v : V} {m m2 : List (Nat × Ob)} (hp : plainV v = true) (hm : ∀ k o, look m2 k = some o → look m k = some o) (h : R v m2) : Told R v m :=
  told_tidy ⟨fun k => k, v, m2, (plain_ren hp).symm, within_sub hm, h⟩
theorem keep_one {m : List (Nat × Ob)} {j : Nat} {o0 : Ob} (h : look m j = some o0) : ∀ k o, look [(j, o0)] k = some o → look m k = some o := by
  intro k o hk
  simp only [look] at hk
  split at hk
  · rename_i e; cases hk; rw [e]; exact h
  · cases hk
section
variable {P : Program} {B : Base} {ds : List (Option Tmp)} {r : List Oper} {S : St} {K : St → Prop}
theorem og_tt (j : Nat) (o : Oper) : onGuard (some true) j true P B ds o r S K = runOps P B ds (⟨o.dst, o.op, o.type, o.pos, o.after, none⟩ :: r) (setG S ds j true) K := by rw [ev_onGuard]; simp
theorem og_ff (j : Nat) (o : Oper) : onGuard (some false) j false P B ds o r S K = runOps P B ds (⟨o.dst, o.op, o.type, o.pos, o.after, none⟩ :: r) (setG S ds j false) K := by rw [ev_onGuard]; simp
theorem og_tf (j : Nat) (o : Oper) : onGuard (some true) j false P B ds o r S K = onSt ((setG S ds j true).put B.nt o.dst (.tup [])) P B ds r K := by rw [ev_onGuard]; simp
theorem og_ft (j : Nat) (o : Oper) : onGuard (some false) j true P B ds o r S K = onSt ((setG S ds j false).put B.nt o.dst (.tup [])) P B ds r K := by rw [ev_onGuard]; simp
end
section
variable {P : Program} {nt : Nat} {names : List Nat} {ds : List (Option Tmp)} {keep : Bool} {o : Oper} {N : List Nat} {D : List Da} {S : St} {k : List Nat → List Da → St → Prop}
theorem dg_tt (j : Nat) : onG P nt names ds keep o (j, true) N D S k (some true) = onO P nt names ds keep o N D S k := by rw [rd_onG]; simp
theorem dg_ff (j : Nat) : onG P nt names ds keep o (j, false) N D S k (some false) = onO P nt names ds keep o N D S k := by rw [rd_onG]; simp
theorem dg_tf (j : Nat) : onG P nt names ds keep o (j, false) N D S k (some true) = (dstOk nt o.dst ∧ k N (D ++ bif keep then [⟨.val (.tup []), (gslot ds o).filterMap S.get, []⟩] else []) ((Eff.val (.tup [])).on o.dst S)) := by rw [rd_onG]; simp
theorem dg_ft (j : Nat) : onG P nt names ds keep o (j, true) N D S k (some false) = (dstOk nt o.dst ∧ k N (D ++ bif keep then [⟨.val (.tup []), (gslot ds o).filterMap S.get, []⟩] else []) ((Eff.val (.tup [])).on o.dst S)) := by rw [rd_onG]; simp
end
attribute [go_sem high] og_tt og_ff og_tf og_ft dg_tt dg_ff dg_tf dg_ft
attribute [go_sem] capsV
end Go.Sy

namespace Go.Sy
section
variable {k j : Nat} {c : List PL}
end
end Go.Sy

namespace Go.Sy
section
variable {H : Type} {enc : TypeId × Value → H} {P : Program} {w w2 : World} {base : Nat} {spare : Nat → Bool} {held : Bool}
end
end Go.Sy

namespace Go.Sy
section
variable {P : Program}
end
end Go.Sy

namespace Go.Sy
section
variable {H : Type} {enc : TypeId × Value → H} {P : Program}
end
end Go.Sy

namespace Go.Sy
section
variable {P : Program} {B : Base} {S : St} {Q : Exit → St → Prop}
theorem top_k {c : Code} (h : ∀ Z : Exit → St → Prop, (∀ e S', Q e S' → Z e S') → HT P B c S Z) : HT P B c S Q := h Q fun _ _ h => h
theorem sr_k {id : Nat} {l : List Oper} {y : Code} (h : ∀ K : St → Prop, (∀ S', HT P B y S' Q → K S') → runOps P B (dsOf l) l S K) : HT P B (.seq (.region id l.toArray false) y) S Q :=
  seq_k fun N M hN hM => region_k fun K hK => h K fun S' hy => hK S' (hN S' hy)
theorem sd_k {id : Nat} {l : List Oper} {y : Code} (names c : List Nat) (need : List (Nat × Nat)) (hm : P.follows .mixedOrders = true) (hst : drawOk (dsOf l) c need l = true)
    (hn : names.all (fun k => fresh k S && (look S.mem k).isNone) = true)
    (h : ∀ K : St → List Da → Prop, (∀ S' D, chkD l D need → HT P B y S' Q → K S' D) → runD P B.nt names (dsOf l) (!need.isEmpty) l [] [] S K) : HT P B (.seq (.region id l.toArray true) y) S Q :=
  seq_k fun N M hN hM => draw_k names c need hm hst hn fun K hK => h K fun S' D hd hy => hK S' D hd (hN S' hy)
theorem condT_k {c : Operand} {x y : Code} (hc : S.get c = some (.w (.one (.pl (.b true))))) (h : HT P B x S Q) : HT P B (.cond c x y) S Q := cond_k hc (fun _ => h) (fun e => by cases e)
theorem condF_k {c : Operand} {x y : Code} (hc : S.get c = some (.w (.one (.pl (.b false))))) (h : HT P B y S Q) : HT P B (.cond c x y) S Q := cond_k hc (fun e => by cases e) (fun _ => h)
end
end Go.Sy

namespace Go.Sy
section
variable {P : Program}
end
end Go.Sy

namespace Go.Sy
section
variable {P : Program} {B : Base} {Q : Exit → St → Prop} {S : St} {x y : Code}
end
attribute [go_sem] deepsIn deepV deepL deepLs deepC valsIn valIn leafIn leavesIn nameIn capsIn handOk leafOutV leafOutW leafOut okN outOk inv backM outN nameOut Ob.ren V.ren W.ren L.ren setM
end Go.Sy

namespace Go.Sy
open Go.RowKit Go.WideShapes Go.ChangeShapes Go.ChangeAt

def formOk (P : Program) (K : List TypeId) (t : TypeId) : Bool := match P.underlying t with
  | some .bool | some (.int .i64) | some (.int .u8) | some (.int .u32) | some (.int .u64) | some .string => P.cellsOf t == 1
  | some (.slice e) => P.cellsOf t == 1 && (P.cellsOf e != 0 && K.contains e)
  | some (.struct fs) => tileFs P fs.toList 0 (P.cellsOf t) && fs.toList.all fun f => K.contains f.type
  | some (.array m e) => P.cellsOf t == m * P.cellsOf e && K.contains e
  | _ => false
theorem cell_spot {w : World} {a : Addr} {v : Value} (h : w.cell? a = some v) : a.spot = none := by
  unfold World.cell? at h
  split at h <;> try (cases h; done)
  split at h
  · cases h
  · rename_i hs; simpa using hs
section
variable {H : Type} {enc : TypeId × Value → H} {P : Program} {w : World} {base : Nat} {spare : Nat → Bool} {held : Bool}
theorem open_all {K : List TypeId} (hK : K.all (formOk P K) = true) : ∀ (n : Nat) (t : TypeId) (cs : List Value) (y : DataW H × List MemPlace), DataW.trod enc P w base spare held n t cs = some y → K.contains t = true →
    ∃ xs, Sh P n t xs ∧ xs.length = cs.length ∧ All2 (PL.den (Va.reads w).ro) xs cs := by
  intro n
  induction n with
  | zero => intro t cs y h; simp [DataW.trod] at h
  | succ n ih =>
    intro t cs y h hk0
    have hk := List.all_eq_true.mp hK t (by simpa using hk0)
    unfold formOk at hk
    split at hk <;> try (cases hk; done)
    · rename_i ht
      obtain ⟨b, rfl, _⟩ := DataW.trod_bool ht h
      exact ⟨[.b b], by unfold Sh; rw [ht]; exact ⟨b, rfl⟩, rfl, .cons (by rw [PL.den]) .nil⟩
    · rename_i ht
      obtain ⟨k, rfl, _, hwf⟩ := DataW.trod_int ht h
      simp only [Lit.wf, IntKind.min, IntKind.max, IntKind.signed, IntKind.bits, Bool.and_eq_true, decide_eq_true_eq, if_true] at hwf
      exact ⟨[.i k], by unfold Sh; rw [ht]; exact ⟨k, rfl, by omega, by omega⟩, rfl, .cons (by rw [PL.den]) .nil⟩
    · rename_i ht
      obtain ⟨k, rfl, _, hwf⟩ := DataW.trod_int ht h
      simp only [Lit.wf, IntKind.min, IntKind.max, IntKind.signed, IntKind.bits, Bool.and_eq_true, decide_eq_true_eq] at hwf
      exact ⟨[.u8 (UInt8.ofNat k.toNat)], by unfold Sh; rw [ht]; exact ⟨_, rfl⟩, rfl, .cons (by rw [PL.den]; congr 1; simp at hwf ⊢; omega) .nil⟩
    · rename_i ht
      obtain ⟨k, rfl, _, hwf⟩ := DataW.trod_int ht h
      simp only [Lit.wf, IntKind.min, IntKind.max, IntKind.signed, IntKind.bits, Bool.and_eq_true, decide_eq_true_eq] at hwf
      exact ⟨[.u32 (UInt32.ofNat k.toNat)], by unfold Sh; rw [ht]; exact ⟨_, rfl⟩, rfl, .cons (by rw [PL.den]; congr 1; simp at hwf ⊢; omega) .nil⟩
    · rename_i ht
      obtain ⟨k, rfl, _, hwf⟩ := DataW.trod_int ht h
      simp only [Lit.wf, IntKind.min, IntKind.max, IntKind.signed, IntKind.bits, Bool.and_eq_true, decide_eq_true_eq] at hwf
      exact ⟨[.u64 (UInt64.ofNat k.toNat)], by unfold Sh; rw [ht]; exact ⟨_, rfl⟩, rfl, .cons (by rw [PL.den]; congr 1; simp at hwf ⊢; omega) .nil⟩
    · rename_i ht
      obtain ⟨s, rfl, _, hs⟩ := DataW.trod_string ht h
      have hl : s.data.toList.length = s.size := Array.length_toList
      exact ⟨[.str s.data.toList], by unfold Sh; rw [ht]; exact ⟨_, rfl, by omega⟩, rfl, .cons (by rw [PL.den]; exact ⟨by simp, by omega⟩) .nil⟩
    · rename_i e ht
      simp only [Bool.and_eq_true, beq_iff_eq, bne_iff_ne] at hk
      rcases DataW.trod_slice ht h with ⟨rfl, _⟩ | ⟨a, len, cap, elems, rest, n', hn, rfl, _, hb, hl, hm, hel, hi, _⟩
      · exact ⟨[.R false (P.cellsOf e) []], by unfold Sh; rw [ht]; exact ⟨[], rfl, fun r hr => (by cases hr), Nat.zero_le _⟩, rfl, .cons (by rw [PL.den]; exact .inl ⟨rfl, rfl⟩) .nil⟩
      · cases hn
        rcases Nat.eq_zero_or_pos len with rfl | hpos
        · exact ⟨[.R false (P.cellsOf e) []], by unfold Sh; rw [ht]; exact ⟨[], rfl, fun r hr => (by cases hr), Nat.zero_le _⟩, rfl, .cons (by rw [PL.den]; exact .inr (.inr ⟨a, cap, rfl, rfl, hm, fun h => (by cases h)⟩)) .nil⟩
        have hsa : a.spot = none := by
          have h1 := hi 0 hpos
          have : 0 < elems.length := by omega
          rw [List.getElem?_eq_getElem this] at h1
          obtain ⟨cs', hc, _⟩ := Option.bind_eq_some_iff.mp h1
          obtain ⟨_, hcl, hcc⟩ := World.cells?_some hc
          have h0 := hcc 0 (by omega)
          have hlt : 0 < cs'.length := by omega
          rw [List.getElem?_eq_getElem hlt] at h0
          have := cell_spot h0
          simpa [Addr.add] using this
        obtain ⟨blk, off, sp⟩ := a
        simp only at hsa; subst hsa
        have each : ∀ i ∈ List.range len, ∃ r : List PL, Sh P n e r ∧ r.length = P.cellsOf e ∧ PL.denAt (Va.reads w).ro blk r (off + i * P.cellsOf e) := by
          intro i hi'
          have hlt : i < len := by simpa using hi'
          have h1 := hi i hlt
          have : i < elems.length := by omega
          rw [List.getElem?_eq_getElem this] at h1
          obtain ⟨cs', hc, ht'⟩ := Option.bind_eq_some_iff.mp h1
          obtain ⟨_, hcl, hcc⟩ := World.cells?_some hc
          have hcell : ∀ j v, cs'[j]? = some v → w.cell? ⟨blk, off + i * P.cellsOf e + j, none⟩ = some v := by
            intro j v hj
            have hj' : j < P.cellsOf e := by
              have := (List.getElem?_eq_some_iff.mp hj).1; omega
            have := hcc j hj'
            rw [hj] at this
            rw [← this]
            congr 1
            rw [addr_add, addr_add]
          obtain ⟨xs, hx1, hx2, hx3⟩ := ih e cs' _ ht' hk.2.2
          exact ⟨xs, hx1, by omega, denAt_of hx3 fun j v hj => hcell j v hj⟩
        obtain ⟨rows, hrows⟩ := choose_list _ each
        have hlen : rows.length = len := by have := hrows.length; simpa using this.symm
        have hget : ∀ i r, rows[i]? = some r → Sh P n e r ∧ r.length = P.cellsOf e ∧ PL.denAt (Va.reads w).ro blk r (off + i * P.cellsOf e) := by
          intro i r hr
          obtain ⟨j, hj, hp⟩ := hrows.flip.get hr
          have hil : i < len := by
            have := (List.getElem?_eq_some_iff.mp hr).1; omega
          rw [List.getElem?_range hil] at hj
          cases hj; exact hp
        refine ⟨[.R false (P.cellsOf e) rows], ?_, rfl, .cons ?_ .nil⟩
        · unfold Sh; rw [ht]
          refine ⟨rows, rfl, fun r hr => ?_, by omega⟩
          obtain ⟨i, hi'⟩ := List.mem_iff_getElem?.mp hr
          exact ⟨(hget i r hi').1, (hget i r hi').2.1⟩
        · rw [PL.den]
          refine .inr (.inl ⟨blk, off, cap, by rw [hlen], by omega, hm, fun h => (by cases h), denRows_of (fun r hr => ?_) fun i r hr => (hget i r hr).2.2⟩)
          obtain ⟨i, hi'⟩ := List.mem_iff_getElem?.mp hr
          exact (hget i r hi').2.1
    · rename_i fs ht
      simp only [Bool.and_eq_true, List.all_eq_true] at hk
      obtain ⟨xs, n', hn, _, hl, hxs, hf⟩ := DataW.trod_struct ht h
      cases hn
      have each : ∀ f ∈ fs.toList, ∃ r : List PL, (Sh P n f.type r ∧ r.length = P.cellsOf f.type) ∧ All2 (PL.den (Va.reads w).ro) r ((cs.drop f.offset).take (P.cellsOf f.type)) := by
        intro f hf'
        obtain ⟨i, hi⟩ := List.mem_iff_getElem?.mp hf'
        rw [Array.getElem?_toList] at hi
        have h1 := hf i f hi
        have hi2 : i < xs.length := by rw [hxs]; exact (Array.getElem?_eq_some_iff.mp hi).1
        rw [List.getElem?_eq_getElem hi2] at h1
        obtain ⟨ys, hy1, hy2, hy3⟩ := ih f.type _ _ h1 (hk.2 f hf')
        have hle := tile_le _ _ hk.1 f hf'
        exact ⟨ys, ⟨hy1, by rw [hy2, take_len (by omega)]⟩, hy3⟩
      obtain ⟨ps, hps⟩ := choose_list _ each
      have hfl := tile_split cs hl fs.toList 0 hk.1
      rw [List.drop_zero] at hfl
      have hall : All2 (PL.den (Va.reads w).ro) ps.flatten cs := by
        rw [← hfl]
        refine all2_flatten (All2.map_r ?_)
        exact hps.flip.mono fun p f _ h => h.2
      exact ⟨ps.flatten, by unfold Sh; rw [ht]; exact ⟨ps, rfl, hps.mono fun f p _ h => h.1⟩, hall.length, hall⟩
    · rename_i k e ht
      simp only [Bool.and_eq_true, beq_iff_eq] at hk
      obtain ⟨n', hn, hl, hi⟩ := trod_array ht h
      cases hn
      have each : ∀ i ∈ List.range k, ∃ r : List PL, (Sh P n e r ∧ r.length = P.cellsOf e) ∧ All2 (PL.den (Va.reads w).ro) r ((cs.drop (i * P.cellsOf e)).take (P.cellsOf e)) := by
        intro i hi'
        have hlt : i < k := by simpa using hi'
        obtain ⟨y', hy'⟩ := hi i hlt
        obtain ⟨ys, hy1, hy2, hy3⟩ := ih e _ _ hy' hk.2
        have hle : i * P.cellsOf e + P.cellsOf e ≤ cs.length := by
          rw [hl, hk.1]
          have : (i + 1) * P.cellsOf e ≤ k * P.cellsOf e := Nat.mul_le_mul_right _ hlt
          rw [Nat.add_mul] at this; omega
        exact ⟨ys, ⟨hy1, by rw [hy2, take_len hle]⟩, hy3⟩
      obtain ⟨ps, hps⟩ := choose_list _ each
      have hfl := chunk_flatten (P.cellsOf e) k cs (by rw [hl, hk.1])
      have hall : All2 (PL.den (Va.reads w).ro) ps.flatten cs := by
        rw [← hfl]
        refine all2_flatten (All2.map_r ?_)
        exact hps.flip.mono fun p f _ h => h.2
      refine ⟨ps.flatten, ?_, hall.length, hall⟩
      unfold Sh; rw [ht]
      refine ⟨ps, rfl, by have := hps.length; simpa using this.symm, fun p hp => ?_⟩
      obtain ⟨i, hi'⟩ := List.mem_iff_getElem?.mp hp
      obtain ⟨j, _, hj⟩ := hps.flip.get hi'
      exact hj.1
theorem open_deep {t : TypeId} {v : Value} {d : DataW H} {p : List MemPlace} {b0 : Nat} (K : List TypeId) (hK : K.all (formOk P K) = true) (hk : K.contains t = true) (hv : Value.okWide P w .any b0 t v) (hts : (match P.underlying t with
      | some (.struct _) | some (.array _ _) | some (.slice _) | some .bool | some (.int _) | some .string => true
      | _ => false) = true) (h : DataW.Trod enc P w base spare held t v d p) :
    ∃ (n : Nat) (xs : List PL), Sh P n t xs ∧ (V.w (match P.underlying t with
      | some (.struct _) | some (.array _ _) => .agg (pls xs)
      | _ => .one (.pl (xs.headD .u)))).den (Va.reads w) v := by
  obtain ⟨fuel, hf⟩ := h
  obtain ⟨xs, h1, h2, h3⟩ := open_all hK fuel t _ _ hf hk
  refine ⟨fuel, xs, h1, ?_⟩
  have hd := den_pls (d := Va.reads w) h3
  unfold Value.okWide at hv
  split at hv
  · rename_i fs ht
    obtain ⟨cs, rfl, _⟩ := hv
    rw [ht]
    exact ⟨cs, rfl, hd⟩
  · rename_i k e ht
    obtain ⟨cs, rfl, _⟩ := hv
    rw [ht]
    exact ⟨cs, rfl, hd⟩
  · rename_i hn1 hn2
    have hq : (match P.underlying t with
          | some (.slice _) | some .bool | some (.int _) | some .string => true
          | _ => false) = true := by
      split at hts
      · rename_i fs ht; exact absurd ht (hn1 fs)
      · rename_i k e ht; exact absurd ht (hn2 k e)
      all_goals simp_all
    have hone : v.cells = #[v] := by
      cases v <;> first | rfl | (exfalso; unfold Cell.okWide at hv; cases hu : P.underlying t with
          | none => rw [hu] at hq; cases hq
          | some d => rw [hu] at hv hq; cases d <;> first | (cases hq; done) | (simp [Cell.ok, hu] at hv))
    rw [hone] at hd
    have : ∃ x, xs = [x] ∧ L.den (Va.reads w) (.pl x) v := by
      cases xs with
      | nil => cases hd
      | cons x r =>
        cases hd with
        | cons g1 g2 =>
          cases r with
          | nil => exact ⟨x, rfl, g1⟩
          | cons _ _ => cases g2
    obtain ⟨x, rfl, hx⟩ := this
    split
    · rename_i fs ht; exact absurd ht (hn1 fs)
    · rename_i k e ht; exact absurd ht (hn2 k e)
    · exact hx
end
end Go.Sy

namespace Go.Sy
def CH (vw : Bool) (hd : Hand) (P : Program) (f : FuncId) (args : List V) (m : List (Nat × Ob)) (R : V → List (Nat × Ob) → Prop) : Prop := CtM P f args m R
def CF (caps : List Nat) (vw : Bool) (hd : Hand) : Prop := True
theorem Ct.cv {P : Program} {f : FuncId} {args : List V} {T : V → Prop} (h : Ct P f args fun v _ => T v) : Ct P f args fun v m => T v ∧ m = [] := h.plain fun _ _ h => h
theorem CtM.ch {P : Program} {f : FuncId} {args : List V} {m : List (Nat × Ob)} {R : V → List (Nat × Ob) → Prop} (hd : Hand) (h : CtM P f args m R) (vw : Bool := false) : CH vw hd P f args m R := h
theorem CF.mk (caps : List Nat) (hd : Hand) (vw : Bool := false) : CF caps vw hd := trivial
section
variable {P : Program} {B : Base} {S : St} {K : St → Prop} {dst : Option Tmp} {ty : TypeId} {pos : String} {af : Array Edge} {f : FuncId} {args : List Operand} {ts : Array TypeId} {ds : List (Option Tmp)} {r : List Oper} {vs : List V} {m : List (Nat × Ob)} {R : V → List (Nat × Ob) → Prop}
theorem call_v (hgo : ∀ vals w, (callFunc f vals).run P w = .ok (.enter f vals) w) (hargs : viewVs S args = some vs) (hc : Ct P f vs R) (hK : ∀ v m, R v m → resOkV m v = true ∧ adoptOk (fun k => k) S.env m S.mem = true ∧ (match dst with
      | some n => n < B.nt ∧ runOps P B ds r ⟨(n, v.ren (fun k => k)) :: S.env, adopt (fun k => k) m S.mem⟩ K
      | none => runOps P B ds r ⟨S.env, adopt (fun k => k) m S.mem⟩ K)) :
    atCall P B ⟨dst, .call ⟨.value (.func f), args.toArray, ts⟩, ty, pos, af, none⟩ S ds r K := call_view (fun k => k) hgo hargs hc hK
theorem call_h {vw : Bool} {hd : Hand} (hgo : ∀ vals w, (callFunc f vals).run P w = .ok (.enter f vals) w) (hargs : valsIn vw S hd args = some vs) (hok : hdOk hd = true) (hm : handOk S hd m) (hc : CH vw hd P f vs m R)
    (hK : ∀ v m', R v m' → leafOutV vw m' v = true ∧ outOk vw (fun k => k) hd S m m' m' ∧ hd.all (fun x => (look m' x.1).isSome) = true ∧ (match dst with
      | some n => n < B.nt ∧ runOps P B ds r ⟨(n, v.ren (outN (fun k => k) hd)) :: S.env, backM (fun k => k) hd m' S.mem⟩ K
      | none => runOps P B ds r ⟨S.env, backM (fun k => k) hd m' S.mem⟩ K)) :
    atCall P B ⟨dst, .call ⟨.value (.func f), args.toArray, ts⟩, ty, pos, af, none⟩ S ds r K := call_hand vw hd (fun k => k) hgo hargs hok hm hc hK
theorem call_f {vw : Bool} {hd : Hand} {t : Tmp} {caps ks : List Nat} (hfn : S.get (.tmp t) = some (.w (.one (.fn f caps)))) (hcaps : capsIn hd caps = some ks) (hgo : ∀ vals w, (callFunc f vals).run P w = .ok (.enter f vals) w) (hargs : valsIn vw S hd args = some vs) (hok : hdOk hd = true) (hm : handOk S hd m) (hx : CF caps vw hd) (hc : CtM P f (vs ++ ks.map fun k => .w (.one (.p k []))) m R)
    (hK : ∀ v m', R v m' → leafOutV vw m' v = true ∧ outOk vw (fun k => k) hd S m m' m' ∧ hd.all (fun x => (look m' x.1).isSome) = true ∧ (match dst with
      | some n => n < B.nt ∧ runOps P B ds r ⟨(n, v.ren (outN (fun k => k) hd)) :: S.env, backM (fun k => k) hd m' S.mem⟩ K
      | none => runOps P B ds r ⟨S.env, backM (fun k => k) hd m' S.mem⟩ K)) :
    atCall P B ⟨dst, .call ⟨.value (.tmp t), args.toArray, ts⟩, ty, pos, af, none⟩ S ds r K := call_fn vw hd (fun k => k) hfn hcaps hgo hargs hok hm hc hK
end
section
variable {P : Program} {B : Base} {c : Code} {S : St} {Q : Exit → St → Prop}
theorem HT.w (h : HT P B c S Q := by
    repeat (first
      | refine zhK _ ?_
      | (refine zhN _ ?_; clear zhN zhM)
      | (refine zhM _ _ ?_; clear zhN zhM)
      | (refine zbn _ ?_; clear zbn zbx zbr zbi)
      | (refine zbx _ ?_; clear zbn zbx zbr zbi)
      | (refine zbr _ ?_; clear zbn zbx zbr zbi)
      | (refine zbi _ _ ?_ ?_; focus (decide); clear zbn zbx zbr zbi)
      | (refine zhZ _ _ ?_; (try simp only [go_sem, F0]); (all_goals (first | rfl | exact ⟨rfl, rfl⟩ | exact told_plain rfl ⟨rfl, rfl⟩ | exact told_keep rfl (keep_one (by simp [look, F0])) ⟨rfl, rfl⟩ | exact zE | exact zE _ | (rw [zE]; done) | (simp [F0]; done) | exact zE _ (by first | rfl | (simp [look, F0]; done)))))
      | (refine zL _ ?_ ?_; all_goals (simp only [go_sem, leX, List.cons_append, List.nil_append, F0]; try simp))
      | (refine sr_k fun zK zhK => ?_; (try simp only [go_sem, F0]); (repeat' (first | apply And.intro | intro _)))
      | (refine region_k fun zK zhK => ?_; (try simp only [go_sem, F0]); (repeat' (first | apply And.intro | intro _)))
      | ((first | (refine call_v (fun _ _ => rfl) ?_ cv0 ?_; focus (first | rfl | (simp only [go_sem, F0] <;> rfl))) | (refine call_v (fun _ _ => rfl) ?_ cv1 ?_; focus (first | rfl | (simp only [go_sem, F0] <;> rfl))) | (refine call_v (fun _ _ => rfl) ?_ cv2 ?_; focus (first | rfl | (simp only [go_sem, F0] <;> rfl))) | (refine call_v (fun _ _ => rfl) ?_ cv3 ?_; focus (first | rfl | (simp only [go_sem, F0] <;> rfl))) | (refine call_v (fun _ _ => rfl) ?_ cv4 ?_; focus (first | rfl | (simp only [go_sem, F0] <;> rfl))) | (refine call_v (fun _ _ => rfl) ?_ cv5 ?_; focus (first | rfl | (simp only [go_sem, F0] <;> rfl))) | (refine call_v (fun _ _ => rfl) ?_ cv6 ?_; focus (first | rfl | (simp only [go_sem, F0] <;> rfl))) | (refine call_v (fun _ _ => rfl) ?_ cv7 ?_; focus (first | rfl | (simp only [go_sem, F0] <;> rfl))) | (refine call_v (fun _ _ => rfl) ?_ cv8 ?_; focus (first | rfl | (simp only [go_sem, F0] <;> rfl))) | (refine call_v (fun _ _ => rfl) ?_ cv9 ?_; focus (first | rfl | (simp only [go_sem, F0] <;> rfl))))
         rintro v m ⟨hR, hm⟩; subst hR; subst hm
         refine And.intro ?_ (And.intro ?_ ?_); iterate 2 (focus (first | rfl | simp only [go_sem, F0]))
         (try simp only [go_sem, F0]); (repeat' (first | apply And.intro | intro _)))
      | ((first | (refine call_h (fun _ _ => rfl) ?_ ?_ ?_ ch0 ?_; iterate 3 (focus (first | rfl | (simp only [go_sem, F0] <;> first | done | rfl | simp)))) | (refine call_h (fun _ _ => rfl) ?_ ?_ ?_ ch1 ?_; iterate 3 (focus (first | rfl | (simp only [go_sem, F0] <;> first | done | rfl | simp)))) | (refine call_h (fun _ _ => rfl) ?_ ?_ ?_ ch2 ?_; iterate 3 (focus (first | rfl | (simp only [go_sem, F0] <;> first | done | rfl | simp)))) | (refine call_h (fun _ _ => rfl) ?_ ?_ ?_ ch3 ?_; iterate 3 (focus (first | rfl | (simp only [go_sem, F0] <;> first | done | rfl | simp)))) | (refine call_h (fun _ _ => rfl) ?_ ?_ ?_ ch4 ?_; iterate 3 (focus (first | rfl | (simp only [go_sem, F0] <;> first | done | rfl | simp)))) | (refine call_h (fun _ _ => rfl) ?_ ?_ ?_ ch5 ?_; iterate 3 (focus (first | rfl | (simp only [go_sem, F0] <;> first | done | rfl | simp)))) | (refine call_h (fun _ _ => rfl) ?_ ?_ ?_ ch6 ?_; iterate 3 (focus (first | rfl | (simp only [go_sem, F0] <;> first | done | rfl | simp)))) | (refine call_f ?_ ?_ (fun _ _ => rfl) ?_ ?_ ?_ cg0 cf0 ?_; iterate 5 (focus (first | rfl | (simp only [go_sem, F0] <;> first | done | rfl | simp)))) | (refine call_f ?_ ?_ (fun _ _ => rfl) ?_ ?_ ?_ cg1 cf1 ?_; iterate 5 (focus (first | rfl | (simp only [go_sem, F0] <;> first | done | rfl | simp)))) | (refine call_f ?_ ?_ (fun _ _ => rfl) ?_ ?_ ?_ cg2 cf2 ?_; iterate 5 (focus (first | rfl | (simp only [go_sem, F0] <;> first | done | rfl | simp)))) | (refine call_f ?_ ?_ (fun _ _ => rfl) ?_ ?_ ?_ cg3 cf3 ?_; iterate 5 (focus (first | rfl | (simp only [go_sem, F0] <;> first | done | rfl | simp)))) | (refine call_f ?_ ?_ (fun _ _ => rfl) ?_ ?_ ?_ cg4 cf4 ?_; iterate 5 (focus (first | rfl | (simp only [go_sem, F0] <;> first | done | rfl | simp)))) | (refine call_f ?_ ?_ (fun _ _ => rfl) ?_ ?_ ?_ cg5 cf5 ?_; iterate 5 (focus (first | rfl | (simp only [go_sem, F0] <;> first | done | rfl | simp)))))
         rintro v m ⟨hR, hm⟩; subst hR; subst hm
         refine And.intro ?_ (And.intro ?_ (And.intro ?_ ?_)); iterate 3 (focus (first | rfl | (simp only [go_sem, F0]; done) | (simp [go_sem, look, F0]; done)))
         (try simp only [go_sem, F0]); (repeat' (first | apply And.intro | intro _)))
      | refine seq_k fun zN zM zhN zhM => ?_
      | refine block_k fun zB zbn zbx zbr zbi => ?_
      | refine skip_k ?_
      | refine ret_k ?_
      | refine exit_k ?_
      | (refine condF_k ?_ ?_; focus (first | rfl | (simp [go_sem, F0]; done)))
      | (refine condT_k ?_ ?_; focus (first | rfl | (simp [go_sem, F0]; done))))) : HT P B c S Q := h
end
theorem Ct.w {P : Program} {f : FuncId} {fn : Func} {c : Code} {args : List V} {R : V → List (Nat × Ob) → Prop} {nt : Nat} {rs : Array ResultVar} (hf : P.funcs[f]? = some fn) (hb : fn.body = some c) (hnt : fn.ntmps = nt) (hrs : fn.results = rs)
    (h : ∀ (w0 : World) (ro : Ro), HT P ⟨w0, fun _ => False, nt, ro, fun _ => none⟩ c ⟨argsE 0 args, []⟩ (endQ P rs.toList R) := by intro w0 ro; refine top_k fun zZ zhZ => ?_; exact HT.w) (hn : args.length ≤ nt := by simp) : Ct P f args R :=
  Ct.k hf hb hnt (congrArg Array.toList hrs) hn h
end Go.Sy

namespace Go.Sy
section
variable {P : Program} {B : Base} {S : St} {Q : Exit → St → Prop}
theorem loop_b {x : Code} {ι : Type} (E : List (Nat × V)) (M : List (Nat × Ob)) (e : ι → List (Nat × V)) (m : ι → List (Nat × Ob)) (μ : ι → Nat) (i₀ : ι) (h0 : leX [] S.env (e i₀ ++ E)) (h1 : leX [] S.mem (m i₀ ++ M))
    (round : ∀ i, ∀ (N : St → Prop) (M' : Exit → St → Prop), (∀ j S', μ j < μ i → leX [] S'.env (e j ++ E) → leX [] S'.mem (m j ++ M) → N S') → (∀ e S', Q e S' → M' e S') → HT P B x ⟨e i ++ E, m i ++ M⟩ (thenQ N M')) : HT P B (.loop x) S Q := by
  refine HT.loop (fun i => ⟨e i ++ E, m i ++ M⟩) μ i₀ (Le.ofX h0 h1) fun i => ?_
  exact round i _ Q (fun j S' hj he hm => ⟨j, hj, Le.ofX he hm⟩) (fun _ _ h => h)
theorem join_l {x y : Code} {α : Type} (e : α → List (Nat × V)) (m : α → List (Nat × Ob)) (p : α → Prop)
    (h1 : ∀ (N : St → Prop) (M : Exit → St → Prop), (∀ a, p a → ∀ S', leX [] S'.env (e a ++ S.env) → leX [] S'.mem (m a ++ S.mem) → N S') → (∀ e S', Q e S' → M e S') → HT P B x S (thenQ N M))
    (h2 : ∀ a, p a → HT P B y ⟨e a ++ S.env, m a ++ S.mem⟩ Q) : HT P B (.seq x y) S Q :=
  HT.seq (h1 (fun S' => HT P B y S' Q) Q (fun a ha S' he hm => HT.le (Le.ofX he hm) (h2 a ha)) (fun _ _ h => h))
end
theorem leX_cons {α : Type} {z : Nat × α} : ∀ {l r : List (Nat × α)} {ks : List Nat}, leX ks r l → leX (z.1 :: ks) (z :: r) l
  | [], _, _, _ => trivial
  | x :: l, r, ks, h => by
    refine ⟨?_, ?_⟩
    · split
      · trivial
      · rename_i hc
        have h1 := h.1
        have hx : ¬ ks.contains x.1 = true := by intro e; exact hc (by rw [List.contains_cons, e, Bool.or_true])
        rw [if_neg hx] at h1
        have hz : ¬ x.1 = z.1 := by intro e; exact hc (by simp [List.contains_cons, e])
        simp only [look]
        split
        · rename_i e; first | exact absurd e.symm hz | exact absurd e hz | (simp at e; exact absurd e.symm hz) | (simp at e; exact absurd e hz)
        · exact h1
    · have := leX_cons (z := z) h.2
      have hk : ∀ {l : List (Nat × α)} {a b : List Nat}, (∀ k, a.contains k = true → b.contains k = true) → leX a (z :: r) l → leX b (z :: r) l := by
        intro l
        induction l with
        | nil => intros; trivial
        | cons y l ih =>
          intro a b hs hl
          refine ⟨?_, ih (fun k hk => ?_) hl.2⟩
          · split
            · trivial
            · rename_i hb
              have := hl.1
              rwa [if_neg (fun e => hb (hs _ e))] at this
          · simp only [List.contains_cons, Bool.or_eq_true] at hk ⊢
            exact hk.imp id (hs k)
      refine hk (fun k hk => ?_) this
      simp only [List.contains_cons, Bool.or_eq_true] at hk ⊢
      rcases hk with h | h | h
      · exact .inr (.inl h)
      · exact .inl h
      · exact .inr (.inr h)
theorem leX_self {α : Type} : ∀ l : List (Nat × α), leX [] l l
  | [] => trivial
  | x :: l => ⟨by simp [look], leX_cons (leX_self l)⟩
end Go.Sy

namespace Go.Sy
open Go.RowKit Go.WideShapes Go.ChangeShapes Go.ChangeAt
end Go.Sy

namespace Go.Sy
theorem pls_len (c : List PL) : (pls c).length = c.length := by simp [pls]
theorem leavesIn_pseg (vw : Bool) (S : St) (hd : Hand) (r : List L) : ∀ c : List PL, leavesIn vw S hd (pls c ++ r) = (leavesIn vw S hd r).map (pls c ++ ·)
  | [] => by simp [pls]
  | x :: l => by
    have ih := leavesIn_pseg vw S hd r l
    simp only [pls] at ih
    simp only [pls, List.map_cons, List.cons_append, leavesIn, leafIn, ih]
    cases leavesIn vw S hd r <;> rfl
theorem leavesIn_pls (vw : Bool) (S : St) (hd : Hand) (c : List PL) : leavesIn vw S hd (pls c) = some (pls c) := by
  have := leavesIn_pseg vw S hd [] c
  simpa [leavesIn] using this
theorem leafOut_pls (m : List (Nat × Ob)) (c : List PL) : (pls c).all (leafOut false m) = true := by
  simp only [pls, List.all_eq_true, List.mem_map]
  rintro _ ⟨x, _, rfl⟩; rfl
theorem killL_pls (k : Nat) (c : List PL) : (pls c).map (killL k) = pls c := by simp only [pls, List.map_map]; congr 1
attribute [go_sem] leavesIn_pseg leavesIn_pls leafOut_pls killL_pls pls_has ren_pls pls_len
end Go.Sy

namespace Go.Sy

def doneTo (ops : Array Oper) (p : Nat) (listed : Array Bool) : Prop := listed.size = ops.size ∧ ∀ i, i < ops.size → listed.getD i true = decide (i < p)
def Dr (P : Program) (B : Base) (l : List Oper) (p : Nat) (S : St) (K : St → Prop) : Prop :=
  ∀ d a w, Sim B d S a w → ∀ (Q : Exit → Act → World → Prop), (∀ S' d' a' w', K S' → Sim B d' S' a' w' → Q .normal a' w') → ∀ listed, doneTo l.toArray p listed → wpAny P .any l.toArray Q (l.length - p) listed a w

theorem ready_iff (ops : Array Oper) (listed : Array Bool) (i : Nat) : i ∈ Region.ready .any ops listed ↔ i < ops.size ∧ listed.getD i true = false ∧ ∀ o, ops[i]? = some o → ∀ e ∈ o.after, Region.binds .any e = true → listed.getD e.on false = true := by
  unfold Region.ready
  simp only [List.mem_filter, List.mem_range, Bool.and_eq_true, Bool.not_eq_true']
  constructor
  · rintro ⟨h1, h2, h3⟩
    refine ⟨h1, h2, fun o ho e he hb => ?_⟩
    rw [ho] at h3
    simp only [Option.map_some, Option.getD_some, Array.all_eq_true'] at h3
    have := h3 e he
    simpa [hb] using this
  · rintro ⟨h1, h2, h3⟩
    refine ⟨h1, h2, ?_⟩
    have ho := Array.getElem?_eq_getElem h1
    rw [ho]
    simp only [Option.map_some, Option.getD_some, Array.all_eq_true']
    intro e he
    cases hb : Region.binds .any e with
    | false => rfl
    | true => simpa using h3 _ ho e he hb

theorem getD_tf {l : Array Bool} {i : Nat} (h : i < l.size) : l.getD i false = l.getD i true := by
  rw [Array.getD_eq_getD_getElem?, Array.getD_eq_getD_getElem?, Array.getElem?_eq_getElem h]; rfl
theorem doneTo.listed {ops : Array Oper} {p : Nat} {listed : Array Bool} (h : doneTo ops p listed) {i : Nat} : listed.getD i false = decide (i < p ∧ i < ops.size) := by
  by_cases hi : i < ops.size
  · rw [getD_tf (by rw [h.1]; exact hi), h.2 i hi]; simp [hi]
  · rw [Array.getD_eq_getD_getElem?, Array.getElem?_eq_none (by rw [h.1]; omega)]; simp [hi]
theorem doneTo.set {ops : Array Oper} {p : Nat} {listed : Array Bool} (h : doneTo ops p listed) (hp : p < ops.size) : doneTo ops (p + 1) (listed.setIfInBounds p true) := by
  refine ⟨by rw [Array.size_setIfInBounds]; exact h.1, fun i hi => ?_⟩
  rw [getD_set (by rw [h.1]; exact hp)]
  by_cases e : i = p
  · rw [if_pos e]; simp [e]
  · rw [if_neg e, h.2 i hi]
    by_cases h2 : i < p
    · simp [h2, Nat.lt_succ_of_lt h2]
    · have : ¬ i < p + 1 := by omega
      simp [h2, this]

def forcedB (l : List Oper) (p : Nat) : Bool :=
  (List.range l.length).all fun j => match l[j]? with
    | none => true
    | some o => if j = p then o.after.toList.all fun e => !Region.binds .any e || decide (e.on < p)
      else if p < j then o.after.toList.any fun e => Region.binds .any e && decide (p ≤ e.on) else true

theorem forced_step {P : Program} {B : Base} {l : List Oper} {p : Nat} {o : Oper} {S : St} {K : St → Prop} {ds : List (Option Tmp)} (hds : ds = dsOf l) (hf : forcedB l p = true) (ho : l[p]? = some o)
    (hN : ∀ d a w, Sim B d S a w → ∀ (next : Act → World → Prop) (Q : Exit → Act → World → Prop), (∀ S' d' a' w', Dr P B l (p + 1) S' K → Sim B d' S' a' w' → next a' w') → (if Region.wanted o (yielded l.toArray a.tmps) then o.wp P a w next Q else next (a.put o.dst undef) w)) : Dr P B l p S K := by
  intro d a w hs Q hQ listed hl
  have hp : p < l.length := (List.getElem?_eq_some_iff.mp ho).1
  have hpa : p < l.toArray.size := by simpa using hp
  have hf' := List.all_eq_true.mp hf
  rw [show l.length - p = (l.length - (p + 1)) + 1 from by omega]
  have hready : p ∈ Region.ready .any l.toArray listed := by
    refine (ready_iff _ _ _).mpr ⟨hpa, by rw [hl.2 p hpa]; simp, fun o' ho' e he hb => ?_⟩
    rw [List.getElem?_toArray, ho] at ho'; cases ho'
    have := hf' p (List.mem_range.mpr hp)
    rw [ho] at this
    simp only [if_true] at this
    have := List.all_eq_true.mp this e (by simpa using he)
    rw [hb] at this
    have hlt : e.on < p := by simpa using this
    rw [hl.listed]; simp only [decide_eq_true_eq]; exact ⟨hlt, by omega⟩
  refine ⟨fun hnil => by rw [hnil] at hready; (cases hready), fun i hi => ?_⟩
  obtain ⟨h1, h2, h3⟩ := (ready_iff _ _ _).mp hi
  have hip : i = p := by
    rw [hl.2 i h1] at h2
    have h4 : ¬ i < p := by simpa using h2
    by_cases e : i = p
    · exact e
    · exfalso
      have hlt : p < i := by omega
      have hil : i < l.length := by simpa using h1
      have := hf' i (List.mem_range.mpr hil)
      obtain ⟨o', ho'⟩ : ∃ o', l[i]? = some o' := ⟨_, List.getElem?_eq_getElem hil⟩
      rw [ho'] at this
      simp only [if_neg e, if_pos hlt] at this
      obtain ⟨e', he', h5⟩ := List.any_eq_true.mp this
      simp only [Bool.and_eq_true, decide_eq_true_eq] at h5
      have := h3 o' (by rw [List.getElem?_toArray]; exact ho') e' (by simpa using he') h5.1
      rw [hl.listed] at this
      simp only [decide_eq_true_eq] at this
      omega
  subst hip
  simp only [wpOp, List.getElem?_toArray, ho]
  have hgo := hN d a w hs (wpAny P .any l.toArray Q (l.length - (i + 1)) (listed.setIfInBounds i true)) Q (fun S' d' a' w' hK hs' => hK d' a' w' hs' Q hQ _ (hl.set hpa))
  split
  · rename_i hw
    rw [if_pos hw] at hgo; exact .inl hgo
  · rename_i hw
    rw [if_neg hw] at hgo; exact hgo

def forcedTo (l : List Oper) (p : Nat) : Nat → Bool
  | 0 => true
  | n + 1 => forcedB l p && forcedTo l (p + 1) n

theorem dr_runs_aux {P : Program} {B : Base} {l : List Oper} {ds : List (Option Tmp)} {K : St → Prop} (hds : ds = dsOf l) : ∀ (n p : Nat) (S : St), forcedTo l p n = true → runOps P B ds ((l.drop p).take n) S (fun S' => Dr P B l (p + n) S' K) → p + n ≤ l.length → Dr P B l p S K
  | 0, p, S, _, h, _ => by simpa [runOps] using h
  | n + 1, p, S, hf, h, hn => by
    simp only [forcedTo, Bool.and_eq_true] at hf
    have hp : p < l.length := by omega
    have ho := List.getElem?_eq_getElem hp
    rw [List.drop_eq_getElem_cons hp, List.take_succ_cons] at h
    have hK : ∀ S', runOps P B ds ((l.drop (p + 1)).take n) S' (fun S' => Dr P B l (p + (n + 1)) S' K) → Dr P B l (p + 1) S' K := fun S' h' => dr_runs_aux hds n (p + 1) S' hf.2 (by rw [show p + 1 + n = p + (n + 1) from by omega]; exact h') (by omega)
    refine forced_step hds hf.1 ho fun d a w hs next Q hnext => ?_
    have hds' : ds = l.toArray.toList.map (·.dst) := by rw [hds, dsOf_eq]
    generalize l[p] = o at h ho
    unfold runOps at h
    split at h
    · rename_i hg
      rw [if_pos (by simp [Region.wanted, hg])]
      split at h
      · exact h d a w hs next Q (fun S' d' a' w' hk hs' => hnext _ _ _ _ (hK _ hk) hs')
      · split at h
        · rename_i S' hst
          exact stepV_wp (K := fun S' => runOps P B ds ((l.drop (p + 1)).take n) S' (fun S' => Dr P B l (p + (n + 1)) S' K)) hst h d a w hs next Q (fun S' d' a' w' hk hs' => hnext _ _ _ _ (hK _ hk) hs')
        · exact h.elim
    · rename_i g hg
      split at h
      · rename_i c hc
        have hw := wanted_of hs hds' hg hc
        by_cases hcg : c = g.2
        · rw [hw, hcg, if_pos (by simp)]
          have h1 := h.1 hcg
          have hs2 : Sim B d (setG S ds g.1 g.2) a w := by have := setG_ok hs hc; rwa [hcg] at this
          split at h1
          · exact h1 d a w hs2 next Q (fun S' d' a' w' hk hs' => hnext _ _ _ _ (hK _ hk) hs')
          · split at h1
            · rename_i S' hst
              exact stepV_wp (K := fun S' => runOps P B ds ((l.drop (p + 1)).take n) S' (fun S' => Dr P B l (p + (n + 1)) S' K)) hst h1 d a w hs2 next Q (fun S' d' a' w' hk hs' => hnext _ _ _ _ (hK _ hk) hs')
            · exact h1.elim
        · have hc' : c = !g.2 := by cases c <;> cases hg2 : g.2 <;> simp_all
          rw [hw, if_neg (by simp [hcg])]
          have h2 := h.2 hc'
          have hs2 : Sim B d (setG S ds g.1 (!g.2)) a w := by have := setG_ok hs hc; rwa [hc'] at this
          split at h2
          · rename_i S' hput
            exact hnext _ _ _ _ (hK _ h2) (St.put_ok hs2 hput (undef_den d))
          · exact h2.elim
      · exact h.elim

theorem dr_runs {P : Program} {B : Base} {l seg : List Oper} {p : Nat} {ds : List (Option Tmp)} {S : St} {K : St → Prop} (n : Nat) (hds : dsOf l = ds) (hf : (forcedTo l p n && decide (p + n ≤ l.length)) = true) (hseg : (l.drop p).take n = seg) (h : runOps P B ds seg S (fun S' => Dr P B l (p + n) S' K)) : Dr P B l p S K := by
  simp only [Bool.and_eq_true, decide_eq_true_eq] at hf
  exact dr_runs_aux hds.symm n p S hf.1 (by rw [hseg]; exact h) hf.2

theorem dr_runs_k {P : Program} {B : Base} {l seg : List Oper} {p : Nat} {ds : List (Option Tmp)} {S : St} {K : St → Prop} (n q : Nat) (hds : dsOf l = ds) (hf : (forcedTo l p n && decide (p + n ≤ l.length)) = true) (hseg : (l.drop p).take n = seg) (hq : p + n = q) (h : ∀ N : St → Prop, (∀ S', Dr P B l q S' K → N S') → runOps P B ds seg S N) : Dr P B l p S K := by
  subst hq
  exact dr_runs n hds hf hseg (h _ fun _ h => h)

theorem dr_end {P : Program} {B : Base} {l : List Oper} {p : Nat} {S : St} {K : St → Prop} (hp : l.length = p) (h : K S) : Dr P B l p S K := by
  intro d a w hs Q hQ listed hl
  rw [show l.length - p = 0 from by omega]
  refine ⟨List.eq_nil_iff_forall_not_mem.mpr fun i hi => ?_, hQ _ _ _ _ h hs⟩
  obtain ⟨h1, h2, _⟩ := (ready_iff _ _ _).mp hi
  rw [hl.2 i h1] at h2
  simp at h1 h2
  omega

theorem dr_k {P : Program} {B : Base} {id : Nat} {l : List Oper} {S : St} {Q : Exit → St → Prop} (hm : P.follows .mixedOrders = true)
    (h : ∀ K : St → Prop, (∀ S', Q .normal S' → K S') → Dr P B l 0 S K) : HT P B (.region id l.toArray true) S Q := by
  intro d a w hs
  refine wp_region_any hm ?_
  have := h (Q .normal) (fun _ h => h) d a _ (hs.drew (w' := { w with drawn := w.drawn + 1 }) rfl rfl rfl rfl) (fun e a' w' => ∃ S' d', Q e S' ∧ Sim B d' S' a' w') (fun S' d' a' w' hq hs' => ⟨S', d', hq, hs'⟩) (Array.replicate l.toArray.size false) ⟨by simp, fun i hi => by rw [Array.getD_eq_getD_getElem?, Array.getElem?_replicate, if_pos hi]; simp⟩
  simpa using this
end Go.Sy

namespace Go.Sy

section
variable {P : Program} {B : Base} {ops : Array Oper} {ds : List (Option Tmp)} {bef : Nat → Nat → Prop}

structure Rest2 (P : Program) (B : Base) (ops : Array Oper) (ds : List (Option Tmp)) (bef : Nat → Nat → Prop) (p n : Nat) (listed : Array Bool) (R : List (Nat × It)) (S : St) : Prop where
  size : listed.size = ops.size
  le : n ≤ ops.size
  at_ : ∀ x ∈ R, ops[x.1]? = some x.2.o
  from_ : ∀ x ∈ R, p ≤ x.1
  open_ : ∀ i, (i ∈ R.map (·.1) ↔ i < n ∧ listed.getD i true = false)
  later : ∀ i, n ≤ i → i < ops.size → listed.getD i true = false
  ord : R.Pairwise fun p q => p.1 < q.1 ∧ (bef q.1 p.1 ∨ Ind ds p.2 q.2)
  ok : OKs P ds (R.map (·.2)) S
  new : AllNew (R.map (·.2)) S
  apart : NamesApart (R.map (·.2))
  dst : ∀ p ∈ R, ∀ n, p.2.o.dst = some n → n < B.nt
  closed : ∀ i o, ops[i]? = some o → listed.getD i true = true → i < ops.size → ∀ e ∈ o.after, Region.binds .any e = true → listed.getD e.on false = true

theorem seg_ok {K : St → Prop} {Q : Exit → Act → World → Prop} {p n : Nat} (hds : ds = ops.toList.map (·.dst)) (hback : ∀ i o, ops[i]? = some o → ∀ e ∈ o.after, Region.binds .any e = true → e.on < i)
    (hbef : ∀ i o, ops[i]? = some o → ∀ x, bef i x → ∃ e ∈ o.after, Region.binds .any e = true ∧ (e.on = x ∨ bef e.on x))
    (hlate : ∀ i o, ops[i]? = some o → n ≤ i → ∀ x, p ≤ x → x < n → bef i x)
    (hK : ∀ S d a w listed, K S → Sim B d S a w → doneTo ops n listed → wpAny P .any ops Q (ops.size - n) listed a w) :
    ∀ (fuel : Nat) (listed : Array Bool) (R : List (Nat × It)) (S : St) d a w, R.length = fuel → Rest2 P B ops ds bef p n listed R S → (∀ S', Eqv (fin (R.map (·.2)) S) S' → K S') → Sim B d S a w → wpAny P .any ops Q (fuel + (ops.size - n)) listed a w := by
  have hclosed : ∀ (listed : Array Bool), listed.size = ops.size → (∀ i o, ops[i]? = some o → listed.getD i true = true → i < ops.size → ∀ e ∈ o.after, Region.binds .any e = true → listed.getD e.on false = true) →
      ∀ n i o, i ≤ n → ops[i]? = some o → (∀ e ∈ o.after, Region.binds .any e = true → listed.getD e.on false = true) → ∀ x, bef i x → listed.getD x false = true := by
    intro listed hsz hcl n
    induction n with
    | zero =>
      intro i o hi ho hp x hx
      obtain ⟨e, he, hb, h⟩ := hbef i o ho x hx
      have := hback i o ho e he hb; omega
    | succ n ih =>
      intro i o hi ho hp x hx
      obtain ⟨e, he, hb, h⟩ := hbef i o ho x hx
      have hlt := hback i o ho e he hb
      have hl := hp e he hb
      rcases h with rfl | h
      · exact hl
      · have hes : e.on < ops.size := by
          have := (Array.getElem?_eq_some_iff.mp ho).1; omega
        obtain ⟨o', ho'⟩ : ∃ o', ops[e.on]? = some o' := ⟨_, Array.getElem?_eq_getElem hes⟩
        refine ih e.on o' (by omega) ho' (hcl e.on o' ho' ?_ hes) x h
        rw [← getD_tf (by omega)]; exact hl
  intro fuel
  induction fuel with
  | zero =>
    intro listed R S d a w hlen hR hfin hs
    have : R = [] := List.eq_nil_of_length_eq_zero hlen
    subst this
    rw [Nat.zero_add]
    refine hK _ _ _ _ _ (hfin S (Eqv.rfl' _)) hs ⟨hR.size, fun i hi => ?_⟩
    by_cases h : i < n
    · have := hR.open_ i
      simp only [List.map_nil, List.not_mem_nil, false_iff, not_and, Bool.not_eq_false] at this
      rw [this h]; simp [h]
    · rw [hR.later i (by omega) hi]; simp [h]
  | succ fuel ih =>
    intro listed R S d a w hlen hR hfin hs
    rw [show fuel + 1 + (ops.size - n) = fuel + (ops.size - n) + 1 from by omega]
    have hin0 : ∀ x ∈ R, x.1 < n ∧ listed.getD x.1 true = false := fun x hx => (hR.open_ x.1).mp (List.mem_map_of_mem hx)
    refine ⟨fun hnil => ?_, fun i hi => ?_⟩
    · cases R with
      | nil => cases hlen
      | cons q r =>
        exfalso
        obtain ⟨h1, h2⟩ := (hR.open_ q.1).mp (by simp)
        have : q.1 ∈ Region.ready .any ops listed := by
          refine (ready_iff ops listed q.1).mpr ⟨Nat.lt_of_lt_of_le h1 hR.le, h2, fun o ho e he hb => ?_⟩
          have hlt := hback q.1 o ho e he hb
          cases hl : listed.getD e.on false with
          | true => rfl
          | false =>
            exfalso
            have hes : e.on < listed.size := by rw [hR.size]; have := hR.le; omega
            have : listed.getD e.on true = false := by rw [← getD_tf hes]; exact hl
            have hin := (hR.open_ e.on).mpr ⟨by omega, this⟩
            simp only [List.map_cons, List.mem_cons, List.mem_map] at hin
            have hord := List.pairwise_cons.mp hR.ord
            rcases hin with hin | ⟨q, hq, hin⟩
            · omega
            · have := (hord.1 q hq).1; omega
        rw [hnil] at this; cases this
    · obtain ⟨h1, h2, h3⟩ := (ready_iff ops listed i).mp hi
      have hin : i < n := by
        rcases Nat.lt_or_ge i n with h | h
        · exact h
        · exfalso
          obtain ⟨o, ho⟩ : ∃ o, ops[i]? = some o := ⟨_, Array.getElem?_eq_getElem h1⟩
          cases R with
          | nil => cases hlen
          | cons q r =>
            obtain ⟨h4, h5⟩ := hin0 q (by simp)
            have h6 := hclosed listed hR.size hR.closed i i o (Nat.le_refl _) ho (h3 o ho) q.1 (hlate i o ho h q.1 (hR.from_ q (by simp)) h4)
            rw [getD_tf (by rw [hR.size]; have := hR.le; omega), h5] at h6; cases h6
      have hin := (hR.open_ i).mpr ⟨hin, h2⟩
      obtain ⟨⟨i', x⟩, hx, e⟩ := List.mem_map.mp hin
      simp only at e; subst e
      obtain ⟨ys, r, rfl⟩ := List.append_of_mem hx
      have hox : ops[i']? = some x.o := hR.at_ _ hx
      have hord := List.pairwise_append.mp hR.ord
      have hordi := List.pairwise_cons.mp hord.2.1
      have hind : ∀ y ∈ ys.map (·.2), Ind ds y x := by
        intro y hy
        obtain ⟨⟨j, y'⟩, hj, rfl⟩ := List.mem_map.mp hy
        have hp := hord.2.2 _ hj (i', x) (by simp)
        rcases hp.2 with hb | hb
        · exfalso
          have hl := hclosed listed hR.size hR.closed i' i' x.o (Nat.le_refl _) hox (h3 x.o hox) j hb
          have hopen := (hR.open_ j).mp (by simp only [List.map_append, List.mem_append, List.mem_map]; exact .inl ⟨_, hj, rfl⟩)
          rw [getD_tf (by rw [hR.size]; have := hR.le; have := hopen.1; omega), hopen.2] at hl; cases hl
        · exact hb
      have hok := hR.ok
      have hnew := hR.new
      have hap := hR.apart
      simp only [List.map_append, List.map_cons] at hok hnew hap
      obtain ⟨g1, g2, g3⟩ := bubble hok hnew hap hind
      have hnx : ∀ k ∈ x.e.names, New k S := fun k hk => hnew x (by simp) k hk
      have hdst : ∀ n, x.o.dst = some n → n < B.nt := hR.dst _ hx
      have hR' : Rest2 P B ops ds bef p n (listed.setIfInBounds i' true) (ys ++ r) (x.on S) := by
        have hi2 : i' < listed.size := by rw [hR.size]; exact h1
        have hlt : ∀ p ∈ ys, p.1 < i' := fun p hp => (hord.2.2 p hp (i', x) (by simp)).1
        have hgt : ∀ p ∈ r, i' < p.1 := fun p hp => (hordi.1 p hp).1
        have sub : ∀ q ∈ ys ++ r, q ∈ ys ++ (i', x) :: r := fun q hq => by
          simp only [List.mem_append, List.mem_cons] at hq ⊢; rcases hq with hq | hq; exact .inl hq; exact .inr (.inr hq)
        refine ⟨by rw [Array.size_setIfInBounds]; exact hR.size, hR.le, fun p hp => hR.at_ p (sub p hp), fun q hq => hR.from_ q (sub q hq), fun j => ?_, fun j hj hjs => ?_, ?_, ?_, ?_, ?_, fun p hp => hR.dst p (sub p hp), ?_⟩
        · have hj := hR.open_ j
          rw [getD_set hi2]
          simp only [List.map_append, List.map_cons, List.mem_append, List.mem_cons, List.mem_map] at hj ⊢
          by_cases hji : j = i'
          · subst hji
            rw [if_pos rfl]
            constructor
            · rintro (⟨p, hp, e⟩ | ⟨p, hp, e⟩)
              · have := hlt p hp; omega
              · have := hgt p hp; omega
            · rintro ⟨_, h⟩; cases h
          · rw [if_neg hji, ← hj]
            constructor
            · rintro (h | h)
              · exact .inl h
              · exact .inr (.inr h)
            · rintro (h | h | h)
              · exact .inl h
              · exact absurd h hji
              · exact .inr h
        · have := (hin0 (i', x) (by simp)).1
          rw [getD_set hi2, if_neg (by omega)]
          exact hR.later j hj hjs
        · exact List.pairwise_append.mpr ⟨hord.1, hordi.2, fun p hp q hq => hord.2.2 p hp q (by simp [hq])⟩
        · rw [List.map_append]; exact g2
        · rw [List.map_append]
          have hmid := apart_mid hap
          refine AllNew.on (P := P) (ds := ds) (x := x) (r := ys.map (·.2) ++ r.map (·.2)) (S := S) (fun y hy k hk => hnew y ?_ k hk) g1 hmid
          simp only [List.mem_append, List.mem_cons] at hy ⊢; rcases hy with hy | hy; exact .inl hy; exact .inr (.inr hy)
        · rw [List.map_append]; exact hap.drop
        · intro j o ho hl hjs e he hb
          rw [getD_set hi2] at hl ⊢
          by_cases hei : e.on = i'
          · rw [if_pos hei]
          · rw [if_neg hei]
            by_cases hji : j = i'
            · subst hji
              rw [hox] at ho; cases ho
              exact h3 _ hox e he hb
            · rw [if_neg hji] at hl
              exact hR.closed j o ho hl hjs e he hb
      have hlen' : (ys ++ r).length = fuel := by simp at hlen ⊢; omega
      have hgo : ∀ d' a' w', Sim B d' (x.on S) a' w' → wpAny P .any ops Q (fuel + (ops.size - n)) (listed.setIfInBounds i' true) a' w' := by
        intro d' a' w' hs'
        refine ih _ (ys ++ r) (x.on S) d' a' w' hlen' hR' (fun S' he => hfin S' ?_) hs'
        simp only [List.map_append, List.map_cons]
        rw [List.map_append] at he
        exact g3.trans he
      have hev := g1.ev
      have hg := g1.guard
      have run : x.skip = false → x.o.wp P a w (wpAny P .any ops Q (fuel + (ops.size - n)) (listed.setIfInBounds i' true)) Q := by
        intro hsk
        rw [hsk] at hev
        simp only [Bool.false_eq_true, if_false] at hev
        exact hev.run hs hnx hdst _ _ hgo
      have skp : x.skip = true → wpAny P .any ops Q (fuel + (ops.size - n)) (listed.setIfInBounds i' true) (a.put x.o.dst undef) w := by
        intro hsk
        rw [hsk] at hev
        simp only [if_true] at hev
        refine hgo d _ _ ?_
        unfold It.on
        rw [hev]
        exact Sim.putE hs (v := .tup []) (undef_den d) hdst
      simp only [wpOp, hox]
      cases hgd : x.o.guard with
      | none =>
        rw [hgd] at hg
        rw [if_pos (by simp [Region.wanted, hgd])]
        exact .inl (run hg)
      | some g =>
        rw [hgd] at hg
        simp only at hg
        obtain ⟨c, hc, hsk⟩ := hg
        have hw := wanted_of hs hds hgd hc
        rw [hw]
        by_cases hcg : c = g.2
        · rw [if_pos (by simp [hcg])]
          exact .inl (run (by rw [hsk, hcg]; simp))
        · rw [if_neg (by simp [hcg])]
          exact skp (by rw [hsk]; simpa using hcg)
end

def pieceOk (ds : List (Option Tmp)) (c : List Nat) (need : List (Nat × Nat)) (p n : Nat) (l : List Oper) : Bool :=
  decide (p ≤ n) && decide (n ≤ l.length) && (List.range l.length).all fun j => match l[j]? with
    | none => true
    | some o => o.after.toList.all (fun e => !Region.binds .any e || decide (e.on < j)) &&
      (List.range j).all fun i =>
        (!(c.getD j 0).testBit i || o.after.toList.any (fun e => Region.binds .any e && (e.on == i || (decide (i < e.on) && (c.getD e.on 0).testBit i)))) &&
        (decide (i < p) || decide (n ≤ i) || (c.getD j 0).testBit i || (decide (j < n) && match l[i]? with
          | some x => dstS ds x o && ((!mutOp x.op && !mutOp o.op) || need.contains (i - p, j - p))
          | none => true))

theorem dr_piece {P : Program} {B : Base} {l seg : List Oper} {p : Nat} {ds : List (Option Tmp)} {S : St} {K : St → Prop} (n : Nat) (names c : List Nat) (need : List (Nat × Nat)) (hds : dsOf l = ds) (hst : pieceOk ds c need p n l = true) (hseg : (l.drop p).take (n - p) = seg)
    (hn : names.all (fun k => fresh k S && (look S.mem k).isNone) = true)
    (h : ∀ K' : St → List Da → Prop, (∀ S' D, chkD seg D need → Dr P B l n S' K → K' S' D) → runD P B.nt names ds (!need.isEmpty) seg [] [] S K') : Dr P B l p S K := by
  intro d a w hs Q hQ listed hlisted
  obtain ⟨its, hi, hchk, hK⟩ := runD_items (h (fun S' D => chkD seg D need ∧ Dr P B l n S' K) (fun _ _ h1 h2 => ⟨h1, h2⟩))
  have hget : ∀ i o, l.toArray[i]? = some o → l[i]? = some o := fun i o h => by rw [List.getElem?_toArray] at h; exact h
  simp only [pieceOk, Bool.and_eq_true, decide_eq_true_eq, List.all_eq_true, List.mem_range] at hst
  obtain ⟨⟨hpn, hnl⟩, hst⟩ := hst
  have hst' : ∀ j o, l[j]? = some o → (∀ e ∈ o.after, Region.binds .any e = true → e.on < j) ∧ ∀ i, i < j →
      ((c.getD j 0).testBit i = true → ∃ e ∈ o.after, Region.binds .any e = true ∧ (e.on = i ∨ (i < e.on ∧ (c.getD e.on 0).testBit i = true))) ∧
      (p ≤ i → i < n → (c.getD j 0).testBit i = true ∨ (j < n ∧ ∀ x, l[i]? = some x → dstS ds x o = true ∧ ((mutOp x.op = false ∧ mutOp o.op = false) ∨ (i - p, j - p) ∈ need))) := by
    intro j o ho
    have hj := (List.getElem?_eq_some_iff.mp ho).1
    have := hst j hj
    rw [ho] at this
    simp only [Bool.and_eq_true, List.all_eq_true, List.mem_range, Bool.or_eq_true, Bool.not_eq_true', decide_eq_true_eq, List.any_eq_true, beq_iff_eq] at this
    refine ⟨fun e he hb => ?_, fun i hi => ?_⟩
    · rcases this.1 e (by simpa using he) with h1 | h1
      · rw [hb] at h1; cases h1
      · exact h1
    · obtain ⟨h1, h2⟩ := this.2 i hi
      refine ⟨fun ht => ?_, fun h3 h4 => ?_⟩
      · rcases h1 with h1 | ⟨e, he, hb, h1⟩
        · rw [ht] at h1; cases h1
        · exact ⟨e, by simpa using he, hb, h1⟩
      · rcases h2 with ((h2 | h2) | h2) | ⟨h5, h2⟩
        · omega
        · omega
        · exact .inl h2
        · right
          refine ⟨h5, fun x hx => ?_⟩
          rw [hx] at h2
          simp only [Bool.and_eq_true, Bool.or_eq_true, Bool.not_eq_true', List.contains_iff_mem] at h2
          exact h2
  have hseglen : seg.length = n - p := by rw [← hseg, List.length_take, List.length_drop]; omega
  have hlen : its.length = n - p := by rw [← hseglen, ← hi.ops, List.length_map]
  have hsegat : ∀ i o, seg[i]? = some o → l[p + i]? = some o := by
    intro i o ho
    have hlt := (List.getElem?_eq_some_iff.mp ho).1
    rw [← hseg, List.getElem?_take, if_pos (by omega), List.getElem?_drop] at ho
    exact ho
  let R : List (Nat × It) := its.zipIdx.map fun q => (q.2 + p, q.1)
  have hRmap : R.map (·.2) = its := by
    simp only [R, List.map_map]
    exact List.zipIdx_map_fst 0 its
  have hRmem : ∀ q ∈ R, p ≤ q.1 ∧ its[q.1 - p]? = some q.2 := by
    intro q hq
    obtain ⟨⟨x, i⟩, hq', rfl⟩ := List.mem_map.mp hq
    have := List.mem_zipIdx_iff_getElem?.mp hq'
    exact ⟨Nat.le_add_left _ _, by simpa using this⟩
  have hitl : ∀ (i : Nat) (x : It), its[i]? = some x → seg[i]? = some x.o := by
    intro i x hx
    rw [← hi.ops, List.getElem?_map, hx]; rfl
  have hRl : ∀ q ∈ R, l[q.1]? = some q.2.o := by
    intro q hq
    obtain ⟨h1, h2⟩ := hRmem q hq
    have := hsegat _ _ (hitl _ _ h2)
    rwa [show p + (q.1 - p) = q.1 from by omega] at this
  have hRn : ∀ q ∈ R, q.1 < n := by
    intro q hq
    obtain ⟨h1, h2⟩ := hRmem q hq
    have := (List.getElem?_eq_some_iff.mp h2).1
    omega
  have hmain := seg_ok (P := P) (B := B) (ops := l.toArray) (ds := ds) (bef := fun j i => i < j ∧ (c.getD j 0).testBit i = true) (Q := Q) (p := p) (n := n) (K := fun S' => Eqv S' (fin its S))
    (by rw [← hds, dsOf_eq]) (fun i o ho => (hst' i o (hget i o ho)).1) ?_ ?_ ?_ its.length listed R S d a w (by simp [R]) ?_ ?_ hs
  · rw [hlen, show n - p + (l.toArray.size - n) = l.length - p from by simp; omega] at hmain
    exact hmain
  · intro i o ho x ⟨hx1, hx2⟩
    obtain ⟨e, he, hb, h1⟩ := ((hst' i o (hget i o ho)).2 x hx1).1 hx2
    exact ⟨e, he, hb, h1⟩
  · intro i o ho hni x hpx hxn
    rcases ((hst' i o (hget i o ho)).2 x (by omega)).2 hpx hxn with h1 | h1
    · exact ⟨by omega, h1⟩
    · omega
  · intro S' d' a' w' listed' he hs' hl'
    have := hK d' a' w' (hs'.eqv he) Q hQ listed' hl'
    simpa using this
  · refine ⟨hlisted.1, by simpa using hnl, fun q hq => (by rw [List.getElem?_toArray]; exact hRl q hq : l.toArray[q.1]? = some q.2.o), fun q hq => (hRmem q hq).1, fun i => ?_, fun i hi1 hi2 => ?_, ?_, by rw [hRmap]; exact hi.ok, ?_, by rw [hRmap]; exact hi.apart, fun q hq => hi.dst q.2 (by rw [← hRmap]; exact List.mem_map_of_mem hq), ?_⟩
    · constructor
      · intro h1
        obtain ⟨q, hq, rfl⟩ := List.mem_map.mp h1
        have h2 := hRn q hq
        refine ⟨h2, ?_⟩
        rw [hlisted.2 q.1 (by simp; omega)]
        have := (hRmem q hq).1
        simp; omega
      · rintro ⟨h1, h2⟩
        rw [hlisted.2 i (by simp; omega)] at h2
        have h3 : p ≤ i := by simpa using h2
        have h4 : i - p < its.length := by omega
        refine List.mem_map.mpr ⟨(i, its[i - p]), ?_, rfl⟩
        refine List.mem_map.mpr ⟨(its[i - p], i - p), ?_, by simp; omega⟩
        exact List.mem_zipIdx_iff_getElem?.mpr (by simp [h4])
    · rw [hlisted.2 i hi2]; simp; omega
    · have hp1 : its.zipIdx.Pairwise fun p q => p.2 < q.2 := by
        rw [List.pairwise_iff_getElem]
        intro i j hi' hj' hij
        simp only [List.getElem_zipIdx]; omega
      have hp2 : R.Pairwise fun p q => p.1 < q.1 := List.pairwise_map.mpr (hp1.imp fun h => by simp only; omega)
      refine hp2.imp_of_mem ?_
      intro x y hp hq hlt
      refine ⟨hlt, ?_⟩
      obtain ⟨hpi0, hpi⟩ := hRmem x hp
      obtain ⟨hqi0, hqi⟩ := hRmem y hq
      rcases ((hst' y.1 y.2.o (hRl _ hq)).2 x.1 hlt).2 hpi0 (hRn _ hp) with h1 | ⟨_, h1⟩
      · exact .inl ⟨hlt, h1⟩
      · right
        obtain ⟨h2, h3⟩ := h1 _ (hRl _ hp)
        have hpm : x.2 ∈ its := List.mem_of_getElem? hpi
        have hqm : y.2 ∈ its := List.mem_of_getElem? hqi
        simp only [dstS, Bool.and_eq_true] at h2
        have sub : ∀ x : It, ∀ n, n ∈ tmpsOf (x.reads ds) → n ∈ tmpsOf (gslot ds x.o ++ x.o.op.operands.toList) := by
          intro x n hn
          unfold It.reads at hn
          simp only [tmpsOf, List.filterMap_append, List.mem_append] at hn ⊢
          rcases hn with hn | hn
          · exact .inl hn
          · right
            split at hn
            · cases hn
            · exact hn
        have hmu : (x.2.e.mut = false ∨ y.2.e.mut = false ∨ apartE x.2.e y.2.e) ∧ touch x.2 y.2 ∧ touch y.2 x.2 := by
          rcases h3 with ⟨h4, h5⟩ | h4
          · have e1 : x.2.e.mut = false := by
              cases hc : x.2.e.mut with
              | false => rfl
              | true => have := hi.mu _ hpm hc; rw [h4] at this; cases this
            have e2 : y.2.e.mut = false := by
              cases hc : y.2.e.mut with
              | false => rfl
              | true => have := hi.mu _ hqm hc; rw [h5] at this; cases this
            exact ⟨.inl e1, touch_not e1, touch_not e2⟩
          · have := chkD_mem hchk _ h4
            have hk : (!need.isEmpty) = true := by
              cases need with
              | nil => cases h4
              | cons => rfl
            rw [hk] at this
            simp only [cond_true, List.nil_append, List.getElem?_map, hpi, hqi, hitl _ _ hpi, hitl _ _ hqi, Option.map_some, atD, pairD] at this
            have hd1 := hi.dp _ hpm
            have hd2 := hi.dp _ hqm
            rw [hk] at hd1 hd2
            exact ⟨this.1, touch_of this.2.1 hd2, touch_of this.2.2 hd1⟩
        refine ⟨fun n hn' hin => ?_, fun n hn' hin => ?_, fun n hn' => ?_, hmu.1, hmu.2.1, hmu.2.2⟩
        · have := h2.1
          rw [hn'] at this
          simp only [Bool.and_eq_true, Bool.not_eq_true'] at this
          have hc := sub _ _ hin
          rw [← List.contains_iff_mem] at hc
          rw [this.1] at hc; cases hc
        · have := h2.2
          rw [hn'] at this
          simp only [Bool.not_eq_true'] at this
          have hc := sub _ _ hin
          rw [← List.contains_iff_mem] at hc
          rw [this] at hc; cases hc
        · have := h2.1
          rw [hn'] at this
          simp only [Bool.and_eq_true, bne_iff_ne] at this
          exact this.2
    · rw [hRmap]
      intro x hx k hk
      have := (hi.nm x hx k hk).1
      simp only [List.all_eq_true, Bool.and_eq_true] at hn
      have h1 := hn k this
      have h2 := hasE_not h1.1
      exact ⟨⟨fun n v hv => hasE_look h2.1 hv, fun n o ho => hasM_look h2.2 ho, fresh_lt h1.1⟩, by simpa using h1.2⟩
    · intro i o ho hl hsz e he hb
      rw [hlisted.2 i hsz] at hl
      have h1 := (hst' i o (hget i o ho)).1 e he hb
      rw [hlisted.listed]
      simp at hl hsz ⊢
      omega
  · intro S' he
    rw [hRmap] at he
    exact he.symm
theorem dr_piece_k {P : Program} {B : Base} {l seg : List Oper} {p : Nat} {ds : List (Option Tmp)} {S : St} {K : St → Prop} (n : Nat) (names c : List Nat) (need : List (Nat × Nat)) (hds : dsOf l = ds) (hst : pieceOk ds c need p n l = true) (hseg : (l.drop p).take (n - p) = seg)
    (hn : names.all (fun k => fresh k S && (look S.mem k).isNone) = true)
    (h : ∀ (N : St → Prop) (K' : St → List Da → Prop), (∀ S', Dr P B l n S' K → N S') → (∀ S' D, chkD seg D need → N S' → K' S' D) → runD P B.nt names ds (!need.isEmpty) seg [] [] S K') : Dr P B l p S K :=
  dr_piece n names c need hds hst hseg hn fun K' hK' => h (fun S' => Dr P B l n S' K) K' (fun _ h => h) hK'
end Go.Sy

namespace Go.Sy
theorem V.ren_same (v : V) : v.ren (fun k => k) = v := by
  have hw : ∀ x : W, x.ren (fun k => k) = x := by
    intro x
    cases x with
    | one l => simp only [W.ren, L.ren_id]
    | agg cs => simp only [W.ren, W.agg.injEq]; exact List.map_id'' L.ren_id _
  cases v with
  | w x => simp only [V.ren, hw]
  | tup xs => simp only [V.ren, V.tup.injEq]; exact List.map_id'' hw _
  | any => rfl
theorem mem_look {m2 : List (Nat × Ob)} {k : Nat} {o : Ob} (h : look m2 k = some o) : (k, o) ∈ m2 := by
  induction m2 with
  | nil => cases h
  | cons x r ih =>
    simp only [look] at h
    split at h
    · rename_i e; cases h; subst e; exact .head _
    · exact .tail _ (ih h)
theorem told_some {R : V → List (Nat × Ob) → Prop} {v : V} {m m2 : List (Nat × Ob)} (hm : ∀ x ∈ m2, look m x.1 = some x.2) (h : R v m2) : Told R v m :=
  told_tidy ⟨fun k => k, v, m2, (V.ren_same v).symm, within_sub fun k o hk => hm _ (mem_look hk), h⟩
section
variable {P : Program} {B : Base} {S : St} {K : St → Prop} {dst : Option Tmp} {ty : TypeId} {pos : String} {af : Array Edge} {f : FuncId} {args : List Operand} {ts : Array TypeId} {ds : List (Option Tmp)} {r : List Oper} {vs : List V} {m : List (Nat × Ob)} {R : V → List (Nat × Ob) → Prop}
end
section
variable {P : Program} {B : Base} {c : Code} {S : St} {Q : Exit → St → Prop}
end
end Go.Sy

namespace Go.Sy
def wkM (k : Nat) (c : List L) : List (Nat × Ob) → List (Nat × Ob)
  | [] => []
  | x :: r => (if x.1 = k then (x.1, ⟨x.2.row, c⟩) else x) :: wkM k c r
theorem look_wk {k : Nat} {c : List L} {n : Nat} : ∀ {m : List (Nat × Ob)}, look (wkM k c m) n = if n = k then (look m n).map (fun o => ⟨o.row, c⟩) else look m n
  | [] => by simp [wkM, look]
  | x :: r => by
    have ih := look_wk (k := k) (c := c) (n := n) (m := r)
    by_cases hx : x.1 = k
    · by_cases hn : n = x.1
      · have hk : n = k := hn.trans hx
        simp [wkM, look, hx, hn, hk]
      · have hk : ¬ n = k := fun e => hn (e.trans hx.symm)
        simp only [wkM, if_pos hx, look, if_neg hn, ih, if_neg hk]
    · by_cases hn : n = x.1
      · have hk : ¬ n = k := fun e => hx (hn.symm.trans e)
        simp only [wkM, if_neg hx, look, if_pos hn, if_neg hk]
      · simp only [wkM, if_neg hx, look, if_neg hn, ih]
theorem Le.weak {B : Base} {S : St} (k : Nat) (c : List L) {o : Ob} (hk : look S.mem k = some o) (hg : k < gl0) (hc : ∀ (d : Va) vals, All2 (L.den d) o.cells vals → All2 (L.den d) c vals) : Le B S ⟨S.env, wkM k c S.mem⟩ := by
  intro d a w h
  have hs : ∀ j, (look (wkM k c S.mem) j).isSome = (look S.mem j).isSome := by
    intro j; rw [look_wk]; split <;> simp
  refine ⟨d, { h with mem := ?_, inj := ?_, own := ?_, glob := ?_, fix := ?_ }⟩
  · intro j oj hj hjg
    rw [look_wk] at hj
    split at hj
    · rename_i e; subst e
      rw [hk] at hj
      simp only [Option.map_some, Option.some.injEq] at hj
      subst hj
      obtain ⟨vals, spare, ty, fr, h1, h2, h3, h4, h5⟩ := h.mem j o hk hjg
      exact ⟨vals, spare, ty, fr, h1, h2, hc d vals h3, h4, h5⟩
    · exact h.mem j oj hj hjg
  · intro j j' hj hj'
    rw [hs] at hj hj'
    exact h.inj j j' hj hj'
  · intro j hj
    rw [hs] at hj
    exact h.own j hj
  · intro j oj hj hjg
    rw [look_wk, if_neg (by omega)] at hj
    exact h.glob j oj hj hjg
  · intro j oj p hj hp hjg
    have : (look S.mem j).isSome = true := by rw [← hs, hj]; rfl
    obtain ⟨o', ho'⟩ := Option.isSome_iff_exists.mp this
    exact h.fix j o' p ho' hp hjg
theorem ht_weak {P : Program} {B : Base} {Q : Exit → St → Prop} {S : St} {x : Code} (k : Nat) (c : List L) {o : Ob} (hk : look S.mem k = some o) (hg : k < gl0) (hc : ∀ (d : Va) vals, All2 (L.den d) o.cells vals → All2 (L.den d) c vals) (h : HT P B x ⟨S.env, wkM k c S.mem⟩ Q) : HT P B x S Q := HT.le (Le.weak k c hk hg hc) h
end Go.Sy

