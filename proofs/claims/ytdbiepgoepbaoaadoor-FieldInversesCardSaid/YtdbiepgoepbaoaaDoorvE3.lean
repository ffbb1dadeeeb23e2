/- The layer that reckons a function out, part 3 of 3: what it says of states, operations, regions, loops, calls. CONDITIONS: those that each theorem names. -/
import Derived.Test.YtdbiepgoepbaoaaDoorvE2
import Derived.Handed
import Derived.Lib.LaidTab
import Derived.LaidLaws
set_option linter.unusedVariables false
set_option linter.unusedSimpArgs false
namespace Go.Sy

section
variable {B : Base} {d : Va} {S : St} {a : Act} {w : World} {k : Nat} {o : Ob} {c : List PL}

end

theorem CtM.k {P : Program} {f : FuncId} {fn : Func} {c : Code} {args : List V} {m : List (Nat × Ob)} {R : V → List (Nat × Ob) → Prop} {nt : Nat} {rs : List ResultVar} (hf : P.funcs[f]? = some fn) (hb : fn.body = some c) (hnt : fn.ntmps = nt) (hrs : fn.results.toList = rs) (hn : args.length ≤ nt)
    (h : ∀ (w0 : World) (ro : Ro) (may : Nat → Prop) (fx : Nat → Option (Nat × Nat)), HT P ⟨w0, may, nt, ro, fx⟩ c ⟨argsE 0 args, m⟩ (endQ P rs R)) : CtM P f args m R := by
  subst hnt; subst hrs
  refine CtM.of hf hb hn fun w0 ro may fx => ?_
  exact (h w0 ro may fx).mono fun e S hq => by cases e <;> exact hq
end Go.Sy

namespace Go.Sy
end Go.Sy

namespace Go.Sy
def St.dropE (ks : List Nat) (S : St) : St := ⟨fgt ks S.env, S.mem⟩
theorem ht_dropE {P : Program} {B : Base} {Q : Exit → St → Prop} {S : St} {x : Code} (ks : List Nat) (h : HT P B x (S.dropE ks) Q) : HT P B x S Q := by
  refine HT.le (fun d a w hs => ⟨d, ?_⟩) h
  exact ⟨hs.defers, hs.nt, fun n v hv => hs.env n v (look_fgt hv), hs.mem, hs.inj, hs.own, hs.ro, hs.old, hs.os, hs.tape, hs.output, hs.size, hs.block, hs.gat, hs.glob, hs.fix, hs.fxn⟩
theorem dropE_mk (ks : List Nat) (e : List (Nat × V)) (m : List (Nat × Ob)) : St.dropE ks ⟨e, m⟩ = ⟨fgt ks e, m⟩ := rfl
theorem fgt_nil {α : Type} (ks : List Nat) : fgt ks ([] : List (Nat × α)) = [] := rfl
theorem fgt_cons {α : Type} (ks : List Nat) (n : Nat) (v : α) (r : List (Nat × α)) : fgt ks ((n, v) :: r) = if ks.contains n = true then fgt ks r else (n, v) :: fgt ks r := rfl
attribute [go_sem] optCons_some optCons_none fm_cons fm_nil mut_val mut_new mut_app mut_sto ns_val ns_new ns_sto td_val td_new td_sto td_app chk_nil chk_cons atD_some memOp gslot Eff.free noUV noUW noUL Op.operands Call.operands Nat.reduceBneDiff bne_self_eq_false Option.toArray List.append_toArray List.toList_toArray Array.append_empty Array.empty_append
end Go.Sy

namespace Go.Sy
end Go.Sy

namespace Go.Sy
def Told (R : V → List (Nat × Ob) → Prop) (v : V) (m : List (Nat × Ob)) : Prop :=
  ∃ v' m', (∀ (B : Base) d y w, B.nt = 0 → v.den d y → MemOK B d m w → ∃ d', v'.den d' y ∧ MemOK B d' m' w) ∧ R v' m'
theorem CtM.told {P : Program} {f : FuncId} {args : List V} {ms : List (Nat × Ob)} {R : V → List (Nat × Ob) → Prop} (h : CtM P f args ms (Told R)) : CtM P f args ms R := by
  intro w d vals hm hargs
  refine (h w d vals hm hargs).mono fun e w' ⟨y, v, d', m', h1, ⟨v2, m2, h2, h3⟩, h4, h5⟩ => ?_
  obtain ⟨d2, h6, h7⟩ := h2 _ d' y w' rfl h4 h5
  exact ⟨y, v2, d2, m2, h1, h3, h6, h7⟩
section
variable {R : V → List (Nat × Ob) → Prop} {v v' : V} {m m' : List (Nat × Ob)}
theorem told_tidy (h : Tidy R v m) : Told R v m := by
  obtain ⟨g, v2, m2, h1, h2, h3⟩ := h
  subst h1
  exact ⟨v2, m2, fun B d y w hb hv hm => ⟨d.via g, V.den_via hv, hm.tidy h2⟩, h3⟩
end
def plainW : W → Bool
  | .one (.pl _) => true
  | .one _ => false
  | .agg cs => cs.all fun l => match l with
    | .pl _ => true
    | _ => false
def plainV : V → Bool
  | .w x => plainW x
  | .tup xs => xs.all plainW
  | .any => true
theorem plain_ren {g : Nat → Nat} : ∀ {v : V}, plainV v = true → v.ren g = v := by
  have hl : ∀ cs : List L, (cs.all fun l => match l with | .pl _ => true | _ => false) = true → cs.map (L.ren g) = cs := by
    intro cs h
    induction cs with
    | nil => rfl
    | cons x r ih =>
      simp only [List.all_cons, Bool.and_eq_true] at h
      rw [List.map_cons, ih h.2]
      cases x <;> first | rfl | (cases h.1)
  have hw : ∀ x : W, plainW x = true → x.ren g = x := by
    intro x h
    cases x with
    | one l => cases l <;> first | rfl | (cases h)
    | agg cs => simp only [W.ren]; rw [hl cs h]
  intro v h
  cases v with
  | w x => simp only [V.ren]; rw [hw x h]
  | tup xs =>
    simp only [V.ren]
    congr 1
    simp only [plainV, List.all_eq_true] at h
    induction xs with
    | nil => rfl
    | cons x r ih => rw [List.map_cons, hw x (h x (by simp)), ih fun y hy => h y (by simp [hy])]
  | any => rfl
theorem told_plain {R : V → List (Nat × Ob) → Prop} {v : V} {m : List (Nat × Ob)} (hp : plainV v = true) (h : R v []) : Told R v m :=
  told_tidy ⟨fun k => k, v, [], (plain_ren hp).symm, .empty, h⟩
end Go.Sy

namespace Go.Sy
end Go.Sy

namespace Go.Sy
theorem leafOut_bytes2 (vw : Bool) (m : List (Nat × Ob)) (l : List UInt8) : (bytesC l).all (leafOut vw m) = true := by
  simp only [bytesC, List.all_eq_true, List.mem_map]
  rintro x ⟨y, _, rfl⟩
  simp [leafOut, strictL]
section
variable {P : Program} {B : Base} {ds : List (Option Tmp)} {r : List Oper} {S : St} {K : St → Prop}
theorem og_tt (j : Nat) (o : Oper) : onGuard (some true) j true P B ds o r S K = runOps P B ds (⟨o.dst, o.op, o.type, o.pos, o.after, none⟩ :: r) (setG S ds j true) K := by rw [ev_onGuard]; simp
theorem og_ft (j : Nat) (o : Oper) : onGuard (some false) j true P B ds o r S K = onSt ((setG S ds j false).put B.nt o.dst (.tup [])) P B ds r K := by rw [ev_onGuard]; simp
end
section
variable {P : Program} {nt : Nat} {names : List Nat} {ds : List (Option Tmp)} {keep : Bool} {o : Oper} {N : List Nat} {D : List Da} {S : St} {k : List Nat → List Da → St → Prop}
end
attribute [go_sem high] og_tt og_ft
attribute [go_sem] leafOut_bytes2 capsV
end Go.Sy

namespace Go.Sy
section
variable {k j : Nat} {c : List PL}
end
end Go.Sy

namespace Go.Sy
section
variable {H : Type} {enc : TypeId × Value → H} {P : Program} {w w2 : World} {base : Nat} {spare : Nat → Bool} {held : Bool}
end
end Go.Sy

namespace Go.Sy
section
variable {P : Program}
theorem flat_u64 {m : Nat} {e : TypeId} (he : P.underlying e = some (.int .u64)) : ∀ {ps : List (List PL)}, (∀ p ∈ ps, Sh P m e p) → ∃ l : List UInt64, l.length = ps.length ∧ ps = l.map fun x => [.u64 x]
  | [], _ => ⟨[], rfl, rfl⟩
  | p :: r, h => by
    obtain ⟨x, hx⟩ := sh_u64 (h p (by simp)) he
    obtain ⟨l, h1, h2⟩ := flat_u64 he (ps := r) fun q hq => h q (by simp [hq])
    exact ⟨x :: l, by simp [h1], by simp [hx, ← h2]⟩
theorem sh_u64s {n k : Nat} {t e : TypeId} {cs : List PL} (h : Sh P n t cs) (ht : P.underlying t = some (.array k e)) (he : P.underlying e = some (.int .u64)) : ∃ l : List UInt64, l.length = k ∧ cs = l.map .u64 := by
  obtain ⟨ps, m, rfl, hl, hp⟩ := sh_array h ht
  obtain ⟨l, h1, rfl⟩ := flat_u64 he hp
  exact ⟨l, by omega, flatten_sing l⟩
end
end Go.Sy

namespace Go.Sy
section
variable {H : Type} {enc : TypeId × Value → H} {P : Program}
end
end Go.Sy

namespace Go.Sy
open Go.RowKit Go.WideShapes Go.ChangeShapes Go.ChangeAt
theorem laid_var {P : Program} {W : World} : ∀ {l : List (String × DataW Unit)} {ps : List MemPlace}, DataW.LaidVars P W l ps → ∀ {name : String} {x : DataW Unit}, (name, x) ∈ l →
    ∃ g t cs fuel p, P.globalNamed name = some g ∧ (P.globals[g]?).map (·.type) = some t ∧ W.var? P name = some cs ∧ DataW.trod (fun _ => ()) P W 0 (fun _ => true) false fuel t cs.toList = some (x, p)
  | [], _, _, _, _, hm => by cases hm
  | (n, y) :: r, ps, h, name, x, hm => by
    obtain ⟨g, t, cs, fuel, p, q, h1, h2, h3, h4, h5, _⟩ := h
    rcases List.mem_cons.mp hm with e | hm
    · cases e
      exact ⟨g, t, cs, fuel, p, h1, h2, h3, h4⟩
    · exact laid_var h5 hm
theorem tab_of {P : Program} {W : World} {l : List (String × DataW Unit)} (h : laidMet P l W) {name : String} {k : IntKind} {zs : List Int} (hm : (name, Lib.tabData k zs) ∈ l) {g : Nat} {t e : TypeId} {n : Nat}
    (hg : P.globalNamed name = some g) (hty : (P.globals[g]?).map (·.type) = some t) (ht : P.underlying t = some (.array n e)) (he : P.underlying e = some (.int k)) (hce : P.cellsOf e = 1) (hct : P.cellsOf t = n) :
    W.var? P name = some (zs.map fun z => Value.int k z).toArray := by
  obtain ⟨ps, hl, _⟩ := h
  obtain ⟨g', t', cs, fuel, p, hg', ht', hvar, hd⟩ := laid_var hl hm
  obtain rfl := Option.some.inj (hg.symm.trans hg')
  obtain rfl := Option.some.inj (hty.symm.trans ht')
  rw [hvar, ← Lib.cells_of_tab ht he hce hct hd]
theorem denAt_var {P : Program} {W : World} {name : String} {g : Nat} {vs : List Value} (h : W.var? P name = some vs.toArray) (hg : P.globalNamed name = some g) {cs : List PL} (hc : All2 (PL.den (Va.reads W).ro) cs vs) : PL.denAt (Va.reads W).ro g cs 0 := by
  refine denAt_of hc fun j v hj => ?_
  have := World.var?_cell hg h j
  simp only [Nat.zero_add]
  show W.cell? ⟨g, j, none⟩ = some v
  rw [this]
  simpa using hj
theorem den_u64s {ro : Ro} : ∀ l : List UInt64, All2 (PL.den ro) (l.map PL.u64) (l.map fun x => Value.int .u64 x.toNat)
  | [] => .nil
  | x :: l => .cons (by rw [PL.den]) (den_u64s l)
def Va.readsG (w : World) (G : List (Nat × List PL)) : Va := ⟨fun k => k - gl0, fun k => match look G k with | some cs => cs.length | none => 0, fun b o => w.cell? ⟨b, o, none⟩⟩
def globM (G : List (Nat × List PL)) : List (Nat × Ob) := G.map fun x => (x.1, ⟨false, x.2.map L.pl⟩)
theorem look_globM : ∀ {G : List (Nat × List PL)} {k : Nat} {o : Ob}, look (globM G) k = some o → ∃ cs, look G k = some cs ∧ o = ⟨false, cs.map L.pl⟩
  | [], _, _, h => by cases h
  | x :: r, k, o, h => by
    simp only [globM, List.map_cons, look] at h ⊢
    split at h
    · rename_i e
      rw [if_pos e]
      cases h
      exact ⟨_, rfl, rfl⟩
    · rename_i e
      rw [if_neg e]
      exact look_globM h
theorem memOK_reads {w : World} {G : List (Nat × List PL)} (hg : ∀ k cs, look G k = some cs → gl0 ≤ k ∧ PL.denAt (Va.reads w).ro (k - gl0) cs 0) {may : Nat → Prop} {fx : Nat → Option (Nat × Nat)} (hf : ∀ k, fx k = none) :
    MemOK ⟨w, may, 0, (Va.readsG w G).ro, fx⟩ (Va.readsG w G) (globM G) w := by
  have hlt : ∀ k, (look (globM G) k).isSome = true → k < gl0 → False := fun k h1 h2 => by
    obtain ⟨o, ho⟩ := Option.isSome_iff_exists.mp h1
    obtain ⟨cs, hc, _⟩ := look_globM ho
    exact absurd (hg k cs hc).1 (Nat.not_le.mpr h2)
  refine ⟨⟨#[], []⟩, ⟨rfl, rfl, fun n v hv => (by cases hv), fun k o hk hl => (hlt k (by rw [hk]; rfl) hl).elim, fun k k' h1 _ h2 => (hlt k h1 h2).elim, fun k h1 h2 => (hlt k h1 h2).elim, fun _ _ _ h => h, fun b o y hy _ => hy, rfl, rfl, rfl, Nat.le_refl _, fun _ _ _ => rfl, fun _ _ => rfl, ?_, fun k o p hk h => absurd ((hf k).symm.trans h) (by simp), fun k p h => absurd ((hf k).symm.trans h) (by simp)⟩⟩
  intro k o hk _
  obtain ⟨cs, hc, rfl⟩ := look_globM hk
  refine ⟨?_, cs, rfl, (hg k cs hc).2⟩
  show (match look G k with | some cs => cs.length | none => 0) = _
  rw [hc, List.length_map]
def plW : W → Bool
  | .one (.pl _) => true
  | .one _ => false
  | .agg l => l.all fun | .pl _ => true | _ => false
def plV : V → Bool
  | .w x => plW x
  | _ => false
theorem den_ro {d d' : Va} (h : d.ro = d'.ro) : ∀ {v : V} {y : Value}, plV v = true → V.den d v y → V.den d' v y
  | .w (.one (.pl x)), y, _, hd => by simp only [V.den, W.den, L.den] at hd ⊢; rw [← h]; exact hd
  | .w (.one (.p _ _)), y, hp, _ => by simp [plV, plW] at hp
  | .w (.one (.s _ _ _ _)), y, hp, _ => by simp [plV, plW] at hp
  | .w (.one (.fn _ _)), y, hp, _ => by simp [plV, plW] at hp
  | .w (.agg l), y, hp, hd => by
    simp only [V.den, W.den] at hd ⊢
    obtain ⟨vs, e, ha⟩ := hd
    refine ⟨vs, e, ?_⟩
    simp only [plV, plW] at hp
    generalize vs.toList = q at ha
    clear e
    induction ha with
    | nil => exact .nil
    | @cons a b l m h1 _ ih =>
      simp only [List.all_cons, Bool.and_eq_true] at hp
      refine .cons ?_ (ih hp.2)
      cases a with
      | pl x => simp only [L.den] at h1 ⊢; rw [← h]; exact h1
      | _ => simp at hp
  | .tup _, y, hp, _ => by simp [plV] at hp
  | .any, y, hp, _ => by simp [plV] at hp
theorem den_all {d d' : Va} (h : d.ro = d'.ro) : ∀ {vs : List V} {ys : List Value}, (vs.all plV) = true → All2 (V.den d) vs ys → All2 (V.den d') vs ys
  | [], _, _, .nil => .nil
  | v :: vs, _, hp, .cons h1 h2 => by
    simp only [List.all_cons, Bool.and_eq_true] at hp
    exact .cons (den_ro h hp.1 h1) (den_all h hp.2 h2)
theorem CtM.callsG {P : Program} {f : FuncId} {args : List V} {G : List (Nat × List PL)} {R : V → List (Nat × Ob) → Prop} {b : Bool} (hc : CtM P f args (globM G) R) (hR : ∀ v m, R v m → v = .w (.one (.pl (.b b)))) (w : World) (vals : Array Value)
    (hg : ∀ k cs, look G k = some cs → gl0 ≤ k ∧ PL.denAt (Va.reads w).ro (k - gl0) cs 0) (hp : args.all plV = true) (ha : All2 (V.den (Va.reads w)) args vals.toList) : Calls P f vals w fun e w' => e = .returned (.bool b) ∧ Below w.heap.size w w' := by
  have hlt : ∀ k, (look (globM G) k).isSome = true → k < gl0 → False := fun k h1 h2 => by
    obtain ⟨o, ho⟩ := Option.isSome_iff_exists.mp h1
    obtain ⟨cs, hc, _⟩ := look_globM ho
    exact absurd (hg k cs hc).1 (Nat.not_le.mpr h2)
  have hf : ∀ k, fxOf (Va.readsG w G) (globM G) k = none := fun k => by
    unfold fxOf
    rw [if_neg]
    rintro ⟨h1, _, h2⟩
    exact hlt k h1 h2
  refine (hc w (Va.readsG w G) vals (memOK_reads hg hf) (den_all (d := Va.reads w) (d' := Va.readsG w G) rfl hp ha)).mono fun e w' ⟨y, v, d', m', he, hr, hd, hm⟩ => ?_
  rw [hR v m' hr] at hd
  refine ⟨by rw [he]; exact congrArg _ hd, ?_⟩
  obtain ⟨a, hs⟩ := hm
  refine ⟨hs.os, hs.tape, hs.output, hs.size, fun k hk => hs.block k hk ?_⟩
  rintro ⟨k, h1, h2, _⟩
  exact hlt k h1 h2
end Go.Sy

namespace Go.Sy
section
variable {P : Program} {B : Base} {S : St} {Q : Exit → St → Prop}
theorem sr_k {id : Nat} {l : List Oper} {y : Code} (h : ∀ K : St → Prop, (∀ S', HT P B y S' Q → K S') → runOps P B (dsOf l) l S K) : HT P B (.seq (.region id l.toArray false) y) S Q :=
  seq_k fun N M hN hM => region_k fun K hK => h K fun S' hy => hK S' (hN S' hy)
theorem sd_k {id : Nat} {l : List Oper} {y : Code} (names c : List Nat) (need : List (Nat × Nat)) (hm : P.follows .mixedOrders = true) (hst : drawOk (dsOf l) c need l = true)
    (hn : names.all (fun k => fresh k S && (look S.mem k).isNone) = true)
    (h : ∀ K : St → List Da → Prop, (∀ S' D, chkD l D need → HT P B y S' Q → K S' D) → runD P B.nt names (dsOf l) (!need.isEmpty) l [] [] S K) : HT P B (.seq (.region id l.toArray true) y) S Q :=
  seq_k fun N M hN hM => draw_k names c need hm hst hn fun K hK => h K fun S' D hd hy => hK S' D hd (hN S' hy)
theorem condT_k {c : Operand} {x y : Code} (hc : S.get c = some (.w (.one (.pl (.b true))))) (h : HT P B x S Q) : HT P B (.cond c x y) S Q := cond_k hc (fun _ => h) (fun e => by cases e)
theorem condF_k {c : Operand} {x y : Code} (hc : S.get c = some (.w (.one (.pl (.b false))))) (h : HT P B y S Q) : HT P B (.cond c x y) S Q := cond_k hc (fun e => by cases e) (fun _ => h)
end
end Go.Sy

namespace Go.Sy
@[go_sem] theorem get_global (S : St) (g : Nat) : S.get (.global g) = some (.w (.one (.p (1000000 + g) []))) := rfl
end Go.Sy

namespace Go.Sy
section
variable {P : Program}
end
end Go.Sy

namespace Go.Sy
section
variable {P : Program} {B : Base} {Q : Exit → St → Prop} {S : St} {x y : Code}
end
attribute [go_sem] deepsIn deepV deepL deepLs deepC valsIn valIn leafIn leavesIn nameIn capsIn handOk leafOutV leafOutW leafOut okN outOk inv backM outN nameOut Ob.ren V.ren W.ren L.ren setM
end Go.Sy

namespace Go.Sy

end Go.Sy

namespace Go.Sy

section
variable {P : Program} {B : Base} {ops : Array Oper} {ds : List (Option Tmp)} {bef : Nat → Nat → Prop}

end

end Go.Sy

