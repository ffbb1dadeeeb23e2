/- The layer: code, one piece after the other, what is behind it hidden. -/
import Derived.Test.YtmopmlnpoeeomaaE20
set_option linter.unusedVariables false
set_option linter.unusedSimpArgs false
namespace Go.Sy
section
variable {P : Program} {B : Base} {S : St} {Q : Exit → St → Prop}

theorem xc_mono : ∀ {c : Code} {S : St} {Q Q' : Exit → St → Prop}, xc P B c S Q → (∀ e S', Q e S' → Q' e S') → HT P B c S Q' := fun h hq => (xc_ok h).mono hq

/-- one piece, and the rest: N: what goes on; M: what leaves -/
theorem seq_k {x y : Code} (h : ∀ (N : St → Prop) (M : Exit → St → Prop), (∀ S', HT P B y S' Q → N S') → (∀ e S', Q e S' → M e S') → HT P B x S (thenQ N M)) : HT P B (.seq x y) S Q :=
  HT.seq (h _ Q (fun _ h => h) (fun _ _ h => h))
theorem region_k {id : Nat} {l : List Oper} (h : ∀ K : St → Prop, (∀ S', Q .normal S' → K S') → runOps P B (dsOf l) l S K) : HT P B (.region id l.toArray false) S Q := by
  refine HT.region ?_
  have := h (Q .normal) fun _ h => h
  rw [dsOf_eq] at this
  simpa using this
theorem cond_k {c : Operand} {x y : Code} {t : Bool} (hc : S.get c = some (.w (.one (.pl (.b t))))) (ht : t = true → HT P B x S Q) (hf : t = false → HT P B y S Q) : HT P B (.cond c x y) S Q := HT.cond hc ht hf
theorem block_k {id : Nat} {x : Code} (h : ∀ M : Exit → St → Prop, (∀ S', Q .normal S' → M .normal S') → (∀ S', Q .normal S' → M (.exit id) S') → (∀ S', Q .ret S' → M .ret S') → (∀ i S', i ≠ id → Q (.exit i) S' → M (.exit i) S') → HT P B x S M) : HT P B (.block id x) S Q := by
  refine HT.block (h _ (fun _ h => h) (fun _ h => ?_) (fun _ h => h) (fun i S' hi h => ?_))
  · simp only [blockQ, if_true]; exact h
  · simp only [blockQ, if_neg hi]; exact h
theorem thenN {N : St → Prop} {M : Exit → St → Prop} (h : N S) : thenQ N M .normal S := h
theorem thenR {N : St → Prop} {M : Exit → St → Prop} (h : M .ret S) : thenQ N M .ret S := h
theorem thenE {N : St → Prop} {M : Exit → St → Prop} {i : Nat} (h : M (.exit i) S) : thenQ N M (.exit i) S := h
theorem ret_k (h : Q .ret S) : HT P B .ret S Q := HT.ret h
theorem skip_k (h : Q .normal S) : HT P B .skip S Q := HT.skip h
theorem exit_k {i : Nat} (h : Q (.exit i) S) : HT P B (.exit i) S Q := HT.exit h
end

theorem Ct.k {P : Program} {f : FuncId} {fn : Func} {c : Code} {args : List V} {R : V → List (Nat × Ob) → Prop} {nt : Nat} {rs : List ResultVar} (hf : P.funcs[f]? = some fn) (hb : fn.body = some c) (hnt : fn.ntmps = nt) (hrs : fn.results.toList = rs) (hn : args.length ≤ nt)
    (h : ∀ (w0 : World) (ro : Ro), HT P ⟨w0, fun _ => False, nt, ro⟩ c ⟨argsE 0 args, []⟩ (endQ P rs R)) : Ct P f args R := by
  subst hnt; subst hrs
  refine Ct.of hf hb hn fun w0 ro => ?_
  exact (h w0 ro).mono fun e S hq => by cases e <;> exact hq
end Go.Sy
