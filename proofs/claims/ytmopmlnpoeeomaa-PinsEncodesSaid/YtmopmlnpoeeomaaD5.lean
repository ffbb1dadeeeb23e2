/- Regions that draw their order: calls among the operations; two that change places. -/
import Derived.Test.YtmopmlnpoeeomaaD4
set_option linter.unusedVariables false
set_option linter.unusedSimpArgs false
namespace Go.Sy

def strictM (M : List (Nat × Ob)) : Bool := M.all fun x => x.2.cells.all strictL
def renM (nm : Nat → Nat) (M : List (Nat × Ob)) : List (Nat × Ob) := M.map fun x => (nm x.1, x.2)

/-- what an operation does, at a state: reckoned, or by a contract -/
inductive Ev (P : Program) (S : St) (o : Oper) : Eff → Prop
  | det {e : Eff} : evalE P S o.dst o.op = some e → Ev P S o e
  | call {f : FuncId} {args : List Operand} {ts : Array TypeId} {vs : List V} {X : V} {M : List (Nat × Ob)} {nm : Nat → Nat} :
      o.op = .call ⟨.value (.func f), args.toArray, ts⟩ → (∀ vals w, (callFunc f vals).run P w = .ok (.enter f vals) w) → viewVs S args = some vs →
      Ct P f vs (fun v m => v = X ∧ m = M) → resOkV M X = true → strictM M = true → ((renM nm M).map (·.1)).Nodup → (M.map (·.1)).Nodup → Ev P S o (.new (X.ren nm) (renM nm M))

/-- a name that is new -/
def New (k : Nat) (S : St) : Prop := Fr k S ∧ look S.mem k = none

theorem adopt_eq (nm : Nat → Nat) : ∀ (M m : List (Nat × Ob)), adopt nm M m = renM nm M ++ m
  | [], m => rfl
  | x :: r, m => by simp only [adopt, adopt_eq nm r m, renM, List.map_cons, List.cons_append]

theorem hasE_not {k : Nat} {S : St} (h : fresh k S = true) : hasE k S.env = false ∧ hasM k S.mem = false := by simpa [fresh] using h

theorem adoptOk_of {nm : Nat → Nat} {e : List (Nat × V)} {m : List (Nat × Ob)} : ∀ {M : List (Nat × Ob)}, strictM M = true → ((renM nm M).map (·.1)).Nodup → (M.map (·.1)).Nodup → (∀ k ∈ (renM nm M).map (·.1), hasE k e = false ∧ hasM k m = false ∧ look m k = none) → adoptOk nm e M m = true
  | [], _, _, _, _ => rfl
  | x :: r, hs, hn, hk, hf => by
    simp only [strictM, List.all_cons, Bool.and_eq_true] at hs
    simp only [renM, List.map_cons, List.nodup_cons] at hn
    simp only [List.map_cons, List.nodup_cons] at hk
    have h1 := hf (nm x.1) (by simp [renM])
    have h2 : hasM (nm x.1) (adopt nm r m) = false := by
      rw [adopt_eq]
      have : ∀ l : List (Nat × Ob), strictM l = true → hasM (nm x.1) (renM nm l ++ m) = false := by
        intro l
        induction l with
        | nil => intro _; exact h1.2.1
        | cons y l ih =>
          intro hl
          simp only [strictM, List.all_cons, Bool.and_eq_true] at hl
          simp only [renM, List.map_cons, List.cons_append, hasM, Ob.has, strict_has hl.1, Bool.false_or]
          exact ih hl.2
      exact this r hs.2
    have h3 : look (adopt nm r m) (nm x.1) = none := by
      have h5 : look (renM nm r) (nm x.1) = none := look_none hn.1
      rw [adopt_eq, look_append, h5, h1.2.2]; rfl
    have h4 : look r x.1 = none := look_none hk.1
    simp only [adoptOk, hs.1, fresh, h1.1, h2, h3, h4, Bool.or_self, Bool.not_false, Option.isSome_none, Bool.and_self, Bool.true_and]
    exact adoptOk_of hs.2 hn.2 hk.2 fun k hk => hf k (by simp only [renM, List.map_cons, List.mem_cons]; exact .inr hk)

section
variable {P : Program} {S S' : St} {o : Oper} {e : Eff}
theorem Ev.same (h : Ev P S o e) (hg : ∀ x ∈ o.op.operands, S'.get x = S.get x) (hm : memOp o.op = true → ∀ x ∈ o.op.operands, ∀ v, S.get x = some v → ∀ k, v.has k = true → look S'.mem k = look S.mem k) : Ev P S' o e := by
  cases h with
  | det h => exact .det (by rw [evalE_same hg hm]; exact h)
  | call ho hgo hv hc hr hs hn hk =>
    rename_i args _ _ _ _ _
    have hin : ∀ x ∈ args, x ∈ o.op.operands := fun x hx => by rw [ho]; simp [Op.operands, Call.operands, hx]
    refine .call ho hgo ?_ hc hr hs hn hk
    rw [viewVs_same (S := S) (fun x hx => hg x (hin x hx)) (fun x hx => hm (by rw [ho]; rfl) x (hin x hx))]; exact hv

theorem Ev.mut_op (h : Ev P S o e) (hm : e.mut = true) : (match o.op with | .store .. => true | .call ⟨.builtin .append, _, _⟩ => true | .call ⟨.builtin .copy, _, _⟩ => true | _ => false) = true := by
  cases h with
  | call => cases hm
  | det h =>
    unfold evalE at h
    split at h
    · rename_i h0; rw [h0]
    · rename_i h0; rw [h0]
    · rename_i h0; rw [h0]
    · split at h
      · cases h; cases hm
      · split at h <;> try (cases h; done)
        obtain ⟨r, _, rfl⟩ := Option.map_eq_some_iff.mp h
        cases hm

theorem resOk_has {M : List (Nat × Ob)} {nm : Nat → Nat} {k : Nat} (hk : k ∉ (renM nm M).map (·.1)) : ∀ {l : L}, resL M l = true → (l.ren nm).has k = false := by
  have key : ∀ j, (look M j).isSome = true → nm j ∈ (renM nm M).map (·.1) := by
    intro j hj
    induction M with
    | nil => cases hj
    | cons x r ih =>
      simp only [look] at hj
      simp only [renM, List.map_cons, List.mem_cons]
      split at hj
      · rename_i e; exact .inl (by rw [e])
      · right
        have hk' : k ∉ (renM nm r).map (·.1) := fun h => hk (by simp only [renM, List.map_cons, List.mem_cons]; exact .inr h)
        exact ih hk' hj
  intro l h
  cases l with
  | pl x => rfl
  | p j path => simp only [L.ren, L.has, beq_eq_false_iff_ne]; exact fun e => hk (by rw [e]; exact key j h)
  | s j path len sz => simp only [L.ren, L.has, beq_eq_false_iff_ne]; exact fun e => hk (by rw [e]; exact key j h)
  | fn f caps =>
    cases caps with
    | nil => rfl
    | cons c cs => cases h

theorem resOkW_has {M : List (Nat × Ob)} {nm : Nat → Nat} {k : Nat} (hk : k ∉ (renM nm M).map (·.1)) {x : W} (h : resOkW M x = true) : (x.ren nm).has k = false := by
  cases x with
  | one l => exact resOk_has hk h
  | agg cs =>
    simp only [resOkW, List.all_eq_true] at h
    simp only [W.ren, W.has, List.any_eq_false, List.mem_map]
    rintro l ⟨l', hl, rfl⟩
    rw [resOk_has hk (h _ hl)]; simp

theorem resOkV_has {M : List (Nat × Ob)} {nm : Nat → Nat} {k : Nat} (hk : k ∉ (renM nm M).map (·.1)) {x : V} (h : resOkV M x = true) : (x.ren nm).has k = false := by
  cases x with
  | w x => exact resOkW_has hk h
  | tup xs =>
    simp only [resOkV, List.all_eq_true] at h
    simp only [V.ren, V.has, List.any_eq_false, List.mem_map]
    rintro l ⟨l', hl, rfl⟩
    rw [resOkW_has hk (h _ hl)]; simp
  | any => rfl

theorem Ev.fr {k : Nat} (h : Ev P S o e) (hf : Fr k S) (hk : k ∉ e.names) : e.free k = true := by
  cases h with
  | det h => exact evalE_fr hf h hk
  | call ho hgo hv hc hr hs hn hkk =>
    simp only [Eff.names] at hk
    simp only [Eff.free, resOkV_has hk hr, Bool.not_false, Bool.true_and, List.all_eq_true, renM, List.mem_map]
    rintro m ⟨x, hx, rfl⟩
    simp only [strictM, List.all_eq_true] at hs
    simp only [Ob.has, Bool.not_eq_true']
    exact strict_has (by simpa [List.all_eq_true] using hs x hx) k

theorem Ev.run {B : Base} {d : Va} {a : Act} {w : World} (hs : Sim B d S a w) (h : Ev P S o e) (hf : ∀ k ∈ e.names, New k S) (hn : ∀ n, o.dst = some n → n < B.nt) (next : Act → World → Prop) (Q : Exit → Act → World → Prop)
    (hk : ∀ d' a' w', Sim B d' (e.on o.dst S) a' w' → next a' w') : o.wp P a w next Q := by
  cases h with
  | det h =>
    rcases evalE_run hs h (fun k hk => (hf k hk).1) hn with ⟨y, w', d', hr, hs'⟩ | ⟨w', d', hr, hdst, hs'⟩
    · unfold Oper.wp; rw [hr]; exact hk _ _ _ hs'
    · unfold Oper.wp; rw [hr, Oper.upon_skip, hdst]; rw [hdst] at hs' hk; exact hk d' a w' hs'
  | call ho hgo hv hc hr hst hnd hkd =>
    rename_i f args ts vs X M nm
    have hq := norm_eqv S
    have hv' : viewVs S.norm args = some vs := by
      rw [viewVs_same (S := S) (fun x _ => hq.get x) (fun _ _ _ _ k _ => hq.mem k)]; exact hv
    obtain ⟨dst, op, ty, pos, af, g⟩ := o
    simp only at ho; subst ho
    have hcall := call_view (B := B) (S := S.norm) (K := fun S' => S' = (Eff.new (X.ren nm) (renM nm M)).on dst S.norm) (dst := dst) (ty := ty) (pos := pos) (af := af) (ts := ts) (ds := []) (r := []) nm hgo hv' hc (by
      rintro v m ⟨rfl, rfl⟩
      refine ⟨hr, adoptOk_of hst hnd hkd fun k hk => ?_, ?_⟩
      · have hnew := hf k hk
        have := hasE_not (norm_fresh hnew.1)
        exact ⟨this.1, this.2, by rw [hq.mem]; exact hnew.2⟩
      · cases dst with
        | none => simp only [ev_nil, adopt_eq]; rfl
        | some n => exact ⟨hn n rfl, by simp only [ev_nil, adopt_eq]; rfl⟩)
    have := hcall d a w (hs.eqv hq) next Q (fun S' d' a' w' hS' hs' => by
      have hS'' : S' = (Eff.new (X.ren nm) (renM nm M)).on dst S.norm := hS'
      subst hS''
      exact hk d' a' w' (hs'.eqv (on_eqv hq.symm _ _)))
    exact this
end
end Go.Sy
