/- The layer: calls by contract: what they leave. -/
import Derived.Test.YtmopmlnpoeeomaaE22
set_option linter.unusedVariables false
set_option linter.unusedSimpArgs false
namespace Go.Sy

/-- the contract's names as the caller's -/
def L.ren (f : Nat → Nat) : L → L
  | .pl x => .pl x
  | .p k path => .p (f k) path
  | .s k path len sz => .s (f k) path len sz
  | .fn g caps => .fn g (caps.map f)
def W.ren (f : Nat → Nat) : W → W
  | .one l => .one (l.ren f)
  | .agg cs => .agg (cs.map (L.ren f))
def V.ren (f : Nat → Nat) : V → V
  | .w x => .w (x.ren f)
  | .tup xs => .tup (xs.map (W.ren f))
  | .any => .any

/-- plain, or a place in one of these objects -/
def resL (m : List (Nat × Ob)) : L → Bool
  | .pl x => strictL (.pl x)
  | .p k _ => (look m k).isSome
  | .s k _ _ _ => (look m k).isSome
  | .fn _ [] => true
  | _ => false
def resOkW (m : List (Nat × Ob)) : W → Bool
  | .one l => resL m l
  | .agg cs => cs.all (resL m)
def resOkV (m : List (Nat × Ob)) : V → Bool
  | .w x => resOkW m x
  | .tup xs => xs.all (resOkW m)
  | .any => true

theorem resL_den {d d' : Va} {f : Nat → Nat} {m : List (Nat × Ob)} (hd' : ∀ k, (look m k).isSome = true → d'.at_ (f k) = d.at_ k ∧ d'.size (f k) = d.size k) {l : L} {y : Value} (h : resL m l = true) (hd : l.den d y) : (l.ren f).den d' y := by
  unfold resL at h
  split at h <;> try (cases h; done)
  · exact strictL_den h hd
  · rename_i k path
    simp only [L.ren, L.den] at *
    rw [(hd' k h).1]; exact hd
  · rename_i k path len sz
    simp only [L.ren, L.den] at *
    rw [(hd' k h).1, (hd' k h).2]; exact hd
  · exact hd

theorem resOkW_den {d d' : Va} {f : Nat → Nat} {m : List (Nat × Ob)} (hd' : ∀ k, (look m k).isSome = true → d'.at_ (f k) = d.at_ k ∧ d'.size (f k) = d.size k) {x : W} {y : Value} (h : resOkW m x = true) (hd : x.den d y) : (x.ren f).den d' y := by
  cases x with
  | one l => exact resL_den hd' h hd
  | agg cs =>
    obtain ⟨vs, rfl, hv⟩ := hd
    refine ⟨vs, rfl, ?_⟩
    simp only [resOkW, List.all_eq_true] at h
    exact All2.map_left (hv.mono fun x y hx hr => resL_den hd' (h x hx) hr)

theorem resOkV_den {d d' : Va} {f : Nat → Nat} {m : List (Nat × Ob)} (hd' : ∀ k, (look m k).isSome = true → d'.at_ (f k) = d.at_ k ∧ d'.size (f k) = d.size k) {x : V} {y : Value} (h : resOkV m x = true) (hd : x.den d y) : (x.ren f).den d' y := by
  cases x with
  | w x => exact resOkW_den hd' h hd
  | tup xs =>
    obtain ⟨vs, rfl, hv⟩ := hd
    refine ⟨vs, rfl, ?_⟩
    simp only [resOkV, List.all_eq_true] at h
    exact All2.map_left (hv.mono fun x y hx hr => resOkW_den hd' (h x hx) hr)
  | any => trivial

/-- the contract's objects among the caller's -/
def adopt (f : Nat → Nat) : List (Nat × Ob) → List (Nat × Ob) → List (Nat × Ob)
  | [], m => m
  | x :: r, m => (f x.1, x.2) :: adopt f r m
def adoptOk (f : Nat → Nat) (e : List (Nat × V)) : List (Nat × Ob) → List (Nat × Ob) → Bool
  | [], _ => true
  | x :: r, m => x.2.cells.all strictL && fresh (f x.1) ⟨e, adopt f r m⟩ && !(look (adopt f r m) (f x.1)).isSome && !(look r x.1).isSome && adoptOk f e r m

theorem strict_has {cs : List L} (h : cs.all strictL = true) (k : Nat) : cs.any (L.has k) = false := by
  simp only [List.any_eq_false, List.all_eq_true] at *
  intro x hx
  have := h x hx
  cases x <;> simp_all [strictL, L.has]

theorem adopt_ok {B B' : Base} {d' : Va} {a a' : Act} {w w' : World} {f : Nat → Nat} {e : List (Nat × V)} {m0 : List (Nat × Ob)} {S' : St} (hc : Sim B' d' S' a' w') (hw0 : B'.w0 = w) (hmay : ∀ b, ¬ B'.may b) (hsz : B.w0.heap.size ≤ w.heap.size) (hroB : B'.w0.heap.size ≤ w'.heap.size) :
    ∀ (l : List (Nat × Ob)), (∀ k o, look l k = some o → look S'.mem k = some o) → ∀ (d : Va), Sim B d ⟨e, m0⟩ a w' → (∀ b o y, d.ro b o = some y → b < w.heap.size) → (∀ j, (look m0 j).isSome = true → d.at_ j < w.heap.size) → adoptOk f e l m0 = true →
      ∃ d2, Sim B d2 ⟨e, adopt f l m0⟩ a w' ∧ (∀ k, (look l k).isSome = true → d2.at_ (f k) = d'.at_ k ∧ d2.size (f k) = d'.size k) ∧ (∀ j, (look (adopt f l m0) j).isSome = true → (∃ k, (look l k).isSome = true ∧ d2.at_ j = d'.at_ k) ∨ d2.at_ j < w.heap.size) ∧ d2.ro = d.ro
  | [], _, d, h, _, hm, _ => ⟨d, h, fun k hk => (by cases hk), fun j hj => .inr (hm j hj), rfl⟩
  | x :: r, hl, d, h, hro, hm, hok => by
    simp only [adoptOk, Bool.and_eq_true, Bool.not_eq_true'] at hok
    obtain ⟨⟨⟨⟨hst, hf⟩, hnew⟩, hdup⟩, hr⟩ := hok
    have hx : look S'.mem x.1 = some x.2 := hl x.1 x.2 (by simp [look])
    obtain ⟨d1, h1, hk1, hj1, hro1⟩ := adopt_ok hc hw0 hmay hsz hroB r (fun k o hk => hl k o (by
      simp only [look]
      split
      · rename_i e; subst e; rw [hk] at hdup; cases hdup
      · exact hk)) d h hro hm hr
    obtain ⟨vals, spare, ty, fr, hh, hfr, hd, hs, hlen⟩ := hc.mem x.1 x.2 hx
    have hown := (hc.own x.1 (by rw [hx]; rfl)).2
    have hge : w.heap.size ≤ d'.at_ x.1 := by
      rcases hown with h2 | h2
      · rw [hw0] at h2; exact h2
      · exact (hmay _ h2).elim
    have hf' : hasE (f x.1) e = false ∧ hasM (f x.1) (adopt f r m0) = false := by simpa [fresh] using hf
    have hne : ∀ j, (look (adopt f r m0) j).isSome = true → d1.at_ j ≠ d'.at_ x.1 := by
      intro j hj he
      rcases hj1 j hj with ⟨k, hk, hk2⟩ | hlt
      · rw [he] at hk2
        have hkS : (look S'.mem k).isSome = true := by
          cases ho : look r k with
          | none => simp [ho] at hk
          | some o =>
            have := hl k o (by
              simp only [look]
              split
              · rename_i e; subst e; rw [ho] at hdup; cases hdup
              · exact ho)
            rw [this]; rfl
        have := hc.inj x.1 k (by rw [hx]; rfl) hkS hk2
        subst this
        rw [hdup] at hk; cases hk
      · omega
    refine ⟨d1.set (f x.1) (d'.at_ x.1) (d'.size x.1), ?_, ?_, ?_, ?_⟩
    · refine ⟨h1.defers, h1.nt, ?_, ?_, ?_, ?_, ?_, ?_, h1.os, h1.tape, h1.output, h1.size, h1.block⟩
      · intro n v hv
        obtain ⟨y, hy, hd⟩ := h1.env n v hv
        exact ⟨y, hy, V.den_set hd (hasE_look hf'.1 hv)⟩
      · intro k o ho
        simp only [adopt, look] at ho
        split at ho
        · rename_i e; cases ho; subst e
          exact ⟨vals, spare, ty, fr, by rw [Va.set_at]; exact hh, hfr, strict_all hst hd, hs, by rw [Va.set_size]; exact hlen⟩
        · rename_i e
          obtain ⟨vs, sp, ty', fr', hh', hfr', hd', hs', hl'⟩ := h1.mem k o ho
          obtain ⟨e1, e2⟩ := d1.set_other (d'.at_ x.1) (d'.size x.1) e
          exact ⟨vs, sp, ty', fr', by rw [e1]; exact hh', hfr', all2_set hd' (hasM_look hf'.2 ho), hs', by rw [e2]; exact hl'⟩
      · intro k1 k2 h2 h3 he
        simp only [adopt, look] at h2 h3
        by_cases e1 : k1 = f x.1 <;> by_cases e2 : k2 = f x.1
        · rw [e1, e2]
        · exfalso
          rw [if_neg e2] at h3
          rw [e1, Va.set_at, (d1.set_other _ _ e2).1] at he
          exact hne k2 h3 he.symm
        · exfalso
          rw [if_neg e1] at h2
          rw [e2, Va.set_at, (d1.set_other _ _ e1).1] at he
          exact hne k1 h2 he
        · rw [if_neg e1] at h2; rw [if_neg e2] at h3
          rw [(d1.set_other _ _ e1).1, (d1.set_other _ _ e2).1] at he
          exact h1.inj _ _ h2 h3 he
      · intro k hk
        simp only [adopt, look] at hk
        by_cases e : k = f x.1
        · subst e
          rw [Va.set_at]
          refine ⟨fun o => ?_, .inl (by omega)⟩
          show d1.ro _ _ = none
          rw [hro1]
          cases hq : d.ro (d'.at_ x.1) o with
          | none => rfl
          | some y => have := hro _ _ _ hq; omega
        · rw [if_neg e] at hk
          rw [(d1.set_other _ _ e).1]
          exact h1.own k hk
      · exact h1.ro
      · exact h1.old
    · intro k hk
      simp only [look] at hk
      by_cases e : k = x.1
      · subst e; exact ⟨Va.set_at _ _ _ _, Va.set_size _ _ _ _⟩
      · rw [if_neg e] at hk
        have hne2 : f k ≠ f x.1 := by
          intro he
          have hjk : (look (adopt f r m0) (f k)).isSome = true := by
            have : ∀ {r : List (Nat × Ob)}, (look r k).isSome = true → (look (adopt f r m0) (f k)).isSome = true := by
              intro r
              induction r with
              | nil => intro h; cases h
              | cons z r ih =>
                intro h
                simp only [adopt, look] at h ⊢
                split
                · rfl
                · rename_i e2
                  split at h
                  · rename_i e3; subst e3; exact absurd rfl e2
                  · exact ih h
            exact this hk
          rw [he, hnew] at hjk; cases hjk
        obtain ⟨e1, e2⟩ := d1.set_other (d'.at_ x.1) (d'.size x.1) hne2
        rw [e1, e2]; exact hk1 k hk
    · intro j hj
      simp only [adopt, look] at hj
      by_cases e : j = f x.1
      · subst e
        left; exact ⟨x.1, by simp [look], Va.set_at _ _ _ _⟩
      · rw [if_neg e] at hj
        rw [(d1.set_other _ _ e).1]
        rcases hj1 j hj with ⟨k, hk, hk2⟩ | hlt
        · left
          refine ⟨k, ?_, hk2⟩
          simp only [look]; split
          · rfl
          · exact hk
        · exact .inr hlt
    · exact hro1

/-- a call of a function with a contract; own slices are handed over to be read -/
theorem call_view {P : Program} {B : Base} {S : St} {K : St → Prop} {dst : Option Tmp} {ty : TypeId} {pos : String} {af : Array Edge} {f : FuncId} {args : List Operand} {ts : Array TypeId} {ds : List (Option Tmp)} {r : List Oper} {vs : List V} {R : V → List (Nat × Ob) → Prop}
    (nm : Nat → Nat) (hgo : ∀ vals w, (callFunc f vals).run P w = .ok (.enter f vals) w) (hargs : viewVs S args = some vs) (hc : Ct P f vs R)
    (hK : ∀ v m, R v m → resOkV m v = true ∧ adoptOk nm S.env m S.mem = true ∧ (match dst with
      | some n => n < B.nt ∧ runOps P B ds r ⟨(n, v.ren nm) :: S.env, adopt nm m S.mem⟩ K
      | none => runOps P B ds r ⟨S.env, adopt nm m S.mem⟩ K)) :
    atCall P B ⟨dst, .call ⟨.value (.func f), args.toArray, ts⟩, ty, pos, af, none⟩ S ds r K := by
  intro d a w h next Q hn
  have hrun : (execOp a.eval ⟨dst, .call ⟨.value (.func f), args.toArray, ts⟩, ty, pos, af, none⟩).run P w = .ok (.enter f (args.map a.eval).toArray) w := by
    simp [execOp, resolve, Deferred.ofValue, Act.eval, invoke, hgo]
  unfold Oper.wp
  rw [hrun, Oper.upon_enter]
  have hda := viewVs_ok h hargs
  refine (hc w (d.all w) (args.map a.eval).toArray (fun b o y hy => hy) (by simpa using hda)).mono ?_
  rintro e w' ⟨y, v, d', m', rfl, hR, hvd, a2, hmem⟩
  obtain ⟨hok, had, hk⟩ := hK v m' hR
  have hst := h.stay (w' := w') (fun b hb => hmem.block b hb (fun x => x)) hmem.size hmem.os hmem.tape hmem.output
  obtain ⟨d2, hs2, hk2, _, hro2⟩ := adopt_ok (e := S.env) (m0 := S.mem) (f := nm) (w := w) hmem rfl (fun b hb => hb) h.size hmem.size m' (fun k o hk => hk) d hst (fun b o y hy => cell_lt (h.ro b o y hy)) (fun j hj => h.mem_lt hj) had
  have hvd2 := resOkV_den (f := nm) hk2 hok hvd
  cases dst with
  | none => exact hn _ _ _ _ hk hs2
  | some n => exact hn _ _ _ _ hk.2 (hs2.put hk.1 hvd2)
end Go.Sy
