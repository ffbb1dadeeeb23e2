/- Regions that draw their order: an operation, run; two that change places. -/
import Derived.Test.YtmopmlnpoeeomaaD3
set_option linter.unusedVariables false
set_option linter.unusedSimpArgs false
namespace Go.Sy

def dedup {α : Type} : List (Nat × α) → List (Nat × α)
  | [] => []
  | x :: r => x :: (dedup r).filter fun y => y.1 != x.1

theorem look_filter {α : Type} {a : Nat} : ∀ {l : List (Nat × α)} {n : Nat}, look (l.filter fun y => y.1 != a) n = if n = a then none else look l n
  | [], n => by simp [look]
  | x :: r, n => by
    rw [List.filter_cons]
    by_cases h : x.1 = a
    · rw [if_neg (by simp [h]), look_filter]
      by_cases hn : n = a
      · rw [if_pos hn, if_pos hn]
      · rw [if_neg hn, if_neg hn]; simp only [look]; rw [if_neg (fun e => hn (e.trans h))]
    · rw [if_pos (by simp [h])]
      simp only [look]
      by_cases hn : n = x.1
      · rw [if_pos hn, if_neg (fun e => h (hn.symm.trans e)), if_pos hn]
      · rw [if_neg hn, look_filter, if_neg hn]

theorem look_dedup {α : Type} : ∀ {l : List (Nat × α)} {n : Nat}, look (dedup l) n = look l n
  | [], n => rfl
  | x :: r, n => by
    simp only [dedup, look]
    by_cases h : n = x.1
    · rw [if_pos h, if_pos h]
    · rw [if_neg h, if_neg h, look_filter, if_neg h, look_dedup]

theorem mem_dedup {α : Type} : ∀ {l : List (Nat × α)} {y : Nat × α}, y ∈ dedup l → look l y.1 = some y.2
  | [], y, h => by cases h
  | x :: r, y, h => by
    simp only [dedup, List.mem_cons, List.mem_filter, bne_iff_ne] at h
    simp only [look]
    rcases h with rfl | ⟨h, hne⟩
    · rw [if_pos rfl]
    · rw [if_neg hne]; exact mem_dedup h

theorem hasE_of {k : Nat} : ∀ {l : List (Nat × V)}, (∀ x ∈ l, x.2.has k = false) → hasE k l = false
  | [], _ => rfl
  | x :: r, h => by rw [hasE, h x (by simp), hasE_of (l := r) fun y hy => h y (by simp [hy])]; rfl
theorem hasM_of {k : Nat} : ∀ {l : List (Nat × Ob)}, (∀ x ∈ l, x.2.has k = false) → hasM k l = false
  | [], _ => rfl
  | x :: r, h => by rw [hasM, h x (by simp), hasM_of (l := r) fun y hy => h y (by simp [hy])]; rfl

def St.norm (S : St) : St := ⟨dedup S.env, dedup S.mem⟩
theorem norm_eqv (S : St) : Eqv S S.norm := ⟨fun _ => look_dedup, fun _ => look_dedup⟩
theorem norm_fresh {S : St} {k : Nat} (h : Fr k S) : fresh k S.norm = true := by
  simp only [fresh, St.norm, hasE_of (fun x hx => h.1 _ _ (mem_dedup hx)), hasM_of (fun x hx => h.2 _ _ (mem_dedup hx)), Bool.or_self, Bool.not_false]

theorem look_addE {dst : Option Tmp} {v : V} {e : List (Nat × V)} {n : Nat} (h : dst ≠ some n) : look (addE dst v e) n = look e n := by
  cases dst with
  | none => rfl
  | some m => simp only [addE, look]; rw [if_neg (fun e => h (by rw [e]))]
theorem look_addE_self {v : V} {e : List (Nat × V)} {n : Nat} : look (addE (some n) v e) n = some v := by simp [addE, look]

theorem look_append {α : Type} {a b : List (Nat × α)} {n : Nat} : look (a ++ b) n = (look a n).or (look b n) := by
  induction a with
  | nil => simp [look]
  | cons x r ih =>
    simp only [List.cons_append, look]
    split
    · simp
    · exact ih

theorem look_none {α : Type} {l : List (Nat × α)} {n : Nat} (h : n ∉ l.map (·.1)) : look l n = none := by
  induction l with
  | nil => rfl
  | cons x r ih =>
    simp only [List.map_cons, List.mem_cons, not_or] at h
    simp only [look, if_neg h.1, ih h.2]

theorem on_eqv {S S' : St} (h : Eqv S S') (e : Eff) (dst : Option Tmp) : Eqv (e.on dst S) (e.on dst S') := by
  have he : ∀ {a b : List (Nat × V)} (v : V), (∀ n, look b n = look a n) → ∀ n, look (addE dst v b) n = look (addE dst v a) n := by
    intro a b v hab n
    by_cases hd : dst = some n
    · subst hd; rw [look_addE_self, look_addE_self]
    · rw [look_addE hd, look_addE hd, hab]
  cases e with
  | val v => exact ⟨he v h.env, h.mem⟩
  | new v ms => exact ⟨he v h.env, fun k => by simp only [Eff.on]; rw [look_append, look_append, h.mem]⟩
  | app v j o =>
    refine ⟨he v fun n => by rw [look_killE, look_killE, h.env], fun k => ?_⟩
    simp only [Eff.on, look]
    rw [look_killM, look_killM, h.mem]
  | sto v k o => exact ⟨he v h.env, fun n => by simp only [Eff.on]; rw [look_setM, look_setM, h.mem, h.mem]⟩

section
variable {P : Program} {S : St}
theorem storeE_V {t : TypeId} {u v : V} {e : Eff} (h : storeE P S t u v = some e) : storeV P S t u v = some (e.on none S) := by
  unfold storeE at h
  unfold storeV
  split at h <;> try (cases h; done)
  rename_i k path v
  simp only
  split at h <;> try (cases h; done)
  rename_i o ho
  simp only [ho]
  split at h <;> cases h
  rename_i hc
  rw [if_pos hc]; rfl

theorem appendE_V {k : Nat} {t tx : TypeId} {u v : V} {e : Eff} (h : appendE P k S t tx u v = some e) (hf : ∀ j ∈ e.names, fresh j S = true) : ∃ z S', appendV P k S t tx u v = some (z, S') ∧ e.on (some k) S = ⟨(k, z) :: S'.env, S'.mem⟩ := by
  unfold appendE at h
  unfold appendV
  split at h <;> try (cases h; done)
  rename_i e' he
  simp only [he]
  split at h <;> try (cases h; done)
  rename_i z r hz hr
  simp only [hz, hr]
  split at h <;> try (cases h; done)
  rename_i hc
  rw [if_pos hc]
  split at h
  · split at h <;> try (cases h; done)
    rename_i o ho
    simp only [ho]
    split at h <;> cases h
    rename_i hc2
    rw [if_pos hc2]
    exact ⟨_, _, rfl, rfl⟩
  · split at h <;> try (cases h; done)
    rename_i hc2
    simp only
    rw [if_pos hc2]
    split at h
    · rename_i h0
      cases h
      rw [if_pos h0]
      exact ⟨_, _, rfl, rfl⟩
    · rename_i h0
      split at h <;> cases h
      rename_i hc3
      rw [if_neg h0, if_pos ⟨hf k (by simp [Eff.names]), hc3.1, hc3.2⟩]
      exact ⟨_, _, rfl, rfl⟩
  · cases h

def Ran (P : Program) (B : Base) (o : Oper) (a : Act) (w : World) (S' : St) : Prop :=
  (∃ y w' d', (execOp a.eval o).run P w = .ok (.value y) w' ∧ Sim B d' S' (a.put o.dst y) w') ∨
  (∃ w' d', (execOp a.eval o).run P w = .ok .skip w' ∧ o.dst = none ∧ Sim B d' S' a w')

theorem Sim.putE {B : Base} {d : Va} {a : Act} {w : World} (h : Sim B d S a w) {dst : Option Tmp} {v : V} {y : Value} (hd : v.den d y) (hn : ∀ n, dst = some n → n < B.nt) : Sim B d ⟨addE dst v S.env, S.mem⟩ (a.put dst y) w := by
  cases dst with
  | none => exact h
  | some n => exact h.put (hn n rfl) hd

theorem evalE_run' {B : Base} {d : Va} {a : Act} {w : World} (h : Sim B d S a w) {o : Oper} {e : Eff} (hev : evalE P S o.dst o.op = some e) (hf : ∀ k ∈ e.names, fresh k S = true) (hn : ∀ n, o.dst = some n → n < B.nt) : Ran P B o a w (e.on o.dst S) := by
  unfold evalE at hev
  split at hev
  · rename_i t x y ho
    split at hev <;> try (cases hev; done)
    rename_i u v hu hv hdst
    rw [hdst]
    obtain ⟨w', hr, hs⟩ := storeV_ok h (storeE_V hev) (h.get hu) (h.get hv)
    refine .inr ⟨w', d, ?_, hdst, hs⟩
    unfold execOp
    rw [ho]
    simp [hr]
  · rename_i args ts ho
    split at hev <;> try (cases hev; done)
    rename_i x y t tx k ha ht hdst
    split at hev <;> try (cases hev; done)
    rename_i u v hu hv
    have ea : args = #[x, y] := by rw [← Array.toList_inj, ha]
    have et : ts = #[t, tx] := by rw [← Array.toList_inj, ht]
    subst ea; subst et
    rw [hdst]
    obtain ⟨z, S', hz, hS⟩ := appendE_V hev hf
    obtain ⟨r, w', d', hrun, hd, hs⟩ := appendV_ok (ty := o.type) h hz (h.get hu) (h.get hv)
    rw [hS]
    refine .inl ⟨r, w', d', ?_, by rw [hdst]; exact hs.put (hn k hdst) hd⟩
    unfold execOp
    rw [ho]
    simp [resolve, invoke, builtin, hrun]
  · rename_i args ts ho
    split at hev <;> try (cases hev; done)
    rename_i x y t tx ha ht
    split at hev <;> try (cases hev; done)
    rename_i u v hu hv
    have ea : args = #[x, y] := by rw [← Array.toList_inj, ha]
    have et : ts = #[t, tx] := by rw [← Array.toList_inj, ht]
    subst ea; subst et
    unfold copyE at hev
    obtain ⟨⟨r1, k, ob⟩, hr, rfl⟩ := Option.map_eq_some_iff.mp hev
    obtain ⟨z, w', hrun, hd, hs⟩ := copyV_ok (ty := o.type) h hr (h.get hu) (h.get hv)
    refine .inl ⟨z, w', d, ?_, Sim.putE hs hd hn⟩
    unfold execOp
    rw [ho]
    simp [resolve, invoke, builtin, hrun]
  · split at hev
    · rename_i v hp
      cases hev
      obtain ⟨y, hrun, hd⟩ := pureV_ok h (o := o) hp
      exact .inl ⟨y, w, d, hrun, Sim.putE h hd hn⟩
    · split at hev <;> try (cases hev; done)
      rename_i k hdst
      obtain ⟨r, hr, rfl⟩ := Option.map_eq_some_iff.mp hev
      obtain ⟨y, w', d', hrun, hd, hs⟩ := allocV_ok h (hf k (by simp [Eff.names])) (v := r.1) (ob := r.2) (o := o) hr
      refine .inl ⟨y, w', d', hrun, ?_⟩
      rw [hdst]
      exact hs.put (hn k hdst) hd

theorem evalE_run {B : Base} {d : Va} {a : Act} {w : World} (h : Sim B d S a w) {o : Oper} {e : Eff} (hev : evalE P S o.dst o.op = some e) (hf : ∀ k ∈ e.names, Fr k S) (hn : ∀ n, o.dst = some n → n < B.nt) : Ran P B o a w (e.on o.dst S) := by
  have hq := norm_eqv S
  have hev' : evalE P S.norm o.dst o.op = some e := by
    rw [evalE_same (S := S) (fun x _ => hq.get x) (fun _ _ _ _ _ k _ => hq.mem k)]; exact hev
  have hback := on_eqv hq.symm e o.dst
  rcases evalE_run' (h.eqv hq) hev' (fun k hk => norm_fresh (hf k hk)) hn with ⟨y, w', d', hr, hs⟩ | ⟨w', d', hr, hd, hs⟩
  · exact .inl ⟨y, w', d', hr, hs.eqv hback⟩
  · exact .inr ⟨w', d', hr, hd, hs.eqv hback⟩
end
end Go.Sy
