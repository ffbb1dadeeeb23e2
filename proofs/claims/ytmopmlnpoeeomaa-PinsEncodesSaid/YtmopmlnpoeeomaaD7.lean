/- Regions that draw their order: any order comes to what the order of the text comes to. -/
import Derived.Test.YtmopmlnpoeeomaaD6
set_option linter.unusedVariables false
set_option linter.unusedSimpArgs false
namespace Go.Sy

def OKs (P : Program) (ds : List (Option Tmp)) : List It → St → Prop
  | [], _ => True
  | x :: r, S => Go1 P ds S x ∧ OKs P ds r (x.on S)
def fin : List It → St → St
  | [], S => S
  | x :: r, S => fin r (x.on S)

def AllNew (l : List It) (S : St) : Prop := ∀ x ∈ l, ∀ k ∈ x.e.names, New k S

section
variable {P : Program} {ds : List (Option Tmp)} {S S' : St}

theorem Go1.eqv {x : It} (h : Go1 P ds S x) (he : Eqv S S') : Go1 P ds S' x :=
  h.same ⟨fun y _ => he.get y, fun _ _ _ k _ => he.mem k, fun v j o hx k ob hk => h.ns v j o hx k ob (by rw [← he.mem]; exact hk)⟩

theorem OKs.eqv : ∀ {l : List It} {S S' : St}, OKs P ds l S → Eqv S S' → OKs P ds l S' ∧ Eqv (fin l S) (fin l S')
  | [], _, _, _, he => ⟨trivial, he⟩
  | x :: r, S, S', h, he => by
    have h2 := OKs.eqv (l := r) h.2 (on_eqv he x.e x.o.dst)
    exact ⟨⟨h.1.eqv he, h2.1⟩, h2.2⟩

theorem New.eqv {k : Nat} (h : New k S) (he : Eqv S S') : New k S' := by
  refine ⟨⟨fun n v hv => h.1.1 n v (by rw [← he.env]; exact hv), fun n o ho => h.1.2 n o (by rw [← he.mem]; exact ho)⟩, by rw [he.mem]; exact h.2⟩

theorem kill_has_other {k j : Nat} {v : V} (h : v.has k = false) : (v.kill j).has k = false := by
  have hl : ∀ l : L, l.has k = false → (killL j l).has k = false := by
    intro l h
    unfold killL
    split
    · rfl
    · exact h
  have hw : ∀ x : W, x.has k = false → (x.kill j).has k = false := by
    intro x h
    cases x with
    | one l => exact hl l h
    | agg cs =>
      simp only [W.has, List.any_eq_false] at h
      simp only [W.kill, W.has, List.any_eq_false, List.mem_map]
      rintro l ⟨l', hl', rfl⟩
      simpa using hl l' (by simpa using h l' hl')
  cases v with
  | w x => exact hw x h
  | tup xs =>
    simp only [V.has, List.any_eq_false] at h
    simp only [V.kill, V.has, List.any_eq_false, List.mem_map]
    rintro l ⟨l', hl', rfl⟩
    simpa using hw l' (by simpa using h l' hl')
  | any => rfl

/-- what is done leaves a new name new -/
theorem New.on {k : Nat} {x : It} (h : New k S) (hf : x.e.free k = true) (hk : k ∉ x.e.names) : New k (x.on S) := by
  have henv : ∀ n v, look (x.on S).env n = some v → v.has k = false := by
    intro n v hv
    rw [look_on_env] at hv
    split at hv
    · cases he : x.e with
      | val u => rw [he] at hv hf; cases hv; simpa [Eff.free] using hf
      | new u ms => rw [he] at hv hf; cases hv; simp only [Eff.free, Bool.and_eq_true, Bool.not_eq_true'] at hf; exact hf.1
      | app u j o => rw [he] at hv hf; cases hv; simp only [Eff.free, Bool.and_eq_true, Bool.not_eq_true'] at hf; exact hf.1.1
      | sto u j o => rw [he] at hv hf; cases hv; simp only [Eff.free, Bool.and_eq_true, Bool.not_eq_true'] at hf; exact hf.1.1
    · cases he : x.e with
      | app u j o =>
        rw [he] at hv
        obtain ⟨u', hu', rfl⟩ := Option.map_eq_some_iff.mp hv
        exact kill_has_other (h.1.1 _ _ hu')
      | val u => rw [he] at hv; exact h.1.1 _ _ hv
      | new u ms => rw [he] at hv; exact h.1.1 _ _ hv
      | sto u j o => rw [he] at hv; exact h.1.1 _ _ hv
  unfold It.on at *
  cases he : x.e with
  | val u => rw [he] at henv; exact ⟨⟨henv, h.1.2⟩, h.2⟩
  | new u ms =>
    rw [he] at henv hf hk
    simp only [Eff.free, Bool.and_eq_true, List.all_eq_true] at hf
    have h0 : look ms k = none := look_none hk
    refine ⟨⟨henv, fun n o ho => ?_⟩, ?_⟩
    · simp only [Eff.on] at ho
      rw [look_append] at ho
      cases hl : look ms n with
      | none => rw [hl] at ho; exact h.1.2 _ _ ho
      | some ob =>
        rw [hl] at ho
        simp only [Option.some_or, Option.some.injEq] at ho
        subst ho
        have hin : (n, ob) ∈ ms := by
          clear hf henv he hk h0
          induction ms with
          | nil => cases hl
          | cons m r ih =>
            simp only [look] at hl
            split at hl
            · rename_i e; cases hl; subst e; simp
            · exact List.mem_cons_of_mem _ (ih hl)
        simpa using hf.2 _ hin
    · simp only [Eff.on]; rw [look_append, h0]; exact h.2
  | app u j o =>
    rw [he] at henv hf
    simp only [Eff.free, Bool.and_eq_true, Bool.not_eq_true', bne_iff_ne] at hf
    refine ⟨⟨henv, fun n ob ho => ?_⟩, ?_⟩
    · simp only [Eff.on, look] at ho
      split at ho
      · cases ho; exact hf.1.2
      · rw [look_killM] at ho
        split at ho
        · cases ho
        · obtain ⟨ob', ho', rfl⟩ := Option.map_eq_some_iff.mp ho
          have := h.1.2 _ _ ho'
          have hv := kill_has_other (k := k) (j := j) (v := .w (.agg ob'.cells)) this
          exact hv
    · simp only [Eff.on, look]
      rw [if_neg hf.2, look_killM, if_neg hf.2, h.2]; rfl
  | sto u j o =>
    rw [he] at henv hf
    simp only [Eff.free, Bool.and_eq_true, Bool.not_eq_true', bne_iff_ne] at hf
    refine ⟨⟨henv, fun n ob ho => ?_⟩, ?_⟩
    · simp only [Eff.on] at ho
      rw [look_setM] at ho
      split at ho
      · obtain ⟨ob', ho', rfl⟩ := Option.map_eq_some_iff.mp ho
        exact hf.1.2
      · exact h.1.2 _ _ ho
    · simp only [Eff.on]; rw [look_setM, if_neg hf.2]; exact h.2

def NamesApart : List It → Prop
  | [] => True
  | x :: r => (∀ y ∈ r, ∀ k ∈ x.e.names, k ∉ y.e.names) ∧ x.e.names.Nodup ∧ NamesApart r

theorem AllNew.on {x : It} {r : List It} (h : AllNew r S) (hx : Go1 P ds S x) (hd : ∀ y ∈ r, ∀ k ∈ y.e.names, k ∉ x.e.names) : AllNew r (x.on S) :=
  fun y hy k hk => (h y hy k hk).on (hx.fr (h y hy k hk).1 (hd y hy k hk)) (hd y hy k hk)

theorem AllNew.eqv {r : List It} (h : AllNew r S) (he : Eqv S S') : AllNew r S' := fun y hy k hk => (h y hy k hk).eqv he

/-- one of them comes first -/
theorem bubble : ∀ {ys : List It} {i : It} {r : List It} {S : St}, OKs P ds (ys ++ i :: r) S → AllNew (ys ++ i :: r) S → NamesApart (ys ++ i :: r) → (∀ y ∈ ys, Ind ds y i) →
    Go1 P ds S i ∧ OKs P ds (ys ++ r) (i.on S) ∧ Eqv (fin (ys ++ i :: r) S) (fin (ys ++ r) (i.on S))
  | [], i, r, S, h, _, _, _ => ⟨h.1, h.2, Eqv.rfl' _⟩
  | y :: ys, i, r, S, h, hn, hd, hi => by
    have hny : ∀ k ∈ y.e.names, New k S := fun k hk => hn y (by simp) k hk
    have hnr : AllNew (ys ++ i :: r) S := fun x hx => hn x (by simp only [List.cons_append, List.mem_cons]; exact .inr hx)
    have hap : ∀ x ∈ ys ++ i :: r, ∀ k ∈ x.e.names, k ∉ y.e.names := fun x hx k hk hk2 => hd.1 x hx k hk2 hk
    obtain ⟨h1, h2, h3⟩ := bubble (ys := ys) h.2 (hnr.on h.1 hap) hd.2.2 (fun z hz => hi z (by simp [hz]))
    obtain ⟨g1, g2, g3⟩ := swap h.1 h1 (hi y (by simp)) hny (fun k hk => hn i (by simp) k hk) (fun k hk hk2 => hap i (by simp) k hk2 hk)
    obtain ⟨h4, h5⟩ := h2.eqv g3.symm
    refine ⟨g1, ⟨g2, ?_⟩, ?_⟩
    · exact h4
    · exact h3.trans h5
end
end Go.Sy
