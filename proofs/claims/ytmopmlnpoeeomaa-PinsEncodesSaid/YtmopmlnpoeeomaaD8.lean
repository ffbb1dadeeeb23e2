/- Regions that draw their order: the rule. -/
import Derived.Test.YtmopmlnpoeeomaaD7
set_option linter.unusedVariables false
set_option linter.unusedSimpArgs false
namespace Go.Sy

theorem getD_set {α : Type} {l : Array α} {i j : Nat} {v d : α} (hi : i < l.size) : (l.setIfInBounds i v).getD j d = if j = i then v else l.getD j d := by
  simp only [Array.getD_eq_getD_getElem?, Array.getElem?_setIfInBounds]
  by_cases h : j = i
  · subst h; simp [hi]
  · rw [if_neg h, if_neg (fun e => h e.symm)]

section
variable {P : Program} {B : Base} {ops : Array Oper} {ds : List (Option Tmp)} {bef : Nat → Nat → Prop}

/-- what is still to come, and that it may come -/
structure Rest (P : Program) (B : Base) (ops : Array Oper) (ds : List (Option Tmp)) (bef : Nat → Nat → Prop) (listed : Array Bool) (R : List (Nat × It)) (S : St) : Prop where
  size : listed.size = ops.size
  at_ : ∀ p ∈ R, ops[p.1]? = some p.2.o
  open_ : ∀ i, (i ∈ R.map (·.1) ↔ i < ops.size ∧ listed.getD i true = false)
  ord : R.Pairwise fun p q => p.1 < q.1 ∧ (bef q.1 p.1 ∨ Ind ds p.2 q.2)
  ok : OKs P ds (R.map (·.2)) S
  new : AllNew (R.map (·.2)) S
  apart : NamesApart (R.map (·.2))
  dst : ∀ p ∈ R, ∀ n, p.2.o.dst = some n → n < B.nt
  closed : ∀ i o, ops[i]? = some o → listed.getD i true = true → i < ops.size → ∀ e ∈ o.after, Region.binds .any e = true → listed.getD e.on false = true

theorem NamesApart.drop : ∀ {ys : List It} {i : It} {r : List It}, NamesApart (ys ++ i :: r) → NamesApart (ys ++ r)
  | [], _, _, h => h.2.2
  | y :: ys, i, r, h => ⟨fun z hz k hk => h.1 z (List.mem_append.mpr ((List.mem_append.mp hz).imp id (List.mem_cons_of_mem _))) k hk, h.2.1, NamesApart.drop h.2.2⟩

theorem apart_mid : ∀ {ys : List It} {i : It} {r : List It}, NamesApart (ys ++ i :: r) → ∀ y ∈ ys ++ r, ∀ k ∈ y.e.names, k ∉ i.e.names
  | [], i, r, h, y, hy, k, hk => fun hki => h.1 y hy k hki hk
  | z :: ys, i, r, h, y, hy, k, hk => by
    rcases List.mem_cons.mp hy with rfl | hy
    · exact fun hki => h.1 i (by simp) k hk hki
    · exact apart_mid h.2.2 y hy k hk

theorem any_ok {K : St → Prop} {Q : Exit → Act → World → Prop} (hds : ds = ops.toList.map (·.dst)) (hback : ∀ i o, ops[i]? = some o → ∀ e ∈ o.after, Region.binds .any e = true → e.on < i)
    (hbef : ∀ i o, ops[i]? = some o → ∀ x, bef i x → ∃ e ∈ o.after, Region.binds .any e = true ∧ (e.on = x ∨ bef e.on x))
    (hK : ∀ S d a w, K S → Sim B d S a w → Q .normal a w) :
    ∀ (fuel : Nat) (listed : Array Bool) (R : List (Nat × It)) (S : St) d a w, R.length ≤ fuel → Rest P B ops ds bef listed R S → (∀ S', Eqv (fin (R.map (·.2)) S) S' → K S') → Sim B d S a w → wpAny P .any ops Q fuel listed a w := by
  have hclosed : ∀ (listed : Array Bool), listed.size = ops.size → (∀ i o, ops[i]? = some o → listed.getD i true = true → i < ops.size → ∀ e ∈ o.after, Region.binds .any e = true → listed.getD e.on false = true) →
      ∀ n i o, i ≤ n → ops[i]? = some o → (∀ e ∈ o.after, Region.binds .any e = true → listed.getD e.on false = true) → ∀ x, bef i x → listed.getD x false = true := by
    intro listed hsz hcl n
    induction n with
    | zero =>
      intro i o hi ho hp x hx
      obtain ⟨e, he, hb, h⟩ := hbef i o ho x hx
      have := hback i o ho e he hb; omega
    | succ n ih =>
      intro i o hi ho hp x hx
      obtain ⟨e, he, hb, h⟩ := hbef i o ho x hx
      have hlt := hback i o ho e he hb
      have hl := hp e he hb
      rcases h with rfl | h
      · exact hl
      · have hes : e.on < ops.size := by
          have := (Array.getElem?_eq_some_iff.mp ho).1; omega
        obtain ⟨o', ho'⟩ : ∃ o', ops[e.on]? = some o' := ⟨_, Array.getElem?_eq_getElem hes⟩
        refine ih e.on o' (by omega) ho' (hcl e.on o' ho' ?_ hes) x h
        rw [Array.getD_eq_getD_getElem?] at hl ⊢
        have : e.on < listed.size := by omega
        rw [Array.getElem?_eq_getElem this] at hl ⊢; simpa using hl
  have ready_mem : ∀ (listed : Array Bool) (i : Nat), i ∈ Region.ready .any ops listed ↔ i < ops.size ∧ listed.getD i true = false ∧ ∀ o, ops[i]? = some o → ∀ e ∈ o.after, Region.binds .any e = true → listed.getD e.on false = true := by
    intro listed i
    unfold Region.ready
    simp only [List.mem_filter, List.mem_range, Bool.and_eq_true, Bool.not_eq_true']
    constructor
    · rintro ⟨h1, h2, h3⟩
      refine ⟨h1, h2, fun o ho e he hb => ?_⟩
      rw [ho] at h3
      simp only [Option.map_some, Option.getD_some, Array.all_eq_true'] at h3
      have := h3 e he
      simpa [hb] using this
    · rintro ⟨h1, h2, h3⟩
      refine ⟨h1, h2, ?_⟩
      have ho := Array.getElem?_eq_getElem h1
      rw [ho]
      simp only [Option.map_some, Option.getD_some, Array.all_eq_true']
      intro e he
      cases hb : Region.binds .any e with
      | false => rfl
      | true => simpa using h3 _ ho e he hb
  intro fuel
  induction fuel with
  | zero =>
    intro listed R S d a w hlen hR hfin hs
    have : R = [] := List.eq_nil_of_length_eq_zero (by omega)
    subst this
    refine ⟨?_, hK _ _ _ _ (hfin S (Eqv.rfl' _)) hs⟩
    refine List.eq_nil_iff_forall_not_mem.mpr fun i hi => ?_
    obtain ⟨h1, h2, _⟩ := (ready_mem listed i).mp hi
    have := (hR.open_ i).mpr ⟨h1, h2⟩
    cases this
  | succ fuel ih =>
    intro listed R S d a w hlen hR hfin hs
    refine ⟨fun hnil => ?_, fun i hi => ?_⟩
    · cases R with
      | nil => exact hK _ _ _ _ (hfin S (Eqv.rfl' _)) hs
      | cons p r =>
        exfalso
        obtain ⟨h1, h2⟩ := (hR.open_ p.1).mp (by simp)
        have : p.1 ∈ Region.ready .any ops listed := by
          refine (ready_mem listed p.1).mpr ⟨h1, h2, fun o ho e he hb => ?_⟩
          have hlt := hback p.1 o ho e he hb
          cases hl : listed.getD e.on false with
          | true => rfl
          | false =>
            exfalso
            have hes : e.on < listed.size := by rw [hR.size]; omega
            have : listed.getD e.on true = false := by
              rw [Array.getD_eq_getD_getElem?, Array.getElem?_eq_getElem hes] at hl ⊢; simpa using hl
            have hin := (hR.open_ e.on).mpr ⟨by omega, this⟩
            simp only [List.map_cons, List.mem_cons, List.mem_map] at hin
            have hord := List.pairwise_cons.mp hR.ord
            rcases hin with hin | ⟨q, hq, hin⟩
            · omega
            · have := (hord.1 q hq).1; omega
        rw [hnil] at this; cases this
    · obtain ⟨h1, h2, h3⟩ := (ready_mem listed i).mp hi
      have hin := (hR.open_ i).mpr ⟨h1, h2⟩
      obtain ⟨⟨i', x⟩, hx, e⟩ := List.mem_map.mp hin
      simp only at e; subst e
      obtain ⟨ys, r, rfl⟩ := List.append_of_mem hx
      have hox : ops[i']? = some x.o := hR.at_ _ hx
      have hord := List.pairwise_append.mp hR.ord
      have hordi := List.pairwise_cons.mp hord.2.1
      have hind : ∀ y ∈ ys.map (·.2), Ind ds y x := by
        intro y hy
        obtain ⟨⟨j, y'⟩, hj, rfl⟩ := List.mem_map.mp hy
        have hp := hord.2.2 _ hj (i', x) (by simp)
        rcases hp.2 with hb | hb
        · exfalso
          have hl := hclosed listed hR.size hR.closed i' i' x.o (Nat.le_refl _) hox (h3 x.o hox) j hb
          have hopen := (hR.open_ j).mp (by simp only [List.map_append, List.mem_append, List.mem_map]; exact .inl ⟨_, hj, rfl⟩)
          have hes : j < listed.size := by rw [hR.size]; exact hopen.1
          have h5 := hopen.2
          rw [Array.getD_eq_getD_getElem?, Array.getElem?_eq_getElem hes] at hl h5
          simp only [Option.getD_some] at hl h5
          rw [hl] at h5; cases h5
        · exact hb
      have hok := hR.ok
      have hnew := hR.new
      have hap := hR.apart
      simp only [List.map_append, List.map_cons] at hok hnew hap
      obtain ⟨g1, g2, g3⟩ := bubble hok hnew hap hind
      have hnx : ∀ k ∈ x.e.names, New k S := fun k hk => hnew x (by simp) k hk
      have hdst : ∀ n, x.o.dst = some n → n < B.nt := hR.dst _ hx
      have hR' : Rest P B ops ds bef (listed.setIfInBounds i' true) (ys ++ r) (x.on S) := by
        have hi2 : i' < listed.size := by rw [hR.size]; exact h1
        have hlt : ∀ p ∈ ys, p.1 < i' := fun p hp => (hord.2.2 p hp (i', x) (by simp)).1
        have hgt : ∀ p ∈ r, i' < p.1 := fun p hp => (hordi.1 p hp).1
        refine ⟨by rw [Array.size_setIfInBounds]; exact hR.size, fun p hp => hR.at_ p ?_, fun j => ?_, ?_, ?_, ?_, ?_, fun p hp => hR.dst p ?_, ?_⟩
        · simp only [List.mem_append, List.mem_cons] at hp ⊢; rcases hp with hp | hp; exact .inl hp; exact .inr (.inr hp)
        · have hj := hR.open_ j
          rw [getD_set hi2]
          simp only [List.map_append, List.map_cons, List.mem_append, List.mem_cons, List.mem_map] at hj ⊢
          by_cases hji : j = i'
          · subst hji
            rw [if_pos rfl]
            constructor
            · rintro (⟨p, hp, e⟩ | ⟨p, hp, e⟩)
              · have := hlt p hp; omega
              · have := hgt p hp; omega
            · rintro ⟨_, h⟩; cases h
          · rw [if_neg hji, ← hj]
            constructor
            · rintro (h | h)
              · exact .inl h
              · exact .inr (.inr h)
            · rintro (h | h | h)
              · exact .inl h
              · exact absurd h hji
              · exact .inr h
        · exact List.pairwise_append.mpr ⟨hord.1, hordi.2, fun p hp q hq => hord.2.2 p hp q (by simp [hq])⟩
        · rw [List.map_append]; exact g2
        · rw [List.map_append]
          have hmid := apart_mid hap
          refine AllNew.on (P := P) (ds := ds) (x := x) (r := ys.map (·.2) ++ r.map (·.2)) (S := S) (fun y hy k hk => hnew y ?_ k hk) g1 hmid
          simp only [List.mem_append, List.mem_cons] at hy ⊢; rcases hy with hy | hy; exact .inl hy; exact .inr (.inr hy)
        · rw [List.map_append]; exact hap.drop
        · simp only [List.mem_append, List.mem_cons] at hp ⊢; rcases hp with hp | hp; exact .inl hp; exact .inr (.inr hp)
        · intro j o ho hl hjs e he hb
          rw [getD_set hi2] at hl ⊢
          by_cases hei : e.on = i'
          · rw [if_pos hei]
          · rw [if_neg hei]
            by_cases hji : j = i'
            · subst hji
              rw [hox] at ho; cases ho
              exact h3 _ hox e he hb
            · rw [if_neg hji] at hl
              exact hR.closed j o ho hl hjs e he hb
      have hlen' : (ys ++ r).length ≤ fuel := by simp at hlen ⊢; omega
      have hgo : ∀ d' a' w', Sim B d' (x.on S) a' w' → wpAny P .any ops Q fuel (listed.setIfInBounds i' true) a' w' := by
        intro d' a' w' hs'
        refine ih _ (ys ++ r) (x.on S) d' a' w' hlen' hR' (fun S' he => hfin S' ?_) hs'
        simp only [List.map_append, List.map_cons]
        rw [List.map_append] at he
        exact g3.trans he
      have hev := g1.ev
      have hg := g1.guard
      have run : x.skip = false → x.o.wp P a w (wpAny P .any ops Q fuel (listed.setIfInBounds i' true)) Q := by
        intro hsk
        rw [hsk] at hev
        simp only [Bool.false_eq_true, if_false] at hev
        exact hev.run hs hnx hdst _ _ hgo
      have skp : x.skip = true → wpAny P .any ops Q fuel (listed.setIfInBounds i' true) (a.put x.o.dst undef) w := by
        intro hsk
        rw [hsk] at hev
        simp only [if_true] at hev
        refine hgo d _ _ ?_
        unfold It.on
        rw [hev]
        exact Sim.putE hs (v := .tup []) (undef_den d) hdst
      simp only [wpOp, hox]
      cases hgd : x.o.guard with
      | none =>
        rw [hgd] at hg
        rw [if_pos (by simp [Region.wanted, hgd])]
        exact .inl (run hg)
      | some g =>
        rw [hgd] at hg
        simp only at hg
        obtain ⟨c, hc, hsk⟩ := hg
        have hw := wanted_of hs hds hgd hc
        rw [hw]
        by_cases hcg : c = g.2
        · rw [if_pos (by simp [hcg])]
          exact .inl (run (by rw [hsk, hcg]; simp))
        · rw [if_neg (by simp [hcg])]
          exact skp (by rw [hsk]; simpa using hcg)
end
end Go.Sy
