/- Regions that draw their order: names that are new stay out of what an operation gives. -/
import Derived.Test.YtmopmlnpoeeomaaD1
set_option linter.unusedVariables false
set_option linter.unusedSimpArgs false
namespace Go.Sy

/-- nothing of the state leans on this name -/
def Fr (k : Nat) (S : St) : Prop := (∀ n v, look S.env n = some v → v.has k = false) ∧ (∀ n o, look S.mem n = some o → o.has k = false)

section
variable {P : Program} {S S' : St} {k : Nat}

theorem get_fr {x : Operand} {v : V} (hf : Fr k S) (h : S.get x = some v) : v.has k = false := by
  cases x with
  | tmp t => exact hf.1 _ _ h
  | const c =>
    simp only [St.get] at h
    cases hl : lit c with
    | none => simp [hl] at h
    | some y => simp only [hl, Option.map_some, Option.some.injEq] at h; subst h; exact lit_has hl k
  | func f => simp only [St.get] at h; cases h; rfl
  | «global» g => simp [St.get] at h

theorem any_win {cs : List L} (h : cs.any (L.has k) = false) (o n : Nat) : (win cs o n).any (L.has k) = false := by
  simp only [List.any_eq_false] at h ⊢
  intro x hx
  exact h x (List.mem_of_mem_drop (List.mem_of_mem_take hx))

theorem any_rd {cs : List L} (h : cs.any (L.has k) = false) : ∀ p, (rd cs p).any (L.has k) = false
  | [] => h
  | x :: p => any_win (any_rd h p) _ _

theorem mkW_has {t : TypeId} {cs : List L} {x : W} (h : mkW P t cs = some x) (hc : cs.any (L.has k) = false) : x.has k = false := by
  unfold mkW at h
  split at h <;> try (cases h; done)
  · cases h; exact hc
  · cases h; exact hc
  · split at h <;> cases h
    simpa [W.has] using hc

theorem loadV_fr (hf : Fr k S) {t : TypeId} {v z : V} (h : loadV P S t v = some z) : z.has k = false := by
  unfold loadV at h
  split at h
  · split at h <;> try (cases h; done)
    rename_i o ho
    split at h <;> try (cases h; done)
    obtain ⟨x, hx, rfl⟩ := Option.map_eq_some_iff.mp h
    exact mkW_has hx (any_rd (hf.2 _ _ ho) _)
  · split at h <;> try (cases h; done)
    obtain ⟨x, hx, rfl⟩ := Option.map_eq_some_iff.mp h
    refine mkW_has hx ?_
    simp only [List.any_eq_false, pls, List.mem_map]
    rintro y ⟨z, _, rfl⟩
    simp [L.has]
  · cases h

theorem fillL_fr {place : Nat → Option (Nat × Nat)} : ∀ {cells : List L} {ps : List (Nat × V)} {out : List L}, fillL place cells ps = some out → cells.any (L.has k) = false → (∀ p ∈ ps, p.2.has k = false) → out.any (L.has k) = false :=
  fun h hc hp => fillL_has h hc hp

theorem partsV_fr (hf : Fr k S) : ∀ {l : List (Nat × Operand)} {vs : List (Nat × V)}, partsV S l = some vs → ∀ p ∈ vs, p.2.has k = false
  | [], vs, h => by simp only [partsV] at h; cases h; intro p hp; cases hp
  | x :: r, vs, h => by
    simp only [partsV] at h
    split at h
    · rename_i v us hv hu
      cases h
      intro p hp
      rcases List.mem_cons.mp hp with rfl | hp
      · exact get_fr hf hv
      · exact partsV_fr hf hu p hp
    · cases h

theorem buildV_fr (hf : Fr k S) {t : TypeId} {l : List (Nat × Operand)} {v : V} (h : buildV P S t l = some v) : v.has k = false := by
  unfold buildV at h
  split at h
  · rename_i hz hp _
    split at h <;> try (cases h; done)
    obtain ⟨x, hx, rfl⟩ := Option.map_eq_some_iff.mp h
    exact fillL_fr hx (zeroC_has hz k) (partsV_fr hf hp)
  · rename_i hz hp _
    split at h <;> try (cases h; done)
    obtain ⟨x, hx, rfl⟩ := Option.map_eq_some_iff.mp h
    exact fillL_fr hx (zeroC_has hz k) (partsV_fr hf hp)
  · cases h

theorem capsV_fr (hf : Fr k S) : ∀ {l : List Operand} {ks : List Nat}, capsV S l = some ks → (ks.any fun j => k == j) = false
  | [], ks, h => by simp only [capsV] at h; cases h; rfl
  | x :: r, ks, h => by
    simp only [capsV] at h
    split at h
    · rename_i j js hj hjs
      cases h
      have := get_fr hf hj
      simp only [V.has, W.has, L.has] at this
      simp only [List.any_cons, this, capsV_fr hf hjs, Bool.or_self]
    · cases h

theorem pick_fr {c : Bool} {x y : V} (hx : x.has k = false) (hy : y.has k = false) : (pickV c x y).has k = false := by
  unfold pickV
  split
  · rfl
  · cases c <;> assumption

theorem bind_fr {x : Operand} {f : V → Option V} {v : V} (hf : Fr k S) (h : (S.get x).bind f = some v) (hg : ∀ u, u.has k = false → f u = some v → v.has k = false) : v.has k = false := by
  obtain ⟨u, hu, h⟩ := bind_some h
  exact hg u (get_fr hf hu) h

theorem convV_fr {s t : TypeId} {u v : V} (hu : u.has k = false) (h : convV P S s t u = some v) : v.has k = false := by
  unfold convV at h
  split at h
  · obtain ⟨x, _, rfl⟩ := Option.map_eq_some_iff.mp h; rfl
  · cases h; rfl
  · split at h
    · split at h
      · obtain ⟨x, _, rfl⟩ := Option.map_eq_some_iff.mp h; rfl
      · cases h
    · cases h
  · split at h
    · split at h
      · obtain ⟨x, _, rfl⟩ := Option.map_eq_some_iff.mp h; rfl
      · cases h
    · cases h
  · cases h

theorem sliceV_fr {t : TypeId} {u v : V} {a b c : Option V} (hu : u.has k = false) (h : sliceV P S t u a b c = some v) : v.has k = false := by
  unfold sliceV at h
  split at h
  · split at h <;> try (cases h; done)
    split at h <;> try (cases h; done)
    split at h <;> cases h
    rfl
  · split at h <;> try (cases h; done)
    split at h <;> try (cases h; done)
    split at h <;> try (cases h; done)
    split at h <;> cases h
    exact hu
  · split at h <;> try (cases h; done)
    split at h <;> try (cases h; done)
    split at h <;> try (cases h; done)
    split at h <;> cases h
    exact hu
  · split at h <;> try (cases h; done)
    split at h <;> try (cases h; done)
    split at h <;> try (cases h; done)
    split at h
    · cases h; rfl
    · split at h <;> try (cases h; done)
      split at h <;> cases h
      rfl
  · cases h

theorem fieldV_fr {t f : Nat} {u v : V} (hu : u.has k = false) (h : fieldV P t f u = some v) : v.has k = false := by
  unfold fieldV at h
  split at h <;> try (cases h; done)
  split at h <;> try (cases h; done)
  split at h <;> try (cases h; done)
  split at h <;> cases h
  · exact hu
  · rfl

theorem indexAddrV_fr {t : TypeId} {u i v : V} (hu : u.has k = false) (h : indexAddrV P t u i = some v) : v.has k = false := by
  unfold indexAddrV at h
  split at h <;> try (cases h; done)
  split at h <;> try (cases h; done)
  · split at h <;> try (cases h; done)
    split at h <;> cases h
    · exact hu
    · rfl
  · split at h <;> try (cases h; done)
    · split at h <;> cases h
      exact hu
    · split at h <;> cases h
      rfl

theorem indexV_fr {t : TypeId} {u i v : V} (hu : u.has k = false) (h : indexV P t u i = some v) : v.has k = false := by
  unfold indexV at h
  split at h <;> try (cases h; done)
  split at h <;> try (cases h; done)
  · split at h <;> try (cases h; done)
    unfold partV at h
    split at h <;> try (cases h; done)
    obtain ⟨x, hx, rfl⟩ := Option.map_eq_some_iff.mp h
    exact mkW_has hx (any_win hu _ _)
  · split at h <;> cases h
    rfl

theorem binV_fr {op : BinOp} {t : TypeId} {x y v : V} (h : binV P op t x y = some v) : v.has k = false := by
  unfold binV at h
  split at h
  · split at h <;> first
      | (cases h; done)
      | (cases h; rfl)
      | (split at h <;> cases h; rfl)
  · split at h <;> first
      | (cases h; done)
      | (cases h; rfl)
  · split at h
    · split at h
      · obtain ⟨x, _, rfl⟩ := Option.map_eq_some_iff.mp h; rfl
      · cases h
    · split at h
      · obtain ⟨x, _, rfl⟩ := Option.map_eq_some_iff.mp h; rfl
      · cases h
    · obtain ⟨x, _, rfl⟩ := Option.map_eq_some_iff.mp h; rfl
  · split at h
    · split at h
      · obtain ⟨x, _, rfl⟩ := Option.map_eq_some_iff.mp h; rfl
      · obtain ⟨x, _, rfl⟩ := Option.map_eq_some_iff.mp h; rfl
      · cases h
    · cases h
  · cases h

theorem pureV_fr {op : Op} {v : V} (hf : Fr k S) (h : pureV P S op = some v) : v.has k = false := by
  unfold pureV at h
  split at h
  · exact get_fr hf h
  · exact get_fr hf h
  · split at h
    · rename_i h1 h2 h3
      cases h
      exact pick_fr (get_fr hf h2) (get_fr hf h3)
    · cases h
  · exact buildV_fr hf h
  · exact bind_fr hf h fun u _ h => loadV_fr hf h
  · refine bind_fr hf h fun u hu h => ?_
    unfold nilV at h
    split at h <;> cases h <;> exact hu
  · split at h
    · exact binV_fr h
    · cases h
  · refine bind_fr hf h fun u hu h => ?_
    unfold unV at h
    split at h <;> cases h <;> rfl
  · exact bind_fr hf h fun u hu h => convV_fr hu h
  · split at h
    · rename_i h1 _ _ _
      exact sliceV_fr (get_fr hf h1) h
    · cases h
  · exact bind_fr hf h fun u hu h => fieldV_fr hu h
  · split at h
    · rename_i h1 _
      exact indexAddrV_fr (get_fr hf h1) h
    · cases h
  · split at h
    · rename_i h1 _
      exact indexV_fr (get_fr hf h1) h
    · cases h
  · refine bind_fr hf h fun u hu h => ?_
    unfold extractV at h
    split at h
    · rename_i xs
      obtain ⟨x, hx, rfl⟩ := Option.map_eq_some_iff.mp h
      simp only [V.has, List.any_eq_false] at hu ⊢
      simpa using hu x (List.mem_of_getElem? hx)
    · cases h
  · split at h
    · obtain ⟨ks, hk, rfl⟩ := Option.map_eq_some_iff.mp h
      exact capsV_fr hf hk
    · cases h
  · split at h
    · refine bind_fr hf h fun u hu h => ?_
      unfold lenV at h
      split at h <;> cases h <;> rfl
    · cases h
  · split at h
    · split at h
      · unfold minmaxV at h
        split at h <;> cases h <;> rfl
      · cases h
    · cases h
  · split at h
    · split at h
      · unfold minmaxV at h
        split at h <;> cases h <;> rfl
      · cases h
    · cases h
  · cases h

/-- what is made, leans on its own name and on what stood there -/
theorem allocV_fr {j : Nat} {op : Op} {r : V × Ob} (hf : Fr k S) (hj : k ≠ j) (h : allocV P j S op = some r) : r.1.has k = false ∧ r.2.has k = false := by
  have hkj : (k == j) = false := by simpa using hj
  unfold allocV at h
  split at h
  · obtain ⟨cs, hc, rfl⟩ := Option.map_eq_some_iff.mp h
    exact ⟨by simpa [V.has, W.has, L.has] using hj, zeroC_has hc k⟩
  · split at h <;> cases h
    rename_i v hv
    exact ⟨by simpa [V.has, W.has, L.has] using hj, cells_has (get_fr hf hv)⟩
  · split at h <;> try (cases h; done)
    split at h <;> try (cases h; done)
    rename_i hz hp
    split at h <;> try (cases h; done)
    obtain ⟨cs, hc, rfl⟩ := Option.map_eq_some_iff.mp h
    exact ⟨by simpa [V.has, W.has, L.has] using hj, fillL_fr hc (any_replicate (zeroC_has hz k) _) (partsV_fr hf hp)⟩
  · split at h <;> try (cases h; done)
    split at h <;> try (cases h; done)
    rename_i hz
    split at h <;> cases h
    exact ⟨by simpa [V.has, W.has, L.has] using hj, any_replicate (zeroC_has hz k) _⟩
  · split at h <;> try (cases h; done)
    split at h <;> cases h
    refine ⟨by simpa [V.has, W.has, L.has] using hj, ?_⟩
    simp only [Ob.has, bytesC, List.any_eq_false, List.mem_map]
    rintro x ⟨y, _, rfl⟩
    simp [L.has]
  · cases h

theorem srcV_fr {e tx : TypeId} {v : V} {r : List L × Nat} (hf : Fr k S) (h : srcV P S e tx v = some r) : r.1.any (L.has k) = false := by
  unfold srcV at h
  split at h
  · split at h <;> cases h
    exact pls_has k _
  · split at h <;> try (cases h; done)
    rename_i o ho
    split at h <;> cases h
    exact any_rd (hf.2 _ _ ho) _
  · split at h <;> cases h
    simp only [bytesC, List.any_eq_false, List.mem_map]
    rintro x ⟨y, _, rfl⟩
    simp [L.has]
  · cases h
end
end Go.Sy
