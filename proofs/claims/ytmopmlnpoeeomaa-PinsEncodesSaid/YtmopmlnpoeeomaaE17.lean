/- The layer: code. -/
import Derived.Test.YtmopmlnpoeeomaaE16
set_option linter.unusedVariables false
set_option linter.unusedSimpArgs false
namespace Go.Sy

/-- code, from a state to ones that are such -/
def HT (P : Program) (B : Base) (c : Code) (S : St) (Q : Exit → St → Prop) : Prop :=
  ∀ d a w, Sim B d S a w → c.wp P (fun e a' w' => ∃ S' d', Q e S' ∧ Sim B d' S' a' w') a w

def thenQ (N : St → Prop) (Q : Exit → St → Prop) : Exit → St → Prop
  | .normal, S => N S
  | e, S => Q e S
def blockQ (id : Nat) (Q : Exit → St → Prop) : Exit → St → Prop
  | .exit i, S => if i = id then Q .normal S else Q (.exit i) S
  | e, S => Q e S

section
variable {P : Program} {B : Base} {S : St} {Q : Exit → St → Prop}

theorem HT.mono {c : Code} {Q' : Exit → St → Prop} (h : HT P B c S Q) (hq : ∀ e S, Q e S → Q' e S) : HT P B c S Q' := by
  intro d a w hs
  exact Code.wp_mono (fun e a' w' ⟨S', d', q, s⟩ => ⟨S', d', hq _ _ q, s⟩) (h d a w hs)

theorem HT.seq {x y : Code} (h : HT P B x S (thenQ (fun S' => HT P B y S' Q) Q)) : HT P B (.seq x y) S Q := by
  intro d a w hs
  refine wp_seq (Code.wp_mono ?_ (h d a w hs))
  rintro e a' w' ⟨S', d', hq, hs'⟩
  cases e <;> first | exact hq d' a' w' hs' | exact ⟨S', d', hq, hs'⟩

theorem HT.block {id : Nat} {x : Code} (h : HT P B x S (blockQ id Q)) : HT P B (.block id x) S Q := by
  intro d a w hs
  refine wp_block (Code.wp_mono ?_ (h d a w hs))
  rintro e a' w' ⟨S', d', hq, hs'⟩
  cases e with
  | exit i =>
    simp only [blockQ] at hq
    simp only [Exit.inBlock]
    split
    · rename_i e; rw [if_pos e] at hq; exact ⟨S', d', hq, hs'⟩
    · rename_i e; rw [if_neg e] at hq; exact ⟨S', d', hq, hs'⟩
  | _ => exact ⟨S', d', hq, hs'⟩

theorem HT.cond {c : Operand} {x y : Code} {t : Bool} (hc : S.get c = some (.w (.one (.pl (.b t))))) (ht : t = true → HT P B x S Q) (hf : t = false → HT P B y S Q) : HT P B (.cond c x y) S Q := by
  intro d a w hs
  have h := hs.get hc
  change PL.den _ _ _ at h; rw [PL.den] at h
  exact wp_cond_split h (fun e => ht e d a w hs) (fun e => hf e d a w hs)

theorem HT.region {id : Nat} {ops : Array Oper} (h : runOps P B (ops.toList.map (·.dst)) ops.toList S (Q .normal)) : HT P B (.region id ops false) S Q := by
  intro d a w hs
  refine wp_region_list ?_
  exact runOps_ok rfl (fun S' d' a' w' hk hs' => ⟨S', d', hk, hs'⟩) _ _ h d a w hs

theorem HT.skip (h : Q .normal S) : HT P B .skip S Q := fun d a w hs => wp_skip ⟨S, d, h, hs⟩
theorem HT.exit {id : Nat} (h : Q (.exit id) S) : HT P B (.exit id) S Q := fun d a w hs => wp_exit ⟨S, d, h, hs⟩
theorem HT.ret (h : Q .ret S) : HT P B .ret S Q := fun d a w hs => wp_ret ⟨S, d, h, hs⟩

theorem wp_loop_family {c : Code} {ι : Type} {a : Act} {w : World} {Q : Exit → Act → World → Prop} (I : ι → Act → World → Prop) (μ : ι → Nat) (i₀ : ι) (h₀ : I i₀ a w)
    (round : ∀ i a w, I i a w → c.wp P (Exit.then (fun a' w' => ∃ j, I j a' w' ∧ μ j < μ i) Q) a w) : (Code.loop c).wp P Q a w := by
  intro b k cs
  have key : ∀ n i a w, μ i = n → I i a w →
      ∃ e a' w', Q e a' w' ∧ Arrives P (lone (b.at a (.code c :: .inLoop c :: k)) cs w) b k cs e a' w' := by
    intro n
    induction n using Nat.strongRecOn with
    | _ n ih =>
      intro i a w hn hI
      obtain ⟨e, a₁, w₁, hq, harr⟩ := round i a w hI b (.inLoop c :: k) cs
      cases e with
      | normal =>
        obtain ⟨j, hI₁, hlt⟩ := hq
        obtain ⟨e₂, a₂, w₂, hq₂, harr₂⟩ := ih (μ j) (hn ▸ hlt) j a₁ w₁ rfl hI₁
        exact ⟨e₂, a₂, w₂, hq₂, .of_steps (Steps.trans harr (.one step_inLoop)) harr₂⟩
      | exit id => exact ⟨_, a₁, w₁, hq, .pass (x := .inLoop c) rfl (fun _ _ => .inl (by simp)) harr⟩
      | goto l => exact ⟨_, a₁, w₁, hq, .pass (x := .inLoop c) rfl (fun _ _ => .inl (by simp)) harr⟩
      | ret => exact ⟨_, a₁, w₁, hq, .pass (x := .inLoop c) rfl (fun _ _ => .inl (by simp)) harr⟩
      | panic ch => exact ⟨_, a₁, w₁, hq, .pass (x := .inLoop c) rfl (fun _ _ => .inl (by simp)) harr⟩
      | outgrown => exact ⟨_, a₁, w₁, hq, .pass (x := .inLoop c) rfl (fun _ _ => .inl (by simp)) harr⟩
  obtain ⟨e, a', w', hq, harr⟩ := key _ i₀ a w rfl h₀
  exact ⟨e, a', w', hq, .of_steps (.one step_loop) harr⟩

/-- whatever holds of the first state, holds of the second one -/
def Le (B : Base) (S S' : St) : Prop := ∀ d a w, Sim B d S a w → ∃ d', Sim B d' S' a w

theorem Le.refl (S : St) : Le B S S := fun d _ _ h => ⟨d, h⟩
theorem Le.trans {S S' S'' : St} (h : Le B S S') (h' : Le B S' S'') : Le B S S'' := fun d a w hs => let ⟨d', h1⟩ := h d a w hs; h' d' a w h1

theorem HT.le {c : Code} {S' : St} (hl : Le B S S') (h : HT P B c S' Q) : HT P B c S Q := by
  intro d a w hs
  obtain ⟨d', hs'⟩ := hl d a w hs
  exact h d' a w hs'

/-- a loop: a family of states, each round goes on to one with a lesser measure -/
theorem HT.loop {x : Code} {ι : Type} (T : ι → St) (μ : ι → Nat) (i₀ : ι) (h₀ : Le B S (T i₀))
    (round : ∀ i, HT P B x (T i) (thenQ (fun S' => ∃ j, μ j < μ i ∧ Le B S' (T j)) Q)) : HT P B (.loop x) S Q := by
  intro d a w hs
  obtain ⟨d0, hs0⟩ := h₀ d a w hs
  refine wp_loop_family (fun i a w => ∃ d, Sim B d (T i) a w) μ i₀ ⟨d0, hs0⟩ ?_
  rintro i a w ⟨d, hs⟩
  refine Code.wp_mono ?_ (round i d a w hs)
  rintro e a' w' ⟨S', d', hq, hs'⟩
  cases e with
  | normal =>
    obtain ⟨j, hj, hl⟩ := hq
    obtain ⟨d2, hs2⟩ := hl _ _ _ hs'
    exact ⟨j, ⟨d2, hs2⟩, hj⟩
  | _ => exact ⟨S', d', hq, hs'⟩
end

/-- code, reckoned: stops at loops and at regions that draw their order -/
def xc (P : Program) (B : Base) : Code → St → (Exit → St → Prop) → Prop
  | .skip, S, Q => Q .normal S
  | .region id ops draw, S, Q => if draw = true then HT P B (.region id ops true) S Q else runOps P B (ops.toList.map (·.dst)) ops.toList S (Q .normal)
  | .seq x y, S, Q => xc P B x S (thenQ (fun S' => xc P B y S' Q) Q)
  | .cond c x y, S, Q => match S.get c with
    | some (.w (.one (.pl (.b t)))) => (t = true → xc P B x S Q) ∧ (t = false → xc P B y S Q)
    | _ => False
  | .block id x, S, Q => xc P B x S (blockQ id Q)
  | .exit id, S, Q => Q (.exit id) S
  | .ret, S, Q => Q .ret S
  | c, S, Q => HT P B c S Q

theorem xc_ok {P : Program} {B : Base} : ∀ {c : Code} {S : St} {Q : Exit → St → Prop}, xc P B c S Q → HT P B c S Q
  | .skip, S, Q, h => HT.skip h
  | .region id ops draw, S, Q, h => by
    unfold xc at h
    split at h
    · rename_i hd; subst hd; exact h
    · rename_i hd
      have : draw = false := by cases draw <;> simp_all
      subst this; exact HT.region h
  | .seq x y, S, Q, h => HT.seq ((xc_ok (c := x) h).mono (by
      intro e S' hq
      cases e <;> first | exact xc_ok (c := y) hq | exact hq))
  | .cond c x y, S, Q, h => by
    unfold xc at h
    split at h
    · rename_i t ht; exact HT.cond ht (fun e => xc_ok (h.1 e)) (fun e => xc_ok (h.2 e))
    · exact h.elim
  | .block id x, S, Q, h => HT.block (xc_ok (c := x) h)
  | .exit id, S, Q, h => HT.exit h
  | .ret, S, Q, h => HT.ret h
  | .loop x, S, Q, h => h
  | .rangeFunc .., S, Q, h => h
  | .scope .., S, Q, h => h
  | .label .., S, Q, h => h
  | .goto .., S, Q, h => h
  | .refuse .., S, Q, h => h

/-- what is left of a state: slots and objects, some of them -/
def leE (e : List (Nat × V)) : List (Nat × V) → Prop
  | [] => True
  | x :: r => look e x.1 = some x.2 ∧ leE e r
def leM (m : List (Nat × Ob)) : List (Nat × Ob) → Prop
  | [] => True
  | x :: r => look m x.1 = some x.2 ∧ leM m r

theorem leE_look {e : List (Nat × V)} : ∀ {e' : List (Nat × V)}, leE e e' → ∀ {n v}, look e' n = some v → look e n = some v
  | x :: r, h, n, v, hv => by
    unfold look at hv
    split at hv
    · rename_i en; cases hv; rw [en]; exact h.1
    · exact leE_look h.2 hv
theorem leM_look {e : List (Nat × Ob)} : ∀ {e' : List (Nat × Ob)}, leM e e' → ∀ {n v}, look e' n = some v → look e n = some v
  | x :: r, h, n, v, hv => by
    unfold look at hv
    split at hv
    · rename_i en; cases hv; rw [en]; exact h.1
    · exact leM_look h.2 hv

theorem Le.of {B : Base} {S S' : St} (he : leE S.env S'.env) (hm : leM S.mem S'.mem) : Le B S S' := by
  intro d a w h
  have hsome : ∀ j, (look S'.mem j).isSome = true → (look S.mem j).isSome = true := by
    intro j hj
    cases ho : look S'.mem j with
    | none => simp [ho] at hj
    | some o => rw [leM_look hm ho]; rfl
  exact ⟨d, h.defers, h.nt, fun n v hv => h.env n v (leE_look he hv), fun k o hk => h.mem k o (leM_look hm hk), fun k k' h1 h2 => h.inj k k' (hsome _ h1) (hsome _ h2), fun k hk => h.own k (hsome _ hk), h.ro, h.old, h.os, h.tape, h.output, h.size, h.block⟩
end Go.Sy
