/- Regions that draw their order: items; two that change places. -/
import Derived.Test.YtmopmlnpoeeomaaD5
set_option linter.unusedVariables false
set_option linter.unusedSimpArgs false
namespace Go.Sy

def noUL : L → Bool
  | .pl .u => false
  | _ => true
def noUW : W → Bool
  | .one l => noUL l
  | .agg cs => cs.all noUL
def noUV : V → Bool
  | .w x => noUW x
  | .tup xs => xs.all noUW
  | .any => true

theorem killL_id {k : Nat} {l : L} (h : l.has k = false) : killL k l = l := by simp [killL, h]
theorem noUL_kill {k : Nat} {l : L} (h : noUL (killL k l) = true) : killL k l = l := by
  unfold killL at h ⊢
  split
  · rename_i hc; rw [if_pos hc] at h; cases h
  · rfl
theorem map_id' {α : Type} {f : α → α} : ∀ {l : List α}, (∀ x ∈ l, f x = x) → l.map f = l
  | [], _ => rfl
  | x :: r, h => by rw [List.map_cons, h x (by simp), map_id' fun y hy => h y (by simp [hy])]
theorem noUW_kill {k : Nat} {x : W} (h : noUW (x.kill k) = true) : x.kill k = x := by
  cases x with
  | one l => simp only [W.kill]; rw [noUL_kill h]
  | agg cs =>
    simp only [W.kill, noUW, List.all_eq_true, List.mem_map] at h
    simp only [W.kill]; rw [map_id' fun l hl => noUL_kill (h _ ⟨l, hl, rfl⟩)]
theorem noUV_kill {k : Nat} {x : V} (h : noUV (x.kill k) = true) : x.kill k = x := by
  cases x with
  | w x => simp only [V.kill]; rw [noUW_kill h]
  | tup xs =>
    simp only [V.kill, noUV, List.all_eq_true, List.mem_map] at h
    simp only [V.kill]; rw [map_id' fun l hl => noUW_kill (h _ ⟨l, hl, rfl⟩)]
  | any => rfl
theorem W.kill_id {k : Nat} {x : W} (h : x.has k = false) : x.kill k = x := by
  cases x with
  | one l => simp only [W.kill]; rw [killL_id h]
  | agg cs =>
    simp only [W.has, List.any_eq_false] at h
    simp only [W.kill]; rw [map_id' fun l hl => killL_id (by simpa using h l hl)]
theorem V.kill_id {k : Nat} {x : V} (h : x.has k = false) : x.kill k = x := by
  cases x with
  | w x => simp only [V.kill]; rw [W.kill_id h]
  | tup xs =>
    simp only [V.has, List.any_eq_false] at h
    simp only [V.kill]; rw [map_id' fun l hl => W.kill_id (by simpa using h l hl)]
  | any => rfl

/-- an operation of a region, and what it does -/
structure It where
  o : Oper
  e : Eff
  skip : Bool
  rv : List V
  ns : List Nat

def gslot (ds : List (Option Tmp)) (o : Oper) : List Operand :=
  match o.guard with
  | some g => match ds[g.1]? with
    | some (some t) => [.tmp t]
    | _ => []
  | none => []
def It.reads (ds : List (Option Tmp)) (x : It) : List Operand := gslot ds x.o ++ (if x.skip = true then [] else x.o.op.operands.toList)
def tmpsOf (l : List Operand) : List Nat := l.filterMap fun x => match x with
  | .tmp t => some t
  | _ => none

def It.on (x : It) (S : St) : St := x.e.on x.o.dst S

structure Go1 (P : Program) (ds : List (Option Tmp)) (S : St) (x : It) : Prop where
  rv : (x.reads ds).filterMap S.get = x.rv
  guard : match x.o.guard with
    | none => x.skip = false
    | some g => ∃ c, guardV S ds g.1 g.2 = some c ∧ x.skip = (c != g.2)
  ev : if x.skip = true then x.e = .val (.tup []) else Ev P S x.o x.e
  ns : ∀ v j o, x.e = .app v j o → ∀ k ob, look S.mem k = some ob → k ≠ j → ob.has j = true → k ∈ x.ns

theorem tmp_mem {l : List Operand} {n : Nat} (h : Operand.tmp n ∈ l) : n ∈ tmpsOf l := by
  simp only [tmpsOf, List.mem_filterMap]
  exact ⟨_, h, rfl⟩

/-- the values that are read, and what lies where they point -/
structure Agree (ds : List (Option Tmp)) (S S' : St) (x : It) : Prop where
  get : ∀ y ∈ x.reads ds, S'.get y = S.get y
  mem : memOp x.o.op = true → ∀ v ∈ x.rv, ∀ k, v.has k = true → look S'.mem k = look S.mem k
  ns : ∀ v j o, x.e = .app v j o → ∀ k ob, look S'.mem k = some ob → k ≠ j → ob.has j = true → k ∈ x.ns

theorem guardV_same {S S' : St} {ds : List (Option Tmp)} {o : Oper} {g : Nat × Bool} (hg : o.guard = some g) (h : ∀ y ∈ gslot ds o, S'.get y = S.get y) : guardV S' ds g.1 g.2 = guardV S ds g.1 g.2 := by
  unfold gslot at h
  rw [hg] at h
  simp only at h
  unfold guardV
  split
  · rename_i t ht
    rw [ht] at h
    have := h (.tmp t) (by simp)
    simp only [St.get] at this
    rw [this]
  · rfl

theorem rv_mem {S : St} {l : List Operand} {rv : List V} (h : l.filterMap S.get = rv) {y : Operand} {v : V} (hy : y ∈ l) (hv : S.get y = some v) : v ∈ rv := by
  rw [← h]; exact List.mem_filterMap.2 ⟨y, hy, hv⟩

theorem rv_of {S : St} {l : List Operand} {rv : List V} (h : l.filterMap S.get = rv) {v : V} (hv : v ∈ rv) : ∃ z ∈ l, S.get z = some v := by
  rw [← h] at hv; exact List.mem_filterMap.1 hv

theorem filterMap_same {S S' : St} : ∀ {l : List Operand}, (∀ y ∈ l, S'.get y = S.get y) → l.filterMap S'.get = l.filterMap S.get
  | [], _ => rfl
  | x :: r, h => by
    rw [List.filterMap_cons, List.filterMap_cons, h x (by simp), filterMap_same (l := r) fun y hy => h y (by simp [hy])]

theorem mem_reads {ds : List (Option Tmp)} {x : It} (hs : x.skip = false) {y : Operand} (h : y ∈ x.o.op.operands) : y ∈ x.reads ds := by
  unfold It.reads
  rw [hs]
  simp only [Bool.false_eq_true, if_false, List.mem_append]
  exact .inr (by simpa using h)

theorem Go1.same {P : Program} {ds : List (Option Tmp)} {S S' : St} {x : It} (h : Go1 P ds S x) (ha : Agree ds S S' x) : Go1 P ds S' x := by
  refine ⟨?_, ?_, ?_, ha.ns⟩
  · rw [← h.rv]
    exact filterMap_same ha.get
  · have hg := h.guard
    cases hgd : x.o.guard with
    | none => rw [hgd] at hg; exact hg
    | some g =>
      rw [hgd] at hg
      simp only at hg ⊢
      obtain ⟨c, hc, hs⟩ := hg
      exact ⟨c, by rw [guardV_same hgd fun y hy => ha.get y (by unfold It.reads; simp [hy])]; exact hc, hs⟩
  · have he := h.ev
    cases hs : x.skip with
    | true => rw [hs] at he; simpa using he
    | false =>
      rw [hs] at he
      simp only [Bool.false_eq_true, if_false] at he ⊢
      refine he.same (fun y hy => ha.get y (mem_reads hs hy)) fun hm y hy v hv k hk => ?_
      exact ha.mem hm v (rv_mem h.rv (mem_reads hs hy) hv) k hk

/-- what one changes, the other does not lean on -/
def touch (m z : It) : Prop :=
  match m.e with
  | .sto _ k _ => memOp z.o.op = true → ∀ v ∈ z.rv, v.has k = false
  | .app _ j _ => (∀ v ∈ z.rv, v.has j = false ∧ noUV v = true) ∧ z.e.free j = true ∧ (memOp z.o.op = true → ∀ v ∈ z.rv, ∀ k ∈ m.ns, v.has k = false)
  | _ => True

structure Ind (ds : List (Option Tmp)) (x y : It) : Prop where
  d1 : ∀ n, x.o.dst = some n → n ∉ tmpsOf (y.reads ds)
  d2 : ∀ n, y.o.dst = some n → n ∉ tmpsOf (x.reads ds)
  d3 : ∀ n, x.o.dst = some n → y.o.dst ≠ some n
  mu : x.e.mut = false ∨ y.e.mut = false
  t1 : touch x y
  t2 : touch y x

section
variable {P : Program} {ds : List (Option Tmp)} {S S' : St} {x y : It}

theorem Go1.fr (h : Go1 P ds S x) {k : Nat} (hf : Fr k S) (hk : k ∉ x.e.names) : x.e.free k = true := by
  have he := h.ev
  cases hs : x.skip with
  | true => rw [hs] at he; simp only [if_true] at he; rw [he]; rfl
  | false => rw [hs] at he; simp only [Bool.false_eq_true, if_false] at he; exact he.fr hf hk

theorem get_tmp_on {n : Nat} (h : x.o.dst ≠ some n) : (x.on S).get (.tmp n) = match x.e with
    | .app _ j _ => (look S.env n).map (V.kill j)
    | _ => look S.env n := by
  unfold It.on
  cases x.e with
  | val v => exact look_addE h
  | new v ms => exact look_addE h
  | app v j o => simp only [St.get, Eff.on]; rw [look_addE h, look_killE]
  | sto v k o => exact look_addE h

/-- another operation's effect does not change what this one reads: told from the state behind it -/
theorem agree_back (hx : Go1 P ds S x) (hy : Go1 P ds (x.on S) y) (hn : ∀ k ∈ x.e.names, New k S) (hd : ∀ n, x.o.dst = some n → n ∉ tmpsOf (y.reads ds)) (ht : touch x y) (hm : x.e.mut = false ∨ y.e.mut = false) : Agree ds (x.on S) S y := by
  have hget : ∀ z ∈ y.reads ds, S.get z = (x.on S).get z := by
    intro z hz
    cases z with
    | const c => rfl
    | func f => rfl
    | «global» g => rfl
    | tmp n =>
      have hne : x.o.dst ≠ some n := fun e => hd n e (tmp_mem hz)
      have h1 := get_tmp_on (S := S) hne
      rw [h1]
      unfold touch at ht
      cases he : x.e with
      | app v j o =>
        rw [he] at ht h1
        simp only at ht h1 ⊢
        show look S.env n = _
        cases hu' : look S.env n with
        | none => rfl
        | some u' =>
          have hu := rv_mem hy.rv hz (v := u'.kill j) (by rw [h1, hu']; rfl)
          rw [Option.map_some, noUV_kill (ht.1 _ hu).2]
      | val v => rfl
      | new v ms => rfl
      | sto v k o => rfl
  refine ⟨hget, fun hmo v hv k hk => ?_, fun v j o hye k ob hk hkj hob => ?_⟩
  · obtain ⟨z, hz, e⟩ := rv_of hy.rv hv
    rw [← hget z hz] at e
    unfold touch at ht
    unfold It.on
    cases he : x.e with
    | val u => rfl
    | new u ms =>
      have h0 : look ms k = none := look_none fun hin => by
        have := (hn k (by rw [he]; exact hin)).1
        rw [get_fr this e] at hk; cases hk
      simp only [Eff.on]
      rw [look_append, h0]; rfl
    | app u j o =>
      rw [he] at ht
      simp only at ht
      have hkj : k ≠ j := by intro e2; subst e2; rw [(ht.1 v hv).1] at hk; cases hk
      simp only [Eff.on, look, if_neg hkj]
      rw [look_killM, if_neg hkj]
      cases ho : look S.mem k with
      | none => rfl
      | some ob =>
        have h2 : ob.has j = false := by
          cases hob : ob.has j with
          | false => rfl
          | true =>
            have := hx.ns u j o he k ob ho hkj hob
            rw [ht.2.2 hmo v hv k this] at hk; cases hk
        simp only [Option.map_some]
        rw [map_id' fun l hl => killL_id (by simp only [Ob.has, List.any_eq_false] at h2; simpa using h2 l hl)]
    | sto u k0 o =>
      rw [he] at ht
      simp only at ht
      have hkj : k ≠ k0 := by intro e2; subst e2; rw [ht hmo v hv] at hk; cases hk
      simp only [Eff.on]
      rw [look_setM, if_neg hkj]
  · refine hy.ns v j o hye k ob ?_ hkj hob
    have hxm : x.e.mut = false := by
      rcases hm with h | h
      · exact h
      · rw [hye] at h; cases h
    unfold It.on
    cases he : x.e with
    | val u => exact hk
    | new u ms =>
      have h0 : look ms k = none := look_none fun hin => by
        have := (hn k (by rw [he]; exact hin)).2
        rw [hk] at this; cases this
      simp only [Eff.on]
      rw [look_append, h0]; exact hk
    | app u j o => rw [he] at hxm; cases hxm
    | sto u k0 o => rw [he] at hxm; cases hxm

/-- the same, told from the state ahead of it -/
theorem agree_on (hx : Go1 P ds S x) (hy : Go1 P ds S y) (hn : ∀ k ∈ x.e.names, New k S) (hd : ∀ n, x.o.dst = some n → n ∉ tmpsOf (y.reads ds)) (ht : touch x y) (hm : x.e.mut = false ∨ y.e.mut = false) (hfree : ∀ v j o, y.e = .app v j o → x.e.free j = true) : Agree ds S (x.on S) y := by
  have hv' : ∀ v ∈ y.rv, ∃ z ∈ y.reads ds, S.get z = some v := fun v hv => rv_of hy.rv hv
  refine ⟨fun z hz => ?_, fun hmo v hv k hk => ?_, fun v j o hye k ob hk hkj hob => ?_⟩
  · cases z with
    | const c => rfl
    | func f => rfl
    | «global» g => rfl
    | tmp n =>
      have hne : x.o.dst ≠ some n := fun e => hd n e (tmp_mem hz)
      rw [get_tmp_on (S := S) hne]
      unfold touch at ht
      cases he : x.e with
      | app v j o =>
        rw [he] at ht
        simp only at ht ⊢
        show _ = look S.env n
        cases hu' : look S.env n with
        | none => rfl
        | some u =>
          have hu := rv_mem hy.rv hz (v := u) hu'
          rw [Option.map_some, V.kill_id (ht.1 u hu).1]
      | val v => rfl
      | new v ms => rfl
      | sto v k o => rfl
  · obtain ⟨z, hz, e⟩ := hv' v hv
    unfold touch at ht
    unfold It.on
    cases he : x.e with
    | val u => rfl
    | new u ms =>
      have h0 : look ms k = none := look_none fun hin => by
        have := (hn k (by rw [he]; exact hin)).1
        rw [get_fr this e] at hk; cases hk
      simp only [Eff.on]
      rw [look_append, h0]; rfl
    | app u j o =>
      rw [he] at ht
      simp only at ht
      have hkj : k ≠ j := by intro e2; subst e2; rw [(ht.1 v hv).1] at hk; cases hk
      simp only [Eff.on, look, if_neg hkj]
      rw [look_killM, if_neg hkj]
      cases ho : look S.mem k with
      | none => rfl
      | some ob =>
        have h2 : ob.has j = false := by
          cases hob : ob.has j with
          | false => rfl
          | true =>
            have := hx.ns u j o he k ob ho hkj hob
            rw [ht.2.2 hmo v hv k this] at hk; cases hk
        simp only [Option.map_some]
        rw [map_id' fun l hl => killL_id (by simp only [Ob.has, List.any_eq_false] at h2; simpa using h2 l hl)]
    | sto u k0 o =>
      rw [he] at ht
      simp only at ht
      have hkj : k ≠ k0 := by intro e2; subst e2; rw [ht hmo v hv] at hk; cases hk
      simp only [Eff.on]
      rw [look_setM, if_neg hkj]
  · have hxm : x.e.mut = false := by
      rcases hm with h | h
      · exact h
      · rw [hye] at h; cases h
    have hfr := hfree v j o hye
    unfold It.on at hk
    cases he : x.e with
    | val u => rw [he] at hk; exact hy.ns v j o hye k ob hk hkj hob
    | new u ms =>
      rw [he] at hk hfr
      simp only [Eff.on] at hk
      rw [look_append] at hk
      cases hl : look ms k with
      | none => rw [hl] at hk; exact hy.ns v j o hye k ob hk hkj hob
      | some ob' =>
        rw [hl] at hk
        simp only [Option.some_or, Option.some.injEq] at hk
        subst hk
        simp only [Eff.free, Bool.and_eq_true, List.all_eq_true] at hfr
        have hin : (k, ob') ∈ ms := by
          clear hfr hob he
          induction ms with
          | nil => cases hl
          | cons m r ih =>
            simp only [look] at hl
            split at hl
            · rename_i e; cases hl; subst e; simp
            · exact List.mem_cons_of_mem _ (ih hl)
        have := hfr.2 _ hin
        simp only [hob] at this; cases this
    | app u j o => rw [he] at hxm; cases hxm
    | sto u k0 o => rw [he] at hxm; cases hxm

theorem look_on_env {n : Nat} : look (x.on S).env n = if x.o.dst = some n then (match x.e with | .val v => some v | .new v _ => some v | .app v _ _ => some v | .sto v _ _ => some v) else (match x.e with
    | .app _ j _ => (look S.env n).map (V.kill j)
    | _ => look S.env n) := by
  by_cases h : x.o.dst = some n
  · rw [if_pos h]
    unfold It.on
    rw [h]
    cases x.e <;> exact look_addE_self
  · rw [if_neg h]
    have := get_tmp_on (S := S) h
    simp only [St.get] at this
    exact this

theorem on_comm (hd : ∀ n, x.o.dst = some n → y.o.dst ≠ some n) (hm : x.e.mut = false ∨ y.e.mut = false) (h1 : ∀ k ∈ x.e.names, y.e.free k = true ∧ k ∉ y.e.names) (h2 : ∀ k ∈ y.e.names, x.e.free k = true ∧ k ∉ x.e.names) (t1 : ∀ v j o, x.e = .app v j o → y.e.free j = true) (t2 : ∀ v j o, y.e = .app v j o → x.e.free j = true) : Eqv (x.on (y.on S)) (y.on (x.on S)) := by
  have key : ∀ {x y : It} (hd : ∀ n, x.o.dst = some n → y.o.dst ≠ some n) (hm : y.e.mut = false) (h1 : ∀ k ∈ x.e.names, y.e.free k = true ∧ k ∉ y.e.names) (h2 : ∀ k ∈ y.e.names, x.e.free k = true ∧ k ∉ x.e.names) (t1 : ∀ v j o, x.e = .app v j o → y.e.free j = true), Eqv (x.on (y.on S)) (y.on (x.on S)) := by
    intro x y hd hm h1 h2 t1
    constructor
    · intro n
      rw [look_on_env, look_on_env, look_on_env, look_on_env]
      by_cases hx : x.o.dst = some n
      · have hy := hd n hx
        simp only [if_neg hy, if_pos hx]
        cases he : y.e <;> first | rfl | (rw [he] at hm; cases hm)
      · by_cases hy : y.o.dst = some n
        · simp only [if_pos hy, if_neg hx]
          cases he : x.e with
          | app v j o =>
            have := t1 v j o he
            cases hye : y.e with
            | val u => rw [hye] at this; simp only [Eff.free, Bool.not_eq_true'] at this; simp only [Option.map_some]; rw [V.kill_id this]
            | new u ms => rw [hye] at this; simp only [Eff.free, Bool.and_eq_true, Bool.not_eq_true'] at this; simp only [Option.map_some]; rw [V.kill_id this.1]
            | app => rw [hye] at hm; cases hm
            | sto => rw [hye] at hm; cases hm
          | val v => rfl
          | new v ms => rfl
          | sto v k o => rfl
        · simp only [if_neg hx, if_neg hy]
          cases hye : y.e <;> first | rfl | (rw [hye] at hm; cases hm)
    · intro k
      unfold It.on
      cases hye : y.e with
      | val u =>
        cases x.e <;> rfl
      | new u ms =>
        rw [hye] at h1 h2 t1
        have hms : ∀ j, j ∉ ms.map (·.1) → look ms j = none := fun j hj => look_none hj
        cases he : x.e with
        | val v => rfl
        | new v ns =>
          rw [he] at h1 h2
          simp only [Eff.on]
          rw [look_append, look_append, look_append, look_append]
          by_cases hk : k ∈ ns.map (·.1)
          · rw [hms k (h1 k hk).2, Option.none_or, Option.none_or]
          · rw [look_none (l := ns) hk, Option.none_or, Option.none_or]
        | app v j o =>
          rw [he] at h1 h2
          have hfr := t1 v j o he
          simp only [Eff.free, Bool.and_eq_true, List.all_eq_true] at hfr
          have hj : look ms j = none := hms j fun hin => by
            have := (h2 j hin).1
            simp [Eff.free] at this
          simp only [Eff.on]
          rw [look_append]
          simp only [look]
          by_cases hkj : k = j
          · subst hkj
            rw [if_pos rfl, if_pos rfl, hj]; rfl
          · rw [if_neg hkj, if_neg hkj, look_killM, if_neg hkj, look_killM, if_neg hkj, look_append]
            cases hl : look ms k with
            | none => rfl
            | some ob =>
              have hin : (k, ob) ∈ ms := by
                clear hfr h1 h2 t1 hms hj hye
                induction ms with
                | nil => cases hl
                | cons m r ih =>
                  simp only [look] at hl
                  split at hl
                  · rename_i e; cases hl; subst e; simp
                  · exact List.mem_cons_of_mem _ (ih hl)
              have h3 := hfr.2 _ hin
              simp only [Bool.not_eq_true', Ob.has, List.any_eq_false] at h3
              simp only [Option.some_or, Option.map_some]
              rw [map_id' fun l hl => killL_id (by simpa using h3 l hl)]
        | sto v k0 o =>
          rw [he] at h1 h2
          have hj : look ms k0 = none := hms k0 fun hin => by
            have := (h2 k0 hin).1
            simp [Eff.free] at this
          simp only [Eff.on]
          rw [look_append, look_setM, look_setM]
          by_cases hkj : k = k0
          · subst hkj
            rw [if_pos rfl, if_pos rfl, look_append, hj]; rfl
          · rw [if_neg hkj, if_neg hkj, look_append]
      | app => rw [hye] at hm; cases hm
      | sto => rw [hye] at hm; cases hm
  rcases hm with h | h
  · exact (key (x := y) (y := x) (fun n e1 e2 => hd n e2 e1) h h2 h1 t2).symm
  · exact key hd h h1 h2 t1

/-- two that keep apart may change places -/
theorem swap (hx : Go1 P ds S x) (hy : Go1 P ds (x.on S) y) (hi : Ind ds x y) (hnx : ∀ k ∈ x.e.names, New k S) (hny : ∀ k ∈ y.e.names, New k S) (hxy : ∀ k ∈ x.e.names, k ∉ y.e.names) :
    Go1 P ds S y ∧ Go1 P ds (y.on S) x ∧ Eqv (x.on (y.on S)) (y.on (x.on S)) := by
  have hyS : Go1 P ds S y := hy.same (agree_back hx hy hnx hi.d1 hi.t1 hi.mu)
  have hf1 : ∀ v j o, x.e = .app v j o → y.e.free j = true := fun v j o e => by
    have := hi.t1; unfold touch at this; rw [e] at this; exact this.2.1
  have hf2 : ∀ v j o, y.e = .app v j o → x.e.free j = true := fun v j o e => by
    have := hi.t2; unfold touch at this; rw [e] at this; exact this.2.1
  have hyx : ∀ k ∈ y.e.names, k ∉ x.e.names := fun k h1 h2 => hxy k h2 h1
  refine ⟨hyS, hx.same (agree_on hyS hx hny hi.d2 hi.t2 (hi.mu.symm) hf1), on_comm hi.d3 hi.mu (fun k hk => ⟨hyS.fr (hnx k hk).1 (hxy k hk), hxy k hk⟩) (fun k hk => ⟨hx.fr (hny k hk).1 (hyx k hk), hyx k hk⟩) hf1 hf2⟩
end
end Go.Sy
