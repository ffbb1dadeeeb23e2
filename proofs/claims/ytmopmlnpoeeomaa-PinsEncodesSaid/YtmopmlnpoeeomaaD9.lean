/- Regions that draw their order: the rule, to be reckoned in the order of the text. -/
import Derived.Test.YtmopmlnpoeeomaaD8
set_option linter.unusedVariables false
set_option linter.unusedSimpArgs false
namespace Go.Sy

structure Da where
  e : Eff
  rv : List V
  ns : List Nat

def nsOf (e : Eff) (m : List (Nat × Ob)) : List Nat := match e with
  | .app _ j _ => (m.filter fun x => x.1 != j && x.2.has j).map (·.1)
  | _ => []
def nodupB : List Nat → Bool
  | [] => true
  | x :: r => !r.contains x && nodupB r
def nmOk (names N ns : List Nat) : Bool := ns.all (fun k => names.contains k && !N.contains k) && nodupB ns
def dstOk (nt : Nat) : Option Tmp → Prop
  | some n => n < nt
  | none => True
def daOf (keep : Bool) (ds : List (Option Tmp)) (S : St) (o : Oper) (e : Eff) : List Da :=
  bif keep then [⟨e, (gslot ds o ++ o.op.operands.toList).filterMap S.get, nsOf e S.mem⟩] else []

section
variable (P : Program) (nt : Nat) (names : List Nat) (ds : List (Option Tmp)) (keep : Bool)

def onE (o : Oper) (N : List Nat) (D : List Da) (S : St) (k : List Nat → List Da → St → Prop) : Option Eff → Prop
  | some e => nmOk names N e.names = true ∧ dstOk nt o.dst ∧ k (e.names ++ N) (D ++ daOf keep ds S o e) (e.on o.dst S)
  | none => False
def onC (o : Oper) (N : List Nat) (D : List Da) (S : St) (k : List Nat → List Da → St → Prop) : Prop :=
  ∃ e, Ev P S o e ∧ nmOk names N e.names = true ∧ dstOk nt o.dst ∧ k (e.names ++ N) (D ++ daOf keep ds S o e) (e.on o.dst S)
def onO (o : Oper) (N : List Nat) (D : List Da) (S : St) (k : List Nat → List Da → St → Prop) : Prop :=
  if isCall o.op = true then onC P nt names ds keep o N D S k else onE nt names ds keep o N D S k (evalE P S o.dst o.op)
def onG (o : Oper) (g : Nat × Bool) (N : List Nat) (D : List Da) (S : St) (k : List Nat → List Da → St → Prop) : Option Bool → Prop
  | some c => (c = g.2 → onO P nt names ds keep o N D S k) ∧ (c = (!g.2) → dstOk nt o.dst ∧ k N (D ++ bif keep then [⟨.val (.tup []), (gslot ds o).filterMap S.get, []⟩] else []) ((Eff.val (.tup [])).on o.dst S))
  | none => False

def runD : List Oper → List Nat → List Da → St → (St → List Da → Prop) → Prop
  | [], _, D, S, K => K S D
  | o :: r, N, D, S, K => match o.guard with
    | none => onO P nt names ds keep o N D S fun N' D' S' => runD r N' D' S' K
    | some g => onG P nt names ds keep o g N D S (fun N' D' S' => runD r N' D' S' K) (guardV S ds g.1 g.2)
end

def mutOp : Op → Bool
  | .store .. => true
  | .call ⟨.builtin .append, _, _⟩ => true
  | .call ⟨.builtin .copy, _, _⟩ => true
  | _ => false

theorem look_in {α : Type} : ∀ {l : List (Nat × α)} {k : Nat} {o : α}, look l k = some o → (k, o) ∈ l
  | [], _, _, h => by cases h
  | x :: r, k, o, h => by
    simp only [look] at h
    split at h
    · rename_i e; cases h; subst e; simp
    · exact List.mem_cons_of_mem _ (look_in h)

theorem nodupB_ok : ∀ {l : List Nat}, nodupB l = true → l.Nodup
  | [], _ => List.nodup_nil
  | x :: r, h => by
    simp only [nodupB, Bool.and_eq_true, Bool.not_eq_true'] at h
    exact List.nodup_cons.mpr ⟨by simpa using h.1, nodupB_ok h.2⟩

def It.da (x : It) : Da := ⟨x.e, x.rv, x.ns⟩

section
variable {P : Program} {nt : Nat} {names : List Nat} {ds : List (Option Tmp)} {keep : Bool}

structure Items (P : Program) (nt : Nat) (names : List Nat) (ds : List (Option Tmp)) (l : List Oper) (N : List Nat) (S : St) (its : List It) : Prop where
  ops : its.map (·.o) = l
  ok : OKs P ds its S
  dst : ∀ x ∈ its, ∀ n, x.o.dst = some n → n < nt
  nm : ∀ x ∈ its, ∀ k ∈ x.e.names, k ∈ names ∧ k ∉ N
  apart : NamesApart its
  mu : ∀ x ∈ its, x.e.mut = true → mutOp x.o.op = true

theorem Items.cons {o : Oper} {r : List Oper} {N : List Nat} {S : St} {x : It} {its : List It} (hx : Go1 P ds S x) (ho : x.o = o) (hd : dstOk nt o.dst) (hn : nmOk names N x.e.names = true) (hm : x.e.mut = true → mutOp x.o.op = true)
    (h : Items P nt names ds r (x.e.names ++ N) (x.on S) its) : Items P nt names ds (o :: r) N S (x :: its) := by
  simp only [nmOk, Bool.and_eq_true, List.all_eq_true, Bool.not_eq_true'] at hn
  refine ⟨by rw [List.map_cons, ho, h.ops], ⟨hx, h.ok⟩, ?_, ?_, ⟨?_, nodupB_ok hn.2, h.apart⟩, ?_⟩
  · intro y hy n hn'
    rcases List.mem_cons.mp hy with rfl | hy
    · rw [ho] at hn'; rw [hn'] at hd; exact hd
    · exact h.dst y hy n hn'
  · intro y hy k hk
    rcases List.mem_cons.mp hy with rfl | hy
    · have := hn.1 k hk; simpa using this
    · have := h.nm y hy k hk
      exact ⟨this.1, fun h2 => this.2 (by simp [h2])⟩
  · intro y hy k hk hk2
    exact (h.nm y hy k hk2).2 (by simp [hk])
  · intro y hy
    rcases List.mem_cons.mp hy with rfl | hy
    · exact hm
    · exact h.mu y hy

theorem runD_items : ∀ {l : List Oper} {N : List Nat} {D : List Da} {S : St} {K : St → List Da → Prop}, runD P nt names ds keep l N D S K →
    ∃ its, Items P nt names ds l N S its ∧ K (fin its S) (D ++ bif keep then its.map It.da else [])
  | [], N, D, S, K, h => ⟨[], ⟨rfl, trivial, fun x hx => (by cases hx), fun x hx => (by cases hx), trivial, fun x hx => (by cases hx)⟩, by simp only [runD] at h; cases keep <;> simpa [fin] using h⟩
  | o :: r, N, D, S, K, h => by
    unfold runD at h
    have base : (o.guard = none ∨ ∃ g, o.guard = some g ∧ guardV S ds g.1 g.2 = some g.2) → onO P nt names ds keep o N D S (fun N' D' S' => runD P nt names ds keep r N' D' S' K) →
        ∃ its, Items P nt names ds (o :: r) N S its ∧ K (fin its S) (D ++ bif keep then its.map It.da else []) := by
      intro hg h
      have fin1 : ∀ e, Ev P S o e → nmOk names N e.names = true → dstOk nt o.dst → runD P nt names ds keep r (e.names ++ N) (D ++ daOf keep ds S o e) (e.on o.dst S) K →
          ∃ its, Items P nt names ds (o :: r) N S its ∧ K (fin its S) (D ++ bif keep then its.map It.da else []) := by
        intro e he hn hd hr
        obtain ⟨its, hi, hK⟩ := runD_items hr
        have hgo : Go1 P ds S ⟨o, e, false, (gslot ds o ++ o.op.operands.toList).filterMap S.get, nsOf e S.mem⟩ := by
          refine ⟨by simp [It.reads], ?_, by simpa using he, ?_⟩
          · rcases hg with hg | ⟨g, hg, hgv⟩
            · simp only [hg]
            · simp only [hg]; exact ⟨g.2, hgv, by simp⟩
          · intro v j ob hx k ob' hk hkj hob
            simp only at hx; subst hx
            simp only [nsOf, List.mem_map, List.mem_filter]
            exact ⟨(k, ob'), ⟨look_in hk, by simp [hkj, hob]⟩, rfl⟩
        refine ⟨⟨o, e, false, (gslot ds o ++ o.op.operands.toList).filterMap S.get, nsOf e S.mem⟩ :: its, Items.cons hgo rfl hd hn (fun hmu => ?_) hi, ?_⟩
        · have := he.mut_op hmu
          unfold mutOp
          exact this
        · cases keep <;> simpa [fin, It.on, daOf, It.da] using hK
      unfold onO at h
      split at h
      · obtain ⟨e, he, hn, hd, hr⟩ := h
        exact fin1 e he hn hd hr
      · cases hev : evalE P S o.dst o.op with
        | none => rw [hev] at h; exact h.elim
        | some e => rw [hev] at h; exact fin1 e (.det hev) h.1 h.2.1 h.2.2
    cases hg : o.guard with
    | none => rw [hg] at h; exact base (.inl hg) h
    | some g =>
      rw [hg] at h
      simp only at h
      cases hgv : guardV S ds g.1 g.2 with
      | none => rw [hgv] at h; exact h.elim
      | some c =>
        rw [hgv] at h
        by_cases hc : c = g.2
        · exact base (.inr ⟨g, hg, by rw [hgv, hc]⟩) (h.1 hc)
        · have hc' : c = !g.2 := by cases c <;> cases hg2 : g.2 <;> simp_all
          obtain ⟨hd, hr⟩ := h.2 hc'
          obtain ⟨its, hi, hK⟩ := runD_items hr
          have hgo : Go1 P ds S ⟨o, .val (.tup []), true, (gslot ds o).filterMap S.get, []⟩ := by
            refine ⟨by simp [It.reads], ?_, by simp, fun v j ob hx => (by cases hx)⟩
            simp only [hg]; exact ⟨c, hgv, by simpa using hc⟩
          refine ⟨⟨o, .val (.tup []), true, (gslot ds o).filterMap S.get, []⟩ :: its, Items.cons hgo rfl hd rfl (fun hmu => by cases hmu) hi, ?_⟩
          cases keep <;> simpa [fin, It.on, It.da] using hK
end

def dstS (ds : List (Option Tmp)) (x y : Oper) : Bool :=
  (match x.dst with
    | some n => !(tmpsOf (gslot ds y ++ y.op.operands.toList)).contains n && y.dst != some n
    | none => true) &&
  (match y.dst with
    | some n => !(tmpsOf (gslot ds x ++ x.op.operands.toList)).contains n
    | none => true)

def drawOk (ds : List (Option Tmp)) (c : List Nat) (need : List (Nat × Nat)) (l : List Oper) : Bool :=
  (List.range l.length).all fun j => match l[j]? with
    | none => true
    | some o => o.after.toList.all (fun e => !Region.binds .any e || decide (e.on < j)) &&
      (List.range j).all fun i =>
        (!(c.getD j 0).testBit i || o.after.toList.any (fun e => Region.binds .any e && (e.on == i || (decide (i < e.on) && (c.getD e.on 0).testBit i)))) &&
        ((c.getD j 0).testBit i || match l[i]? with
          | some x => dstS ds x o && ((!mutOp x.op && !mutOp o.op) || need.contains (i, j))
          | none => true)

def touchD (m : Bool) (a b : Da) : Prop :=
  match a.e with
  | .sto _ k _ => m = true → b.rv.all (fun v => !v.has k) = true
  | .app _ j _ => b.rv.all (fun v => !v.has j && noUV v) = true ∧ b.e.free j = true ∧ (m = true → b.rv.all (fun v => a.ns.all fun k => !v.has k) = true)
  | _ => True
def pairD (mx my : Bool) (a b : Da) : Prop := (a.e.mut = false ∨ b.e.mut = false) ∧ touchD my a b ∧ touchD mx b a
def memsOf (l : List Oper) : List Bool := l.map fun o => memOp o.op
def atD (mx my : Option Bool) (a b : Option Da) : Prop :=
  match mx, my, a, b with
  | some mx, some my, some a, some b => pairD mx my a b
  | _, _, _, _ => False
def chkD (l : List Oper) (D : List Da) : List (Nat × Nat) → Prop
  | [] => True
  | p :: r => atD (l[p.1]?.map fun o => memOp o.op) (l[p.2]?.map fun o => memOp o.op) D[p.1]? D[p.2]? ∧ chkD l D r

theorem chkD_mem {l : List Oper} {D : List Da} : ∀ {need : List (Nat × Nat)}, chkD l D need → ∀ p ∈ need, atD (l[p.1]?.map fun o => memOp o.op) (l[p.2]?.map fun o => memOp o.op) D[p.1]? D[p.2]?
  | [], _, p, hp => by cases hp
  | q :: r, h, p, hp => by
    rcases List.mem_cons.mp hp with rfl | hp
    · exact h.1
    · exact chkD_mem h.2 p hp

theorem touch_of {m z : It} (h : touchD (memOp z.o.op) m.da z.da) : touch m z := by
  unfold touch
  unfold touchD It.da at h
  cases he : m.e with
  | val v => trivial
  | new v ms => trivial
  | sto v k o =>
    rw [he] at h
    simp only [List.all_eq_true, Bool.not_eq_true'] at h ⊢
    exact h
  | app v j o =>
    rw [he] at h
    simp only [List.all_eq_true, Bool.not_eq_true', Bool.and_eq_true] at h ⊢
    exact h

theorem touch_not {m z : It} (h : m.e.mut = false) : touch m z := by
  unfold touch
  cases he : m.e <;> first | trivial | (rw [he] at h; cases h)

theorem HT.draw {P : Program} {B : Base} {id : Nat} {l : List Oper} {S : St} {Q : Exit → St → Prop} (names c : List Nat) (need : List (Nat × Nat)) (hm : P.follows .mixedOrders = true) (hst : drawOk (dsOf l) c need l = true)
    (hn : names.all (fun k => fresh k S && (look S.mem k).isNone) = true)
    (h : ∀ K : St → List Da → Prop, (∀ S' D, chkD l D need → Q .normal S' → K S' D) → runD P B.nt names (dsOf l) (!need.isEmpty) l [] [] S K) : HT P B (.region id l.toArray true) S Q := by
  intro d a w hs
  obtain ⟨its, hi, hchk, hQ⟩ := runD_items (h (fun S' D => chkD l D need ∧ Q .normal S') (fun _ _ h1 h2 => ⟨h1, h2⟩))
  refine wp_region_any hm ?_
  have hs2 : Sim B d S a { w with drawn := w.drawn + 1 } := hs.drew rfl rfl rfl rfl
  have hget : ∀ i o, l.toArray[i]? = some o → l[i]? = some o := fun i o h => by rw [List.getElem?_toArray] at h; exact h
  simp only [drawOk, List.all_eq_true, List.mem_range] at hst
  have hst' : ∀ j o, l[j]? = some o → (∀ e ∈ o.after, Region.binds .any e = true → e.on < j) ∧ ∀ i, i < j →
      ((c.getD j 0).testBit i = true → ∃ e ∈ o.after, Region.binds .any e = true ∧ (e.on = i ∨ (i < e.on ∧ (c.getD e.on 0).testBit i = true))) ∧
      ((c.getD j 0).testBit i = true ∨ ∀ x, l[i]? = some x → dstS (dsOf l) x o = true ∧ ((mutOp x.op = false ∧ mutOp o.op = false) ∨ (i, j) ∈ need)) := by
    intro j o ho
    have hj := (List.getElem?_eq_some_iff.mp ho).1
    have := hst j hj
    rw [ho] at this
    simp only [Bool.and_eq_true, List.all_eq_true, List.mem_range, Bool.or_eq_true, Bool.not_eq_true', decide_eq_true_eq, List.any_eq_true, beq_iff_eq] at this
    refine ⟨fun e he hb => ?_, fun i hi => ?_⟩
    · rcases this.1 e (by simpa using he) with h1 | h1
      · rw [hb] at h1; cases h1
      · exact h1
    · obtain ⟨h1, h2⟩ := this.2 i hi
      refine ⟨fun ht => ?_, ?_⟩
      · rcases h1 with h1 | ⟨e, he, hb, h1⟩
        · rw [ht] at h1; cases h1
        · exact ⟨e, by simpa using he, hb, h1⟩
      · rcases h2 with h2 | h2
        · exact .inl h2
        · right
          intro x hx
          rw [hx] at h2
          simp only [Bool.and_eq_true, Bool.or_eq_true, Bool.not_eq_true', List.contains_iff_mem] at h2
          exact h2
  let R : List (Nat × It) := its.zipIdx.map fun p => (p.2, p.1)
  have hlen : its.length = l.length := by rw [← hi.ops, List.length_map]
  have hRmap : R.map (·.2) = its := by
    simp only [R, List.map_map]
    exact List.zipIdx_map_fst 0 its
  have hRmem : ∀ p ∈ R, its[p.1]? = some p.2 := by
    intro p hp
    obtain ⟨⟨x, i⟩, hq, rfl⟩ := List.mem_map.mp hp
    have := List.mem_zipIdx_iff_getElem?.mp hq
    simpa using this
  have hitl : ∀ (i : Nat) (x : It), its[i]? = some x → l[i]? = some x.o := by
    intro i x hx
    rw [← hi.ops, List.getElem?_map, hx]; rfl
  refine any_ok (P := P) (B := B) (ops := l.toArray) (ds := dsOf l) (bef := fun j i => i < j ∧ (c.getD j 0).testBit i = true) (K := fun S' => Eqv S' (fin its S)) (by rw [dsOf_eq])
    (fun i o ho => (hst' i o (hget i o ho)).1) ?_ ?_ l.toArray.size (Array.replicate l.toArray.size false) R S d a _ ?_ ?_ ?_ hs2
  · intro i o ho x ⟨hx1, hx2⟩
    obtain ⟨e, he, hb, h1⟩ := ((hst' i o (hget i o ho)).2 x hx1).1 hx2
    exact ⟨e, he, hb, h1⟩
  · intro S' d' a' w' hK hs'
    exact ⟨_, d', hQ, hs'.eqv hK⟩
  · simp only [R, List.length_map, List.length_zipIdx, List.size_toArray]; omega
  · refine ⟨by simp, fun p hp => (by rw [List.getElem?_toArray]; exact hitl _ _ (hRmem p hp) : l.toArray[p.1]? = some p.2.o), fun i => ?_, ?_, by rw [hRmap]; exact hi.ok, ?_, by rw [hRmap]; exact hi.apart, fun p hp => hi.dst p.2 (by rw [← hRmap]; exact List.mem_map_of_mem hp), ?_⟩
    · simp only [List.size_toArray, Array.getD_eq_getD_getElem?, Array.getElem?_replicate]
      constructor
      · intro h1
        obtain ⟨p, hp, rfl⟩ := List.mem_map.mp h1
        have := (List.getElem?_eq_some_iff.mp (hRmem p hp)).1
        rw [hlen] at this
        exact ⟨this, by rw [if_pos this]; rfl⟩
      · rintro ⟨h1, _⟩
        have h2 : i < its.length := by omega
        refine List.mem_map.mpr ⟨(i, its[i]), ?_, rfl⟩
        refine List.mem_map.mpr ⟨(its[i], i), ?_, rfl⟩
        exact List.mem_zipIdx_iff_getElem?.mpr (by simp [h2])
    · have hp1 : its.zipIdx.Pairwise fun p q => p.2 < q.2 := by
        rw [List.pairwise_iff_getElem]
        intro i j hi' hj' hij
        simp only [List.getElem_zipIdx]; omega
      have hp2 : R.Pairwise fun p q => p.1 < q.1 := List.pairwise_map.mpr hp1
      refine hp2.imp_of_mem ?_
      intro p q hp hq hlt
      refine ⟨hlt, ?_⟩
      have hpi := hRmem p hp
      have hqi := hRmem q hq
      rcases ((hst' q.1 q.2.o (hitl _ _ hqi)).2 p.1 hlt).2 with h1 | h1
      · exact .inl ⟨hlt, h1⟩
      · right
        obtain ⟨h2, h3⟩ := h1 _ (hitl _ _ hpi)
        have hpm : p.2 ∈ its := List.mem_of_getElem? hpi
        have hqm : q.2 ∈ its := List.mem_of_getElem? hqi
        simp only [dstS, Bool.and_eq_true] at h2
        have sub : ∀ x : It, ∀ n, n ∈ tmpsOf (x.reads (dsOf l)) → n ∈ tmpsOf (gslot (dsOf l) x.o ++ x.o.op.operands.toList) := by
          intro x n hn
          unfold It.reads at hn
          simp only [tmpsOf, List.filterMap_append, List.mem_append] at hn ⊢
          rcases hn with hn | hn
          · exact .inl hn
          · right
            split at hn
            · cases hn
            · exact hn
        have hmu : (p.2.e.mut = false ∨ q.2.e.mut = false) ∧ touch p.2 q.2 ∧ touch q.2 p.2 := by
          rcases h3 with ⟨h4, h5⟩ | h4
          · have e1 : p.2.e.mut = false := by
              cases hc : p.2.e.mut with
              | false => rfl
              | true => have := hi.mu _ hpm hc; rw [h4] at this; cases this
            have e2 : q.2.e.mut = false := by
              cases hc : q.2.e.mut with
              | false => rfl
              | true => have := hi.mu _ hqm hc; rw [h5] at this; cases this
            exact ⟨.inl e1, touch_not e1, touch_not e2⟩
          · have := chkD_mem hchk _ h4
            have hk : (!need.isEmpty) = true := by
              cases need with
              | nil => cases h4
              | cons => rfl
            rw [hk] at this
            simp only [cond_true, List.nil_append, List.getElem?_map, hpi, hqi, hitl _ _ hpi, hitl _ _ hqi, Option.map_some, atD, pairD] at this
            exact ⟨this.1, touch_of this.2.1, touch_of this.2.2⟩
        refine ⟨fun n hn' hin => ?_, fun n hn' hin => ?_, fun n hn' => ?_, hmu.1, hmu.2.1, hmu.2.2⟩
        · have := h2.1
          rw [hn'] at this
          simp only [Bool.and_eq_true, Bool.not_eq_true'] at this
          have hc := sub _ _ hin
          rw [← List.contains_iff_mem] at hc
          rw [this.1] at hc; cases hc
        · have := h2.2
          rw [hn'] at this
          simp only [Bool.not_eq_true'] at this
          have hc := sub _ _ hin
          rw [← List.contains_iff_mem] at hc
          rw [this] at hc; cases hc
        · have := h2.1
          rw [hn'] at this
          simp only [Bool.and_eq_true, bne_iff_ne] at this
          exact this.2
    · rw [hRmap]
      intro x hx k hk
      have := (hi.nm x hx k hk).1
      simp only [List.all_eq_true, Bool.and_eq_true] at hn
      have h1 := hn k this
      have h2 := hasE_not h1.1
      exact ⟨⟨fun n v hv => hasE_look h2.1 hv, fun n o ho => hasM_look h2.2 ho⟩, by simpa using h1.2⟩
    · intro i o ho hl hsz
      simp only [List.size_toArray] at hsz
      simp only [List.size_toArray, Array.getD_eq_getD_getElem?, Array.getElem?_replicate, if_pos hsz] at hl
      cases hl
  · intro S' he
    rw [hRmap] at he
    exact he.symm
end Go.Sy
