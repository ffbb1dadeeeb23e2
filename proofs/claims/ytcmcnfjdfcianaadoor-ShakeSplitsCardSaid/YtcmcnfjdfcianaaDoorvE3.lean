/- The layer that reckons a function out, part 3 of 3: what it says of states, operations, regions, loops, calls. CONDITIONS: those that each theorem names. -/
import Derived.Test.YtcmcnfjdfcianaaDoorvE2
import Derived.LoopN
import Derived.ProofKit
import Derived.Below
import Derived.ChangeSame
import Derived.Carry
import Derived.ChangeSlices
import Derived.Lib.SmallJoins
import Derived.Handed
import Derived.Lib.LaidTab
import Derived.LaidLaws
set_option linter.unusedVariables false
set_option linter.unusedSimpArgs false
namespace Go.Sy

structure Da where
  e : Eff
  rv : List V
  ns : List Nat

def nsOf (e : Eff) (m : List (Nat × Ob)) : List Nat := match e with
  | .app _ j _ => (m.filter fun x => x.1 != j && x.2.has j).map (·.1)
  | _ => []
def nodupB : List Nat → Bool
  | [] => true
  | x :: r => !r.contains x && nodupB r
def nmOk (names N ns : List Nat) : Bool := ns.all (fun k => names.contains k && !N.contains k) && nodupB ns
def dstOk (nt : Nat) : Option Tmp → Prop
  | some n => n < nt
  | none => True
def daOf (keep : Bool) (ds : List (Option Tmp)) (S : St) (o : Oper) (e : Eff) : List Da :=
  bif keep then [⟨e, (gslot ds o ++ o.op.operands.toList).filterMap S.get, nsOf e S.mem⟩] else []

section
variable (P : Program) (nt : Nat) (names : List Nat) (ds : List (Option Tmp)) (keep : Bool)

def onE (o : Oper) (N : List Nat) (D : List Da) (S : St) (k : List Nat → List Da → St → Prop) : Option Eff → Prop
  | some e => nmOk names N e.names = true ∧ dstOk nt o.dst ∧ k (e.names ++ N) (D ++ daOf keep ds S o e) (e.on o.dst S)
  | none => False
def onC (o : Oper) (N : List Nat) (D : List Da) (S : St) (k : List Nat → List Da → St → Prop) : Prop :=
  ∃ e, Ev P S o (!keep) e ∧ nmOk names N e.names = true ∧ dstOk nt o.dst ∧ k (e.names ++ N) (D ++ daOf keep ds S o e) (e.on o.dst S)
def onO (o : Oper) (N : List Nat) (D : List Da) (S : St) (k : List Nat → List Da → St → Prop) : Prop :=
  if isCall o.op = true then onC P nt names ds keep o N D S k else onE nt names ds keep o N D S k (evalE P S o.dst o.op)
def onG (o : Oper) (g : Nat × Bool) (N : List Nat) (D : List Da) (S : St) (k : List Nat → List Da → St → Prop) : Option Bool → Prop
  | some c => (c = g.2 → onO P nt names ds keep o N D S k) ∧ (c = (!g.2) → dstOk nt o.dst ∧ k N (D ++ bif keep then [⟨.val (.tup []), (gslot ds o).filterMap S.get, []⟩] else []) ((Eff.val (.tup [])).on o.dst S))
  | none => False

def runD : List Oper → List Nat → List Da → St → (St → List Da → Prop) → Prop
  | [], _, D, S, K => K S D
  | o :: r, N, D, S, K => match o.guard with
    | none => onO P nt names ds keep o N D S fun N' D' S' => runD r N' D' S' K
    | some g => onG P nt names ds keep o g N D S (fun N' D' S' => runD r N' D' S' K) (guardV S ds g.1 g.2)
end

def mutOp : Op → Bool
  | .store .. => true
  | .call ⟨.builtin .append, _, _⟩ => true
  | .call ⟨.builtin .copy, _, _⟩ => true
  | _ => false

theorem look_in {α : Type} : ∀ {l : List (Nat × α)} {k : Nat} {o : α}, look l k = some o → (k, o) ∈ l
  | [], _, _, h => by cases h
  | x :: r, k, o, h => by
    simp only [look] at h
    split at h
    · rename_i e; cases h; subst e; simp
    · exact List.mem_cons_of_mem _ (look_in h)

theorem nodupB_ok : ∀ {l : List Nat}, nodupB l = true → l.Nodup
  | [], _ => List.nodup_nil
  | x :: r, h => by
    simp only [nodupB, Bool.and_eq_true, Bool.not_eq_true'] at h
    exact List.nodup_cons.mpr ⟨by simpa using h.1, nodupB_ok h.2⟩

def It.da (x : It) : Da := ⟨x.e, x.rv, x.ns⟩

section
variable {P : Program} {nt : Nat} {names : List Nat} {ds : List (Option Tmp)} {keep : Bool}

structure Items (P : Program) (nt : Nat) (names : List Nat) (ds : List (Option Tmp)) (keep : Bool) (l : List Oper) (N : List Nat) (S : St) (its : List It) : Prop where
  ops : its.map (·.o) = l
  ok : OKs P ds its S
  dst : ∀ x ∈ its, ∀ n, x.o.dst = some n → n < nt
  nm : ∀ x ∈ its, ∀ k ∈ x.e.names, k ∈ names ∧ k ∉ N
  apart : NamesApart its
  mu : ∀ x ∈ its, x.e.mut = true → mutOp x.o.op = true
  dp : ∀ x ∈ its, x.dp = !keep

theorem Items.cons {o : Oper} {r : List Oper} {N : List Nat} {S : St} {x : It} {its : List It} (hx : Go1 P ds S x) (ho : x.o = o) (hd : dstOk nt o.dst) (hn : nmOk names N x.e.names = true) (hm : x.e.mut = true → mutOp x.o.op = true) (hdp : x.dp = !keep)
    (h : Items P nt names ds keep r (x.e.names ++ N) (x.on S) its) : Items P nt names ds keep (o :: r) N S (x :: its) := by
  simp only [nmOk, Bool.and_eq_true, List.all_eq_true, Bool.not_eq_true'] at hn
  refine ⟨by rw [List.map_cons, ho, h.ops], ⟨hx, h.ok⟩, ?_, ?_, ⟨?_, nodupB_ok hn.2, h.apart⟩, ?_, fun y hy => by rcases List.mem_cons.mp hy with rfl | hy; exact hdp; exact h.dp y hy⟩
  · intro y hy n hn'
    rcases List.mem_cons.mp hy with rfl | hy
    · rw [ho] at hn'; rw [hn'] at hd; exact hd
    · exact h.dst y hy n hn'
  · intro y hy k hk
    rcases List.mem_cons.mp hy with rfl | hy
    · have := hn.1 k hk; simpa using this
    · have := h.nm y hy k hk
      exact ⟨this.1, fun h2 => this.2 (by simp [h2])⟩
  · intro y hy k hk hk2
    exact (h.nm y hy k hk2).2 (by simp [hk])
  · intro y hy
    rcases List.mem_cons.mp hy with rfl | hy
    · exact hm
    · exact h.mu y hy

theorem runD_items : ∀ {l : List Oper} {N : List Nat} {D : List Da} {S : St} {K : St → List Da → Prop}, runD P nt names ds keep l N D S K →
    ∃ its, Items P nt names ds keep l N S its ∧ K (fin its S) (D ++ bif keep then its.map It.da else [])
  | [], N, D, S, K, h => ⟨[], ⟨rfl, trivial, fun x hx => (by cases hx), fun x hx => (by cases hx), trivial, fun x hx => (by cases hx), fun x hx => (by cases hx)⟩, by simp only [runD] at h; cases keep <;> simpa [fin] using h⟩
  | o :: r, N, D, S, K, h => by
    unfold runD at h
    have base : (o.guard = none ∨ ∃ g, o.guard = some g ∧ guardV S ds g.1 g.2 = some g.2) → onO P nt names ds keep o N D S (fun N' D' S' => runD P nt names ds keep r N' D' S' K) →
        ∃ its, Items P nt names ds keep (o :: r) N S its ∧ K (fin its S) (D ++ bif keep then its.map It.da else []) := by
      intro hg h
      have fin1 : ∀ e, Ev P S o (!keep) e → nmOk names N e.names = true → dstOk nt o.dst → runD P nt names ds keep r (e.names ++ N) (D ++ daOf keep ds S o e) (e.on o.dst S) K →
          ∃ its, Items P nt names ds keep (o :: r) N S its ∧ K (fin its S) (D ++ bif keep then its.map It.da else []) := by
        intro e he hn hd hr
        obtain ⟨its, hi, hK⟩ := runD_items hr
        have hgo : Go1 P ds S ⟨o, e, false, !keep, (gslot ds o ++ o.op.operands.toList).filterMap S.get, nsOf e S.mem⟩ := by
          refine ⟨by simp [It.reads], ?_, by simpa using he, ?_⟩
          · rcases hg with hg | ⟨g, hg, hgv⟩
            · simp only [hg]
            · simp only [hg]; exact ⟨g.2, hgv, by simp⟩
          · intro v j ob hx k ob' hk hkj hob
            simp only at hx; subst hx
            simp only [nsOf, List.mem_map, List.mem_filter]
            exact ⟨(k, ob'), ⟨look_in hk, by simp [hkj, hob]⟩, rfl⟩
        refine ⟨⟨o, e, false, !keep, (gslot ds o ++ o.op.operands.toList).filterMap S.get, nsOf e S.mem⟩ :: its, Items.cons hgo rfl hd hn (fun hmu => ?_) rfl hi, ?_⟩
        · have := he.mut_op hmu
          unfold mutOp
          exact this
        · cases keep <;> simpa [fin, It.on, daOf, It.da] using hK
      unfold onO at h
      split at h
      · obtain ⟨e, he, hn, hd, hr⟩ := h
        exact fin1 e he hn hd hr
      · cases hev : evalE P S o.dst o.op with
        | none => rw [hev] at h; exact h.elim
        | some e => rw [hev] at h; exact fin1 e (.det hev) h.1 h.2.1 h.2.2
    cases hg : o.guard with
    | none => rw [hg] at h; exact base (.inl hg) h
    | some g =>
      rw [hg] at h
      simp only at h
      cases hgv : guardV S ds g.1 g.2 with
      | none => rw [hgv] at h; exact h.elim
      | some c =>
        rw [hgv] at h
        by_cases hc : c = g.2
        · exact base (.inr ⟨g, hg, by rw [hgv, hc]⟩) (h.1 hc)
        · have hc' : c = !g.2 := by cases c <;> cases hg2 : g.2 <;> simp_all
          obtain ⟨hd, hr⟩ := h.2 hc'
          obtain ⟨its, hi, hK⟩ := runD_items hr
          have hgo : Go1 P ds S ⟨o, .val (.tup []), true, !keep, (gslot ds o).filterMap S.get, []⟩ := by
            refine ⟨by simp [It.reads], ?_, by simp, fun v j ob hx => (by cases hx)⟩
            simp only [hg]; exact ⟨c, hgv, by simpa using hc⟩
          refine ⟨⟨o, .val (.tup []), true, !keep, (gslot ds o).filterMap S.get, []⟩ :: its, Items.cons hgo rfl hd rfl (fun hmu => by cases hmu) rfl hi, ?_⟩
          cases keep <;> simpa [fin, It.on, It.da] using hK
end

def dstS (ds : List (Option Tmp)) (x y : Oper) : Bool :=
  (match x.dst with
    | some n => !(tmpsOf (gslot ds y ++ y.op.operands.toList)).contains n && y.dst != some n
    | none => true) &&
  (match y.dst with
    | some n => !(tmpsOf (gslot ds x ++ x.op.operands.toList)).contains n
    | none => true)

def drawOk (ds : List (Option Tmp)) (c : List Nat) (need : List (Nat × Nat)) (l : List Oper) : Bool :=
  (List.range l.length).all fun j => match l[j]? with
    | none => true
    | some o => o.after.toList.all (fun e => !Region.binds .any e || decide (e.on < j)) &&
      (List.range j).all fun i =>
        (!(c.getD j 0).testBit i || o.after.toList.any (fun e => Region.binds .any e && (e.on == i || (decide (i < e.on) && (c.getD e.on 0).testBit i)))) &&
        ((c.getD j 0).testBit i || match l[i]? with
          | some x => dstS ds x o && ((!mutOp x.op && !mutOp o.op) || need.contains (i, j))
          | none => true)

def touchD (m : Bool) (a b : Da) : Prop :=
  match a.e with
  | .sto _ k _ => m = true → b.rv.all (fun v => !v.has k) = true
  | .app _ j _ => b.rv.all (fun v => !v.has j && noUV v) = true ∧ b.e.free j = true ∧ (m = true → b.rv.all (fun v => a.ns.all fun k => !v.has k) = true)
  | _ => True
def pairD (mx my : Bool) (a b : Da) : Prop := (a.e.mut = false ∨ b.e.mut = false) ∧ touchD my a b ∧ touchD mx b a
def memsOf (l : List Oper) : List Bool := l.map fun o => memOp o.op
def atD (mx my : Option Bool) (a b : Option Da) : Prop :=
  match mx, my, a, b with
  | some mx, some my, some a, some b => pairD mx my a b
  | _, _, _, _ => False
def chkD (l : List Oper) (D : List Da) : List (Nat × Nat) → Prop
  | [] => True
  | p :: r => atD (l[p.1]?.map fun o => memOp o.op) (l[p.2]?.map fun o => memOp o.op) D[p.1]? D[p.2]? ∧ chkD l D r

theorem chkD_mem {l : List Oper} {D : List Da} : ∀ {need : List (Nat × Nat)}, chkD l D need → ∀ p ∈ need, atD (l[p.1]?.map fun o => memOp o.op) (l[p.2]?.map fun o => memOp o.op) D[p.1]? D[p.2]?
  | [], _, p, hp => by cases hp
  | q :: r, h, p, hp => by
    rcases List.mem_cons.mp hp with rfl | hp
    · exact h.1
    · exact chkD_mem h.2 p hp

theorem touch_of {m z : It} (h : touchD (memOp z.o.op) m.da z.da) (hz : z.dp = false) : touch m z := by
  unfold touch
  unfold touchD It.da at h
  cases he : m.e with
  | val v => trivial
  | new v ms => trivial
  | sto v k o =>
    rw [he] at h
    simp only [List.all_eq_true, Bool.not_eq_true'] at h ⊢
    exact ⟨hz, h⟩
  | app v j o =>
    rw [he] at h
    simp only [List.all_eq_true, Bool.not_eq_true', Bool.and_eq_true] at h ⊢
    exact ⟨hz, h⟩

theorem touch_not {m z : It} (h : m.e.mut = false) : touch m z := by
  unfold touch
  cases he : m.e <;> first | trivial | (rw [he] at h; cases h)

theorem HT.draw {P : Program} {B : Base} {id : Nat} {l : List Oper} {S : St} {Q : Exit → St → Prop} (names c : List Nat) (need : List (Nat × Nat)) (hm : P.follows .mixedOrders = true) (hst : drawOk (dsOf l) c need l = true)
    (hn : names.all (fun k => fresh k S && (look S.mem k).isNone) = true)
    (h : ∀ K : St → List Da → Prop, (∀ S' D, chkD l D need → Q .normal S' → K S' D) → runD P B.nt names (dsOf l) (!need.isEmpty) l [] [] S K) : HT P B (.region id l.toArray true) S Q := by
  intro d a w hs
  obtain ⟨its, hi, hchk, hQ⟩ := runD_items (h (fun S' D => chkD l D need ∧ Q .normal S') (fun _ _ h1 h2 => ⟨h1, h2⟩))
  refine wp_region_any hm ?_
  have hs2 : Sim B d S a { w with drawn := w.drawn + 1 } := hs.drew rfl rfl rfl rfl
  have hget : ∀ i o, l.toArray[i]? = some o → l[i]? = some o := fun i o h => by rw [List.getElem?_toArray] at h; exact h
  simp only [drawOk, List.all_eq_true, List.mem_range] at hst
  have hst' : ∀ j o, l[j]? = some o → (∀ e ∈ o.after, Region.binds .any e = true → e.on < j) ∧ ∀ i, i < j →
      ((c.getD j 0).testBit i = true → ∃ e ∈ o.after, Region.binds .any e = true ∧ (e.on = i ∨ (i < e.on ∧ (c.getD e.on 0).testBit i = true))) ∧
      ((c.getD j 0).testBit i = true ∨ ∀ x, l[i]? = some x → dstS (dsOf l) x o = true ∧ ((mutOp x.op = false ∧ mutOp o.op = false) ∨ (i, j) ∈ need)) := by
    intro j o ho
    have hj := (List.getElem?_eq_some_iff.mp ho).1
    have := hst j hj
    rw [ho] at this
    simp only [Bool.and_eq_true, List.all_eq_true, List.mem_range, Bool.or_eq_true, Bool.not_eq_true', decide_eq_true_eq, List.any_eq_true, beq_iff_eq] at this
    refine ⟨fun e he hb => ?_, fun i hi => ?_⟩
    · rcases this.1 e (by simpa using he) with h1 | h1
      · rw [hb] at h1; cases h1
      · exact h1
    · obtain ⟨h1, h2⟩ := this.2 i hi
      refine ⟨fun ht => ?_, ?_⟩
      · rcases h1 with h1 | ⟨e, he, hb, h1⟩
        · rw [ht] at h1; cases h1
        · exact ⟨e, by simpa using he, hb, h1⟩
      · rcases h2 with h2 | h2
        · exact .inl h2
        · right
          intro x hx
          rw [hx] at h2
          simp only [Bool.and_eq_true, Bool.or_eq_true, Bool.not_eq_true', List.contains_iff_mem] at h2
          exact h2
  let R : List (Nat × It) := its.zipIdx.map fun p => (p.2, p.1)
  have hlen : its.length = l.length := by rw [← hi.ops, List.length_map]
  have hRmap : R.map (·.2) = its := by
    simp only [R, List.map_map]
    exact List.zipIdx_map_fst 0 its
  have hRmem : ∀ p ∈ R, its[p.1]? = some p.2 := by
    intro p hp
    obtain ⟨⟨x, i⟩, hq, rfl⟩ := List.mem_map.mp hp
    have := List.mem_zipIdx_iff_getElem?.mp hq
    simpa using this
  have hitl : ∀ (i : Nat) (x : It), its[i]? = some x → l[i]? = some x.o := by
    intro i x hx
    rw [← hi.ops, List.getElem?_map, hx]; rfl
  refine any_ok (P := P) (B := B) (ops := l.toArray) (ds := dsOf l) (bef := fun j i => i < j ∧ (c.getD j 0).testBit i = true) (K := fun S' => Eqv S' (fin its S)) (by rw [dsOf_eq])
    (fun i o ho => (hst' i o (hget i o ho)).1) ?_ ?_ l.toArray.size (Array.replicate l.toArray.size false) R S d a _ ?_ ?_ ?_ hs2
  · intro i o ho x ⟨hx1, hx2⟩
    obtain ⟨e, he, hb, h1⟩ := ((hst' i o (hget i o ho)).2 x hx1).1 hx2
    exact ⟨e, he, hb, h1⟩
  · intro S' d' a' w' hK hs'
    exact ⟨_, d', hQ, hs'.eqv hK⟩
  · simp only [R, List.length_map, List.length_zipIdx, List.size_toArray]; omega
  · refine ⟨by simp, fun p hp => (by rw [List.getElem?_toArray]; exact hitl _ _ (hRmem p hp) : l.toArray[p.1]? = some p.2.o), fun i => ?_, ?_, by rw [hRmap]; exact hi.ok, ?_, by rw [hRmap]; exact hi.apart, fun p hp => hi.dst p.2 (by rw [← hRmap]; exact List.mem_map_of_mem hp), ?_⟩
    · simp only [List.size_toArray, Array.getD_eq_getD_getElem?, Array.getElem?_replicate]
      constructor
      · intro h1
        obtain ⟨p, hp, rfl⟩ := List.mem_map.mp h1
        have := (List.getElem?_eq_some_iff.mp (hRmem p hp)).1
        rw [hlen] at this
        exact ⟨this, by rw [if_pos this]; rfl⟩
      · rintro ⟨h1, _⟩
        have h2 : i < its.length := by omega
        refine List.mem_map.mpr ⟨(i, its[i]), ?_, rfl⟩
        refine List.mem_map.mpr ⟨(its[i], i), ?_, rfl⟩
        exact List.mem_zipIdx_iff_getElem?.mpr (by simp [h2])
    · have hp1 : its.zipIdx.Pairwise fun p q => p.2 < q.2 := by
        rw [List.pairwise_iff_getElem]
        intro i j hi' hj' hij
        simp only [List.getElem_zipIdx]; omega
      have hp2 : R.Pairwise fun p q => p.1 < q.1 := List.pairwise_map.mpr hp1
      refine hp2.imp_of_mem ?_
      intro p q hp hq hlt
      refine ⟨hlt, ?_⟩
      have hpi := hRmem p hp
      have hqi := hRmem q hq
      rcases ((hst' q.1 q.2.o (hitl _ _ hqi)).2 p.1 hlt).2 with h1 | h1
      · exact .inl ⟨hlt, h1⟩
      · right
        obtain ⟨h2, h3⟩ := h1 _ (hitl _ _ hpi)
        have hpm : p.2 ∈ its := List.mem_of_getElem? hpi
        have hqm : q.2 ∈ its := List.mem_of_getElem? hqi
        simp only [dstS, Bool.and_eq_true] at h2
        have sub : ∀ x : It, ∀ n, n ∈ tmpsOf (x.reads (dsOf l)) → n ∈ tmpsOf (gslot (dsOf l) x.o ++ x.o.op.operands.toList) := by
          intro x n hn
          unfold It.reads at hn
          simp only [tmpsOf, List.filterMap_append, List.mem_append] at hn ⊢
          rcases hn with hn | hn
          · exact .inl hn
          · right
            split at hn
            · cases hn
            · exact hn
        have hmu : (p.2.e.mut = false ∨ q.2.e.mut = false) ∧ touch p.2 q.2 ∧ touch q.2 p.2 := by
          rcases h3 with ⟨h4, h5⟩ | h4
          · have e1 : p.2.e.mut = false := by
              cases hc : p.2.e.mut with
              | false => rfl
              | true => have := hi.mu _ hpm hc; rw [h4] at this; cases this
            have e2 : q.2.e.mut = false := by
              cases hc : q.2.e.mut with
              | false => rfl
              | true => have := hi.mu _ hqm hc; rw [h5] at this; cases this
            exact ⟨.inl e1, touch_not e1, touch_not e2⟩
          · have := chkD_mem hchk _ h4
            have hk : (!need.isEmpty) = true := by
              cases need with
              | nil => cases h4
              | cons => rfl
            rw [hk] at this
            simp only [cond_true, List.nil_append, List.getElem?_map, hpi, hqi, hitl _ _ hpi, hitl _ _ hqi, Option.map_some, atD, pairD] at this
            have hd1 := hi.dp _ hpm
            have hd2 := hi.dp _ hqm
            rw [hk] at hd1 hd2
            exact ⟨this.1, touch_of this.2.1 hd2, touch_of this.2.2 hd1⟩
        refine ⟨fun n hn' hin => ?_, fun n hn' hin => ?_, fun n hn' => ?_, hmu.1, hmu.2.1, hmu.2.2⟩
        · have := h2.1
          rw [hn'] at this
          simp only [Bool.and_eq_true, Bool.not_eq_true'] at this
          have hc := sub _ _ hin
          rw [← List.contains_iff_mem] at hc
          rw [this.1] at hc; cases hc
        · have := h2.2
          rw [hn'] at this
          simp only [Bool.not_eq_true'] at this
          have hc := sub _ _ hin
          rw [← List.contains_iff_mem] at hc
          rw [this] at hc; cases hc
        · have := h2.1
          rw [hn'] at this
          simp only [Bool.and_eq_true, bne_iff_ne] at this
          exact this.2
    · rw [hRmap]
      intro x hx k hk
      have := (hi.nm x hx k hk).1
      simp only [List.all_eq_true, Bool.and_eq_true] at hn
      have h1 := hn k this
      have h2 := hasE_not h1.1
      exact ⟨⟨fun n v hv => hasE_look h2.1 hv, fun n o ho => hasM_look h2.2 ho, fresh_lt h1.1⟩, by simpa using h1.2⟩
    · intro i o ho hl hsz
      simp only [List.size_toArray] at hsz
      simp only [List.size_toArray, Array.getD_eq_getD_getElem?, Array.getElem?_replicate, if_pos hsz] at hl
      cases hl
  · intro S' he
    rw [hRmap] at he
    exact he.symm
end Go.Sy
namespace Go.Sy

section
variable {P : Program} {nt : Nat} {names : List Nat} {ds : List (Option Tmp)} {keep : Bool} {N : List Nat} {D : List Da} {S : St} {K : St → List Da → Prop} {k : List Nat → List Da → St → Prop} {r : List Oper} {o : Oper} {dst : Option Tmp} {ty : TypeId} {pos : String} {af : Array Edge}

def contD (P : Program) (nt : Nat) (names : List Nat) (ds : List (Option Tmp)) (keep : Bool) (r : List Oper) (K : St → List Da → Prop) : List Nat → List Da → St → Prop := fun N D S => runD P nt names ds keep r N D S K
theorem rd_cont : contD P nt names ds keep r K N D S = runD P nt names ds keep r N D S K := rfl
theorem rd_nil : runD P nt names ds keep [] N D S K = K S D := rfl
theorem rd_op (op : Op) : runD P nt names ds keep (⟨dst, op, ty, pos, af, none⟩ :: r) N D S K = onO P nt names ds keep ⟨dst, op, ty, pos, af, none⟩ N D S (contD P nt names ds keep r K) := rfl
theorem rd_guard (op : Op) (g : Nat × Bool) : runD P nt names ds keep (⟨dst, op, ty, pos, af, some g⟩ :: r) N D S K = onG P nt names ds keep ⟨dst, op, ty, pos, af, some g⟩ g N D S (contD P nt names ds keep r K) (guardV S ds g.1 g.2) := rfl
theorem rd_onG (c : Bool) (g : Nat × Bool) : onG P nt names ds keep o g N D S k (some c) = ((c = g.2 → onO P nt names ds keep o N D S k) ∧ (c = (!g.2) → dstOk nt o.dst ∧ k N (D ++ bif keep then [⟨.val (.tup []), (gslot ds o).filterMap S.get, []⟩] else []) ((Eff.val (.tup [])).on o.dst S))) := rfl
theorem rd_onE (e : Eff) : onE nt names ds keep o N D S k (some e) = (nmOk names N e.names = true ∧ dstOk nt o.dst ∧ k (e.names ++ N) (D ++ daOf keep ds S o e) (e.on o.dst S)) := rfl
theorem rd_onO {g : Option (Nat × Bool)} (op : Op) (h : isCall op = false) : onO P nt names ds keep ⟨dst, op, ty, pos, af, g⟩ N D S k = onE nt names ds keep ⟨dst, op, ty, pos, af, g⟩ N D S k (evalE P S dst op) := by
  unfold onO; rw [h]; rfl
theorem rd_onOc {g : Option (Nat × Bool)} (f : Operand) (args : Array Operand) (ts : Array TypeId) : onO P nt names ds keep ⟨dst, .call ⟨.value f, args, ts⟩, ty, pos, af, g⟩ N D S k = onC P nt names ds keep ⟨dst, .call ⟨.value f, args, ts⟩, ty, pos, af, g⟩ N D S k := rfl
theorem ro_move {g : Option (Nat × Bool)} (x : Operand) : onO P nt names ds keep ⟨dst, .move x, ty, pos, af, g⟩ N D S k = onE nt names ds keep ⟨dst, .move x, ty, pos, af, g⟩ N D S k (evalE P S dst (.move x)) := rd_onO _ rfl
theorem ro_assign {g : Option (Nat × Bool)} (x : Operand) : onO P nt names ds keep ⟨dst, .assign x, ty, pos, af, g⟩ N D S k = onE nt names ds keep ⟨dst, .assign x, ty, pos, af, g⟩ N D S k (evalE P S dst (.assign x)) := rd_onO _ rfl
theorem ro_pick {g : Option (Nat × Bool)} (c x y : Operand) : onO P nt names ds keep ⟨dst, .pick c x y, ty, pos, af, g⟩ N D S k = onE nt names ds keep ⟨dst, .pick c x y, ty, pos, af, g⟩ N D S k (evalE P S dst (.pick c x y)) := rd_onO _ rfl
theorem ro_build {g : Option (Nat × Bool)} (t : TypeId) (ps : Array (Nat × Operand)) : onO P nt names ds keep ⟨dst, .build t ps, ty, pos, af, g⟩ N D S k = onE nt names ds keep ⟨dst, .build t ps, ty, pos, af, g⟩ N D S k (evalE P S dst (.build t ps)) := rd_onO _ rfl
theorem ro_load {g : Option (Nat × Bool)} (t : TypeId) (x : Operand) : onO P nt names ds keep ⟨dst, .load t x, ty, pos, af, g⟩ N D S k = onE nt names ds keep ⟨dst, .load t x, ty, pos, af, g⟩ N D S k (evalE P S dst (.load t x)) := rd_onO _ rfl
theorem ro_nilCheck {g : Option (Nat × Bool)} (x : Operand) : onO P nt names ds keep ⟨dst, .nilCheck x, ty, pos, af, g⟩ N D S k = onE nt names ds keep ⟨dst, .nilCheck x, ty, pos, af, g⟩ N D S k (evalE P S dst (.nilCheck x)) := rd_onO _ rfl
theorem ro_binOp {g : Option (Nat × Bool)} (op : BinOp) (t t2 : TypeId) (x y : Operand) : onO P nt names ds keep ⟨dst, .binOp op t x y t2, ty, pos, af, g⟩ N D S k = onE nt names ds keep ⟨dst, .binOp op t x y t2, ty, pos, af, g⟩ N D S k (evalE P S dst (.binOp op t x y t2)) := rd_onO _ rfl
theorem ro_unOp {g : Option (Nat × Bool)} (op : UnOp) (t : TypeId) (x : Operand) : onO P nt names ds keep ⟨dst, .unOp op t x, ty, pos, af, g⟩ N D S k = onE nt names ds keep ⟨dst, .unOp op t x, ty, pos, af, g⟩ N D S k (evalE P S dst (.unOp op t x)) := rd_onO _ rfl
theorem ro_fieldAddr {g : Option (Nat × Bool)} (t : TypeId) (x : Operand) (f : Nat) : onO P nt names ds keep ⟨dst, .fieldAddr t x f, ty, pos, af, g⟩ N D S k = onE nt names ds keep ⟨dst, .fieldAddr t x f, ty, pos, af, g⟩ N D S k (evalE P S dst (.fieldAddr t x f)) := rd_onO _ rfl
theorem ro_field {g : Option (Nat × Bool)} (t : TypeId) (x : Operand) (f : Nat) : onO P nt names ds keep ⟨dst, .field t x f, ty, pos, af, g⟩ N D S k = onE nt names ds keep ⟨dst, .field t x f, ty, pos, af, g⟩ N D S k (evalE P S dst (.field t x f)) := rd_onO _ rfl
theorem ro_indexAddr {g : Option (Nat × Bool)} (t : TypeId) (x i : Operand) : onO P nt names ds keep ⟨dst, .indexAddr t x i, ty, pos, af, g⟩ N D S k = onE nt names ds keep ⟨dst, .indexAddr t x i, ty, pos, af, g⟩ N D S k (evalE P S dst (.indexAddr t x i)) := rd_onO _ rfl
theorem ro_index {g : Option (Nat × Bool)} (t : TypeId) (x i : Operand) : onO P nt names ds keep ⟨dst, .index t x i, ty, pos, af, g⟩ N D S k = onE nt names ds keep ⟨dst, .index t x i, ty, pos, af, g⟩ N D S k (evalE P S dst (.index t x i)) := rd_onO _ rfl
theorem ro_extract {g : Option (Nat × Bool)} (x : Operand) (i : Nat) : onO P nt names ds keep ⟨dst, .extract x i, ty, pos, af, g⟩ N D S k = onE nt names ds keep ⟨dst, .extract x i, ty, pos, af, g⟩ N D S k (evalE P S dst (.extract x i)) := rd_onO _ rfl
theorem ro_slice {g : Option (Nat × Bool)} (t : TypeId) (x : Operand) (lo hi mx : Option Operand) : onO P nt names ds keep ⟨dst, .slice t x lo hi mx, ty, pos, af, g⟩ N D S k = onE nt names ds keep ⟨dst, .slice t x lo hi mx, ty, pos, af, g⟩ N D S k (evalE P S dst (.slice t x lo hi mx)) := rd_onO _ rfl
theorem ro_makeFunc {g : Option (Nat × Bool)} (f : Fn) (a b : Array Operand) : onO P nt names ds keep ⟨dst, .makeFunc f a b, ty, pos, af, g⟩ N D S k = onE nt names ds keep ⟨dst, .makeFunc f a b, ty, pos, af, g⟩ N D S k (evalE P S dst (.makeFunc f a b)) := rd_onO _ rfl
theorem ro_builtin {g : Option (Nat × Bool)} (b : Builtin) (a : Array Operand) (t : Array TypeId) : onO P nt names ds keep ⟨dst, .call ⟨.builtin b, a, t⟩, ty, pos, af, g⟩ N D S k = onE nt names ds keep ⟨dst, .call ⟨.builtin b, a, t⟩, ty, pos, af, g⟩ N D S k (evalE P S dst (.call ⟨.builtin b, a, t⟩)) := rd_onO _ rfl
theorem ro_alloc {g : Option (Nat × Bool)} (t : TypeId) : onO P nt names ds keep ⟨dst, .alloc t, ty, pos, af, g⟩ N D S k = onE nt names ds keep ⟨dst, .alloc t, ty, pos, af, g⟩ N D S k (evalE P S dst (.alloc t)) := rd_onO _ rfl
theorem ro_box {g : Option (Nat × Bool)} (t : TypeId) (x : Operand) : onO P nt names ds keep ⟨dst, .box t x, ty, pos, af, g⟩ N D S k = onE nt names ds keep ⟨dst, .box t x, ty, pos, af, g⟩ N D S k (evalE P S dst (.box t x)) := rd_onO _ rfl
theorem ro_buildSlice {g : Option (Nat × Bool)} (t : TypeId) (n : Nat) (ps : Array (Nat × Operand)) : onO P nt names ds keep ⟨dst, .buildSlice t n ps, ty, pos, af, g⟩ N D S k = onE nt names ds keep ⟨dst, .buildSlice t n ps, ty, pos, af, g⟩ N D S k (evalE P S dst (.buildSlice t n ps)) := rd_onO _ rfl
theorem ro_makeSlice {g : Option (Nat × Bool)} (t : TypeId) (l c : Operand) : onO P nt names ds keep ⟨dst, .makeSlice t l c, ty, pos, af, g⟩ N D S k = onE nt names ds keep ⟨dst, .makeSlice t l c, ty, pos, af, g⟩ N D S k (evalE P S dst (.makeSlice t l c)) := rd_onO _ rfl
theorem ro_convert {g : Option (Nat × Bool)} (a b : TypeId) (x : Operand) : onO P nt names ds keep ⟨dst, .convert a b x, ty, pos, af, g⟩ N D S k = onE nt names ds keep ⟨dst, .convert a b x, ty, pos, af, g⟩ N D S k (evalE P S dst (.convert a b x)) := rd_onO _ rfl
theorem ro_store {g : Option (Nat × Bool)} (t : TypeId) (x y : Operand) : onO P nt names ds keep ⟨dst, .store t x y, ty, pos, af, g⟩ N D S k = onE nt names ds keep ⟨dst, .store t x y, ty, pos, af, g⟩ N D S k (evalE P S dst (.store t x y)) := rd_onO _ rfl
theorem da_false (e : Eff) : daOf false ds S o e = [] := rfl
theorem da_true (e : Eff) : daOf true ds S o e = [⟨e, (gslot ds o ++ o.op.operands.toList).filterMap S.get, nsOf e S.mem⟩] := rfl
theorem dstOk_some (n : Nat) : dstOk nt (some n) = (n < nt) := rfl
theorem dstOk_none : dstOk nt none = True := rfl
theorem on_val (n : Nat) (v : V) (e : List (Nat × V)) (m : List (Nat × Ob)) : (Eff.val v).on (some n) ⟨e, m⟩ = ⟨(n, v) :: e, m⟩ := rfl
theorem on_val0 (v : V) (S : St) : (Eff.val v).on none S = S := rfl
theorem on_new (n : Nat) (v : V) (ms : List (Nat × Ob)) (e : List (Nat × V)) (m : List (Nat × Ob)) : (Eff.new v ms).on (some n) ⟨e, m⟩ = ⟨(n, v) :: e, ms ++ m⟩ := rfl
theorem on_new0 (v : V) (ms : List (Nat × Ob)) (e : List (Nat × V)) (m : List (Nat × Ob)) : (Eff.new v ms).on none ⟨e, m⟩ = ⟨e, ms ++ m⟩ := rfl
theorem on_app (n j : Nat) (v : V) (o : Ob) (e : List (Nat × V)) (m : List (Nat × Ob)) : (Eff.app v j o).on (some n) ⟨e, m⟩ = ⟨(n, v) :: killE j e, (j, o) :: killM j m⟩ := rfl
theorem on_sto (n j : Nat) (v : V) (o : Ob) (e : List (Nat × V)) (m : List (Nat × Ob)) : (Eff.sto v j o).on (some n) ⟨e, m⟩ = ⟨(n, v) :: e, setM m j o⟩ := rfl
theorem on_sto0 (j : Nat) (v : V) (o : Ob) (e : List (Nat × V)) (m : List (Nat × Ob)) : (Eff.sto v j o).on none ⟨e, m⟩ = ⟨e, setM m j o⟩ := rfl
theorem nm_val (v : V) : (Eff.val v).names = [] := rfl
theorem nm_new (v : V) (ms : List (Nat × Ob)) : (Eff.new v ms).names = ms.map (·.1) := rfl
theorem nm_app (v : V) (j : Nat) (o : Ob) : (Eff.app v j o).names = [] := rfl
theorem nm_sto (v : V) (j : Nat) (o : Ob) : (Eff.sto v j o).names = [] := rfl
theorem nm_nil (N : List Nat) : nmOk names N [] = true := rfl

def eV : Option V → Option Eff
  | some v => some (.val v)
  | none => none
def eA (k : Nat) : Option (V × Ob) → Option Eff
  | some r => some (.new r.1 [(k, r.2)])
  | none => none
def eC (k : Nat) (x : Option V) (y : Option (V × Ob)) : Option Eff :=
  match x with
  | some v => some (.val v)
  | none => eA k y
theorem eV_some (v : V) : eV (some v) = some (.val v) := rfl
theorem eA_some (k : Nat) (v : V) (o : Ob) : eA k (some (v, o)) = some (.new v [(k, o)]) := rfl
theorem eC_some (k : Nat) (v : V) (y : Option (V × Ob)) : eC k (some v) y = some (.val v) := rfl
theorem eC_none (k : Nat) (y : Option (V × Ob)) : eC k none y = eA k y := rfl
def e2 (x y : Option V) (f : V → V → Option Eff) : Option Eff :=
  match x, y with
  | some u, some v => f u v
  | _, _ => none
theorem e2_some (u v : V) (f : V → V → Option Eff) : e2 (some u) (some v) f = f u v := rfl

theorem ee_pure {op : Op} (h : ∀ k, allocV P k S op = none) (h1 : evalE P S dst op = match pureV P S op with
    | some v => some (.val v)
    | none => match dst with
      | some k => (allocV P k S op).map fun r => .new r.1 [(k, r.2)]
      | none => none) : evalE P S dst op = eV (pureV P S op) := by
  rw [h1]
  cases pureV P S op with
  | some v => rfl
  | none => cases dst with
    | none => rfl
    | some k => simp only [h, Option.map_none, eV]

theorem ee_move (x : Operand) : evalE P S dst (.move x) = eV (S.get x) := ee_pure (fun _ => rfl) rfl
theorem ee_assign (x : Operand) : evalE P S dst (.assign x) = eV (S.get x) := ee_pure (fun _ => rfl) rfl
theorem ee_pick (c x y : Operand) : evalE P S dst (.pick c x y) = eV (b3 (S.get c) (S.get x) (S.get y)) := by
  rw [ee_pure (fun _ => rfl) rfl]; congr 1
theorem ee_build (t : TypeId) (ps : List (Nat × Operand)) : evalE P S dst (.build t ps.toArray) = eV (buildV P S t ps) := ee_pure (fun _ => rfl) rfl
theorem ee_load (t : TypeId) (x : Operand) : evalE P S dst (.load t x) = eV ((S.get x).bind (loadV P S t)) := ee_pure (fun _ => rfl) rfl
theorem ee_nilCheck (x : Operand) : evalE P S dst (.nilCheck x) = eV ((S.get x).bind nilV) := ee_pure (fun _ => rfl) rfl
theorem ee_binOp (op : BinOp) (t t2 : TypeId) (x y : Operand) : evalE P S dst (.binOp op t x y t2) = eV (b2 (S.get x) (S.get y) (binV P op t)) := by
  rw [ee_pure (fun _ => rfl) rfl]; congr 1
theorem ee_unOp (op : UnOp) (t : TypeId) (x : Operand) : evalE P S dst (.unOp op t x) = eV ((S.get x).bind (unV op)) := ee_pure (fun _ => rfl) rfl
theorem ee_fieldAddr (t : TypeId) (x : Operand) (f : Nat) : evalE P S dst (.fieldAddr t x f) = eV ((S.get x).bind (fieldV P t f)) := ee_pure (fun _ => rfl) rfl
theorem ee_field (t : TypeId) (x : Operand) (f : Nat) : evalE P S dst (.field t x f) = eV ((S.get x).bind (partOfV P t f)) := ee_pure (fun _ => rfl) rfl
theorem ee_indexAddr (t : TypeId) (x i : Operand) : evalE P S dst (.indexAddr t x i) = eV (b2 (S.get x) (S.get i) (indexAddrV P t)) := by
  rw [ee_pure (fun _ => rfl) rfl]; congr 1
theorem ee_index (t : TypeId) (x i : Operand) : evalE P S dst (.index t x i) = eV (b2 (S.get x) (S.get i) (indexV P t)) := by
  rw [ee_pure (fun _ => rfl) rfl]; congr 1
theorem ee_extract (x : Operand) (i : Nat) : evalE P S dst (.extract x i) = eV ((S.get x).bind fun v => extractV v i) := ee_pure (fun _ => rfl) rfl
theorem ee_slice (t : TypeId) (x : Operand) (lo hi mx : Option Operand) : evalE P S dst (.slice t x lo hi mx) = eV (pureV P S (.slice t x lo hi mx)) := ee_pure (fun _ => rfl) rfl
theorem ee_makeFunc (f : Fn) (a b : Array Operand) : evalE P S dst (.makeFunc f a b) = eV (pureV P S (.makeFunc f a b)) := ee_pure (fun _ => rfl) rfl
theorem ee_len (x : Operand) (t : TypeId) : evalE P S dst (.call ⟨.builtin .len, #[x], #[t]⟩) = eV ((S.get x).bind (lenV P t)) := ee_pure (fun _ => rfl) rfl
theorem ee_min (x y : Operand) (t : Array TypeId) : evalE P S dst (.call ⟨.builtin .min, #[x, y], t⟩) = eV (b2 (S.get x) (S.get y) (minmaxV .min)) := by
  rw [ee_pure (fun _ => rfl) rfl]; congr 1
theorem ee_max (x y : Operand) (t : Array TypeId) : evalE P S dst (.call ⟨.builtin .max, #[x, y], t⟩) = eV (b2 (S.get x) (S.get y) (minmaxV .max)) := by
  rw [ee_pure (fun _ => rfl) rfl]; congr 1
theorem ee_alloc (k : Nat) (t : TypeId) : evalE P S (some k) (.alloc t) = eA k ((zeroC P t).map fun cs => (.w (.one (.p k [])), ⟨false, cs⟩)) := by
  show (allocV P k S _).map _ = _; unfold eA; cases h : zeroC P t <;> simp [allocV, h]
theorem ee_box (k : Nat) (t : TypeId) (x : Operand) : evalE P S (some k) (.box t x) = eA k (boxV k (S.get x)) := by
  show (allocV P k S _).map _ = _
  have : allocV P k S (.box t x) = boxV k (S.get x) := rfl
  rw [this]
  unfold eA; cases boxV k (S.get x) <;> rfl
theorem ee_buildSlice (k : Nat) (t : TypeId) (n : Nat) (ps : List (Nat × Operand)) : evalE P S (some k) (.buildSlice t n ps.toArray) = eA k (allocV P k S (.buildSlice t n ps.toArray)) := by
  show (allocV P k S _).map _ = _; unfold eA; cases allocV P k S (.buildSlice t n ps.toArray) <;> rfl
theorem ee_makeSlice (k : Nat) (t : TypeId) (l c : Operand) : evalE P S (some k) (.makeSlice t l c) = eA k (allocV P k S (.makeSlice t l c)) := by
  show (allocV P k S _).map _ = _; unfold eA; cases allocV P k S (.makeSlice t l c) <;> rfl
theorem ee_convert (k : Nat) (s t : TypeId) (x : Operand) : evalE P S (some k) (.convert s t x) = eC k ((S.get x).bind (convV P S s t)) (allocV P k S (.convert s t x)) := by
  show (match pureV P S (.convert s t x) with | some v => _ | none => _) = _
  unfold eC
  have : pureV P S (.convert s t x) = (S.get x).bind (convV P S s t) := rfl
  rw [this]
  cases (S.get x).bind (convV P S s t) with
  | some v => rfl
  | none => show (allocV P k S _).map _ = _; unfold eA; cases allocV P k S (.convert s t x) <;> rfl
theorem ee_append (k : Nat) (x y : Operand) (t tx : TypeId) : evalE P S (some k) (.call ⟨.builtin .append, #[x, y], #[t, tx]⟩) = e2 (S.get x) (S.get y) (appendE P k S t tx) := by
  show (match S.get x, S.get y with | some u, some v => _ | _, _ => _) = _
  unfold e2; rfl
theorem ee_copy (x y : Operand) (t tx : TypeId) : evalE P S dst (.call ⟨.builtin .copy, #[x, y], #[t, tx]⟩) = e2 (S.get x) (S.get y) (fun u v => copyE (copyV P S t tx u v)) := by
  show (match S.get x, S.get y with | some u, some v => _ | _, _ => _) = _
  unfold e2; rfl
theorem ee_store (t : TypeId) (x y : Operand) : evalE P S none (.store t x y) = e2 (S.get x) (S.get y) (storeE P S t) := by
  simp only [evalE, e2]
  cases S.get x <;> cases S.get y <;> rfl

theorem call_draw {f : FuncId} {args : List Operand} {ts : Array TypeId} {vs : List V} {g : Option (Nat × Bool)} (nm : Nat → Nat) (X : V) (M : List (Nat × Ob)) (hgo : ∀ vals w, (callFunc f vals).run P w = .ok (.enter f vals) w) (hargs : viewVs S args = some vs) (hc : Ct P f vs (fun v m => v = X ∧ m = M))
    (hr : resOkV M X = true ∧ strictM M = true ∧ nodupB (M.map fun x => nm x.1) = true ∧ nodupB (M.map fun x => x.1) = true)
    (hk : nmOk names N (M.map fun x => nm x.1) = true ∧ dstOk nt dst ∧ k ((M.map fun x => nm x.1) ++ N) (D ++ daOf keep ds S ⟨dst, .call ⟨.value (.func f), args.toArray, ts⟩, ty, pos, af, g⟩ (.new (X.ren nm) (renM nm M))) ((Eff.new (X.ren nm) (renM nm M)).on dst S)) :
    onC P nt names ds keep ⟨dst, .call ⟨.value (.func f), args.toArray, ts⟩, ty, pos, af, g⟩ N D S k := by
  have e : (Eff.new (X.ren nm) (renM nm M)).names = M.map fun x => nm x.1 := by simp [Eff.names, renM, Function.comp_def]
  refine ⟨.new (X.ren nm) (renM nm M), .call rfl hgo hargs hc hr.1 hr.2.1 ?_ (nodupB_ok hr.2.2.2), ?_⟩
  · have := nodupB_ok hr.2.2.1
    rw [show (renM nm M).map (·.1) = M.map fun x => nm x.1 from by simp [renM, Function.comp_def]]; exact this
  · rw [e]; exact hk
theorem call_drawnow {f : FuncId} {args : List Operand} {ts : Array TypeId} {vs : List V} {X : V} {g : Option (Nat × Bool)} (hargs : viewVs S args = some vs) (hc : Now P f vs X)
    (hk : dstOk nt dst ∧ k N (D ++ daOf keep ds S ⟨dst, .call ⟨.value (.func f), args.toArray, ts⟩, ty, pos, af, g⟩ (.val X)) ((Eff.val X).on dst S)) :
    onC P nt names ds keep ⟨dst, .call ⟨.value (.func f), args.toArray, ts⟩, ty, pos, af, g⟩ N D S k :=
  ⟨.val X, .now rfl hargs hc, rfl, hk.1, hk.2⟩
theorem call_drawhand {f : FuncId} {args : List Operand} {ts : Array TypeId} {vs : List V} {g : Option (Nat × Bool)} {G : List (Nat × Ob)} (nm : Nat → Nat) (X : V) (M : List (Nat × Ob)) (hgo : ∀ vals w, (callFunc f vals).run P w = .ok (.enter f vals) w) (hargs : valsIn true S [] args = some vs) (hG : handOk S [] G) (hGf : G.all (fun x => fixO x.2) = true) (hc : CtM P f vs G (fun v m => v = X ∧ m = M))
    (hr : leafOutV true M X = true ∧ strictM M = true ∧ nodupB (M.map fun x => nm x.1) = true ∧ nodupB (M.map fun x => x.1) = true)
    (hk : nmOk names N (M.map fun x => nm x.1) = true ∧ dstOk nt dst ∧ k ((M.map fun x => nm x.1) ++ N) (D ++ daOf keep ds S ⟨dst, .call ⟨.value (.func f), args.toArray, ts⟩, ty, pos, af, g⟩ (.new (X.ren (outN nm [])) (renM nm M))) ((Eff.new (X.ren (outN nm [])) (renM nm M)).on dst S)) :
    onC P nt names ds keep ⟨dst, .call ⟨.value (.func f), args.toArray, ts⟩, ty, pos, af, g⟩ N D S k := by
  have e : (Eff.new (X.ren (outN nm [])) (renM nm M)).names = M.map fun x => nm x.1 := by simp [Eff.names, renM, Function.comp_def]
  refine ⟨.new (X.ren (outN nm [])) (renM nm M), .gcall rfl hgo hargs hG hGf hc hr.1 hr.2.1 ?_ (nodupB_ok hr.2.2.2), ?_⟩
  · have := nodupB_ok hr.2.2.1
    rw [show (renM nm M).map (·.1) = M.map fun x => nm x.1 from by simp [renM, Function.comp_def]]; exact this
  · rw [e]; exact hk
theorem call_drawdeep {f : FuncId} {args : List Operand} {ts : Array TypeId} {vs : List V} {g : Option (Nat × Bool)} {G : List (Nat × Ob)} (hkp : keep = false) (nm : Nat → Nat) (X : V) (M : List (Nat × Ob)) (hgo : ∀ vals w, (callFunc f vals).run P w = .ok (.enter f vals) w) (hargs : deepsIn S args = some vs) (hG : handOk S [] G) (hGf : G.all (fun x => fixO x.2) = true) (hc : CtM P f vs G (fun v m => v = X ∧ m = M))
    (hr : leafOutV true M X = true ∧ strictM M = true ∧ nodupB (M.map fun x => nm x.1) = true ∧ nodupB (M.map fun x => x.1) = true)
    (hk : nmOk names N (M.map fun x => nm x.1) = true ∧ dstOk nt dst ∧ k ((M.map fun x => nm x.1) ++ N) (D ++ daOf keep ds S ⟨dst, .call ⟨.value (.func f), args.toArray, ts⟩, ty, pos, af, g⟩ (.new (X.ren (outN nm [])) (renM nm M))) ((Eff.new (X.ren (outN nm [])) (renM nm M)).on dst S)) :
    onC P nt names ds keep ⟨dst, .call ⟨.value (.func f), args.toArray, ts⟩, ty, pos, af, g⟩ N D S k := by
  have e : (Eff.new (X.ren (outN nm [])) (renM nm M)).names = M.map fun x => nm x.1 := by simp [Eff.names, renM, Function.comp_def]
  refine ⟨.new (X.ren (outN nm [])) (renM nm M), .dcall (by rw [hkp]; rfl) rfl hgo hargs hG hGf hc hr.1 hr.2.1 ?_ (nodupB_ok hr.2.2.2), ?_⟩
  · have := nodupB_ok hr.2.2.1
    rw [show (renM nm M).map (·.1) = M.map fun x => nm x.1 from by simp [renM, Function.comp_def]]; exact this
  · rw [e]; exact hk
theorem call_drawfn {f : FuncId} {args : List Operand} {ts : Array TypeId} {vs cs : List V} {t : Tmp} {caps : List Nat} {g : Option (Nat × Bool)} (nm : Nat → Nat) (X : V) (M : List (Nat × Ob)) (hfn : S.get (.tmp t) = some (.w (.one (.fn f caps)))) (hcs : viewC S caps = some cs) (hgo : ∀ vals w, (callFunc f vals).run P w = .ok (.enter f vals) w) (hargs : viewVs S args = some vs) (hc : Ct P f (vs ++ cs) (fun v m => v = X ∧ m = M))
    (hr : resOkV M X = true ∧ strictM M = true ∧ nodupB (M.map fun x => nm x.1) = true ∧ nodupB (M.map fun x => x.1) = true)
    (hk : nmOk names N (M.map fun x => nm x.1) = true ∧ dstOk nt dst ∧ k ((M.map fun x => nm x.1) ++ N) (D ++ daOf keep ds S ⟨dst, .call ⟨.value (.tmp t), args.toArray, ts⟩, ty, pos, af, g⟩ (.new (X.ren nm) (renM nm M))) ((Eff.new (X.ren nm) (renM nm M)).on dst S)) :
    onC P nt names ds keep ⟨dst, .call ⟨.value (.tmp t), args.toArray, ts⟩, ty, pos, af, g⟩ N D S k := by
  have e : (Eff.new (X.ren nm) (renM nm M)).names = M.map fun x => nm x.1 := by simp [Eff.names, renM, Function.comp_def]
  refine ⟨.new (X.ren nm) (renM nm M), .fncall rfl hgo hfn hcs hargs hc hr.1 hr.2.1 ?_ (nodupB_ok hr.2.2.2), ?_⟩
  · have := nodupB_ok hr.2.2.1
    rw [show (renM nm M).map (·.1) = M.map fun x => nm x.1 from by simp [renM, Function.comp_def]]; exact this
  · rw [e]; exact hk
end

theorem draw_k {P : Program} {B : Base} {id : Nat} {l : List Oper} {S : St} {Q : Exit → St → Prop} (names c : List Nat) (need : List (Nat × Nat)) (hm : P.follows .mixedOrders = true) (hst : drawOk (dsOf l) c need l = true)
    (hn : names.all (fun k => fresh k S && (look S.mem k).isNone) = true)
    (h : ∀ K : St → List Da → Prop, (∀ S' D, chkD l D need → Q .normal S' → K S' D) → runD P B.nt names (dsOf l) (!need.isEmpty) l [] [] S K) : HT P B (.region id l.toArray true) S Q := HT.draw names c need hm hst hn h

attribute [go_sem] rd_cont rd_nil rd_op rd_guard rd_onG rd_onE rd_onOc ro_move ro_assign ro_pick ro_build ro_load ro_nilCheck ro_binOp ro_unOp ro_fieldAddr ro_field ro_indexAddr ro_index ro_extract ro_slice ro_makeFunc ro_builtin ro_alloc ro_box ro_buildSlice ro_makeSlice ro_convert ro_store da_false da_true dstOk_some dstOk_none on_val on_val0 on_new on_new0 on_app on_sto on_sto0 nm_val nm_new nm_app nm_sto nm_nil
  eV_some eA_some eC_some eC_none e2_some ee_move ee_assign ee_pick ee_build ee_load ee_nilCheck ee_binOp ee_unOp ee_fieldAddr ee_field ee_indexAddr ee_index ee_extract ee_slice ee_makeFunc ee_len ee_min ee_max ee_alloc ee_box ee_buildSlice ee_makeSlice ee_convert ee_append ee_copy ee_store
attribute [go_sem] nmOk nodupB renM strictM storeE appendE copyE copyV List.map_cons List.map_nil List.all_cons List.all_nil List.contains_cons List.contains_nil List.nil_append List.cons_append List.append_nil Bool.and_self Bool.and_true Bool.true_and List.isEmpty_nil List.isEmpty_cons Option.isNone_none Option.isNone_some
end Go.Sy
namespace Go.Sy

def leX {α : Type} (ks : List Nat) (e : List (Nat × α)) : List (Nat × α) → Prop
  | [] => True
  | x :: r => (if ks.contains x.1 = true then True else look e x.1 = some x.2) ∧ leX (x.1 :: ks) e r

theorem leX_look {α : Type} {e : List (Nat × α)} : ∀ {l : List (Nat × α)} {ks : List Nat}, leX ks e l → ∀ {n : Nat} {v : α}, n ∉ ks → look l n = some v → look e n = some v
  | [], _, _, _, _, _, h => by cases h
  | x :: r, ks, h, n, v, hn, hl => by
    simp only [look] at hl
    split at hl
    · rename_i en; cases hl; subst en
      have := h.1
      rw [if_neg (by simpa using hn)] at this; exact this
    · rename_i en
      exact leX_look h.2 (by simp only [List.mem_cons, not_or]; exact ⟨en, hn⟩) hl

theorem Le.ofX {B : Base} {S S' : St} (he : leX [] S.env S'.env) (hm : leX [] S.mem S'.mem) : Le B S S' := by
  intro d a w h
  have hsome : ∀ j, (look S'.mem j).isSome = true → (look S.mem j).isSome = true := by
    intro j hj
    cases ho : look S'.mem j with
    | none => simp [ho] at hj
    | some o => rw [leX_look hm (by simp) ho]; rfl
  exact ⟨d, h.defers, h.nt, fun n v hv => h.env n v (leX_look he (by simp) hv), fun k o hk => h.mem k o (leX_look hm (by simp) hk), fun k k' h1 h2 => h.inj k k' (hsome _ h1) (hsome _ h2), fun k hk => h.own k (hsome _ hk), h.ro, h.old, h.os, h.tape, h.output, h.size, h.block, h.gat, fun k o hk => h.glob k o (leX_look hm (by simp) hk), fun k o p hk => h.fix k o p (leX_look hm (by simp) hk), h.fxn⟩

section
variable {P : Program} {B : Base} {S : St} {Q : Exit → St → Prop}
theorem loop_k {x : Code} {ι : Type} (e : ι → List (Nat × V)) (m : ι → List (Nat × Ob)) (μ : ι → Nat) (i₀ : ι) (h0 : leX [] S.env (e i₀ ++ S.env)) (h1 : leX [] S.mem (m i₀ ++ S.mem))
    (round : ∀ i, ∀ (N : St → Prop) (M : Exit → St → Prop), (∀ j S', μ j < μ i → leX [] S'.env (e j ++ S.env) → leX [] S'.mem (m j ++ S.mem) → N S') → (∀ e S', Q e S' → M e S') → HT P B x ⟨e i ++ S.env, m i ++ S.mem⟩ (thenQ N M)) : HT P B (.loop x) S Q := by
  refine HT.loop (fun i => ⟨e i ++ S.env, m i ++ S.mem⟩) μ i₀ (Le.ofX h0 h1) fun i => ?_
  exact round i _ Q (fun j S' hj he hm => ⟨j, hj, Le.ofX he hm⟩) (fun _ _ h => h)

def rnd (P : Program) (B : Base) (x : Code) (Q : Exit → St → Prop) : Nat → St → Prop
  | 0, _ => False
  | n + 1, S => HT P B x S (thenQ (rnd P B x Q n) Q)

theorem rnd_ok {x : Code} : ∀ {n : Nat} {S : St} {d : Va} {a : Act} {w : World}, rnd P B x Q n S → Sim B d S a w → Code.rounds P x (fun e a' w' => ∃ S' d', Q e S' ∧ Sim B d' S' a' w') n a w
  | 0, _, _, _, _, h, _ => h.elim
  | n + 1, S, d, a, w, h, hs => by
    rw [rounds_succ]
    refine Code.wp_mono ?_ (h d a w hs)
    rintro e a' w' ⟨S', d', hq, hs'⟩
    cases e <;> first | exact rnd_ok hq hs' | exact ⟨S', d', hq, hs'⟩

theorem rounds_k {x : Code} (n : Nat) (h : rnd P B x Q n S) : HT P B (.loop x) S Q := fun d a w hs => wp_loop_rounds n (rnd_ok h hs)

theorem rnd_k {x : Code} {n : Nat} (h : ∀ (N : St → Prop) (M : Exit → St → Prop), (∀ S', rnd P B x Q n S' → N S') → (∀ e S', Q e S' → M e S') → HT P B x S (thenQ N M)) : rnd P B x Q (n + 1) S := h _ Q (fun _ h => h) (fun _ _ h => h)
end

def fgt {α : Type} (ks : List Nat) : List (Nat × α) → List (Nat × α)
  | [] => []
  | x :: r => if ks.contains x.1 = true then fgt ks r else x :: fgt ks r
theorem look_fgt {α : Type} {ks : List Nat} : ∀ {l : List (Nat × α)} {n : Nat} {v : α}, look (fgt ks l) n = some v → look l n = some v
  | [], _, _, h => by cases h
  | x :: r, n, v, h => by
    have key : ∀ {l : List (Nat × α)} {n : Nat} {v : α}, look (fgt ks l) n = some v → ks.contains n = false := by
      intro l
      induction l with
      | nil => intro n v h; cases h
      | cons y l ih =>
        intro n v h
        simp only [fgt] at h
        split at h
        · exact ih h
        · rename_i hc
          simp only [look] at h
          split at h
          · rename_i e; subst e; simpa using hc
          · exact ih h
    simp only [fgt] at h
    simp only [look]
    split at h
    · rename_i hc
      have := key h
      rw [if_neg (fun e => by subst e; rw [hc] at this; cases this)]
      exact look_fgt h
    · simp only [look] at h
      by_cases e : n = x.1
      · rw [if_pos e] at h ⊢; exact h
      · rw [if_neg e] at h ⊢; exact look_fgt h
def St.forget (ks : List Nat) (S : St) : St := ⟨fgt ks S.env, fgt ks S.mem⟩
theorem Le.forget {B : Base} (ks : List Nat) (S : St) : Le B S (S.forget ks) := by
  intro d a w h
  have hsome : ∀ j, (look (fgt ks S.mem) j).isSome = true → (look S.mem j).isSome = true := by
    intro j hj
    cases ho : look (fgt ks S.mem) j with
    | none => simp [ho] at hj
    | some o => rw [look_fgt ho]; rfl
  exact ⟨d, h.defers, h.nt, fun n v hv => h.env n v (look_fgt hv), fun k o hk => h.mem k o (look_fgt hk), fun k k' h1 h2 => h.inj k k' (hsome _ h1) (hsome _ h2), fun k hk => h.own k (hsome _ hk), h.ro, h.old, h.os, h.tape, h.output, h.size, h.block, h.gat, fun k o hk => h.glob k o (look_fgt hk), fun k o p hk => h.fix k o p (look_fgt hk), h.fxn⟩
theorem rnd_forget {P : Program} {B : Base} {Q : Exit → St → Prop} {S : St} {x : Code} (ks : List Nat) : ∀ {n : Nat}, rnd P B x Q n (S.forget ks) → rnd P B x Q n S
  | 0, h => h
  | _ + 1, h => HT.le (Le.forget ks S) h
theorem ht_forget {P : Program} {B : Base} {Q : Exit → St → Prop} {S : St} {x : Code} (ks : List Nat) (h : HT P B x (S.forget ks) Q) : HT P B x S Q := HT.le (Le.forget ks S) h
theorem w64 {n : Int} (h : -9223372036854775808 ≤ n ∧ n ≤ 9223372036854775807) : Go.RowKit.wrap64 n = n := by unfold Go.RowKit.wrap64; omega

theorem viewLs_bytes (S : St) : ∀ l : List UInt8, viewLs S (bytesC l) = some (bytesC l)
  | [] => rfl
  | x :: r => by
    have ih := viewLs_bytes S r
    simp only [bytesC] at ih
    simp only [bytesC, List.map_cons, viewLs, viewL, ih]
theorem viewLs_seg (S : St) (r : List L) : ∀ l : List UInt8, viewLs S (bytesC l ++ r) = (viewLs S r).map (bytesC l ++ ·)
  | [] => by simp [bytesC]
  | x :: l => by
    have ih := viewLs_seg S r l
    simp only [bytesC] at ih
    simp only [bytesC, List.map_cons, List.cons_append, viewLs, viewL, ih]
    cases viewLs S r <;> rfl
theorem all_strict (l : List UInt8) : (bytesC l).all strictL = true := by
  simp only [bytesC, List.all_eq_true, List.mem_map]
  rintro x ⟨y, _, rfl⟩
  rfl
theorem all_resL (m : List (Nat × Ob)) (l : List UInt8) : (bytesC l).all (resL m) = true := by
  simp only [bytesC, List.all_eq_true, List.mem_map]
  rintro x ⟨y, _, rfl⟩
  rfl
theorem map_renL (f : Nat → Nat) (l : List UInt8) : (bytesC l).map (L.ren f) = bytesC l := by simp [bytesC, L.ren]
theorem map_killL (k : Nat) (l : List UInt8) : (bytesC l).map (killL k) = bytesC l := by
  simp only [bytesC, List.map_map]
  congr 1
def byteRows (bs : List UInt8) : List (List PL) := bs.map fun b => [PL.u8 b]
theorem unpl_bytes (bs : List UInt8) : unpl (bytesC bs) = some (bs.map PL.u8) := by
  induction bs with
  | nil => rfl
  | cons a l ih => simp only [bytesC, List.map_cons, unpl] at ih ⊢; simp [ih]
theorem chunks_bytes (bs : List UInt8) : chunks 1 bs.length (bs.map PL.u8) = byteRows bs := by
  induction bs with
  | nil => rfl
  | cons a l ih => simp only [byteRows, List.map_cons, List.length_cons, chunks] at ih ⊢; simp [ih]
theorem chunks_bytes' {bs : List UInt8} {n : Nat} (h : bs.length = n) : chunks 1 n (bs.map PL.u8) = byteRows bs := by
  subst h; exact chunks_bytes bs
theorem bytesL_nil : bytesL [] = some [] := rfl
theorem bytesL_cons (x : UInt8) (r : List L) : bytesL (.pl (.u8 x) :: r) = (bytesL r).map (x :: ·) := by simp only [bytesL]
theorem bin_add_str2 (P : Program) (t : TypeId) (x y : List UInt8) (h : x.length + y.length ≤ 9223372036854775807) : binV P .add t (.w (.one (.pl (.str x)))) (.w (.one (.pl (.str y)))) = some (.w (.one (.pl (.str (x ++ y))))) := bin_add_str P t x y h
theorem maxLen_eq : maxLen = 9223372036854775807 := rfl
theorem rep_flat {α : Type} (n : Nat) (z : List α) : (List.replicate (n + 1) z).flatten = z ++ (List.replicate n z).flatten := by simp [List.replicate_succ]
theorem rep_flat0 {α : Type} (z : List α) : (List.replicate 0 z).flatten = [] := rfl
theorem pls_bytes (l : List UInt8) : pls (l.map .u8) = bytesC l := by simp [pls, bytesC, Function.comp_def]

theorem pls_append (a b : List PL) : pls (a ++ b) = pls a ++ pls b := by simp [pls]
theorem pls_cons (a : PL) (b : List PL) : pls (a :: b) = .pl a :: pls b := rfl
theorem pls_nil : pls [] = [] := rfl
def optCons {α : Type} : Option α → List α → List α
  | some v, l => v :: l
  | none, l => l
theorem optCons_some {α : Type} (v : α) (l : List α) : optCons (some v) l = v :: l := rfl
theorem optCons_none {α : Type} (l : List α) : optCons none l = l := rfl
theorem fm_cons (S : St) (x : Operand) (r : List Operand) : (x :: r).filterMap S.get = optCons (S.get x) (r.filterMap S.get) := by
  rw [List.filterMap_cons]; cases S.get x <;> rfl
theorem fm_nil (S : St) : ([] : List Operand).filterMap S.get = [] := rfl
theorem mut_val (v : V) : (Eff.val v).mut = false := rfl
theorem mut_new (v : V) (m : List (Nat × Ob)) : (Eff.new v m).mut = false := rfl
theorem mut_app (v : V) (j : Nat) (o : Ob) : (Eff.app v j o).mut = true := rfl
theorem mut_sto (v : V) (j : Nat) (o : Ob) : (Eff.sto v j o).mut = true := rfl
theorem ns_val (v : V) (m : List (Nat × Ob)) : nsOf (.val v) m = [] := rfl
theorem ns_new (v : V) (x m : List (Nat × Ob)) : nsOf (.new v x) m = [] := rfl
theorem ns_sto (v : V) (j : Nat) (o : Ob) (m : List (Nat × Ob)) : nsOf (.sto v j o) m = [] := rfl
def nsC (j : Nat) : List (Nat × Ob) → List Nat
  | [] => []
  | x :: r => if (x.1 != j && x.2.has j) = true then x.1 :: nsC j r else nsC j r
theorem ns_app (v : V) (j : Nat) (o : Ob) (m : List (Nat × Ob)) : nsOf (.app v j o) m = nsC j m := by
  simp only [nsOf]
  induction m with
  | nil => rfl
  | cons x r ih =>
    rw [List.filter_cons]; simp only [nsC]
    split
    · rw [List.map_cons, ih]
    · exact ih
theorem td_val (m : Bool) (v : V) (rv : List V) (ns : List Nat) (b : Da) : touchD m ⟨.val v, rv, ns⟩ b = True := rfl
theorem td_new (m : Bool) (v : V) (x : List (Nat × Ob)) (rv : List V) (ns : List Nat) (b : Da) : touchD m ⟨.new v x, rv, ns⟩ b = True := rfl
theorem td_sto (m : Bool) (v : V) (k : Nat) (o : Ob) (rv : List V) (ns : List Nat) (b : Da) : touchD m ⟨.sto v k o, rv, ns⟩ b = (m = true → b.rv.all (fun v => !v.has k) = true) := rfl
theorem td_app (m : Bool) (v : V) (j : Nat) (o : Ob) (rv : List V) (ns : List Nat) (b : Da) : touchD m ⟨.app v j o, rv, ns⟩ b = (b.rv.all (fun v => !v.has j && noUV v) = true ∧ b.e.free j = true ∧ (m = true → b.rv.all (fun v => ns.all fun k => !v.has k) = true)) := rfl
theorem chk_nil (l : List Oper) (D : List Da) : chkD l D [] = True := rfl
theorem chk_cons (l : List Oper) (D : List Da) (p : Nat × Nat) (r : List (Nat × Nat)) : chkD l D (p :: r) = (atD (l[p.1]?.map fun o => memOp o.op) (l[p.2]?.map fun o => memOp o.op) D[p.1]? D[p.2]? ∧ chkD l D r) := rfl
theorem atD_some (x y : Bool) (a b : Da) : atD (some x) (some y) (some a) (some b) = ((a.e.mut = false ∨ b.e.mut = false) ∧ touchD y a b ∧ touchD x b a) := rfl
theorem bytes_noU (l : List UInt8) : (bytesC l).all noUL = true := by
  simp only [bytesC, List.all_eq_true, List.mem_map]
  rintro x ⟨y, _, rfl⟩
  rfl
theorem look_nil {α : Type} (n : Nat) : look ([] : List (Nat × α)) n = none := rfl
theorem ipos {α : Type} {c : Prop} [Decidable c] {a b : α} (h : c) : (if c then a else b) = a := if_pos h
theorem ineg {α : Type} {c : Prop} [Decidable c] {a b : α} (h : ¬ c) : (if c then a else b) = b := if_neg h
theorem bytesC_length (l : List UInt8) : (bytesC l).length = l.length := by simp [bytesC]
theorem bytesC_nil : bytesC [] = [] := rfl
theorem bytesC_any (k : Nat) (l : List UInt8) : (bytesC l).any (L.has k) = false := by
  simp only [bytesC, List.any_eq_false, List.mem_map]
  rintro x ⟨y, _, rfl⟩
  simp [L.has]
theorem take_seg {α : Type} {a b : List α} {n : Nat} (h : a.length ≤ n) : (a ++ b).take n = a ++ b.take (n - a.length) := by
  rw [List.take_append, List.take_of_length_le h]
theorem take_in {α : Type} {a b : List α} {n : Nat} (h : n ≤ a.length) : (a ++ b).take n = a.take n := List.take_append_of_le_length h
theorem drop_seg {α : Type} {a b : List α} {n : Nat} (h : a.length ≤ n) : (a ++ b).drop n = b.drop (n - a.length) := by
  rw [List.drop_append, List.drop_of_length_le h, List.nil_append]
theorem drop_in {α : Type} {a b : List α} {n : Nat} (h : n ≤ a.length) : (a ++ b).drop n = a.drop n ++ b := List.drop_append_of_le_length h
theorem take_all {α : Type} {a : List α} {n : Nat} (h : a.length ≤ n) : a.take n = a := List.take_of_length_le h
theorem drop_all {α : Type} {a : List α} {n : Nat} (h : a.length ≤ n) : a.drop n = [] := List.drop_of_length_le h
theorem bytesC_append (a b : List UInt8) : bytesC a ++ bytesC b = bytesC (a ++ b) := by simp [bytesC]
theorem bytesC_take (a : List UInt8) (n : Nat) : (bytesC a).take n = bytesC (a.take n) := by simp [bytesC, List.map_take]
theorem bytesC_drop (a : List UInt8) (n : Nat) : (bytesC a).drop n = bytesC (a.drop n) := by simp [bytesC, List.map_drop]
theorem bytesL_C : ∀ l : List UInt8, bytesL (bytesC l) = some l
  | [] => rfl
  | x :: r => by
    have ih := bytesL_C r
    simp only [bytesC] at ih
    simp only [bytesC, List.map_cons, bytesL, ih, Option.map_some]
theorem bytesR_rows (bs : List UInt8) : bytesR (byteRows bs) = some bs := by
  induction bs with
  | nil => rfl
  | cons a l ih => simp only [byteRows, List.map_cons, bytesR] at ih ⊢; simp [ih]
theorem byteRows_length (bs : List UInt8) : (byteRows bs).length = bs.length := by simp [byteRows]
theorem byteRows_flatten (bs : List UInt8) : pls (byteRows bs).flatten = bytesC bs := by
  induction bs with
  | nil => rfl
  | cons a l ih => simp only [byteRows, List.map_cons, List.flatten_cons, pls, List.map_append, bytesC] at ih ⊢; simp [ih]
theorem byteRows_nil : byteRows [] = [] := rfl

def u64C (l : List UInt64) : List L := l.map fun b => .pl (.u64 b)
def u32C (l : List UInt32) : List L := l.map fun b => .pl (.u32 b)
theorem aggEq_of {P : Program} {t : TypeId} {ks : List Kd} {xs ys : List L} (hk : flatK P 9 t = some ks) (hg : P.eqGuardType P.depth t = false) (hx : xs.map kindL = ks.map some) (hy : ys.map kindL = ks.map some) : aggEq P t xs ys = some (eqC xs ys) := by
  unfold aggEq; rw [hk]; simp only; rw [if_pos ⟨hx, hy, hg⟩]
theorem kinds_bytes {l : List UInt8} {n : Nat} (h : l.length = n) : (bytesC l).map kindL = List.replicate n (some (.int .u8)) := by
  subst h
  induction l with
  | nil => rfl
  | cons x r ih => simp only [bytesC, List.map_cons, List.length_cons, List.replicate_succ] at ih ⊢; rw [ih]; rfl
theorem eqL_u8 (x y : UInt8) : eqL (.pl (.u8 x)) (.pl (.u8 y)) = decide (x = y) := rfl
theorem eqL_u32 (x y : UInt32) : eqL (.pl (.u32 x)) (.pl (.u32 y)) = decide (x = y) := rfl
theorem eqL_u64 (x y : UInt64) : eqL (.pl (.u64 x)) (.pl (.u64 y)) = decide (x = y) := rfl
theorem eqL_i (x y : Int) : eqL (.pl (.i x)) (.pl (.i y)) = decide (x = y) := rfl
theorem eqL_b (x y : Bool) : eqL (.pl (.b x)) (.pl (.b y)) = decide (x = y) := rfl
theorem eqL_str (x y : List UInt8) : eqL (.pl (.str x)) (.pl (.str y)) = decide (x = y) := rfl
theorem eqC_cons (x y : L) (xs ys : List L) : eqC (x :: xs) (y :: ys) = (eqL x y && eqC xs ys) := rfl
theorem eqC_nil (ys : List L) : eqC [] ys = true := by cases ys <;> rfl
theorem kindL_u8 (x : UInt8) : kindL (.pl (.u8 x)) = some (.int .u8) := rfl
theorem kindL_u32 (x : UInt32) : kindL (.pl (.u32 x)) = some (.int .u32) := rfl
theorem kindL_u64 (x : UInt64) : kindL (.pl (.u64 x)) = some (.int .u64) := rfl
theorem kindL_i (x : Int) : kindL (.pl (.i x)) = some (.int .i64) := rfl
theorem kindL_b (x : Bool) : kindL (.pl (.b x)) = some .b := rfl
theorem kindL_str (x : List UInt8) : kindL (.pl (.str x)) = some .s := rfl
theorem eqC_seg : ∀ {a b : List UInt8} {c d : List L}, a.length = b.length → eqC (bytesC a ++ c) (bytesC b ++ d) = (decide (a = b) && eqC c d)
  | [], [], c, d, _ => by simp [bytesC]
  | [], _ :: _, _, _, h => by cases h
  | _ :: _, [], _, _, h => by cases h
  | x :: a, y :: b, c, d, h => by
    have ih := eqC_seg (a := a) (b := b) (c := c) (d := d) (by simpa using h)
    simp only [bytesC] at ih
    simp only [bytesC, List.map_cons, List.cons_append, eqC, ih, eqL]
    rw [← Bool.and_assoc]
    congr 1
    by_cases h1 : x = y <;> by_cases h2 : a = b <;> simp [h1, h2]
theorem eqC_bytes {a b : List UInt8} (h : a.length = b.length) : eqC (bytesC a) (bytesC b) = decide (a = b) := by
  have := eqC_seg (a := a) (b := b) (c := []) (d := []) h
  simpa [eqC] using this

attribute [go_sem] pls_bytes pls_append pls_cons pls_nil bin_add_str2 false_and and_false Int.cast_ofNat_Int Int.reduceEq Int.reduceNe Int.natCast_zero rep_flat rep_flat0 List.size_toArray Nat.mul_one Nat.one_mul unpl_bytes chunks_bytes bytesL_nil bytesL_cons maxLen_eq decide_true decide_false w64 Option.bind_none Option.map_none viewLs_bytes viewLs_seg all_strict all_resL map_renL map_killL List.all_append look_nil bytesC_length bytesC_nil bytesC_any take_seg take_in drop_seg drop_in take_all drop_all bytesC_append bytesC_take bytesC_drop bytesL_C bytesR_rows byteRows_length byteRows_flatten byteRows_nil eqC_seg eqC_bytes kinds_bytes eqL_u8 eqL_u32 eqL_u64 eqL_i eqL_b eqL_str eqC_cons eqC_nil kindL_u8 kindL_u32 kindL_u64 kindL_i kindL_b kindL_str
theorem upd_mid {c d a b : List L} {o n : Nat} (h : c = a ++ b) (ha : a.length = o) : upd c o n d = a ++ (d ++ b.drop n) := by
  subst h; subst ha
  unfold upd
  rw [List.take_left', List.drop_append]
  · simp
  · rfl
theorem fillL_nil (place : Nat → Option (Nat × Nat)) (cells : List L) : fillL place cells [] = some cells := by cases cells <;> rfl
theorem fillL_cons (place : Nat → Option (Nat × Nat)) (cells : List L) (i : Nat) (v : W) (rest : List (Nat × V)) : fillL place cells ((i, .w v) :: rest) = (match place i with
    | some pl => if v.cells.length = pl.2 ∧ pl.1 + pl.2 ≤ cells.length then fillL place (upd cells pl.1 pl.2 v.cells) rest else none
    | none => none) := by
  cases h : place i with
  | none => simp only [fillL, h]
  | some pl => simp only [fillL, h]
attribute [go_sem] fillL_nil fillL_cons upd wr buildV partsV placesOf storeV appendV srcA allocV sliceV boundV V.num PL.num indexAddrV indexV partV partOfV extractV nilV minmaxV getOpt pureV srcV viewVs viewV viewL viewLs unpl killE killM V.kill W.kill killL setM toKind resOkV resOkW resL strictL adoptOk List.any_append Option.isSome_some Option.isSome_none List.map_append List.map_replicate List.length_append List.length_replicate Nat.sub_self Nat.reduceSub Nat.add_zero Nat.reduceBneDiff Nat.reduceMul Int.reduceLT Int.reduceLE Int.reduceToNat UInt8.reduceOfNat UInt32.reduceOfNat UInt64.reduceOfNat Int.toNat_zero Int.reduceNeg Nat.reduceDiv Int.reduceAdd Int.reduceSub Int.reduceMul Int.toNat_natCast
end Go.Sy
namespace Go.Sy
open Go.RowKit Go.WideShapes Go.ChangeShapes Go.ChangeAt

theorem MemOK.below {w w' : World} {d : Va} {m : List (Nat × Ob)} {ro : Ro} (h : MemOK ⟨w, fun _ => False, 0, ro, fun _ => none⟩ d m w') : Below w.heap.size w w' := by
  obtain ⟨a, hs⟩ := h
  exact ⟨hs.os, hs.tape, hs.output, hs.size, fun k hk => hs.block k hk (fun h => h.elim)⟩

theorem Ct.calls {P : Program} {f : FuncId} {args : List V} {R : V → List (Nat × Ob) → Prop} {b : Bool} (hc : Ct P f args R) (hR : ∀ v m, R v m → v = .w (.one (.pl (.b b)))) (w : World) (d : Va) (vals : Array Value)
    (hro : ∀ b o y, d.ro b o = some y → w.cell? ⟨b, o, none⟩ = some y) (hg : ∀ k, gl0 ≤ k → d.at_ k = k - gl0) (ha : All2 (V.den d) args vals.toList) : Calls P f vals w fun e w' => e = .returned (.bool b) ∧ Below w.heap.size w w' := by
  refine (hc w d vals hro hg ha).mono fun e w' ⟨y, v, d', m', he, hr, hd, hm⟩ => ?_
  rw [hR v m' hr] at hd
  exact ⟨by rw [he]; exact congrArg _ hd, hm.below⟩

section
variable {H : Type} {enc : TypeId × Value → H} {P : Program}
theorem below_trodAll (hl : laidOutB P = true) {W W' : World} (hb : Below W.heap.size W W') {sp : Nat → Bool} : ∀ (ts : List TypeId) (vs : List Value) (ds : List (DataW H)) (ps : List MemPlace),
    (ts.all fun t => P.readableRec t && decide (t < P.types.size)) = true → DataW.TrodAll enc P W 0 (fun _ => true) true ts vs ds ps → (∀ x ∈ ps, x.block < W.heap.size) → (∀ x ∈ ps, sp x.block = true) → DataW.TrodAll enc P W' 0 sp true ts vs ds ps
  | [], [], [], ps, _, h, _, _ => h
  | t :: ts, v :: vs, d :: ds, ps, hr, h, hlt, hsp => by
    obtain ⟨p, q, h1, h2, rfl⟩ := h
    simp only [List.all_cons, Bool.and_eq_true, decide_eq_true_eq] at hr
    refine ⟨p, q, WideElems.Trod_stays hl hr.1.1 hr.1.2 h1 (fun x hx => hb.same (hlt x (by simp [hx]))) (fun x hx => hsp x (by simp [hx])), ?_, rfl⟩
    exact below_trodAll hl hb ts vs ds q hr.2 h2 (fun x hx => hlt x (by simp [hx])) (fun x hx => hsp x (by simp [hx]))
  | [], _ :: _, _, _, _, h, _, _ => h.elim
  | [], [], _ :: _, _, _, h, _, _ => h.elim
  | _ :: _, [], _, _, _, h, _, _ => h.elim
  | _ :: _, _ :: _, [], _, _, h, _, _ => h.elim

theorem law_post {f : Func} {s : ChangeSpec} {apart fresh handsOn again : Bool} {t : TypeId} {W W' : World} {args : Array Value} {ds gs : List (DataW H)} {before : List MemPlace}
    (hW : DataW.Whole enc P f.params.toList s.vars apart W args.toList ds gs before) (hl : laidOutB P = true) (hr : (f.params.toList.all fun t => P.readableRec t && decide (t < P.types.size)) = true)
    (hv : s.vars = []) (hrt : f.resultTypes = #[t]) (ht : P.underlying t = some .bool) (hs : s.fn H ds = { results := [.lit (.bool true)], args := ds }) (hb : Below W.heap.size W W') :
    s.post enc P f apart fresh handsOn again W args (.bool true) W' := by
  have hW0 := hW
  obtain ⟨p, q, hA, hV, hpq, hz, hn⟩ := hW
  rw [hv] at hV
  obtain ⟨hg, hq⟩ := trodVars_none hV
  subst hg; subst hq; subst hpq
  have hlt : ∀ x ∈ p ++ [], x.block < W.heap.size := fun x hx => hW0.lt x hx
  simp only [List.append_nil] at hlt hW0
  have e : s.fn H (ds ++ []) = { results := [.lit (.bool true)], args := ds } := by rw [List.append_nil]; exact hs
  have hargs : ∀ sp : Nat → Bool, (∀ x ∈ p, sp x.block = true) → DataW.TrodAll enc P W' 0 sp true f.params.toList args.toList (s.fn H (ds ++ [])).args p := fun sp h => by
    rw [e]; exact below_trodAll hl hb _ _ _ _ hr hA hlt h
  have hres : ∀ (b : Nat) (sp : Nat → Bool) (hd : Bool), DataW.TrodAll enc P W' b sp hd f.resultTypes.toList ((Value.bool true).resultList f.resultTypes.size) (s.fn H (ds ++ [])).results [] := fun b sp hd => by
    rw [e, hrt]; exact trodAll_mk1 (shut_bool ht true)
  have hvars : ∀ sp : Nat → Bool, DataW.TrodVars enc P W' sp s.vars (s.fn H (ds ++ [])).vars [] := fun sp => by rw [e, hv]; rfl
  have hold : ∀ x ∈ p, (fun b => decide (b < W.heap.size)) x.block = true := fun x hx => by simpa using hlt x hx
  refine ⟨ds, [], p, [], p, [], hW0, hres _ _ _, hargs _ hold, hvars _, World.keptBut_mono (fun x hx => ⟨hx, ?_⟩) (hb.frame (· ∈ p)), fun _ => ?_⟩
  · exact Or.inr (by simpa using hx)
  · refine ⟨ok_one hrt rfl (okWide_bool_mk ht true), _, _, ([] ++ p) ++ [], ⟨[] ++ p, [], trodAll_append (hargs _ (fun _ _ => rfl)) (hres _ _ _), hvars _, rfl, ?_, ?_⟩, ?_⟩
    · intro b off hp
      have hin : MemPlace.cell b off ∈ p := by simpa using hp
      rw [hb.frozen (hlt _ hin)]
      exact hz b off (by simpa using hin)
    · intro ha
      have := hn ha
      simpa using this
    · intro x hx _
      simpa using hx
end
end Go.Sy
namespace Go.Sy
open Go.RowKit Go.WideShapes Go.ChangeShapes Go.ChangeAt

def Sh (P : Program) : Nat → TypeId → List PL → Prop
  | 0, _, _ => False
  | n + 1, t, cs => match P.underlying t with
    | some .bool => ∃ b, cs = [.b b]
    | some (.int .i64) => ∃ k : Int, cs = [.i k] ∧ -9223372036854775808 ≤ k ∧ k ≤ 9223372036854775807
    | some (.int .u8) => ∃ x, cs = [.u8 x]
    | some (.int .u32) => ∃ x, cs = [.u32 x]
    | some (.int .u64) => ∃ x, cs = [.u64 x]
    | some .string => ∃ s, cs = [.str s] ∧ s.length ≤ maxLen
    | some (.slice e) => ∃ rows, cs = [.R false (P.cellsOf e) rows] ∧ (∀ r ∈ rows, Sh P n e r ∧ r.length = P.cellsOf e) ∧ rows.length ≤ maxLen
    | some (.struct fs) => ∃ ps : List (List PL), cs = ps.flatten ∧ All2 (fun (f : Field) p => Sh P n f.type p ∧ p.length = P.cellsOf f.type) fs.toList ps
    | some (.array m e) => ∃ ps : List (List PL), cs = ps.flatten ∧ ps.length = m ∧ ∀ p ∈ ps, Sh P n e p ∧ p.length = P.cellsOf e
    | _ => False

def Va.reads (w : World) : Va := ⟨fun k => k - gl0, fun _ => 0, fun b o => w.cell? ⟨b, o, none⟩⟩

def tileFs (P : Program) : List Field → Nat → Nat → Bool
  | [], off, n => off == n
  | f :: fs, off, n => f.offset == off && tileFs P fs (off + P.cellsOf f.type) n
def known (P : Program) (G : Nat → TypeId → Bool) : Nat → TypeId → Bool
  | 0, _ => false
  | n + 1, t => match P.underlying t with
    | some .bool | some (.int .i64) | some (.int .u8) | some (.int .u32) | some (.int .u64) | some .string => P.cellsOf t == 1
    | some (.slice e) => P.cellsOf t == 1 && (G n e && known P G n e)
    | some (.struct fs) => tileFs P fs.toList 0 (P.cellsOf t) && fs.toList.all fun f => known P G n f.type
    | some (.array m e) => P.cellsOf t == m * P.cellsOf e && known P G n e
    | _ => false

section
variable {H : Type} {enc : TypeId × Value → H} {P : Program} {w : World} {base : Nat} {spare : Nat → Bool} {held : Bool}

theorem trod_array {m : Nat} {t e : TypeId} {fuel : Nat} {cs : List Value} {x : DataW H × List MemPlace} (ht : P.underlying t = some (.array m e)) (h : DataW.trod enc P w base spare held fuel t cs = some x) :
    ∃ n, fuel = n + 1 ∧ cs.length = P.cellsOf t ∧ ∀ i, i < m → ∃ y, DataW.trod enc P w base spare held n e ((cs.drop (i * P.cellsOf e)).take (P.cellsOf e)) = some y := by
  cases fuel with
  | zero => simp [DataW.trod] at h
  | succ n =>
    unfold DataW.trod at h
    rw [ht] at h
    simp only at h
    split at h <;> try (simp at h; done)
    rename_i hl
    refine ⟨n, rfl, hl, fun i hi => ?_⟩
    obtain ⟨xs, hx, _⟩ := Option.map_eq_some_iff.mp h
    have : ∀ (l : List Nat) (ys : List (DataW H × List MemPlace)), l.mapM (fun i => DataW.trod enc P w base spare held n e ((cs.drop (i * P.cellsOf e)).take (P.cellsOf e))) = some ys → ∀ i ∈ l, ∃ y, DataW.trod enc P w base spare held n e ((cs.drop (i * P.cellsOf e)).take (P.cellsOf e)) = some y := by
      intro l
      induction l with
      | nil => intro _ _ i hi; cases hi
      | cons a r ih =>
        intro ys hy i hi
        rw [List.mapM_cons] at hy
        cases ha : DataW.trod enc P w base spare held n e ((cs.drop (a * P.cellsOf e)).take (P.cellsOf e)) with
        | none => rw [ha] at hy; simp at hy
        | some y =>
          rw [ha] at hy
          rcases List.mem_cons.mp hi with rfl | hi
          · exact ⟨y, ha⟩
          · cases hr : r.mapM (fun i => DataW.trod enc P w base spare held n e ((cs.drop (i * P.cellsOf e)).take (P.cellsOf e))) with
            | none => rw [hr] at hy; simp at hy
            | some zs => exact ih zs hr i hi
    exact this _ _ hx i (by simpa using hi)

def spotOk (v : Value) : Prop := ∀ a len cap, v = .slice (some a) len cap → a.spot = none

theorem denAt_of {ro : Ro} {blk : Nat} : ∀ {c : List PL} {vals : List Value} {off : Nat}, All2 (PL.den ro) c vals → (∀ j v, vals[j]? = some v → ro blk (off + j) = some v) → PL.denAt ro blk c off
  | [], _, _, _, _ => by rw [PL.denAt]; trivial
  | x :: c, vals, off, h, hc => by
    cases h with
    | cons h1 h2 =>
      rename_i y m
      rw [PL.denAt]
      refine ⟨⟨y, by simpa using hc 0 y rfl, h1⟩, denAt_of h2 fun j v hv => ?_⟩
      have := hc (j + 1) v (by simpa using hv)
      rwa [show off + (j + 1) = off + 1 + j from by omega] at this

theorem denRows_of {ro : Ro} {blk sz : Nat} : ∀ {rows : List (List PL)} {off : Nat}, (∀ r ∈ rows, r.length = sz) → (∀ i r, rows[i]? = some r → PL.denAt ro blk r (off + i * sz)) → PL.denRows ro blk sz rows off
  | [], _, _, _ => by rw [PL.denRows]; trivial
  | r :: rs, off, hl, h => by
    rw [PL.denRows]
    refine ⟨hl r (by simp), by simpa using h 0 r rfl, denRows_of (fun r hr => hl r (by simp [hr])) fun i r' hr => ?_⟩
    have := h (i + 1) r' (by simpa using hr)
    rwa [show off + (i + 1) * sz = off + sz + i * sz from by rw [Nat.add_mul]; omega] at this

theorem all2_flatten {ro : Ro} : ∀ {ps : List (List PL)} {vs : List (List Value)}, All2 (fun p v => All2 (PL.den ro) p v) ps vs → All2 (PL.den ro) ps.flatten vs.flatten
  | _, _, .nil => .nil
  | _, _, .cons h1 h2 => by simpa using h1.append (all2_flatten h2)

theorem choose_list {α β : Type} {p : α → β → Prop} : ∀ (l : List α), (∀ x ∈ l, ∃ y, p x y) → ∃ ys : List β, All2 p l ys
  | [], _ => ⟨[], .nil⟩
  | x :: r, h => by
    obtain ⟨y, hy⟩ := h x (by simp)
    obtain ⟨ys, hys⟩ := choose_list r fun z hz => h z (by simp [hz])
    exact ⟨y :: ys, .cons hy hys⟩

theorem All2.flip {α β : Type} {R : α → β → Prop} : ∀ {l : List α} {m : List β}, All2 R l m → All2 (fun b a => R a b) m l
  | _, _, .nil => .nil
  | _, _, .cons h1 h2 => .cons h1 h2.flip

theorem chunk_flatten {α : Type} (sz : Nat) : ∀ (m : Nat) (cs : List α), cs.length = m * sz → ((List.range m).map fun i => (cs.drop (i * sz)).take sz).flatten = cs
  | 0, cs, h => by simp at h; simp [h]
  | m + 1, cs, h => by
    rw [List.range_succ_eq_map, List.map_cons, List.flatten_cons, List.map_map]
    have h2 : (cs.drop sz).length = m * sz := by rw [List.length_drop, h, Nat.add_mul]; omega
    have ih := chunk_flatten sz m (cs.drop sz) h2
    have e : (List.range m).map ((fun i => (cs.drop (i * sz)).take sz) ∘ Nat.succ) = (List.range m).map fun i => ((cs.drop sz).drop (i * sz)).take sz := by
      refine List.map_congr_left fun i _ => ?_
      simp only [Function.comp_def, List.drop_drop]
      congr 2
      rw [Nat.succ_mul]; omega
    rw [e, ih]; simp

theorem tile_split {n : Nat} (cs : List Value) (hl : cs.length = n) : ∀ (fs : List Field) (off : Nat), tileFs P fs off n = true → (fs.map fun f => (cs.drop f.offset).take (P.cellsOf f.type)).flatten = cs.drop off
  | [], off, h => by
    simp only [tileFs, beq_iff_eq] at h
    subst h; subst hl; simp
  | f :: fs, off, h => by
    simp only [tileFs, Bool.and_eq_true, beq_iff_eq] at h
    obtain ⟨h1, h2⟩ := h
    rw [List.map_cons, List.flatten_cons, tile_split cs hl fs _ h2, h1, ← List.drop_drop, List.take_append_drop]

theorem take_len {α : Type} {cs : List α} {a b : Nat} (h : a + b ≤ cs.length) : ((cs.drop a).take b).length = b := by simp; omega

theorem tile_le {n : Nat} : ∀ (fs : List Field) (off : Nat), tileFs P fs off n = true → ∀ f ∈ fs, f.offset + P.cellsOf f.type ≤ n
  | [], _, _, f, hf => by cases hf
  | g :: fs, off, h, f, hf => by
    simp only [tileFs, Bool.and_eq_true, beq_iff_eq] at h
    have hge : ∀ (fs : List Field) (off : Nat), tileFs P fs off n = true → off ≤ n := by
      intro fs
      induction fs with
      | nil => intro off h; simp only [tileFs, beq_iff_eq] at h; omega
      | cons g fs ih => intro off h; simp only [tileFs, Bool.and_eq_true, beq_iff_eq] at h; have := ih _ h.2; omega
    rcases List.mem_cons.mp hf with rfl | hf
    · have := hge _ _ h.2; omega
    · exact tile_le fs _ h.2 f hf

theorem All2.map_r {α β γ : Type} {R : α → γ → Prop} {f : β → γ} : ∀ {l : List α} {m : List β}, All2 (fun a b => R a (f b)) l m → All2 R l (m.map f)
  | _, _, .nil => .nil
  | _, _, .cons h1 h2 => .cons h1 h2.map_r

theorem open_any {G : Nat → TypeId → Bool} (hsp : ∀ (n : Nat) (t : TypeId) (m : Nat) (cs : List Value) (y : DataW H × List MemPlace), DataW.trod enc P w base spare held n t cs = some y → G m t = true → ∀ v ∈ cs, spotOk v) : ∀ (n : Nat) (t : TypeId) (m : Nat) (cs : List Value) (y : DataW H × List MemPlace), DataW.trod enc P w base spare held n t cs = some y → known P G m t = true → (∀ v ∈ cs, spotOk v) →
    ∃ xs, Sh P m t xs ∧ xs.length = cs.length ∧ All2 (PL.den (Va.reads w).ro) xs cs := by
  intro n
  induction n with
  | zero => intro t m cs y h; simp [DataW.trod] at h
  | succ n ih =>
    intro t m cs y h hk hv
    cases m with
    | zero => simp [known] at hk
    | succ m =>
      have hk0 := hk
      unfold known at hk
      split at hk <;> try (cases hk; done)
      · rename_i ht
        obtain ⟨b, rfl, _⟩ := DataW.trod_bool ht h
        exact ⟨[.b b], by unfold Sh; rw [ht]; exact ⟨b, rfl⟩, rfl, .cons (by rw [PL.den]) .nil⟩
      · rename_i ht
        obtain ⟨k, rfl, _, hwf⟩ := DataW.trod_int ht h
        simp only [Lit.wf, IntKind.min, IntKind.max, IntKind.signed, IntKind.bits, Bool.and_eq_true, decide_eq_true_eq, if_true] at hwf
        exact ⟨[.i k], by unfold Sh; rw [ht]; exact ⟨k, rfl, by omega, by omega⟩, rfl, .cons (by rw [PL.den]) .nil⟩
      · rename_i ht
        obtain ⟨k, rfl, _, hwf⟩ := DataW.trod_int ht h
        simp only [Lit.wf, IntKind.min, IntKind.max, IntKind.signed, IntKind.bits, Bool.and_eq_true, decide_eq_true_eq] at hwf
        exact ⟨[.u8 (UInt8.ofNat k.toNat)], by unfold Sh; rw [ht]; exact ⟨_, rfl⟩, rfl, .cons (by rw [PL.den]; congr 1; simp at hwf ⊢; omega) .nil⟩
      · rename_i ht
        obtain ⟨k, rfl, _, hwf⟩ := DataW.trod_int ht h
        simp only [Lit.wf, IntKind.min, IntKind.max, IntKind.signed, IntKind.bits, Bool.and_eq_true, decide_eq_true_eq] at hwf
        exact ⟨[.u32 (UInt32.ofNat k.toNat)], by unfold Sh; rw [ht]; exact ⟨_, rfl⟩, rfl, .cons (by rw [PL.den]; congr 1; simp at hwf ⊢; omega) .nil⟩
      · rename_i ht
        obtain ⟨k, rfl, _, hwf⟩ := DataW.trod_int ht h
        simp only [Lit.wf, IntKind.min, IntKind.max, IntKind.signed, IntKind.bits, Bool.and_eq_true, decide_eq_true_eq] at hwf
        exact ⟨[.u64 (UInt64.ofNat k.toNat)], by unfold Sh; rw [ht]; exact ⟨_, rfl⟩, rfl, .cons (by rw [PL.den]; congr 1; simp at hwf ⊢; omega) .nil⟩
      · rename_i ht
        obtain ⟨s, rfl, _, hs⟩ := DataW.trod_string ht h
        have hl : s.data.toList.length = s.size := Array.length_toList
        exact ⟨[.str s.data.toList], by unfold Sh; rw [ht]; exact ⟨_, rfl, by omega⟩, rfl, .cons (by rw [PL.den]; exact ⟨by simp, by omega⟩) .nil⟩
      · rename_i e ht
        simp only [Bool.and_eq_true, beq_iff_eq] at hk
        rcases DataW.trod_slice ht h with ⟨rfl, _⟩ | ⟨a, len, cap, elems, rest, n', hn, rfl, _, hb, hl, hm, hel, hi, _⟩
        · exact ⟨[.R false (P.cellsOf e) []], by unfold Sh; rw [ht]; exact ⟨[], rfl, fun r hr => (by cases hr), Nat.zero_le _⟩, rfl, .cons (by rw [PL.den]; exact .inl ⟨rfl, rfl⟩) .nil⟩
        · cases hn
          have hsa := hv _ (by simp) a len cap rfl
          obtain ⟨blk, off, sp⟩ := a
          simp only at hsa; subst hsa
          have each : ∀ i ∈ List.range len, ∃ r : List PL, Sh P m e r ∧ r.length = P.cellsOf e ∧ PL.denAt (Va.reads w).ro blk r (off + i * P.cellsOf e) := by
            intro i hi'
            have hlt : i < len := by simpa using hi'
            have h1 := hi i hlt
            have : i < elems.length := by omega
            rw [List.getElem?_eq_getElem this] at h1
            obtain ⟨cs', hc, ht'⟩ := Option.bind_eq_some_iff.mp h1
            obtain ⟨_, hcl, hcc⟩ := World.cells?_some hc
            have hcell : ∀ j v, cs'[j]? = some v → w.cell? ⟨blk, off + i * P.cellsOf e + j, none⟩ = some v := by
              intro j v hj
              have hj' : j < P.cellsOf e := by
                have := (List.getElem?_eq_some_iff.mp hj).1; omega
              have := hcc j hj'
              rw [hj] at this
              rw [← this]
              congr 1
              rw [addr_add, addr_add]
            obtain ⟨xs, hx1, hx2, hx3⟩ := ih e m cs' _ ht' hk.2.2 (hsp _ e m cs' _ ht' hk.2.1)
            exact ⟨xs, hx1, by omega, denAt_of hx3 fun j v hj => hcell j v hj⟩
          obtain ⟨rows, hrows⟩ := choose_list _ each
          have hlen : rows.length = len := by have := hrows.length; simpa using this.symm
          have hget : ∀ i r, rows[i]? = some r → Sh P m e r ∧ r.length = P.cellsOf e ∧ PL.denAt (Va.reads w).ro blk r (off + i * P.cellsOf e) := by
            intro i r hr
            obtain ⟨j, hj, hp⟩ := hrows.flip.get hr
            have hil : i < len := by
              have := (List.getElem?_eq_some_iff.mp hr).1; omega
            rw [List.getElem?_range hil] at hj
            cases hj; exact hp
          refine ⟨[.R false (P.cellsOf e) rows], ?_, rfl, .cons ?_ .nil⟩
          · unfold Sh; rw [ht]
            refine ⟨rows, rfl, fun r hr => ?_, by omega⟩
            obtain ⟨i, hi'⟩ := List.mem_iff_getElem?.mp hr
            exact ⟨(hget i r hi').1, (hget i r hi').2.1⟩
          · rw [PL.den]
            refine .inr (.inl ⟨blk, off, cap, by rw [hlen], by omega, hm, fun h => (by cases h), denRows_of (fun r hr => ?_) fun i r hr => (hget i r hr).2.2⟩)
            obtain ⟨i, hi'⟩ := List.mem_iff_getElem?.mp hr
            exact (hget i r hi').2.1
      · rename_i fs ht
        simp only [Bool.and_eq_true, List.all_eq_true] at hk
        obtain ⟨xs, n', hn, _, hl, hxs, hf⟩ := DataW.trod_struct ht h
        cases hn
        have each : ∀ f ∈ fs.toList, ∃ r : List PL, (Sh P m f.type r ∧ r.length = P.cellsOf f.type) ∧ All2 (PL.den (Va.reads w).ro) r ((cs.drop f.offset).take (P.cellsOf f.type)) := by
          intro f hf'
          obtain ⟨i, hi⟩ := List.mem_iff_getElem?.mp hf'
          rw [Array.getElem?_toList] at hi
          have h1 := hf i f hi
          have hi2 : i < xs.length := by rw [hxs]; exact (Array.getElem?_eq_some_iff.mp hi).1
          rw [List.getElem?_eq_getElem hi2] at h1
          obtain ⟨ys, hy1, hy2, hy3⟩ := ih f.type m _ _ h1 (hk.2 f hf') (fun v hv' => hv v (List.mem_of_mem_drop (List.mem_of_mem_take hv')))
          have hle := tile_le _ _ hk.1 f hf'
          exact ⟨ys, ⟨hy1, by rw [hy2, take_len (by omega)]⟩, hy3⟩
        obtain ⟨ps, hps⟩ := choose_list _ each
        have hfl := tile_split cs hl fs.toList 0 hk.1
        rw [List.drop_zero] at hfl
        have hall : All2 (PL.den (Va.reads w).ro) ps.flatten cs := by
          rw [← hfl]
          refine all2_flatten (All2.map_r ?_)
          exact hps.flip.mono fun p f _ h => h.2
        exact ⟨ps.flatten, by unfold Sh; rw [ht]; exact ⟨ps, rfl, hps.mono fun f p _ h => h.1⟩, hall.length, hall⟩
      · rename_i k e ht
        simp only [Bool.and_eq_true, beq_iff_eq] at hk
        obtain ⟨n', hn, hl, hi⟩ := trod_array ht h
        cases hn
        have each : ∀ i ∈ List.range k, ∃ r : List PL, (Sh P m e r ∧ r.length = P.cellsOf e) ∧ All2 (PL.den (Va.reads w).ro) r ((cs.drop (i * P.cellsOf e)).take (P.cellsOf e)) := by
          intro i hi'
          have hlt : i < k := by simpa using hi'
          obtain ⟨y', hy'⟩ := hi i hlt
          obtain ⟨ys, hy1, hy2, hy3⟩ := ih e m _ _ hy' hk.2 (fun v hv' => hv v (List.mem_of_mem_drop (List.mem_of_mem_take hv')))
          have hle : i * P.cellsOf e + P.cellsOf e ≤ cs.length := by
            rw [hl, hk.1]
            have : (i + 1) * P.cellsOf e ≤ k * P.cellsOf e := Nat.mul_le_mul_right _ hlt
            rw [Nat.add_mul] at this; omega
          exact ⟨ys, ⟨hy1, by rw [hy2, take_len hle]⟩, hy3⟩
        obtain ⟨ps, hps⟩ := choose_list _ each
        have hfl := chunk_flatten (P.cellsOf e) k cs (by rw [hl, hk.1])
        have hall : All2 (PL.den (Va.reads w).ro) ps.flatten cs := by
          rw [← hfl]
          refine all2_flatten (All2.map_r ?_)
          exact hps.flip.mono fun p f _ h => h.2
        refine ⟨ps.flatten, ?_, hall.length, hall⟩
        unfold Sh; rw [ht]
        refine ⟨ps, rfl, by have := hps.length; simpa using this.symm, fun p hp => ?_⟩
        obtain ⟨i, hi'⟩ := List.mem_iff_getElem?.mp hp
        obtain ⟨j, _, hj⟩ := hps.flip.get hi'
        exact hj.1
end

section
variable {P : Program}
theorem sh_bool {n : Nat} {t : TypeId} {cs : List PL} (h : Sh P n t cs) (ht : P.underlying t = some .bool) : ∃ b, cs = [.b b] := by
  cases n with
  | zero => exact h.elim
  | succ n => unfold Sh at h; rw [ht] at h; exact h
theorem sh_i64 {n : Nat} {t : TypeId} {cs : List PL} (h : Sh P n t cs) (ht : P.underlying t = some (.int .i64)) : ∃ k : Int, cs = [.i k] ∧ -9223372036854775808 ≤ k ∧ k ≤ 9223372036854775807 := by
  cases n with
  | zero => exact h.elim
  | succ n => unfold Sh at h; rw [ht] at h; exact h
theorem sh_u64 {n : Nat} {t : TypeId} {cs : List PL} (h : Sh P n t cs) (ht : P.underlying t = some (.int .u64)) : ∃ x, cs = [.u64 x] := by
  cases n with
  | zero => exact h.elim
  | succ n => unfold Sh at h; rw [ht] at h; exact h
theorem sh_u32 {n : Nat} {t : TypeId} {cs : List PL} (h : Sh P n t cs) (ht : P.underlying t = some (.int .u32)) : ∃ x, cs = [.u32 x] := by
  cases n with
  | zero => exact h.elim
  | succ n => unfold Sh at h; rw [ht] at h; exact h
theorem sh_u8 {n : Nat} {t : TypeId} {cs : List PL} (h : Sh P n t cs) (ht : P.underlying t = some (.int .u8)) : ∃ x, cs = [.u8 x] := by
  cases n with
  | zero => exact h.elim
  | succ n => unfold Sh at h; rw [ht] at h; exact h
theorem sh_str {n : Nat} {t : TypeId} {cs : List PL} (h : Sh P n t cs) (ht : P.underlying t = some .string) : ∃ s, cs = [.str s] ∧ s.length ≤ maxLen := by
  cases n with
  | zero => exact h.elim
  | succ n => unfold Sh at h; rw [ht] at h; exact h
theorem sh_slice {n : Nat} {t e : TypeId} {cs : List PL} (h : Sh P n t cs) (ht : P.underlying t = some (.slice e)) : ∃ (rows : List (List PL)) (m : Nat), cs = [.R false (P.cellsOf e) rows] ∧ (∀ r ∈ rows, Sh P m e r) ∧ rows.length ≤ maxLen := by
  cases n with
  | zero => exact h.elim
  | succ n => unfold Sh at h; rw [ht] at h; obtain ⟨rows, h1, h2, h3⟩ := h; exact ⟨rows, n, h1, fun r hr => (h2 r hr).1, h3⟩
theorem sh_struct {n : Nat} {t : TypeId} {fs : Array Field} {cs : List PL} (h : Sh P n t cs) (ht : P.underlying t = some (.struct fs)) : ∃ (ps : List (List PL)) (m : Nat), cs = ps.flatten ∧ All2 (fun (f : Field) p => Sh P m f.type p) fs.toList ps := by
  cases n with
  | zero => exact h.elim
  | succ n => unfold Sh at h; rw [ht] at h; obtain ⟨ps, h1, h2⟩ := h; exact ⟨ps, n, h1, h2.mono fun f p _ h => h.1⟩
theorem sh_array {n k : Nat} {t e : TypeId} {cs : List PL} (h : Sh P n t cs) (ht : P.underlying t = some (.array k e)) : ∃ (ps : List (List PL)) (m : Nat), cs = ps.flatten ∧ ps.length = k ∧ ∀ p ∈ ps, Sh P m e p := by
  cases n with
  | zero => exact h.elim
  | succ n => unfold Sh at h; rw [ht] at h; obtain ⟨ps, h1, h2, h3⟩ := h; exact ⟨ps, n, h1, h2, fun p hp => (h3 p hp).1⟩
theorem flat_bytes {m : Nat} {e : TypeId} (he : P.underlying e = some (.int .u8)) : ∀ {ps : List (List PL)}, (∀ p ∈ ps, Sh P m e p) → ∃ l : List UInt8, l.length = ps.length ∧ ps = l.map fun x => [.u8 x]
  | [], _ => ⟨[], rfl, rfl⟩
  | p :: r, h => by
    obtain ⟨x, hx⟩ := sh_u8 (h p (by simp)) he
    obtain ⟨l, h1, h2⟩ := flat_bytes he (ps := r) fun q hq => h q (by simp [hq])
    exact ⟨x :: l, by simp [h1], by simp [hx, ← h2]⟩
theorem flatten_sing {α : Type} {f : α → PL} : ∀ l : List α, (l.map fun x => [f x]).flatten = l.map f
  | [] => rfl
  | x :: r => by simp [flatten_sing r]
theorem sh_bytes {n k : Nat} {t e : TypeId} {cs : List PL} (h : Sh P n t cs) (ht : P.underlying t = some (.array k e)) (he : P.underlying e = some (.int .u8)) : ∃ l : List UInt8, l.length = k ∧ cs = l.map .u8 := by
  obtain ⟨ps, m, rfl, hl, hp⟩ := sh_array h ht
  obtain ⟨l, h1, rfl⟩ := flat_bytes he hp
  exact ⟨l, by omega, flatten_sing l⟩
theorem sh_byteSlice {n : Nat} {t e : TypeId} {cs : List PL} (h : Sh P n t cs) (ht : P.underlying t = some (.slice e)) (he : P.underlying e = some (.int .u8)) (hc : P.cellsOf e = 1) : ∃ l : List UInt8, cs = [.R false 1 (byteRows l)] ∧ l.length ≤ maxLen := by
  obtain ⟨rows, m, rfl, hp, hm⟩ := sh_slice h ht
  obtain ⟨l, h1, rfl⟩ := flat_bytes he hp
  exact ⟨l, by rw [hc]; rfl, by simpa using hm⟩
theorem den_pls {d : Va} : ∀ {xs : List PL} {vs : List Value}, All2 (PL.den d.ro) xs vs → All2 (L.den d) (pls xs) vs
  | _, _, .nil => .nil
  | _, _, .cons h1 h2 => .cons h1 (den_pls h2)
end

section
variable {H : Type} {enc : TypeId × Value → H} {P : Program} {w : World} {base : Nat} {spare : Nat → Bool} {held : Bool}
def flat0 (P : Program) : Nat → TypeId → Bool
  | 0, _ => false
  | n + 1, t => match P.underlying t with
    | some .bool | some (.int _) | some .string => true
    | some (.struct fs) => tileFs P fs.toList 0 (P.cellsOf t) && fs.toList.all fun f => flat0 P n f.type
    | some (.array m e) => P.cellsOf t == m * P.cellsOf e && flat0 P n e
    | _ => false

theorem trod_flat : ∀ (n : Nat) (t : TypeId) (m : Nat) (cs : List Value) (y : DataW H × List MemPlace), DataW.trod enc P w base spare held n t cs = some y → flat0 P m t = true → ∀ v ∈ cs, spotOk v := by
  intro n
  induction n with
  | zero => intro t m cs y h; simp [DataW.trod] at h
  | succ n ih =>
    intro t m cs y h hk
    cases m with
    | zero => simp [flat0] at hk
    | succ m =>
      unfold flat0 at hk
      split at hk <;> try (cases hk; done)
      · rename_i ht
        obtain ⟨b, rfl, _⟩ := DataW.trod_bool ht h
        intro v hv a len cap e; simp at hv; subst hv; cases e
      · rename_i k ht
        obtain ⟨b, rfl, _⟩ := DataW.trod_int ht h
        intro v hv a len cap e; simp at hv; subst hv; cases e
      · rename_i ht
        obtain ⟨b, rfl, _⟩ := DataW.trod_string ht h
        intro v hv a len cap e; simp at hv; subst hv; cases e
      · rename_i fs ht
        simp only [Bool.and_eq_true, List.all_eq_true] at hk
        obtain ⟨xs, n', hn, _, hl, hxs, hf⟩ := DataW.trod_struct ht h
        cases hn
        have hfl := tile_split cs hl fs.toList 0 hk.1
        rw [List.drop_zero] at hfl
        intro v hv
        rw [← hfl] at hv
        obtain ⟨p, hp, hv⟩ := List.mem_flatten.mp hv
        obtain ⟨f, hf', rfl⟩ := List.mem_map.mp hp
        obtain ⟨i, hi⟩ := List.mem_iff_getElem?.mp hf'
        rw [Array.getElem?_toList] at hi
        have h1 := hf i f hi
        have hi2 : i < xs.length := by rw [hxs]; exact (Array.getElem?_eq_some_iff.mp hi).1
        rw [List.getElem?_eq_getElem hi2] at h1
        exact ih f.type m _ _ h1 (hk.2 f hf') v hv
      · rename_i k e ht
        simp only [Bool.and_eq_true, beq_iff_eq] at hk
        obtain ⟨n', hn, hl, hi⟩ := trod_array ht h
        cases hn
        have hfl := chunk_flatten (P.cellsOf e) k cs (by rw [hl, hk.1])
        intro v hv
        rw [← hfl] at hv
        obtain ⟨p, hp, hv⟩ := List.mem_flatten.mp hv
        obtain ⟨i, hi', rfl⟩ := List.mem_map.mp hp
        obtain ⟨y', hy'⟩ := hi i (by simpa using hi')
        exact ih e m _ _ hy' hk.2 v hv

theorem open_arg {sz : Nat} {t : TypeId} {v : Value} {d : DataW H} {p : List MemPlace} {b0 : Nat} (m : Nat) (hv : Value.okWide P w .any b0 t v) (hk : known P (flat0 P) m t = true) (hs : P.cellsOf t = sz) (hts : (match P.underlying t with
      | some (.struct _) | some (.array _ _) => (match P.cellTypes P.depth t with
        | some ts => ts.length == sz && sz != 0 && ts.all fun u => match P.underlying u with
          | some (.slice _) | some .bool | some (.int _) | some .string => true
          | _ => false
        | none => false)
      | some (.slice _) | some .bool | some (.int _) | some .string => true
      | _ => false) = true) (h : DataW.Trod enc P w base spare held t v d p) :
    ∃ xs : List PL, Sh P m t xs ∧ (V.w (match P.underlying t with
      | some (.struct _) | some (.array _ _) => .agg (pls xs)
      | _ => .one (.pl (xs.headD .u)))).den (Va.reads w) v := by
  obtain ⟨fuel, hf⟩ := h
  have hcell : ∀ (u : TypeId) (c : Value), Cell.okWide P w .any b0 u c → (match P.underlying u with
          | some (.slice _) | some .bool | some (.int _) | some .string => true
          | _ => false) = true → spotOk c := by
    intro u c hc hu a len cap e
    subst e
    unfold Cell.okWide at hc
    cases hund : P.underlying u with
    | none => rw [hund] at hu; cases hu
    | some d =>
      rw [hund] at hc hu
      cases d <;> first
        | (cases hu; done)
        | (simp only [Cell.ok, hund] at hc; done)
        | (simp only [Cell.ok, hund] at hc; exact hc.2.2.2.1)
  have hspot : ∀ c ∈ v.cells.toList, spotOk c := by
    unfold Value.okWide at hv
    split at hv
    · rename_i fs ht
      obtain ⟨cs, rfl, hcs, ts, hct, _, hcc⟩ := hv
      rw [ht, hct] at hts
      simp only [Bool.and_eq_true, beq_iff_eq, List.all_eq_true] at hts
      intro c hc
      obtain ⟨i, hi⟩ := List.mem_iff_getElem?.mp hc
      have hi' : cs[i]? = some c := by rw [← Array.getElem?_toList]; exact hi
      obtain ⟨u, hu, hok⟩ := hcc i c hi'
      exact hcell u c hok (hts.2 u (List.mem_of_getElem? hu))
    · rename_i k e ht
      obtain ⟨cs, rfl, hcs, ts, hct, _, hcc⟩ := hv
      rw [ht, hct] at hts
      simp only [Bool.and_eq_true, beq_iff_eq, List.all_eq_true] at hts
      intro c hc
      obtain ⟨i, hi⟩ := List.mem_iff_getElem?.mp hc
      have hi' : cs[i]? = some c := by rw [← Array.getElem?_toList]; exact hi
      obtain ⟨u, hu, hok⟩ := hcc i c hi'
      exact hcell u c hok (hts.2 u (List.mem_of_getElem? hu))
    · rename_i hn1 hn2
      have hq : (match P.underlying t with
          | some (.slice _) | some .bool | some (.int _) | some .string => true
          | _ => false) = true := by
        split at hts
        · rename_i fs ht; exact absurd ht (hn1 fs)
        · rename_i k e ht; exact absurd ht (hn2 k e)
        all_goals simp_all
      intro c hc
      have hone : v.cells = #[v] := by
        cases v <;> first | rfl | (exfalso; unfold Cell.okWide at hv; cases hu : P.underlying t with
          | none => rw [hu] at hq; cases hq
          | some d => rw [hu] at hv hq; cases d <;> first | (cases hq; done) | (simp [Cell.ok, hu] at hv))
      rw [hone] at hc
      simp at hc; subst hc
      exact hcell t c hv hq
  obtain ⟨xs, h1, h2, h3⟩ := open_any (fun n t m cs y h1 h2 => trod_flat n t m cs y h1 h2) fuel t m _ _ hf hk hspot
  refine ⟨xs, h1, ?_⟩
  have hd := den_pls (d := Va.reads w) h3
  unfold Value.okWide at hv
  split at hv
  · rename_i fs ht
    obtain ⟨cs, rfl, _⟩ := hv
    rw [ht]
    exact ⟨cs, rfl, hd⟩
  · rename_i k e ht
    obtain ⟨cs, rfl, _⟩ := hv
    rw [ht]
    exact ⟨cs, rfl, hd⟩
  · rename_i hn1 hn2
    have hq : (match P.underlying t with
          | some (.slice _) | some .bool | some (.int _) | some .string => true
          | _ => false) = true := by
      split at hts
      · rename_i fs ht; exact absurd ht (hn1 fs)
      · rename_i k e ht; exact absurd ht (hn2 k e)
      all_goals simp_all
    have hone : v.cells = #[v] := by
      cases v <;> first | rfl | (exfalso; unfold Cell.okWide at hv; cases hu : P.underlying t with
          | none => rw [hu] at hq; cases hq
          | some d => rw [hu] at hv hq; cases d <;> first | (cases hq; done) | (simp [Cell.ok, hu] at hv))
    rw [hone] at hd
    have : ∃ x, xs = [x] ∧ L.den (Va.reads w) (.pl x) v := by
      cases xs with
      | nil => cases hd
      | cons x r =>
        cases hd with
        | cons g1 g2 =>
          cases r with
          | nil => exact ⟨x, rfl, g1⟩
          | cons _ _ => cases g2
    obtain ⟨x, rfl, hx⟩ := this
    split
    · rename_i fs ht; exact absurd ht (hn1 fs)
    · rename_i k e ht; exact absurd ht (hn2 k e)
    · exact hx
end
end Go.Sy
namespace Go.Sy

def sealL (k : Nat) (c : List PL) : L → L
  | .pl x => .pl x
  | .p j path => if j = k then .pl (.q c path) else .p j path
  | .s j path len sz => if j = k then if pok c.length path ∧ psz c.length path = len * sz then .pl (.R false sz (chunks sz len (rd c path))) else .pl .u else .s j path len sz
  | .fn f caps => if caps.any (fun j => j == k) = true then .pl .u else .fn f caps
def sealW (k : Nat) (c : List PL) : W → W
  | .one l => .one (sealL k c l)
  | .agg cs => .agg (cs.map (sealL k c))
def sealV (k : Nat) (c : List PL) : V → V
  | .w x => .w (sealW k c x)
  | .tup xs => .tup (xs.map (sealW k c))
  | .any => .any
def sealE (k : Nat) (c : List PL) : List (Nat × V) → List (Nat × V)
  | [] => []
  | x :: r => (x.1, sealV k c x.2) :: sealE k c r
def sealM (k : Nat) (c : List PL) : List (Nat × Ob) → List (Nat × Ob)
  | [] => []
  | x :: r => if x.1 = k then sealM k c r else (x.1, if x.1 < 1000000 then ⟨x.2.row, x.2.cells.map (sealL k c)⟩ else x.2) :: sealM k c r
def St.laid (k : Nat) (c : List PL) (S : St) : St := ⟨sealE k c S.env, sealM k c S.mem⟩

theorem look_sealE {k : Nat} {c : List PL} : ∀ {l : List (Nat × V)} {n : Nat}, look (sealE k c l) n = (look l n).map (sealV k c)
  | [], n => rfl
  | x :: r, n => by
    simp only [sealE, look]
    split
    · rfl
    · exact look_sealE
theorem look_sealM {k : Nat} {c : List PL} : ∀ {l : List (Nat × Ob)} {n : Nat}, look (sealM k c l) n = if n = k then none else (look l n).map fun o => if n < 1000000 then ⟨o.row, o.cells.map (sealL k c)⟩ else o
  | [], n => by simp [sealM, look]
  | x :: r, n => by
    simp only [sealM]
    split
    · rename_i e
      rw [look_sealM]
      simp only [look]
      by_cases hn : n = k
      · rw [if_pos hn, if_pos hn]
      · rw [if_neg hn, if_neg hn, if_neg (fun h => hn (h.trans e))]
    · rename_i e
      simp only [look]
      by_cases hx : n = x.1
      · subst hx; rw [if_pos rfl, if_neg e, if_pos rfl]; rfl
      · rw [if_neg hx, if_neg hx, look_sealM]

def Va.seals (d : Va) (k : Nat) (w : World) : Va := ⟨d.at_, d.size, fun b o => if b = d.at_ k then w.cell? ⟨b, o, none⟩ else d.ro b o⟩

section
variable {B : Base} {d : Va} {S : St} {a : Act} {w : World} {k : Nat} {o : Ob} {c : List PL}

theorem seal_mono (h : Sim B d S a w) (hk : look S.mem k = some o) (hkl : k < gl0) : ∀ b o y, d.ro b o = some y → (d.seals k w).ro b o = some y := fun b o' y hy => by
  simp only [Va.seals]
  split
  · rename_i e; rw [e, (h.own k (by rw [hk]; rfl) hkl).1] at hy; cases hy
  · exact hy

theorem sealL_den (h : Sim B d S a w) (hk : look S.mem k = some o) (hc : o.cells = pls c) (hkl : k < gl0) {l : L} {y : Value} (hd : l.den d y) : (sealL k c l).den (d.seals k w) y := by
  have hro := seal_mono h hk hkl
  have hb : ∀ o' y, w.cell? ⟨d.at_ k, o', none⟩ = some y → (d.seals k w).ro (d.at_ k) o' = some y := fun o' y hy => by simp only [Va.seals, if_true]; exact hy
  have hl : o.cells.length = c.length := by rw [hc, length_pls]
  cases l with
  | pl x => exact PL.den_mono hro hd
  | p j path =>
    simp only [sealL]
    split
    · rename_i e; subst e
      simp only [L.den] at hd
      rw [L.den, PL.den]
      obtain ⟨vals, hv, hcell, _⟩ := h.readObj (path := []) hk trivial
      simp only [rd, hc, poff] at hv hcell
      exact ⟨d.at_ j, 0, by rw [hd]; simp, denAt_cells' hro hb hv hcell⟩
    · exact hd
  | s j path len sz =>
    simp only [sealL]
    split
    · rename_i e; subst e
      split
      · rename_i hp
        obtain ⟨hp, hps⟩ := hp
        obtain ⟨vals, hv, hcell, _⟩ := h.readObj (path := path) hk (by rw [hl]; exact hp)
        have hcl := length_rd c hp
        have e2 : rd o.cells path = pls (rd c path) := by rw [hc]; unfold pls; rw [rd_map]
        rw [e2] at hv
        obtain ⟨oo, cap, rfl, hlc, hcm, ho, _⟩ := hd
        rw [L.den, PL.den]
        right; left
        rw [hps] at hcl
        refine ⟨d.at_ j, oo, cap, by rw [length_chunks], by rw [length_chunks]; exact hlc, hcm, fun e => (by cases e), ?_⟩
        refine denRows_chunks ?_ hcl
        rcases ho with ho | rfl
        · have hlen : len = 0 := by omega
          rw [hlen, Nat.zero_mul] at hcl
          have := List.eq_nil_of_length_eq_zero hcl
          rw [this]; rw [PL.denAt]; trivial
        · exact denAt_cells' hro hb hv hcell
      · have hs := L.den_scalar hd
        rw [L.den, PL.den]; exact hs
    · exact hd
  | fn f caps =>
    simp only [sealL]
    split
    · have hs := L.den_scalar hd
      rw [L.den, PL.den]; exact hs
    · exact hd

theorem sealL_all (h : Sim B d S a w) (hk : look S.mem k = some o) (hc : o.cells = pls c) (hkl : k < gl0) {cs : List L} {vs : List Value} (hd : All2 (L.den d) cs vs) : All2 (L.den (d.seals k w)) (cs.map (sealL k c)) vs :=
  All2.map_left (hd.mono fun x y _ hr => sealL_den h hk hc hkl hr)

theorem sealW_den (h : Sim B d S a w) (hk : look S.mem k = some o) (hc : o.cells = pls c) (hkl : k < gl0) {x : W} {y : Value} (hd : x.den d y) : (sealW k c x).den (d.seals k w) y := by
  cases x with
  | one l => exact sealL_den h hk hc hkl hd
  | agg cs => obtain ⟨vs, rfl, hv⟩ := hd; exact ⟨vs, rfl, sealL_all h hk hc hkl hv⟩

theorem sealV_den (h : Sim B d S a w) (hk : look S.mem k = some o) (hc : o.cells = pls c) (hkl : k < gl0) {x : V} {y : Value} (hd : x.den d y) : (sealV k c x).den (d.seals k w) y := by
  cases x with
  | w x => exact sealW_den h hk hc hkl hd
  | tup xs => obtain ⟨vs, rfl, hv⟩ := hd; exact ⟨vs, rfl, All2.map_left (hv.mono fun x y _ hr => sealW_den h hk hc hkl hr)⟩
  | any => trivial

theorem Sim.sealed (h : Sim B d S a w) (hk : look S.mem k = some o) (hc : o.cells = pls c) (hkp : k < px0) : Sim B (d.seals k w) (S.laid k c) a w := by
  have hkl : k < gl0 := Nat.lt_trans hkp px_gl
  have hmem : ∀ {j : Nat} {p : Ob}, look (S.laid k c).mem j = some p → j ≠ k ∧ ∃ q, look S.mem j = some q ∧ p = if j < 1000000 then ⟨q.row, q.cells.map (sealL k c)⟩ else q := fun {j p} hj => by
    simp only [St.laid, look_sealM] at hj
    split at hj
    · cases hj
    · rename_i hne
      obtain ⟨q, hq, rfl⟩ := Option.map_eq_some_iff.mp hj
      exact ⟨hne, q, hq, rfl⟩
  have hsome : ∀ {j : Nat}, (look (S.laid k c).mem j).isSome = true → (look S.mem j).isSome = true ∧ j ≠ k := fun {j} hj => by
    obtain ⟨p, hp⟩ := Option.isSome_iff_exists.mp hj
    obtain ⟨h1, q, h2, _⟩ := hmem hp
    exact ⟨by rw [h2]; rfl, h1⟩
  refine ⟨h.defers, h.nt, fun n v hv => ?_, fun j p hj hjl => ?_, fun j1 j2 h1 h2 hl1 hl2 he => h.inj j1 j2 (hsome h1).1 (hsome h2).1 hl1 hl2 he, fun j hj hjl => ?_, fun b o' y hy => ?_, fun b o' y hy hb => ?_, h.os, h.tape, h.output, h.size, h.block, h.gat, fun j p hj hjl => ?_, fun j p q hj hq hjl => ?_, h.fxn⟩
  · simp only [St.laid, look_sealE] at hv
    obtain ⟨u, hu, rfl⟩ := Option.map_eq_some_iff.mp hv
    obtain ⟨y, hy, hd⟩ := h.env n u hu
    exact ⟨y, hy, sealV_den h hk hc hkl hd⟩
  · obtain ⟨_, q, hq, rfl⟩ := hmem hj
    rw [if_pos hjl]
    obtain ⟨vals, spare, ty, fr, g1, g2, g3, g4, g5⟩ := h.mem j q hq hjl
    exact ⟨vals, spare, ty, fr, g1, g2, sealL_all h hk hc hkl g3, g4, g5⟩
  · obtain ⟨h1, h2⟩ := hsome hj
    obtain ⟨g1, g2⟩ := h.own j h1 hjl
    refine ⟨fun o' => ?_, g2⟩
    simp only [Va.seals]
    rw [if_neg (fun e => h2 (h.inj j k h1 (by rw [hk]; rfl) hjl hkl e))]; exact g1 o'
  · simp only [Va.seals] at hy
    split at hy
    · exact hy
    · exact h.ro b o' y hy
  · simp only [Va.seals] at hy
    split at hy
    · rename_i e
      rcases (h.own k (by rw [hk]; rfl) hkl).2 with g | g
      · omega
      · exact absurd g.1 (Nat.not_le_of_lt hkp)
    · exact h.old b o' y hy hb
  · obtain ⟨_, q, hq, rfl⟩ := hmem hj
    rw [if_neg (Nat.not_lt_of_le hjl)]
    obtain ⟨e1, cs, e2, e3⟩ := h.glob j q hq hjl
    exact ⟨e1, cs, e2, PL.denAt_mono (seal_mono h hk hkl) e3⟩
  · obtain ⟨_, u, hu, _⟩ := hmem hj
    exact h.fix j u q hu hq hjl
end

theorem Le.laid {B : Base} {S : St} {k : Nat} {b : Bool} (c : List PL) (hk : look S.mem k = some ⟨b, pls c⟩) (hkp : k < 500000) : Le B S (S.laid k c) := fun d a w h => ⟨d.seals k w, h.sealed hk rfl hkp⟩
theorem ht_seal {P : Program} {B : Base} {Q : Exit → St → Prop} {S : St} {x : Code} (k : Nat) {b : Bool} (c : List PL) (hk : look S.mem k = some ⟨b, pls c⟩) (hkp : k < 500000) (h : HT P B x (S.laid k c) Q) : HT P B x S Q := HT.le (Le.laid c hk hkp) h
theorem at_le {P : Program} {B : Base} {o : Oper} {S S' : St} {ds : List (Option Tmp)} {r : List Oper} {K : St → Prop} (hl : Le B S S') (h : atCall P B o S' ds r K) : atCall P B o S ds r K := fun d a w hs next Q hn => by
  obtain ⟨d', hs'⟩ := hl d a w hs
  exact h d' a w hs' next Q hn
theorem at_seal {P : Program} {B : Base} {o : Oper} {S : St} {ds : List (Option Tmp)} {r : List Oper} {K : St → Prop} (k : Nat) {b : Bool} (c : List PL) (hk : look S.mem k = some ⟨b, pls c⟩) (hkp : k < 500000) (h : atCall P B o (S.laid k c) ds r K) : atCall P B o S ds r K := at_le (Le.laid c hk hkp) h

theorem mayOf_nil (d : Va) : mayOf d [] = fun _ => False := by funext b; simp [mayOf, look]
theorem fxOf_nil (d : Va) : fxOf d [] = fun _ => none := by funext b; simp [fxOf, look]
theorem Ct.hands {P : Program} {f : FuncId} {args : List V} {R : V → List (Nat × Ob) → Prop} (h : Ct P f args R) : CtM P f args [] R := by
  intro w d vals ⟨a, hs⟩ ha
  rw [mayOf_nil, fxOf_nil]
  exact h w d vals hs.ro hs.gat ha
theorem CtM.k {P : Program} {f : FuncId} {fn : Func} {c : Code} {args : List V} {m : List (Nat × Ob)} {R : V → List (Nat × Ob) → Prop} {nt : Nat} {rs : List ResultVar} (hf : P.funcs[f]? = some fn) (hb : fn.body = some c) (hnt : fn.ntmps = nt) (hrs : fn.results.toList = rs) (hn : args.length ≤ nt)
    (h : ∀ (w0 : World) (ro : Ro) (may : Nat → Prop) (fx : Nat → Option (Nat × Nat)), HT P ⟨w0, may, nt, ro, fx⟩ c ⟨argsE 0 args, m⟩ (endQ P rs R)) : CtM P f args m R := by
  subst hnt; subst hrs
  refine CtM.of hf hb hn fun w0 ro may fx => ?_
  exact (h w0 ro may fx).mono fun e S hq => by cases e <;> exact hq
theorem CtM.mono {P : Program} {f : FuncId} {args : List V} {m : List (Nat × Ob)} {R R' : V → List (Nat × Ob) → Prop} (h : CtM P f args m R) (hr : ∀ v m, R v m → R' v m) : CtM P f args m R' := by
  intro w d vals hm hargs
  exact (h w d vals hm hargs).mono fun e w' ⟨y, v, d', m', h1, h2, h3⟩ => ⟨y, v, d', m', h1, hr _ _ h2, h3⟩
end Go.Sy
namespace Go.Sy
theorem all2_caps {d : Va} : ∀ ks : List Nat, All2 (V.den d) (ks.map fun k => .w (.one (.p k []))) (ks.map fun k => Value.pointer (some ⟨d.at_ k, 0, none⟩))
  | [] => .nil
  | k :: ks => .cons (by simp [V.den, W.den, L.den, poff]) (all2_caps ks)
open Classical in
theorem call_fn {P : Program} {B : Base} {S : St} {K : St → Prop} {dst : Option Tmp} {ty : TypeId} {pos : String} {af : Array Edge} {f : FuncId} {args : List Operand} {ts : Array TypeId} {ds : List (Option Tmp)} {r : List Oper} {vs : List V} {m : List (Nat × Ob)} {R : V → List (Nat × Ob) → Prop}
    (vw : Bool) (hd : Hand) (nm : Nat → Nat) {t : Tmp} {caps ks : List Nat} (hfn : S.get (.tmp t) = some (.w (.one (.fn f caps)))) (hcaps : capsIn hd caps = some ks) (hgo : ∀ vals w, (callFunc f vals).run P w = .ok (.enter f vals) w) (hargs : valsIn vw S hd args = some vs) (hok : hdOk hd = true) (hm : handOk S hd m) (hc : CtM P f (vs ++ ks.map fun k => .w (.one (.p k []))) m R)
    (hK : ∀ v m', R v m' → leafOutV vw m' v = true ∧ outOk vw nm hd S m m' m' ∧ hd.all (fun x => (look m' x.1).isSome) = true ∧ (match dst with
      | some n => n < B.nt ∧ runOps P B ds r ⟨(n, v.ren (outN nm hd)) :: S.env, backM nm hd m' S.mem⟩ K
      | none => runOps P B ds r ⟨S.env, backM nm hd m' S.mem⟩ K)) :
    atCall P B ⟨dst, .call ⟨.value (.tmp t), args.toArray, ts⟩, ty, pos, af, none⟩ S ds r K := by
  intro d a w h next Q hn
  have hrun : (execOp a.eval ⟨dst, .call ⟨.value (.tmp t), args.toArray, ts⟩, ty, pos, af, none⟩).run P w = .ok (.enter f (args.map a.eval ++ caps.map fun k => Value.pointer (some ⟨d.at_ k, 0, none⟩)).toArray) w := by
    have hv := h.get hfn
    have hv' : a.eval (.tmp t) = .func (.func f) #[] (caps.map fun k => Value.pointer (some ⟨d.at_ k, 0, none⟩)).toArray := hv
    simp [execOp, resolve, Deferred.ofValue, hv', invoke, hgo]
  unfold Oper.wp
  rw [hrun, Oper.upon_enter]
  obtain ⟨ro, hr, hrv, hrw, hrn⟩ : ∃ ro : Ro, RoOk S hd d w vw ro ∧ (vw = false → ro = d.ro) ∧ (∀ b o y, ro b o = some y → w.cell? ⟨b, o, none⟩ = some y) ∧ (∀ k j, look hd k = some j → (look S.mem j).isSome = true → ∀ o, ro (d.at_ j) o = none) := by
    cases vw with
    | false => exact ⟨d.ro, roFalse, fun _ => rfl, h.ro, fun k j hk hj o => (h.own j hj (hdOk_look hok hk).2.2).1 o⟩
    | true =>
      refine ⟨fun b o => if (∃ k j, look hd k = some j ∧ (look S.mem j).isSome = true ∧ d.at_ j = b) then none else w.cell? ⟨b, o, none⟩, ⟨fun b o y hy => ?_, fun _ j hj hjl hn o y hy => ?_⟩, (fun h => by cases h), fun b o y hy => ?_, fun k j hk hj o => ?_⟩
      · rw [if_neg]
        · exact h.ro b o y hy
        · rintro ⟨k, j, hk, hj, rfl⟩
          have := (h.own j hj (hdOk_look hok hk).2.2).1 o
          rw [this] at hy; cases hy
      · rw [if_neg]
        · exact hy
        · rintro ⟨k, j', hk, hj', he⟩
          have := h.inj j' j hj' hj (hdOk_look hok hk).2.2 hjl he
          subst this
          have : nameIn hd j' ≠ none := by
            have key : ∀ {hd : Hand}, look hd k = some j' → nameIn hd j' ≠ none := by
              intro hd
              induction hd with
              | nil => intro h; cases h
              | cons x r ih =>
                intro h
                simp only [nameIn]
                split
                · simp
                · rename_i hne
                  simp only [look] at h
                  split at h
                  · cases h; exact absurd rfl hne
                  · exact ih h
            exact key hk
          exact this hn
      · have hy' : (if (∃ k j, look hd k = some j ∧ (look S.mem j).isSome = true ∧ d.at_ j = b) then none else w.cell? ⟨b, o, none⟩) = some y := hy
        split at hy'
        · cases hy'
        · exact hy'
      · exact if_pos ⟨k, j, hk, hj, rfl⟩
  have hmem := hand_mem' h hr hrw hrn hok hm
  have hda := valsIn_ok h hr hok hargs
  have hcp := capsIn_ok (ro := ro) h hok hcaps
  have hda2 : All2 (V.den (d.hand hd ro)) (vs ++ ks.map fun k => .w (.one (.p k []))) (args.map a.eval ++ caps.map fun k => Value.pointer (some ⟨d.at_ k, 0, none⟩)) := by
    refine hda.append ?_
    rw [← hcp]
    exact all2_caps ks
  refine (hc w (d.hand hd ro) (args.map a.eval ++ caps.map fun k => Value.pointer (some ⟨d.at_ k, 0, none⟩)).toArray hmem hda2).mono ?_
  rintro e w' ⟨y, v, d', m', rfl, hR, hvd, a2, hs⟩
  obtain ⟨hlo, hou, hall, hk⟩ := hK v m' hR
  obtain ⟨hsim, hnm, hro⟩ := back_ok h hrv hok hm hs hall hou
  have hvd2 := leafOutV_den hro hnm hlo hvd
  cases dst with
  | none => exact hn _ _ _ _ hk hsim
  | some n => exact hn _ _ _ _ hk.2 (hsim.put hk.1 hvd2)
end Go.Sy
namespace Go.Sy
def St.dropE (ks : List Nat) (S : St) : St := ⟨fgt ks S.env, S.mem⟩
theorem ht_dropE {P : Program} {B : Base} {Q : Exit → St → Prop} {S : St} {x : Code} (ks : List Nat) (h : HT P B x (S.dropE ks) Q) : HT P B x S Q := by
  refine HT.le (fun d a w hs => ⟨d, ?_⟩) h
  exact ⟨hs.defers, hs.nt, fun n v hv => hs.env n v (look_fgt hv), hs.mem, hs.inj, hs.own, hs.ro, hs.old, hs.os, hs.tape, hs.output, hs.size, hs.block, hs.gat, hs.glob, hs.fix, hs.fxn⟩
theorem dropE_mk (ks : List Nat) (e : List (Nat × V)) (m : List (Nat × Ob)) : St.dropE ks ⟨e, m⟩ = ⟨fgt ks e, m⟩ := rfl
theorem fgt_nil {α : Type} (ks : List Nat) : fgt ks ([] : List (Nat × α)) = [] := rfl
theorem fgt_cons {α : Type} (ks : List Nat) (n : Nat) (v : α) (r : List (Nat × α)) : fgt ks ((n, v) :: r) = if ks.contains n = true then fgt ks r else (n, v) :: fgt ks r := rfl
attribute [go_sem] optCons_some optCons_none fm_cons fm_nil mut_val mut_new mut_app mut_sto ns_val ns_new ns_sto ns_app nsC td_val td_new td_sto td_app chk_nil chk_cons atD_some bytes_noU memOp gslot Eff.free noUV noUW noUL Op.operands Call.operands Nat.reduceBneDiff bne_self_eq_false Option.toArray List.append_toArray List.toList_toArray Array.append_empty Array.empty_append
end Go.Sy
namespace Go.Sy
theorem byteRows_drop (bs : List UInt8) (n : Nat) : (byteRows bs).drop n = byteRows (bs.drop n) := by simp [byteRows]
theorem byteRows_take (bs : List UInt8) (n : Nat) : (byteRows bs).take n = byteRows (bs.take n) := by simp [byteRows]
theorem byteRows_get {bs : List UInt8} {n : Nat} (h : n < bs.length) : (byteRows bs).getD n [] = [.u8 (bs.getD n 0)] := by
  simp [byteRows, List.getD_eq_getElem?_getD, List.getElem?_map, List.getElem?_eq_getElem h]
theorem byteRows_eq {bs : List UInt8} : (byteRows bs = []) = (bs = []) := by simp [byteRows]
attribute [go_sem] byteRows_drop byteRows_take byteRows_length byteRows_flatten byteRows_eq
theorem R_nil_den {ro : Ro} {ex : Bool} {sz sz' : Nat} {y : Value} (h : PL.den ro (.R ex sz []) y) : PL.den ro (.R ex sz' []) y := by
  rw [PL.den] at h ⊢; simpa only [PL.denRows] using h
theorem Ct.args {P : Program} {f : FuncId} {args args' : List V} {R : V → List (Nat × Ob) → Prop} (h : Ct P f args R) (ha : ∀ d vs, All2 (V.den d) args' vs → All2 (V.den d) args vs) : Ct P f args' R :=
  fun w d vals hro hg hv => h w d vals hro hg (ha d _ hv)
theorem Ct.nil1 {P : Program} {f : FuncId} {ex : Bool} {sz sz' : Nat} {r : List V} {R : V → List (Nat × Ob) → Prop} (h : Ct P f (.w (.one (.pl (.R ex sz []))) :: r) R) : Ct P f (.w (.one (.pl (.R ex sz' []))) :: r) R :=
  h.args fun d vs hv => by cases hv with | cons h1 h2 => exact .cons (R_nil_den h1) h2
end Go.Sy
namespace Go.Sy
def Told (R : V → List (Nat × Ob) → Prop) (v : V) (m : List (Nat × Ob)) : Prop :=
  ∃ v' m', (∀ (B : Base) d y w, B.nt = 0 → v.den d y → MemOK B d m w → ∃ d', v'.den d' y ∧ MemOK B d' m' w) ∧ R v' m'
theorem CtM.told {P : Program} {f : FuncId} {args : List V} {ms : List (Nat × Ob)} {R : V → List (Nat × Ob) → Prop} (h : CtM P f args ms (Told R)) : CtM P f args ms R := by
  intro w d vals hm hargs
  refine (h w d vals hm hargs).mono fun e w' ⟨y, v, d', m', h1, ⟨v2, m2, h2, h3⟩, h4, h5⟩ => ?_
  obtain ⟨d2, h6, h7⟩ := h2 _ d' y w' rfl h4 h5
  exact ⟨y, v2, d2, m2, h1, h3, h6, h7⟩
theorem Ct.told {P : Program} {f : FuncId} {args : List V} {R : V → List (Nat × Ob) → Prop} (h : Ct P f args (Told R)) : Ct P f args R := by
  intro w d vals hro hg hargs
  refine (h w d vals hro hg hargs).mono fun e w' ⟨y, v, d', m', h1, ⟨v2, m2, h2, h3⟩, h4, h5⟩ => ?_
  obtain ⟨d2, h6, h7⟩ := h2 _ d' y w' rfl h4 h5
  exact ⟨y, v2, d2, m2, h1, h3, h6, h7⟩
section
variable {R : V → List (Nat × Ob) → Prop} {v v' : V} {m m' : List (Nat × Ob)}
theorem told_refl (h : R v m) : Told R v m := ⟨v, m, fun _ d _ _ _ h1 h2 => ⟨d, h1, h2⟩, h⟩
theorem told_weak (hw : ∀ d y, v.den d y → v'.den d y) (h : Told R v' m) : Told R v m := by
  obtain ⟨v2, m2, h1, h2⟩ := h
  exact ⟨v2, m2, fun B d y w hb hv hm => h1 B d y w hb (hw d y hv) hm, h2⟩
theorem told_seal (k : Nat) {b : Bool} (c : List PL) (hk : look m k = some ⟨b, pls c⟩) (hl : k < 500000) (h : Told R (sealV k c v) (sealM k c m)) : Told R v m := by
  obtain ⟨v2, m2, h1, h2⟩ := h
  refine ⟨v2, m2, fun B d y w hb hv hm => ?_, h2⟩
  obtain ⟨a, hs⟩ := hm
  exact h1 B _ y w hb (sealV_den hs hk rfl (Nat.lt_trans hl px_gl) hv) ⟨a, hs.sealed hk rfl hl⟩
theorem told_tidy (h : Tidy R v m) : Told R v m := by
  obtain ⟨g, v2, m2, h1, h2, h3⟩ := h
  subst h1
  exact ⟨v2, m2, fun B d y w hb hv hm => ⟨d.via g, V.den_via hv, hm.tidy h2⟩, h3⟩
end
def plainW : W → Bool
  | .one (.pl _) => true
  | .one _ => false
  | .agg cs => cs.all fun l => match l with
    | .pl _ => true
    | _ => false
def plainV : V → Bool
  | .w x => plainW x
  | .tup xs => xs.all plainW
  | .any => true
theorem plain_ren {g : Nat → Nat} : ∀ {v : V}, plainV v = true → v.ren g = v := by
  have hl : ∀ cs : List L, (cs.all fun l => match l with | .pl _ => true | _ => false) = true → cs.map (L.ren g) = cs := by
    intro cs h
    induction cs with
    | nil => rfl
    | cons x r ih =>
      simp only [List.all_cons, Bool.and_eq_true] at h
      rw [List.map_cons, ih h.2]
      cases x <;> first | rfl | (cases h.1)
  have hw : ∀ x : W, plainW x = true → x.ren g = x := by
    intro x h
    cases x with
    | one l => cases l <;> first | rfl | (cases h)
    | agg cs => simp only [W.ren]; rw [hl cs h]
  intro v h
  cases v with
  | w x => simp only [V.ren]; rw [hw x h]
  | tup xs =>
    simp only [V.ren]
    congr 1
    simp only [plainV, List.all_eq_true] at h
    induction xs with
    | nil => rfl
    | cons x r ih => rw [List.map_cons, hw x (h x (by simp)), ih fun y hy => h y (by simp [hy])]
  | any => rfl
theorem told_plain {R : V → List (Nat × Ob) → Prop} {v : V} {m : List (Nat × Ob)} (hp : plainV v = true) (h : R v []) : Told R v m :=
  told_tidy ⟨fun k => k, v, [], (plain_ren hp).symm, .empty, h⟩
end Go.Sy
namespace Go.Sy
theorem items_ok {P : Program} {B : Base} {ops : Array Oper} {ds : List (Option Tmp)} (hds : ds = ops.toList.map (·.dst)) {Q : Exit → Act → World → Prop} {K : St → Prop} (hK : ∀ S' d' a' w', K S' → Sim B d' S' a' w' → Q .normal a' w') :
    ∀ (its : List It) (S : St), OKs P ds its S → AllNew its S → NamesApart its → (∀ x ∈ its, ∀ n, x.o.dst = some n → n < B.nt) → K (fin its S) → ∀ d a w, Sim B d S a w → wpList P ops Q (its.map (·.o)) a w
  | [], S, _, _, _, _, h, d, a, w, hs => hK _ _ _ _ h hs
  | x :: r, S, ho, hn, ha, hd, h, d, a, w, hs => by
    obtain ⟨g1, g2⟩ := ho
    have hnx : ∀ k ∈ x.e.names, New k S := fun k hk => hn x (by simp) k hk
    have hdst : ∀ n, x.o.dst = some n → n < B.nt := hd x (by simp)
    have hgo : ∀ d' a' w', Sim B d' (x.on S) a' w' → wpList P ops Q (r.map (·.o)) a' w' := fun d' a' w' hs' =>
      items_ok hds hK r (x.on S) g2 (AllNew.on (fun y hy k hk => hn y (by simp [hy]) k hk) g1 (fun y hy k hk hk2 => ha.1 y hy k hk2 hk)) ha.2.2 (fun y hy => hd y (by simp [hy])) h d' a' w' hs'
    rw [List.map_cons]
    refine wpList_step fun N hN => ?_
    have hev := g1.ev
    have hg := g1.guard
    have run : x.skip = false → x.o.wp P a w N Q := by
      intro hsk
      rw [hsk] at hev
      simp only [Bool.false_eq_true, if_false] at hev
      exact hev.run hs hnx hdst _ _ fun d' a' w' hs' => hN _ _ (hgo d' a' w' hs')
    have skp : x.skip = true → N (a.put x.o.dst undef) w := by
      intro hsk
      rw [hsk] at hev
      simp only [if_true] at hev
      refine hN _ _ (hgo d _ _ ?_)
      unfold It.on
      rw [hev]
      exact Sim.putE hs (v := .tup []) (undef_den d) hdst
    cases hgd : x.o.guard with
    | none =>
      rw [hgd] at hg
      rw [if_pos (by simp [Region.wanted, hgd])]
      exact run hg
    | some g =>
      rw [hgd] at hg
      simp only at hg
      obtain ⟨c, hc, hsk⟩ := hg
      have hw := wanted_of hs hds hgd hc
      rw [hw]
      by_cases hcg : c = g.2
      · rw [if_pos (by simp [hcg])]
        exact run (by rw [hsk, hcg]; simp)
      · rw [if_neg (by simp [hcg])]
        exact skp (by rw [hsk]; simpa using hcg)

theorem text_k {P : Program} {B : Base} {id : Nat} {l : List Oper} {S : St} {Q : Exit → St → Prop} (names : List Nat)
    (hn : names.all (fun k => fresh k S && (look S.mem k).isNone) = true)
    (h : ∀ K : St → List Da → Prop, (∀ S' D, Q .normal S' → K S' D) → runD P B.nt names (dsOf l) false l [] [] S K) : HT P B (.region id l.toArray false) S Q := by
  intro d a w hs
  obtain ⟨its, hi, hQ⟩ := runD_items (h (fun S' D => Q .normal S') (fun _ _ h1 => h1))
  refine wp_region_list ?_
  have := items_ok (P := P) (B := B) (ops := l.toArray) (ds := dsOf l) (by rw [dsOf_eq]) (Q := fun e a' w' => ∃ S' d', Q e S' ∧ Sim B d' S' a' w') (K := Q .normal) (fun S' d' a' w' hq hs' => ⟨S', d', hq, hs'⟩) its S hi.ok ?_ hi.apart hi.dst hQ d a w hs
  · rw [hi.ops] at this
    simpa only [List.toList_toArray] using this
  · intro x hx k hk
    have := (hi.nm x hx k hk).1
    simp only [List.all_eq_true, Bool.and_eq_true] at hn
    have h1 := hn k this
    have h2 := hasE_not h1.1
    exact ⟨⟨fun n v hv => hasE_look h2.1 hv, fun n o ho => hasM_look h2.2 ho, fresh_lt h1.1⟩, by simpa using h1.2⟩
end Go.Sy
namespace Go.Sy
theorem ren_pls (g : Nat → Nat) (c : List PL) : (pls c).map (L.ren g) = pls c := by simp [pls, L.ren, Function.comp_def]
theorem within_one {m : List (Nat × Ob)} {j : Nat} {r : Bool} {c : List PL} (h : look m j = some ⟨r, pls c⟩) (hj : j < px0) : Within (only j) [(0, ⟨r, pls c⟩)] m := by
  refine ⟨fun k o hk => ?_, fun k k' h1 h2 _ => ?_, fun k hk => ?_, fun k hk => ?_⟩
  · simp only [look] at hk
    split at hk
    · rename_i e; subst e; cases hk; rw [show only j 0 = j from rfl, h, ren_pls]
    · cases hk
  · have e : ∀ k, (look [(0, (⟨r, pls c⟩ : Ob))] k).isSome = true → k = 0 := by
      intro k hk
      simp only [look] at hk
      split at hk
      · rename_i h0
        first | exact h0 | exact h0.symm | exact (beq_iff_eq.mp h0).symm | exact beq_iff_eq.mp h0
      · cases hk
    rw [e k h1, e k' h2]
  · rw [only, if_pos hk]; exact hj
  · rw [only, if_neg (by omega)]
theorem one_own {m : List (Nat × Ob)} {j n sz : Nat} {r : Bool} {c : List PL} (h : look m j = some ⟨r, pls c⟩) (hj : j < 500000 := by decide) :
    Tidy (fun v m => v = .w (.one (.s 0 [] n sz)) ∧ m = [(0, ⟨r, pls c⟩)]) (.w (.one (.s j [] n sz))) m :=
  ⟨only j, .w (.one (.s 0 [] n sz)), [(0, ⟨r, pls c⟩)], rfl, within_one h hj, rfl, rfl⟩
theorem L.ren_id (l : L) : l.ren (fun k => k) = l := by cases l <;> simp [L.ren]
theorem within_sub {m m2 : List (Nat × Ob)} (h : ∀ k o, look m2 k = some o → look m k = some o) : Within (fun k => k) m2 m :=
  ⟨fun k o hk => by rw [h k o hk]; congr 1; cases o; simp only [Ob.mk.injEq, true_and]; exact (List.map_id'' L.ren_id _).symm, fun _ _ _ _ h => h, fun _ h => h, fun _ _ => rfl⟩
theorem told_keep {R : V → List (Nat × Ob) → Prop} {v : V} {m m2 : List (Nat × Ob)} (hp : plainV v = true) (hm : ∀ k o, look m2 k = some o → look m k = some o) (h : R v m2) : Told R v m :=
  told_tidy ⟨fun k => k, v, m2, (plain_ren hp).symm, within_sub hm, h⟩
theorem keep_one {m : List (Nat × Ob)} {j : Nat} {o0 : Ob} (h : look m j = some o0) : ∀ k o, look [(j, o0)] k = some o → look m k = some o := by
  intro k o hk
  simp only [look] at hk
  split at hk
  · rename_i e; cases hk; rw [e]; exact h
  · cases hk
theorem keep_nil {m : List (Nat × Ob)} : ∀ k o, look ([] : List (Nat × Ob)) k = some o → look m k = some o := fun k o h => by cases h
theorem seal_pls (k : Nat) (c d : List PL) : (pls d).map (sealL k c) = pls d := by simp [pls, sealL, Function.comp_def]
theorem look_seal_keep {m : List (Nat × Ob)} {k j : Nat} {c d : List PL} {r : Bool} (hne : j ≠ k) (hj : j < 1000000) (h : look m j = some ⟨r, pls d⟩) : look (sealM k c m) j = some ⟨r, pls d⟩ := by
  rw [look_sealM, if_neg hne, h]; simp only [Option.map_some, if_pos hj, seal_pls]
theorem leavesIn_seg2 (vw : Bool) (S : St) (hd : Hand) (r : List L) : ∀ l : List UInt8, leavesIn vw S hd (bytesC l ++ r) = (leavesIn vw S hd r).map (bytesC l ++ ·)
  | [] => by simp [bytesC]
  | x :: l => by
    have ih := leavesIn_seg2 vw S hd r l
    simp only [bytesC] at ih
    simp only [bytesC, List.map_cons, List.cons_append, leavesIn, leafIn, ih]
    cases leavesIn vw S hd r <;> rfl
theorem leavesIn_bytes2 (vw : Bool) (S : St) (hd : Hand) (l : List UInt8) : leavesIn vw S hd (bytesC l) = some (bytesC l) := by
  have := leavesIn_seg2 vw S hd [] l
  simpa [leavesIn] using this
theorem leafOut_bytes2 (vw : Bool) (m : List (Nat × Ob)) (l : List UInt8) : (bytesC l).all (leafOut vw m) = true := by
  simp only [bytesC, List.all_eq_true, List.mem_map]
  rintro x ⟨y, _, rfl⟩
  simp [leafOut, strictL]
section
variable {P : Program} {B : Base} {ds : List (Option Tmp)} {r : List Oper} {S : St} {K : St → Prop}
theorem og_tt (j : Nat) (o : Oper) : onGuard (some true) j true P B ds o r S K = runOps P B ds (⟨o.dst, o.op, o.type, o.pos, o.after, none⟩ :: r) (setG S ds j true) K := by rw [ev_onGuard]; simp
theorem og_ff (j : Nat) (o : Oper) : onGuard (some false) j false P B ds o r S K = runOps P B ds (⟨o.dst, o.op, o.type, o.pos, o.after, none⟩ :: r) (setG S ds j false) K := by rw [ev_onGuard]; simp
theorem og_tf (j : Nat) (o : Oper) : onGuard (some true) j false P B ds o r S K = onSt ((setG S ds j true).put B.nt o.dst (.tup [])) P B ds r K := by rw [ev_onGuard]; simp
theorem og_ft (j : Nat) (o : Oper) : onGuard (some false) j true P B ds o r S K = onSt ((setG S ds j false).put B.nt o.dst (.tup [])) P B ds r K := by rw [ev_onGuard]; simp
end
section
variable {P : Program} {nt : Nat} {names : List Nat} {ds : List (Option Tmp)} {keep : Bool} {o : Oper} {N : List Nat} {D : List Da} {S : St} {k : List Nat → List Da → St → Prop}
theorem dg_tt (j : Nat) : onG P nt names ds keep o (j, true) N D S k (some true) = onO P nt names ds keep o N D S k := by rw [rd_onG]; simp
theorem dg_ff (j : Nat) : onG P nt names ds keep o (j, false) N D S k (some false) = onO P nt names ds keep o N D S k := by rw [rd_onG]; simp
theorem dg_tf (j : Nat) : onG P nt names ds keep o (j, false) N D S k (some true) = (dstOk nt o.dst ∧ k N (D ++ bif keep then [⟨.val (.tup []), (gslot ds o).filterMap S.get, []⟩] else []) ((Eff.val (.tup [])).on o.dst S)) := by rw [rd_onG]; simp
theorem dg_ft (j : Nat) : onG P nt names ds keep o (j, true) N D S k (some false) = (dstOk nt o.dst ∧ k N (D ++ bif keep then [⟨.val (.tup []), (gslot ds o).filterMap S.get, []⟩] else []) ((Eff.val (.tup [])).on o.dst S)) := by rw [rd_onG]; simp
end
attribute [go_sem high] og_tt og_ff og_tf og_ft dg_tt dg_ff dg_tf dg_ft
attribute [go_sem] leavesIn_seg2 leavesIn_bytes2 leafOut_bytes2 capsV
end Go.Sy
namespace Go.Sy
section
variable {k j : Nat} {c : List PL}
theorem sealL_pl (x : PL) : sealL k c (.pl x) = .pl x := rfl
theorem sealL_pne {path : Path} (h : (j = k) = False) : sealL k c (.p j path) = .p j path := by simp only [sealL, h, if_false]
theorem sealL_sne {path : Path} {n sz : Nat} (h : (j = k) = False) : sealL k c (.s j path n sz) = .s j path n sz := by simp only [sealL, h, if_false]
theorem sealL_peq {path : Path} : sealL k c (.p k path) = .pl (.q c path) := by simp only [sealL, if_true]
theorem sealL_fn0 (f : Nat) : sealL k c (.fn f []) = .fn f [] := by simp [sealL]
theorem seal_bytes {n : Nat} {bs : List UInt8} (h : n = bs.length) : sealL k (bs.map .u8) (.s k [] n 1) = .pl (.R false 1 (byteRows bs)) := by
  subst h
  simp only [sealL, if_true, rd, pok, psz, List.length_map, Nat.mul_one, and_self, chunks_bytes]
theorem map_sealB (l : List UInt8) : (bytesC l).map (sealL k c) = bytesC l := by simp [bytesC, sealL]
theorem take_drop_all {α : Type} (l : List α) (k : Nat) : (l.drop k).take (l.length - k) = l.drop k := List.take_of_length_le (by simp)
end
end Go.Sy
namespace Go.Sy
section
variable {H : Type} {enc : TypeId × Value → H} {P : Program} {w w2 : World} {base : Nat} {spare : Nat → Bool} {held : Bool}
theorem slice_reads {e t : TypeId} {v : Value} {d : DataW H} {p : List MemPlace} {ex : Bool} {sz : Nat} {rows : List (List PL)} (ht : P.underlying t = some (.slice e)) (h : DataW.Trod enc P w base spare held t v d p) (hd : (V.w (.one (.pl (.R ex sz rows)))).den (Va.reads w2) v) :
    rows.length = 0 ∨ ∃ elems rest, d = .slice elems rest ∧ elems.length = rows.length := by
  obtain ⟨fuel, h⟩ := h
  simp only [V.den, W.den, L.den] at hd
  rw [PL.den] at hd
  rcases hd with ⟨_, rfl⟩ | ⟨blk, off, cap, rfl, _⟩ | ⟨_, _, rfl, rfl, _⟩
  · exact .inl rfl
  · rcases DataW.trod_slice ht h with ⟨h0, _⟩ | ⟨a, len, cap', elems, rest, n, _, hc, hx, _, _, _, hlen, _⟩
    · simp [Value.cells] at h0
    · simp only [Value.cells, List.cons.injEq, Value.slice.injEq, and_true] at hc
      obtain ⟨_, e2, _⟩ := hc
      cases hx
      exact .inr ⟨_, _, rfl, by rw [List.length_map]; omega⟩
  · exact .inl rfl
end
end Go.Sy
namespace Go.Sy
section
variable {P : Program}
theorem flat_u64 {m : Nat} {e : TypeId} (he : P.underlying e = some (.int .u64)) : ∀ {ps : List (List PL)}, (∀ p ∈ ps, Sh P m e p) → ∃ l : List UInt64, l.length = ps.length ∧ ps = l.map fun x => [.u64 x]
  | [], _ => ⟨[], rfl, rfl⟩
  | p :: r, h => by
    obtain ⟨x, hx⟩ := sh_u64 (h p (by simp)) he
    obtain ⟨l, h1, h2⟩ := flat_u64 he (ps := r) fun q hq => h q (by simp [hq])
    exact ⟨x :: l, by simp [h1], by simp [hx, ← h2]⟩
theorem sh_u64s {n k : Nat} {t e : TypeId} {cs : List PL} (h : Sh P n t cs) (ht : P.underlying t = some (.array k e)) (he : P.underlying e = some (.int .u64)) : ∃ l : List UInt64, l.length = k ∧ cs = l.map .u64 := by
  obtain ⟨ps, m, rfl, hl, hp⟩ := sh_array h ht
  obtain ⟨l, h1, rfl⟩ := flat_u64 he hp
  exact ⟨l, by omega, flatten_sing l⟩
theorem sh_u64x2 {n : Nat} {t e : TypeId} {cs : List PL} (h : Sh P n t cs) (ht : P.underlying t = some (.array 2 e)) (he : P.underlying e = some (.int .u64)) : ∃ a b, cs = [.u64 a, .u64 b] := by
  obtain ⟨l, hl, rfl⟩ := sh_u64s h ht he
  match l, hl with
  | [a, b], _ => exact ⟨a, b, rfl⟩
theorem sh_u64x3 {n : Nat} {t e : TypeId} {cs : List PL} (h : Sh P n t cs) (ht : P.underlying t = some (.array 3 e)) (he : P.underlying e = some (.int .u64)) : ∃ a b c, cs = [.u64 a, .u64 b, .u64 c] := by
  obtain ⟨l, hl, rfl⟩ := sh_u64s h ht he
  match l, hl with
  | [a, b, c], _ => exact ⟨a, b, c, rfl⟩
end
end Go.Sy
namespace Go.Sy
section
variable {H : Type} {enc : TypeId × Value → H} {P : Program}
theorem rih {a : Assume} {C : Checked} {os : Os} {f : FuncId} {fn : Func} {s : ChangeSpec} {conds : List PathCond} {apart fresh handsOn again : Bool}
    (own : ownKnob C.prog.godebug = none) (started : os.Started) (noInit : C.prog.inits.idxOf? f = none) (hfn : C.prog.funcs[f]? = some fn)
    (witness : ∃ (w : World) (tape : Tape) (i : Input), w.os = os ∧ (w.forCall tape i).Shaped C.prog ∧ i.vars = [] ∧ Input.okWide C.prog (w.forCall tape i) .any w.heap.size f i ∧
      s.pre6 enc C.prog fn conds apart (w.forCall tape i).memory i.args ∧ a.holds C.prog (lone (Frame.enter C.prog f i.args .normal) [] (w.forCall tape i)))
    (contract : ∀ (W : World) (base : Nat) (args : Array Value) (ds gs : List (DataW H)) (before : List MemPlace),
      (∀ (j : Nat) t v, fn.params[j]? = some t → args[j]? = some v → Value.okWide C.prog W .any base t v) →
      DataW.Whole enc C.prog fn.params.toList s.vars apart W args.toList ds gs before →
      (DataW.weightsEach C.prog (fn.params.toList ++ s.plain.varTypes C.prog) (ds ++ gs)).all (· ≤ reachBytes) = true →
      Calls C.prog f args W fun e W' => ∃ v, e = .returned v ∧ s.post enc C.prog fn apart fresh handsOn again W args v W') :
    ReturnsInHanded a C os f .any (s.pre6 enc C.prog fn conds apart) (s.post enc C.prog fn apart fresh handsOn again) := by
  have h := returnsInHanded_of_change_and (X := fun _ _ => True) (fresh := fresh) (handsOn := handsOn) (again := again) (fun _ _ _ _ h => h) own started noInit hfn
    (by obtain ⟨w, t, i, h1, h2, h3, h4, h5, h6⟩ := witness; exact ⟨w, t, i, h1, h2, h3, h4, ⟨⟨h5.1, trivial⟩, h5.2⟩, h6⟩)
    (fun W base args ds gs before h1 h2 _ h4 _ _ => contract W base args ds gs before h1 h2 h4)
  have e : (fun w args => (s.pre enc C.prog fn conds apart w args ∧ True) ∧ sizedMet enc C.prog fn (OpenSpec.ofChange s) apart w args) = s.pre6 enc C.prog fn conds apart := by
    funext w args; simp only [and_true]; rfl
  rw [← e]; exact h
theorem weight_rows {t e : TypeId} {d : DataW H} {n k : Nat} (ht : P.underlying t = some (.slice e)) (hb : P.bytesOf e = k) (h : n = 0 ∨ ∃ elems rest, d = .slice elems rest ∧ elems.length = n) (hw : (d.weights P t).all (· ≤ reachBytes) = true) : n * k ≤ 140737488351232 := by
  rcases h with rfl | ⟨elems, rest, rfl, rfl⟩
  · simp
  · simp only [DataW.weights, ht, hb, List.all_cons, Bool.and_eq_true, decide_eq_true_eq] at hw
    exact Nat.le_trans (Nat.mul_le_mul_right k (Nat.le_add_right _ _)) hw.1
theorem weights_cons {p : Nat → Bool} {t : TypeId} {ts : List TypeId} {d : DataW H} {ds : List (DataW H)} (h : (DataW.weightsEach P (t :: ts) (d :: ds)).all p = true) : (d.weights P t).all p = true ∧ (DataW.weightsEach P ts ds).all p = true := by
  simpa only [DataW.weightsEach, List.all_append, Bool.and_eq_true] using h
end
end Go.Sy
namespace Go.Sy
open Go.RowKit Go.WideShapes Go.ChangeShapes Go.ChangeAt
theorem laid_var {P : Program} {W : World} : ∀ {l : List (String × DataW Unit)} {ps : List MemPlace}, DataW.LaidVars P W l ps → ∀ {name : String} {x : DataW Unit}, (name, x) ∈ l →
    ∃ g t cs fuel p, P.globalNamed name = some g ∧ (P.globals[g]?).map (·.type) = some t ∧ W.var? P name = some cs ∧ DataW.trod (fun _ => ()) P W 0 (fun _ => true) false fuel t cs.toList = some (x, p)
  | [], _, _, _, _, hm => by cases hm
  | (n, y) :: r, ps, h, name, x, hm => by
    obtain ⟨g, t, cs, fuel, p, q, h1, h2, h3, h4, h5, _⟩ := h
    rcases List.mem_cons.mp hm with e | hm
    · cases e
      exact ⟨g, t, cs, fuel, p, h1, h2, h3, h4⟩
    · exact laid_var h5 hm
theorem tab_of {P : Program} {W : World} {l : List (String × DataW Unit)} (h : laidMet P l W) {name : String} {k : IntKind} {zs : List Int} (hm : (name, Lib.tabData k zs) ∈ l) {g : Nat} {t e : TypeId} {n : Nat}
    (hg : P.globalNamed name = some g) (hty : (P.globals[g]?).map (·.type) = some t) (ht : P.underlying t = some (.array n e)) (he : P.underlying e = some (.int k)) (hce : P.cellsOf e = 1) (hct : P.cellsOf t = n) :
    W.var? P name = some (zs.map fun z => Value.int k z).toArray := by
  obtain ⟨ps, hl, _⟩ := h
  obtain ⟨g', t', cs, fuel, p, hg', ht', hvar, hd⟩ := laid_var hl hm
  obtain rfl := Option.some.inj (hg.symm.trans hg')
  obtain rfl := Option.some.inj (hty.symm.trans ht')
  rw [hvar, ← Lib.cells_of_tab ht he hce hct hd]
theorem tab2_of {P : Program} {W : World} {l : List (String × DataW Unit)} (h : laidMet P l W) {name : String} {k : IntKind} {zss : List (List Int)} (hm : (name, DataW.agg (zss.map (Lib.tabData k))) ∈ l) {g : Nat} {t e u : TypeId} {n m : Nat}
    (hg : P.globalNamed name = some g) (hty : (P.globals[g]?).map (·.type) = some t) (ht : P.underlying t = some (.array n e)) (he : P.underlying e = some (.array m u)) (hu : P.underlying u = some (.int k))
    (hcu : P.cellsOf u = 1) (hce : P.cellsOf e = m) (hct : P.cellsOf t = n * m) :
    W.var? P name = some (zss.flatten.map fun z => Value.int k z).toArray := by
  obtain ⟨ps, hl, _⟩ := h
  obtain ⟨g', t', cs, fuel, p, hg', ht', hvar, hd⟩ := laid_var hl hm
  obtain rfl := Option.some.inj (hg.symm.trans hg')
  obtain rfl := Option.some.inj (hty.symm.trans ht')
  rw [hvar]
  suffices e0 : cs.toList = zss.flatten.map fun z => Value.int k z by rw [← e0]
  generalize cs.toList = cl at hd
  cases fuel with
  | zero => simp [DataW.trod] at hd
  | succ fuel =>
    simp only [DataW.trod, ht, hce, hct] at hd
    split at hd
    · rename_i hcl
      obtain ⟨xs, hx, hy⟩ := Option.map_eq_some_iff.1 hd
      have hxs : xs.map (·.1) = zss.map (Lib.tabData k) := by
        have := congrArg Prod.fst hy
        simpa using this
      have hfl := chunk_flatten m n cl hcl
      have hxl : xs.length = n := by simpa using Lib.mapM_length hx
      have hzl : zss.length = n := by
        have := congrArg List.length hxs
        simp only [List.length_map] at this
        omega
      have key : (List.range n).map (fun i => (cl.drop (i * m)).take m) = zss.map (fun zs => zs.map fun z => Value.int k z) := by
        apply List.ext_getElem?
        intro i
        by_cases hi : i < n
        · obtain ⟨b, hb, hf⟩ := Lib.mapM_at hx i i (by simp [hi])
          have h2 : (xs.map (·.1))[i]? = some b.1 := by simp [hb]
          rw [hxs, List.getElem?_map] at h2
          obtain ⟨zs, hz, hzb⟩ := Option.map_eq_some_iff.1 h2
          obtain ⟨b1, b2⟩ := b
          simp only at hzb
          subst hzb
          have := Lib.cells_of_tab he hu hcu hce hf
          rw [List.getElem?_map, List.getElem?_map, hz]
          simp only [List.getElem?_range hi, Option.map_some]
          rw [this]
        · rw [List.getElem?_eq_none (by simp; omega), List.getElem?_eq_none (by simp; omega)]
      rw [← hfl, key, ← List.map_flatten]
    · cases hd
theorem denAt_var {P : Program} {W : World} {name : String} {g : Nat} {vs : List Value} (h : W.var? P name = some vs.toArray) (hg : P.globalNamed name = some g) {cs : List PL} (hc : All2 (PL.den (Va.reads W).ro) cs vs) : PL.denAt (Va.reads W).ro g cs 0 := by
  refine denAt_of hc fun j v hj => ?_
  have := World.var?_cell hg h j
  simp only [Nat.zero_add]
  show W.cell? ⟨g, j, none⟩ = some v
  rw [this]
  simpa using hj
theorem den_u32s {ro : Ro} : ∀ l : List UInt32, All2 (PL.den ro) (l.map PL.u32) (l.map fun x => Value.int .u32 x.toNat)
  | [] => .nil
  | x :: l => .cons (by rw [PL.den]) (den_u32s l)
theorem den_u64s {ro : Ro} : ∀ l : List UInt64, All2 (PL.den ro) (l.map PL.u64) (l.map fun x => Value.int .u64 x.toNat)
  | [] => .nil
  | x :: l => .cons (by rw [PL.den]) (den_u64s l)
theorem den_is {ro : Ro} : ∀ l : List Int, All2 (PL.den ro) (l.map PL.i) (l.map fun x => Value.int .i64 x)
  | [] => .nil
  | x :: l => .cons (by rw [PL.den]) (den_is l)
def Va.readsG (w : World) (G : List (Nat × List PL)) : Va := ⟨fun k => k - gl0, fun k => match look G k with | some cs => cs.length | none => 0, fun b o => w.cell? ⟨b, o, none⟩⟩
def globM (G : List (Nat × List PL)) : List (Nat × Ob) := G.map fun x => (x.1, ⟨false, x.2.map L.pl⟩)
theorem look_globM : ∀ {G : List (Nat × List PL)} {k : Nat} {o : Ob}, look (globM G) k = some o → ∃ cs, look G k = some cs ∧ o = ⟨false, cs.map L.pl⟩
  | [], _, _, h => by cases h
  | x :: r, k, o, h => by
    simp only [globM, List.map_cons, look] at h ⊢
    split at h
    · rename_i e
      rw [if_pos e]
      cases h
      exact ⟨_, rfl, rfl⟩
    · rename_i e
      rw [if_neg e]
      exact look_globM h
theorem memOK_reads {w : World} {G : List (Nat × List PL)} (hg : ∀ k cs, look G k = some cs → gl0 ≤ k ∧ PL.denAt (Va.reads w).ro (k - gl0) cs 0) {may : Nat → Prop} {fx : Nat → Option (Nat × Nat)} (hf : ∀ k, fx k = none) :
    MemOK ⟨w, may, 0, (Va.readsG w G).ro, fx⟩ (Va.readsG w G) (globM G) w := by
  have hlt : ∀ k, (look (globM G) k).isSome = true → k < gl0 → False := fun k h1 h2 => by
    obtain ⟨o, ho⟩ := Option.isSome_iff_exists.mp h1
    obtain ⟨cs, hc, _⟩ := look_globM ho
    exact absurd (hg k cs hc).1 (Nat.not_le.mpr h2)
  refine ⟨⟨#[], []⟩, ⟨rfl, rfl, fun n v hv => (by cases hv), fun k o hk hl => (hlt k (by rw [hk]; rfl) hl).elim, fun k k' h1 _ h2 => (hlt k h1 h2).elim, fun k h1 h2 => (hlt k h1 h2).elim, fun _ _ _ h => h, fun b o y hy _ => hy, rfl, rfl, rfl, Nat.le_refl _, fun _ _ _ => rfl, fun _ _ => rfl, ?_, fun k o p hk h => absurd ((hf k).symm.trans h) (by simp), fun k p h => absurd ((hf k).symm.trans h) (by simp)⟩⟩
  intro k o hk _
  obtain ⟨cs, hc, rfl⟩ := look_globM hk
  refine ⟨?_, cs, rfl, (hg k cs hc).2⟩
  show (match look G k with | some cs => cs.length | none => 0) = _
  rw [hc, List.length_map]
def plW : W → Bool
  | .one (.pl _) => true
  | .one _ => false
  | .agg l => l.all fun | .pl _ => true | _ => false
def plV : V → Bool
  | .w x => plW x
  | _ => false
theorem den_ro {d d' : Va} (h : d.ro = d'.ro) : ∀ {v : V} {y : Value}, plV v = true → V.den d v y → V.den d' v y
  | .w (.one (.pl x)), y, _, hd => by simp only [V.den, W.den, L.den] at hd ⊢; rw [← h]; exact hd
  | .w (.one (.p _ _)), y, hp, _ => by simp [plV, plW] at hp
  | .w (.one (.s _ _ _ _)), y, hp, _ => by simp [plV, plW] at hp
  | .w (.one (.fn _ _)), y, hp, _ => by simp [plV, plW] at hp
  | .w (.agg l), y, hp, hd => by
    simp only [V.den, W.den] at hd ⊢
    obtain ⟨vs, e, ha⟩ := hd
    refine ⟨vs, e, ?_⟩
    simp only [plV, plW] at hp
    generalize vs.toList = q at ha
    clear e
    induction ha with
    | nil => exact .nil
    | @cons a b l m h1 _ ih =>
      simp only [List.all_cons, Bool.and_eq_true] at hp
      refine .cons ?_ (ih hp.2)
      cases a with
      | pl x => simp only [L.den] at h1 ⊢; rw [← h]; exact h1
      | _ => simp at hp
  | .tup _, y, hp, _ => by simp [plV] at hp
  | .any, y, hp, _ => by simp [plV] at hp
theorem all_pls (l : List PL) : ((l.map L.pl).all fun | .pl _ => true | _ => false) = true := by
  induction l with
  | nil => rfl
  | cons x l ih => simp
theorem den_all {d d' : Va} (h : d.ro = d'.ro) : ∀ {vs : List V} {ys : List Value}, (vs.all plV) = true → All2 (V.den d) vs ys → All2 (V.den d') vs ys
  | [], _, _, .nil => .nil
  | v :: vs, _, hp, .cons h1 h2 => by
    simp only [List.all_cons, Bool.and_eq_true] at hp
    exact .cons (den_ro h hp.1 h1) (den_all h hp.2 h2)
theorem CtM.callsG {P : Program} {f : FuncId} {args : List V} {G : List (Nat × List PL)} {R : V → List (Nat × Ob) → Prop} {b : Bool} (hc : CtM P f args (globM G) R) (hR : ∀ v m, R v m → v = .w (.one (.pl (.b b)))) (w : World) (vals : Array Value)
    (hg : ∀ k cs, look G k = some cs → gl0 ≤ k ∧ PL.denAt (Va.reads w).ro (k - gl0) cs 0) (hp : args.all plV = true) (ha : All2 (V.den (Va.reads w)) args vals.toList) : Calls P f vals w fun e w' => e = .returned (.bool b) ∧ Below w.heap.size w w' := by
  have hlt : ∀ k, (look (globM G) k).isSome = true → k < gl0 → False := fun k h1 h2 => by
    obtain ⟨o, ho⟩ := Option.isSome_iff_exists.mp h1
    obtain ⟨cs, hc, _⟩ := look_globM ho
    exact absurd (hg k cs hc).1 (Nat.not_le.mpr h2)
  have hf : ∀ k, fxOf (Va.readsG w G) (globM G) k = none := fun k => by
    unfold fxOf
    rw [if_neg]
    rintro ⟨h1, _, h2⟩
    exact hlt k h1 h2
  refine (hc w (Va.readsG w G) vals (memOK_reads hg hf) (den_all (d := Va.reads w) (d' := Va.readsG w G) rfl hp ha)).mono fun e w' ⟨y, v, d', m', he, hr, hd, hm⟩ => ?_
  rw [hR v m' hr] at hd
  refine ⟨by rw [he]; exact congrArg _ hd, ?_⟩
  obtain ⟨a, hs⟩ := hm
  refine ⟨hs.os, hs.tape, hs.output, hs.size, fun k hk => hs.block k hk ?_⟩
  rintro ⟨k, h1, h2, _⟩
  exact hlt k h1 h2
end Go.Sy
namespace Go.Sy
section
variable {P : Program} {B : Base} {S : St} {Q : Exit → St → Prop}
theorem top_k {c : Code} (h : ∀ Z : Exit → St → Prop, (∀ e S', Q e S' → Z e S') → HT P B c S Z) : HT P B c S Q := h Q fun _ _ h => h
theorem sr_k {id : Nat} {l : List Oper} {y : Code} (h : ∀ K : St → Prop, (∀ S', HT P B y S' Q → K S') → runOps P B (dsOf l) l S K) : HT P B (.seq (.region id l.toArray false) y) S Q :=
  seq_k fun N M hN hM => region_k fun K hK => h K fun S' hy => hK S' (hN S' hy)
theorem sd_k {id : Nat} {l : List Oper} {y : Code} (names c : List Nat) (need : List (Nat × Nat)) (hm : P.follows .mixedOrders = true) (hst : drawOk (dsOf l) c need l = true)
    (hn : names.all (fun k => fresh k S && (look S.mem k).isNone) = true)
    (h : ∀ K : St → List Da → Prop, (∀ S' D, chkD l D need → HT P B y S' Q → K S' D) → runD P B.nt names (dsOf l) (!need.isEmpty) l [] [] S K) : HT P B (.seq (.region id l.toArray true) y) S Q :=
  seq_k fun N M hN hM => draw_k names c need hm hst hn fun K hK => h K fun S' D hd hy => hK S' D hd (hN S' hy)
theorem condT_k {c : Operand} {x y : Code} (hc : S.get c = some (.w (.one (.pl (.b true))))) (h : HT P B x S Q) : HT P B (.cond c x y) S Q := cond_k hc (fun _ => h) (fun e => by cases e)
theorem condF_k {c : Operand} {x y : Code} (hc : S.get c = some (.w (.one (.pl (.b false))))) (h : HT P B y S Q) : HT P B (.cond c x y) S Q := cond_k hc (fun e => by cases e) (fun _ => h)
end
end Go.Sy
namespace Go.Sy
@[go_sem] theorem get_global (S : St) (g : Nat) : S.get (.global g) = some (.w (.one (.p (1000000 + g) []))) := rfl
theorem getD_rep32 (n j : Nat) : (List.replicate n (0 : UInt32)).getD j 0 = 0 := by
  simp only [List.getD, List.getElem?_replicate]
  split <;> rfl
end Go.Sy
namespace Go.Sy
section
variable {P : Program}
theorem flat_u32 {m : Nat} {e : TypeId} (he : P.underlying e = some (.int .u32)) : ∀ {ps : List (List PL)}, (∀ p ∈ ps, Sh P m e p) → ∃ l : List UInt32, l.length = ps.length ∧ ps = l.map fun x => [.u32 x]
  | [], _ => ⟨[], rfl, rfl⟩
  | p :: r, h => by
    obtain ⟨x, hx⟩ := sh_u32 (h p (by simp)) he
    obtain ⟨l, h1, h2⟩ := flat_u32 he (ps := r) fun q hq => h q (by simp [hq])
    exact ⟨x :: l, by simp [h1], by simp [hx, ← h2]⟩
theorem sh_u32s {n k : Nat} {t e : TypeId} {cs : List PL} (h : Sh P n t cs) (ht : P.underlying t = some (.array k e)) (he : P.underlying e = some (.int .u32)) : ∃ l : List UInt32, l.length = k ∧ cs = l.map .u32 := by
  obtain ⟨ps, m, rfl, hl, hp⟩ := sh_array h ht
  obtain ⟨l, h1, rfl⟩ := flat_u32 he hp
  exact ⟨l, by omega, flatten_sing l⟩
theorem sh_u32x8 {n : Nat} {t e : TypeId} {cs : List PL} (h : Sh P n t cs) (ht : P.underlying t = some (.array 8 e)) (he : P.underlying e = some (.int .u32)) : ∃ a b c d e f g h, cs = [.u32 a, .u32 b, .u32 c, .u32 d, .u32 e, .u32 f, .u32 g, .u32 h] := by
  obtain ⟨l, hl, rfl⟩ := sh_u32s h ht he
  match l, hl with
  | [a, b, c, d, e, f, g, h], _ => exact ⟨a, b, c, d, e, f, g, h, rfl⟩
end
end Go.Sy
namespace Go.Sy
def kept {α : Type} (ks : List Nat) : List (Nat × α) → List (Nat × α)
  | [] => []
  | x :: r => if ks.contains x.1 = true then x :: kept ks r else kept ks r
theorem look_kept {α : Type} {ks : List Nat} {n : Nat} {v : α} : ∀ {e : List (Nat × α)}, look (kept ks e) n = some v → look e n = some v
  | [], h => h
  | x :: r, h => by
    simp only [kept] at h
    split at h
    · simp only [look] at h ⊢
      split
      · rename_i e; rw [if_pos e] at h; exact h
      · rename_i e; rw [if_neg e] at h; exact look_kept h
    · rename_i hc
      have := look_kept h
      simp only [look]
      split
      · rename_i e
        exfalso
        have hk : ∀ {e : List (Nat × α)}, look (kept ks e) n = some v → ks.contains n = true := by
          intro e
          induction e with
          | nil => intro h; cases h
          | cons y s ih =>
            intro h
            simp only [kept] at h
            split at h
            · rename_i hy
              simp only [look] at h
              split at h
              · rename_i e2; rw [e2]; exact hy
              · exact ih h
            · exact ih h
        exact hc (by rw [← e]; exact hk h)
      · exact this
def St.keepE (ks : List Nat) (S : St) : St := ⟨kept ks S.env, S.mem⟩
theorem keepE_mk (ks : List Nat) (e : List (Nat × V)) (m : List (Nat × Ob)) : St.keepE ks ⟨e, m⟩ = ⟨kept ks e, m⟩ := rfl
theorem kept_nil {α : Type} (ks : List Nat) : kept ks ([] : List (Nat × α)) = [] := rfl
theorem kept_cons {α : Type} (ks : List Nat) (n : Nat) (v : α) (r : List (Nat × α)) : kept ks ((n, v) :: r) = if ks.contains n = true then (n, v) :: kept ks r else kept ks r := rfl
section
variable {P : Program} {B : Base} {Q : Exit → St → Prop} {S : St} {x y : Code}
theorem ht_keepE (ks : List Nat) (h : HT P B x (S.keepE ks) Q) : HT P B x S Q := by
  refine HT.le (fun d a w hs => ⟨d, ?_⟩) h
  exact ⟨hs.defers, hs.nt, fun n v hv => hs.env n v (look_kept hv), hs.mem, hs.inj, hs.own, hs.ro, hs.old, hs.os, hs.tape, hs.output, hs.size, hs.block, hs.gat, hs.glob, hs.fix, hs.fxn⟩
theorem join_k {α : Type} (ks : List Nat) (F : α → St) (p : α → Prop)
    (h1 : ∀ (N : St → Prop) (M : Exit → St → Prop), (∀ a, p a → ∀ S', S'.keepE ks = F a → N S') → (∀ e S', Q e S' → M e S') → HT P B x S (thenQ N M))
    (h2 : ∀ a, p a → HT P B y (F a) Q) : HT P B (.seq x y) S Q :=
  HT.seq (h1 (fun S' => HT P B y S' Q) Q (fun a ha S' e => ht_keepE ks (e ▸ h2 a ha)) (fun _ _ h => h))
end
attribute [go_sem] deepsIn deepV deepL deepLs deepC valsIn valIn leafIn leavesIn nameIn capsIn handOk leafOutV leafOutW leafOut okN outOk inv backM outN nameOut Ob.ren V.ren W.ren L.ren setM
end Go.Sy
namespace Go.Sy

def doneTo (ops : Array Oper) (p : Nat) (listed : Array Bool) : Prop := listed.size = ops.size ∧ ∀ i, i < ops.size → listed.getD i true = decide (i < p)
def Dr (P : Program) (B : Base) (l : List Oper) (p : Nat) (S : St) (K : St → Prop) : Prop :=
  ∀ d a w, Sim B d S a w → ∀ (Q : Exit → Act → World → Prop), (∀ S' d' a' w', K S' → Sim B d' S' a' w' → Q .normal a' w') → ∀ listed, doneTo l.toArray p listed → wpAny P .any l.toArray Q (l.length - p) listed a w

theorem ready_iff (ops : Array Oper) (listed : Array Bool) (i : Nat) : i ∈ Region.ready .any ops listed ↔ i < ops.size ∧ listed.getD i true = false ∧ ∀ o, ops[i]? = some o → ∀ e ∈ o.after, Region.binds .any e = true → listed.getD e.on false = true := by
  unfold Region.ready
  simp only [List.mem_filter, List.mem_range, Bool.and_eq_true, Bool.not_eq_true']
  constructor
  · rintro ⟨h1, h2, h3⟩
    refine ⟨h1, h2, fun o ho e he hb => ?_⟩
    rw [ho] at h3
    simp only [Option.map_some, Option.getD_some, Array.all_eq_true'] at h3
    have := h3 e he
    simpa [hb] using this
  · rintro ⟨h1, h2, h3⟩
    refine ⟨h1, h2, ?_⟩
    have ho := Array.getElem?_eq_getElem h1
    rw [ho]
    simp only [Option.map_some, Option.getD_some, Array.all_eq_true']
    intro e he
    cases hb : Region.binds .any e with
    | false => rfl
    | true => simpa using h3 _ ho e he hb

theorem getD_tf {l : Array Bool} {i : Nat} (h : i < l.size) : l.getD i false = l.getD i true := by
  rw [Array.getD_eq_getD_getElem?, Array.getD_eq_getD_getElem?, Array.getElem?_eq_getElem h]; rfl
theorem doneTo.listed {ops : Array Oper} {p : Nat} {listed : Array Bool} (h : doneTo ops p listed) {i : Nat} : listed.getD i false = decide (i < p ∧ i < ops.size) := by
  by_cases hi : i < ops.size
  · rw [getD_tf (by rw [h.1]; exact hi), h.2 i hi]; simp [hi]
  · rw [Array.getD_eq_getD_getElem?, Array.getElem?_eq_none (by rw [h.1]; omega)]; simp [hi]
theorem doneTo.set {ops : Array Oper} {p : Nat} {listed : Array Bool} (h : doneTo ops p listed) (hp : p < ops.size) : doneTo ops (p + 1) (listed.setIfInBounds p true) := by
  refine ⟨by rw [Array.size_setIfInBounds]; exact h.1, fun i hi => ?_⟩
  rw [getD_set (by rw [h.1]; exact hp)]
  by_cases e : i = p
  · rw [if_pos e]; simp [e]
  · rw [if_neg e, h.2 i hi]
    by_cases h2 : i < p
    · simp [h2, Nat.lt_succ_of_lt h2]
    · have : ¬ i < p + 1 := by omega
      simp [h2, this]

def forcedB (l : List Oper) (p : Nat) : Bool :=
  (List.range l.length).all fun j => match l[j]? with
    | none => true
    | some o => if j = p then o.after.toList.all fun e => !Region.binds .any e || decide (e.on < p)
      else if p < j then o.after.toList.any fun e => Region.binds .any e && decide (p ≤ e.on) else true

theorem forced_step {P : Program} {B : Base} {l : List Oper} {p : Nat} {o : Oper} {S : St} {K : St → Prop} {ds : List (Option Tmp)} (hds : ds = dsOf l) (hf : forcedB l p = true) (ho : l[p]? = some o)
    (hN : ∀ d a w, Sim B d S a w → ∀ (next : Act → World → Prop) (Q : Exit → Act → World → Prop), (∀ S' d' a' w', Dr P B l (p + 1) S' K → Sim B d' S' a' w' → next a' w') → (if Region.wanted o (yielded l.toArray a.tmps) then o.wp P a w next Q else next (a.put o.dst undef) w)) : Dr P B l p S K := by
  intro d a w hs Q hQ listed hl
  have hp : p < l.length := (List.getElem?_eq_some_iff.mp ho).1
  have hpa : p < l.toArray.size := by simpa using hp
  have hf' := List.all_eq_true.mp hf
  rw [show l.length - p = (l.length - (p + 1)) + 1 from by omega]
  have hready : p ∈ Region.ready .any l.toArray listed := by
    refine (ready_iff _ _ _).mpr ⟨hpa, by rw [hl.2 p hpa]; simp, fun o' ho' e he hb => ?_⟩
    rw [List.getElem?_toArray, ho] at ho'; cases ho'
    have := hf' p (List.mem_range.mpr hp)
    rw [ho] at this
    simp only [if_true] at this
    have := List.all_eq_true.mp this e (by simpa using he)
    rw [hb] at this
    have hlt : e.on < p := by simpa using this
    rw [hl.listed]; simp only [decide_eq_true_eq]; exact ⟨hlt, by omega⟩
  refine ⟨fun hnil => by rw [hnil] at hready; (cases hready), fun i hi => ?_⟩
  obtain ⟨h1, h2, h3⟩ := (ready_iff _ _ _).mp hi
  have hip : i = p := by
    rw [hl.2 i h1] at h2
    have h4 : ¬ i < p := by simpa using h2
    by_cases e : i = p
    · exact e
    · exfalso
      have hlt : p < i := by omega
      have hil : i < l.length := by simpa using h1
      have := hf' i (List.mem_range.mpr hil)
      obtain ⟨o', ho'⟩ : ∃ o', l[i]? = some o' := ⟨_, List.getElem?_eq_getElem hil⟩
      rw [ho'] at this
      simp only [if_neg e, if_pos hlt] at this
      obtain ⟨e', he', h5⟩ := List.any_eq_true.mp this
      simp only [Bool.and_eq_true, decide_eq_true_eq] at h5
      have := h3 o' (by rw [List.getElem?_toArray]; exact ho') e' (by simpa using he') h5.1
      rw [hl.listed] at this
      simp only [decide_eq_true_eq] at this
      omega
  subst hip
  simp only [wpOp, List.getElem?_toArray, ho]
  have hgo := hN d a w hs (wpAny P .any l.toArray Q (l.length - (i + 1)) (listed.setIfInBounds i true)) Q (fun S' d' a' w' hK hs' => hK d' a' w' hs' Q hQ _ (hl.set hpa))
  split
  · rename_i hw
    rw [if_pos hw] at hgo; exact .inl hgo
  · rename_i hw
    rw [if_neg hw] at hgo; exact hgo

def forcedTo (l : List Oper) (p : Nat) : Nat → Bool
  | 0 => true
  | n + 1 => forcedB l p && forcedTo l (p + 1) n

theorem dr_runs_aux {P : Program} {B : Base} {l : List Oper} {ds : List (Option Tmp)} {K : St → Prop} (hds : ds = dsOf l) : ∀ (n p : Nat) (S : St), forcedTo l p n = true → runOps P B ds ((l.drop p).take n) S (fun S' => Dr P B l (p + n) S' K) → p + n ≤ l.length → Dr P B l p S K
  | 0, p, S, _, h, _ => by simpa [runOps] using h
  | n + 1, p, S, hf, h, hn => by
    simp only [forcedTo, Bool.and_eq_true] at hf
    have hp : p < l.length := by omega
    have ho := List.getElem?_eq_getElem hp
    rw [List.drop_eq_getElem_cons hp, List.take_succ_cons] at h
    have hK : ∀ S', runOps P B ds ((l.drop (p + 1)).take n) S' (fun S' => Dr P B l (p + (n + 1)) S' K) → Dr P B l (p + 1) S' K := fun S' h' => dr_runs_aux hds n (p + 1) S' hf.2 (by rw [show p + 1 + n = p + (n + 1) from by omega]; exact h') (by omega)
    refine forced_step hds hf.1 ho fun d a w hs next Q hnext => ?_
    have hds' : ds = l.toArray.toList.map (·.dst) := by rw [hds, dsOf_eq]
    generalize l[p] = o at h ho
    unfold runOps at h
    split at h
    · rename_i hg
      rw [if_pos (by simp [Region.wanted, hg])]
      split at h
      · exact h d a w hs next Q (fun S' d' a' w' hk hs' => hnext _ _ _ _ (hK _ hk) hs')
      · split at h
        · rename_i S' hst
          exact stepV_wp (K := fun S' => runOps P B ds ((l.drop (p + 1)).take n) S' (fun S' => Dr P B l (p + (n + 1)) S' K)) hst h d a w hs next Q (fun S' d' a' w' hk hs' => hnext _ _ _ _ (hK _ hk) hs')
        · exact h.elim
    · rename_i g hg
      split at h
      · rename_i c hc
        have hw := wanted_of hs hds' hg hc
        by_cases hcg : c = g.2
        · rw [hw, hcg, if_pos (by simp)]
          have h1 := h.1 hcg
          have hs2 : Sim B d (setG S ds g.1 g.2) a w := by have := setG_ok hs hc; rwa [hcg] at this
          split at h1
          · exact h1 d a w hs2 next Q (fun S' d' a' w' hk hs' => hnext _ _ _ _ (hK _ hk) hs')
          · split at h1
            · rename_i S' hst
              exact stepV_wp (K := fun S' => runOps P B ds ((l.drop (p + 1)).take n) S' (fun S' => Dr P B l (p + (n + 1)) S' K)) hst h1 d a w hs2 next Q (fun S' d' a' w' hk hs' => hnext _ _ _ _ (hK _ hk) hs')
            · exact h1.elim
        · have hc' : c = !g.2 := by cases c <;> cases hg2 : g.2 <;> simp_all
          rw [hw, if_neg (by simp [hcg])]
          have h2 := h.2 hc'
          have hs2 : Sim B d (setG S ds g.1 (!g.2)) a w := by have := setG_ok hs hc; rwa [hc'] at this
          split at h2
          · rename_i S' hput
            exact hnext _ _ _ _ (hK _ h2) (St.put_ok hs2 hput (undef_den d))
          · exact h2.elim
      · exact h.elim

theorem dr_runs {P : Program} {B : Base} {l seg : List Oper} {p : Nat} {ds : List (Option Tmp)} {S : St} {K : St → Prop} (n : Nat) (hds : dsOf l = ds) (hf : (forcedTo l p n && decide (p + n ≤ l.length)) = true) (hseg : (l.drop p).take n = seg) (h : runOps P B ds seg S (fun S' => Dr P B l (p + n) S' K)) : Dr P B l p S K := by
  simp only [Bool.and_eq_true, decide_eq_true_eq] at hf
  exact dr_runs_aux hds.symm n p S hf.1 (by rw [hseg]; exact h) hf.2

theorem dr_runs_k {P : Program} {B : Base} {l seg : List Oper} {p : Nat} {ds : List (Option Tmp)} {S : St} {K : St → Prop} (n q : Nat) (hds : dsOf l = ds) (hf : (forcedTo l p n && decide (p + n ≤ l.length)) = true) (hseg : (l.drop p).take n = seg) (hq : p + n = q) (h : ∀ N : St → Prop, (∀ S', Dr P B l q S' K → N S') → runOps P B ds seg S N) : Dr P B l p S K := by
  subst hq
  exact dr_runs n hds hf hseg (h _ fun _ h => h)

theorem dr_end {P : Program} {B : Base} {l : List Oper} {p : Nat} {S : St} {K : St → Prop} (hp : l.length = p) (h : K S) : Dr P B l p S K := by
  intro d a w hs Q hQ listed hl
  rw [show l.length - p = 0 from by omega]
  refine ⟨List.eq_nil_iff_forall_not_mem.mpr fun i hi => ?_, hQ _ _ _ _ h hs⟩
  obtain ⟨h1, h2, _⟩ := (ready_iff _ _ _).mp hi
  rw [hl.2 i h1] at h2
  simp at h1 h2
  omega

theorem dr_k {P : Program} {B : Base} {id : Nat} {l : List Oper} {S : St} {Q : Exit → St → Prop} (hm : P.follows .mixedOrders = true)
    (h : ∀ K : St → Prop, (∀ S', Q .normal S' → K S') → Dr P B l 0 S K) : HT P B (.region id l.toArray true) S Q := by
  intro d a w hs
  refine wp_region_any hm ?_
  have := h (Q .normal) (fun _ h => h) d a _ (hs.drew (w' := { w with drawn := w.drawn + 1 }) rfl rfl rfl rfl) (fun e a' w' => ∃ S' d', Q e S' ∧ Sim B d' S' a' w') (fun S' d' a' w' hq hs' => ⟨S', d', hq, hs'⟩) (Array.replicate l.toArray.size false) ⟨by simp, fun i hi => by rw [Array.getD_eq_getD_getElem?, Array.getElem?_replicate, if_pos hi]; simp⟩
  simpa using this
end Go.Sy
namespace Go.Sy

section
variable {P : Program} {B : Base} {ops : Array Oper} {ds : List (Option Tmp)} {bef : Nat → Nat → Prop}

structure Rest2 (P : Program) (B : Base) (ops : Array Oper) (ds : List (Option Tmp)) (bef : Nat → Nat → Prop) (p n : Nat) (listed : Array Bool) (R : List (Nat × It)) (S : St) : Prop where
  size : listed.size = ops.size
  le : n ≤ ops.size
  at_ : ∀ x ∈ R, ops[x.1]? = some x.2.o
  from_ : ∀ x ∈ R, p ≤ x.1
  open_ : ∀ i, (i ∈ R.map (·.1) ↔ i < n ∧ listed.getD i true = false)
  later : ∀ i, n ≤ i → i < ops.size → listed.getD i true = false
  ord : R.Pairwise fun p q => p.1 < q.1 ∧ (bef q.1 p.1 ∨ Ind ds p.2 q.2)
  ok : OKs P ds (R.map (·.2)) S
  new : AllNew (R.map (·.2)) S
  apart : NamesApart (R.map (·.2))
  dst : ∀ p ∈ R, ∀ n, p.2.o.dst = some n → n < B.nt
  closed : ∀ i o, ops[i]? = some o → listed.getD i true = true → i < ops.size → ∀ e ∈ o.after, Region.binds .any e = true → listed.getD e.on false = true

theorem seg_ok {K : St → Prop} {Q : Exit → Act → World → Prop} {p n : Nat} (hds : ds = ops.toList.map (·.dst)) (hback : ∀ i o, ops[i]? = some o → ∀ e ∈ o.after, Region.binds .any e = true → e.on < i)
    (hbef : ∀ i o, ops[i]? = some o → ∀ x, bef i x → ∃ e ∈ o.after, Region.binds .any e = true ∧ (e.on = x ∨ bef e.on x))
    (hlate : ∀ i o, ops[i]? = some o → n ≤ i → ∀ x, p ≤ x → x < n → bef i x)
    (hK : ∀ S d a w listed, K S → Sim B d S a w → doneTo ops n listed → wpAny P .any ops Q (ops.size - n) listed a w) :
    ∀ (fuel : Nat) (listed : Array Bool) (R : List (Nat × It)) (S : St) d a w, R.length = fuel → Rest2 P B ops ds bef p n listed R S → (∀ S', Eqv (fin (R.map (·.2)) S) S' → K S') → Sim B d S a w → wpAny P .any ops Q (fuel + (ops.size - n)) listed a w := by
  have hclosed : ∀ (listed : Array Bool), listed.size = ops.size → (∀ i o, ops[i]? = some o → listed.getD i true = true → i < ops.size → ∀ e ∈ o.after, Region.binds .any e = true → listed.getD e.on false = true) →
      ∀ n i o, i ≤ n → ops[i]? = some o → (∀ e ∈ o.after, Region.binds .any e = true → listed.getD e.on false = true) → ∀ x, bef i x → listed.getD x false = true := by
    intro listed hsz hcl n
    induction n with
    | zero =>
      intro i o hi ho hp x hx
      obtain ⟨e, he, hb, h⟩ := hbef i o ho x hx
      have := hback i o ho e he hb; omega
    | succ n ih =>
      intro i o hi ho hp x hx
      obtain ⟨e, he, hb, h⟩ := hbef i o ho x hx
      have hlt := hback i o ho e he hb
      have hl := hp e he hb
      rcases h with rfl | h
      · exact hl
      · have hes : e.on < ops.size := by
          have := (Array.getElem?_eq_some_iff.mp ho).1; omega
        obtain ⟨o', ho'⟩ : ∃ o', ops[e.on]? = some o' := ⟨_, Array.getElem?_eq_getElem hes⟩
        refine ih e.on o' (by omega) ho' (hcl e.on o' ho' ?_ hes) x h
        rw [← getD_tf (by omega)]; exact hl
  intro fuel
  induction fuel with
  | zero =>
    intro listed R S d a w hlen hR hfin hs
    have : R = [] := List.eq_nil_of_length_eq_zero hlen
    subst this
    rw [Nat.zero_add]
    refine hK _ _ _ _ _ (hfin S (Eqv.rfl' _)) hs ⟨hR.size, fun i hi => ?_⟩
    by_cases h : i < n
    · have := hR.open_ i
      simp only [List.map_nil, List.not_mem_nil, false_iff, not_and, Bool.not_eq_false] at this
      rw [this h]; simp [h]
    · rw [hR.later i (by omega) hi]; simp [h]
  | succ fuel ih =>
    intro listed R S d a w hlen hR hfin hs
    rw [show fuel + 1 + (ops.size - n) = fuel + (ops.size - n) + 1 from by omega]
    have hin0 : ∀ x ∈ R, x.1 < n ∧ listed.getD x.1 true = false := fun x hx => (hR.open_ x.1).mp (List.mem_map_of_mem hx)
    refine ⟨fun hnil => ?_, fun i hi => ?_⟩
    · cases R with
      | nil => cases hlen
      | cons q r =>
        exfalso
        obtain ⟨h1, h2⟩ := (hR.open_ q.1).mp (by simp)
        have : q.1 ∈ Region.ready .any ops listed := by
          refine (ready_iff ops listed q.1).mpr ⟨Nat.lt_of_lt_of_le h1 hR.le, h2, fun o ho e he hb => ?_⟩
          have hlt := hback q.1 o ho e he hb
          cases hl : listed.getD e.on false with
          | true => rfl
          | false =>
            exfalso
            have hes : e.on < listed.size := by rw [hR.size]; have := hR.le; omega
            have : listed.getD e.on true = false := by rw [← getD_tf hes]; exact hl
            have hin := (hR.open_ e.on).mpr ⟨by omega, this⟩
            simp only [List.map_cons, List.mem_cons, List.mem_map] at hin
            have hord := List.pairwise_cons.mp hR.ord
            rcases hin with hin | ⟨q, hq, hin⟩
            · omega
            · have := (hord.1 q hq).1; omega
        rw [hnil] at this; cases this
    · obtain ⟨h1, h2, h3⟩ := (ready_iff ops listed i).mp hi
      have hin : i < n := by
        rcases Nat.lt_or_ge i n with h | h
        · exact h
        · exfalso
          obtain ⟨o, ho⟩ : ∃ o, ops[i]? = some o := ⟨_, Array.getElem?_eq_getElem h1⟩
          cases R with
          | nil => cases hlen
          | cons q r =>
            obtain ⟨h4, h5⟩ := hin0 q (by simp)
            have h6 := hclosed listed hR.size hR.closed i i o (Nat.le_refl _) ho (h3 o ho) q.1 (hlate i o ho h q.1 (hR.from_ q (by simp)) h4)
            rw [getD_tf (by rw [hR.size]; have := hR.le; omega), h5] at h6; cases h6
      have hin := (hR.open_ i).mpr ⟨hin, h2⟩
      obtain ⟨⟨i', x⟩, hx, e⟩ := List.mem_map.mp hin
      simp only at e; subst e
      obtain ⟨ys, r, rfl⟩ := List.append_of_mem hx
      have hox : ops[i']? = some x.o := hR.at_ _ hx
      have hord := List.pairwise_append.mp hR.ord
      have hordi := List.pairwise_cons.mp hord.2.1
      have hind : ∀ y ∈ ys.map (·.2), Ind ds y x := by
        intro y hy
        obtain ⟨⟨j, y'⟩, hj, rfl⟩ := List.mem_map.mp hy
        have hp := hord.2.2 _ hj (i', x) (by simp)
        rcases hp.2 with hb | hb
        · exfalso
          have hl := hclosed listed hR.size hR.closed i' i' x.o (Nat.le_refl _) hox (h3 x.o hox) j hb
          have hopen := (hR.open_ j).mp (by simp only [List.map_append, List.mem_append, List.mem_map]; exact .inl ⟨_, hj, rfl⟩)
          rw [getD_tf (by rw [hR.size]; have := hR.le; have := hopen.1; omega), hopen.2] at hl; cases hl
        · exact hb
      have hok := hR.ok
      have hnew := hR.new
      have hap := hR.apart
      simp only [List.map_append, List.map_cons] at hok hnew hap
      obtain ⟨g1, g2, g3⟩ := bubble hok hnew hap hind
      have hnx : ∀ k ∈ x.e.names, New k S := fun k hk => hnew x (by simp) k hk
      have hdst : ∀ n, x.o.dst = some n → n < B.nt := hR.dst _ hx
      have hR' : Rest2 P B ops ds bef p n (listed.setIfInBounds i' true) (ys ++ r) (x.on S) := by
        have hi2 : i' < listed.size := by rw [hR.size]; exact h1
        have hlt : ∀ p ∈ ys, p.1 < i' := fun p hp => (hord.2.2 p hp (i', x) (by simp)).1
        have hgt : ∀ p ∈ r, i' < p.1 := fun p hp => (hordi.1 p hp).1
        have sub : ∀ q ∈ ys ++ r, q ∈ ys ++ (i', x) :: r := fun q hq => by
          simp only [List.mem_append, List.mem_cons] at hq ⊢; rcases hq with hq | hq; exact .inl hq; exact .inr (.inr hq)
        refine ⟨by rw [Array.size_setIfInBounds]; exact hR.size, hR.le, fun p hp => hR.at_ p (sub p hp), fun q hq => hR.from_ q (sub q hq), fun j => ?_, fun j hj hjs => ?_, ?_, ?_, ?_, ?_, fun p hp => hR.dst p (sub p hp), ?_⟩
        · have hj := hR.open_ j
          rw [getD_set hi2]
          simp only [List.map_append, List.map_cons, List.mem_append, List.mem_cons, List.mem_map] at hj ⊢
          by_cases hji : j = i'
          · subst hji
            rw [if_pos rfl]
            constructor
            · rintro (⟨p, hp, e⟩ | ⟨p, hp, e⟩)
              · have := hlt p hp; omega
              · have := hgt p hp; omega
            · rintro ⟨_, h⟩; cases h
          · rw [if_neg hji, ← hj]
            constructor
            · rintro (h | h)
              · exact .inl h
              · exact .inr (.inr h)
            · rintro (h | h | h)
              · exact .inl h
              · exact absurd h hji
              · exact .inr h
        · have := (hin0 (i', x) (by simp)).1
          rw [getD_set hi2, if_neg (by omega)]
          exact hR.later j hj hjs
        · exact List.pairwise_append.mpr ⟨hord.1, hordi.2, fun p hp q hq => hord.2.2 p hp q (by simp [hq])⟩
        · rw [List.map_append]; exact g2
        · rw [List.map_append]
          have hmid := apart_mid hap
          refine AllNew.on (P := P) (ds := ds) (x := x) (r := ys.map (·.2) ++ r.map (·.2)) (S := S) (fun y hy k hk => hnew y ?_ k hk) g1 hmid
          simp only [List.mem_append, List.mem_cons] at hy ⊢; rcases hy with hy | hy; exact .inl hy; exact .inr (.inr hy)
        · rw [List.map_append]; exact hap.drop
        · intro j o ho hl hjs e he hb
          rw [getD_set hi2] at hl ⊢
          by_cases hei : e.on = i'
          · rw [if_pos hei]
          · rw [if_neg hei]
            by_cases hji : j = i'
            · subst hji
              rw [hox] at ho; cases ho
              exact h3 _ hox e he hb
            · rw [if_neg hji] at hl
              exact hR.closed j o ho hl hjs e he hb
      have hlen' : (ys ++ r).length = fuel := by simp at hlen ⊢; omega
      have hgo : ∀ d' a' w', Sim B d' (x.on S) a' w' → wpAny P .any ops Q (fuel + (ops.size - n)) (listed.setIfInBounds i' true) a' w' := by
        intro d' a' w' hs'
        refine ih _ (ys ++ r) (x.on S) d' a' w' hlen' hR' (fun S' he => hfin S' ?_) hs'
        simp only [List.map_append, List.map_cons]
        rw [List.map_append] at he
        exact g3.trans he
      have hev := g1.ev
      have hg := g1.guard
      have run : x.skip = false → x.o.wp P a w (wpAny P .any ops Q (fuel + (ops.size - n)) (listed.setIfInBounds i' true)) Q := by
        intro hsk
        rw [hsk] at hev
        simp only [Bool.false_eq_true, if_false] at hev
        exact hev.run hs hnx hdst _ _ hgo
      have skp : x.skip = true → wpAny P .any ops Q (fuel + (ops.size - n)) (listed.setIfInBounds i' true) (a.put x.o.dst undef) w := by
        intro hsk
        rw [hsk] at hev
        simp only [if_true] at hev
        refine hgo d _ _ ?_
        unfold It.on
        rw [hev]
        exact Sim.putE hs (v := .tup []) (undef_den d) hdst
      simp only [wpOp, hox]
      cases hgd : x.o.guard with
      | none =>
        rw [hgd] at hg
        rw [if_pos (by simp [Region.wanted, hgd])]
        exact .inl (run hg)
      | some g =>
        rw [hgd] at hg
        simp only at hg
        obtain ⟨c, hc, hsk⟩ := hg
        have hw := wanted_of hs hds hgd hc
        rw [hw]
        by_cases hcg : c = g.2
        · rw [if_pos (by simp [hcg])]
          exact .inl (run (by rw [hsk, hcg]; simp))
        · rw [if_neg (by simp [hcg])]
          exact skp (by rw [hsk]; simpa using hcg)
end

def pieceOk (ds : List (Option Tmp)) (c : List Nat) (need : List (Nat × Nat)) (p n : Nat) (l : List Oper) : Bool :=
  decide (p ≤ n) && decide (n ≤ l.length) && (List.range l.length).all fun j => match l[j]? with
    | none => true
    | some o => o.after.toList.all (fun e => !Region.binds .any e || decide (e.on < j)) &&
      (List.range j).all fun i =>
        (!(c.getD j 0).testBit i || o.after.toList.any (fun e => Region.binds .any e && (e.on == i || (decide (i < e.on) && (c.getD e.on 0).testBit i)))) &&
        (decide (i < p) || decide (n ≤ i) || (c.getD j 0).testBit i || (decide (j < n) && match l[i]? with
          | some x => dstS ds x o && ((!mutOp x.op && !mutOp o.op) || need.contains (i - p, j - p))
          | none => true))

theorem dr_piece {P : Program} {B : Base} {l seg : List Oper} {p : Nat} {ds : List (Option Tmp)} {S : St} {K : St → Prop} (n : Nat) (names c : List Nat) (need : List (Nat × Nat)) (hds : dsOf l = ds) (hst : pieceOk ds c need p n l = true) (hseg : (l.drop p).take (n - p) = seg)
    (hn : names.all (fun k => fresh k S && (look S.mem k).isNone) = true)
    (h : ∀ K' : St → List Da → Prop, (∀ S' D, chkD seg D need → Dr P B l n S' K → K' S' D) → runD P B.nt names ds (!need.isEmpty) seg [] [] S K') : Dr P B l p S K := by
  intro d a w hs Q hQ listed hlisted
  obtain ⟨its, hi, hchk, hK⟩ := runD_items (h (fun S' D => chkD seg D need ∧ Dr P B l n S' K) (fun _ _ h1 h2 => ⟨h1, h2⟩))
  have hget : ∀ i o, l.toArray[i]? = some o → l[i]? = some o := fun i o h => by rw [List.getElem?_toArray] at h; exact h
  simp only [pieceOk, Bool.and_eq_true, decide_eq_true_eq, List.all_eq_true, List.mem_range] at hst
  obtain ⟨⟨hpn, hnl⟩, hst⟩ := hst
  have hst' : ∀ j o, l[j]? = some o → (∀ e ∈ o.after, Region.binds .any e = true → e.on < j) ∧ ∀ i, i < j →
      ((c.getD j 0).testBit i = true → ∃ e ∈ o.after, Region.binds .any e = true ∧ (e.on = i ∨ (i < e.on ∧ (c.getD e.on 0).testBit i = true))) ∧
      (p ≤ i → i < n → (c.getD j 0).testBit i = true ∨ (j < n ∧ ∀ x, l[i]? = some x → dstS ds x o = true ∧ ((mutOp x.op = false ∧ mutOp o.op = false) ∨ (i - p, j - p) ∈ need))) := by
    intro j o ho
    have hj := (List.getElem?_eq_some_iff.mp ho).1
    have := hst j hj
    rw [ho] at this
    simp only [Bool.and_eq_true, List.all_eq_true, List.mem_range, Bool.or_eq_true, Bool.not_eq_true', decide_eq_true_eq, List.any_eq_true, beq_iff_eq] at this
    refine ⟨fun e he hb => ?_, fun i hi => ?_⟩
    · rcases this.1 e (by simpa using he) with h1 | h1
      · rw [hb] at h1; cases h1
      · exact h1
    · obtain ⟨h1, h2⟩ := this.2 i hi
      refine ⟨fun ht => ?_, fun h3 h4 => ?_⟩
      · rcases h1 with h1 | ⟨e, he, hb, h1⟩
        · rw [ht] at h1; cases h1
        · exact ⟨e, by simpa using he, hb, h1⟩
      · rcases h2 with ((h2 | h2) | h2) | ⟨h5, h2⟩
        · omega
        · omega
        · exact .inl h2
        · right
          refine ⟨h5, fun x hx => ?_⟩
          rw [hx] at h2
          simp only [Bool.and_eq_true, Bool.or_eq_true, Bool.not_eq_true', List.contains_iff_mem] at h2
          exact h2
  have hseglen : seg.length = n - p := by rw [← hseg, List.length_take, List.length_drop]; omega
  have hlen : its.length = n - p := by rw [← hseglen, ← hi.ops, List.length_map]
  have hsegat : ∀ i o, seg[i]? = some o → l[p + i]? = some o := by
    intro i o ho
    have hlt := (List.getElem?_eq_some_iff.mp ho).1
    rw [← hseg, List.getElem?_take, if_pos (by omega), List.getElem?_drop] at ho
    exact ho
  let R : List (Nat × It) := its.zipIdx.map fun q => (q.2 + p, q.1)
  have hRmap : R.map (·.2) = its := by
    simp only [R, List.map_map]
    exact List.zipIdx_map_fst 0 its
  have hRmem : ∀ q ∈ R, p ≤ q.1 ∧ its[q.1 - p]? = some q.2 := by
    intro q hq
    obtain ⟨⟨x, i⟩, hq', rfl⟩ := List.mem_map.mp hq
    have := List.mem_zipIdx_iff_getElem?.mp hq'
    exact ⟨Nat.le_add_left _ _, by simpa using this⟩
  have hitl : ∀ (i : Nat) (x : It), its[i]? = some x → seg[i]? = some x.o := by
    intro i x hx
    rw [← hi.ops, List.getElem?_map, hx]; rfl
  have hRl : ∀ q ∈ R, l[q.1]? = some q.2.o := by
    intro q hq
    obtain ⟨h1, h2⟩ := hRmem q hq
    have := hsegat _ _ (hitl _ _ h2)
    rwa [show p + (q.1 - p) = q.1 from by omega] at this
  have hRn : ∀ q ∈ R, q.1 < n := by
    intro q hq
    obtain ⟨h1, h2⟩ := hRmem q hq
    have := (List.getElem?_eq_some_iff.mp h2).1
    omega
  have hmain := seg_ok (P := P) (B := B) (ops := l.toArray) (ds := ds) (bef := fun j i => i < j ∧ (c.getD j 0).testBit i = true) (Q := Q) (p := p) (n := n) (K := fun S' => Eqv S' (fin its S))
    (by rw [← hds, dsOf_eq]) (fun i o ho => (hst' i o (hget i o ho)).1) ?_ ?_ ?_ its.length listed R S d a w (by simp [R]) ?_ ?_ hs
  · rw [hlen, show n - p + (l.toArray.size - n) = l.length - p from by simp; omega] at hmain
    exact hmain
  · intro i o ho x ⟨hx1, hx2⟩
    obtain ⟨e, he, hb, h1⟩ := ((hst' i o (hget i o ho)).2 x hx1).1 hx2
    exact ⟨e, he, hb, h1⟩
  · intro i o ho hni x hpx hxn
    rcases ((hst' i o (hget i o ho)).2 x (by omega)).2 hpx hxn with h1 | h1
    · exact ⟨by omega, h1⟩
    · omega
  · intro S' d' a' w' listed' he hs' hl'
    have := hK d' a' w' (hs'.eqv he) Q hQ listed' hl'
    simpa using this
  · refine ⟨hlisted.1, by simpa using hnl, fun q hq => (by rw [List.getElem?_toArray]; exact hRl q hq : l.toArray[q.1]? = some q.2.o), fun q hq => (hRmem q hq).1, fun i => ?_, fun i hi1 hi2 => ?_, ?_, by rw [hRmap]; exact hi.ok, ?_, by rw [hRmap]; exact hi.apart, fun q hq => hi.dst q.2 (by rw [← hRmap]; exact List.mem_map_of_mem hq), ?_⟩
    · constructor
      · intro h1
        obtain ⟨q, hq, rfl⟩ := List.mem_map.mp h1
        have h2 := hRn q hq
        refine ⟨h2, ?_⟩
        rw [hlisted.2 q.1 (by simp; omega)]
        have := (hRmem q hq).1
        simp; omega
      · rintro ⟨h1, h2⟩
        rw [hlisted.2 i (by simp; omega)] at h2
        have h3 : p ≤ i := by simpa using h2
        have h4 : i - p < its.length := by omega
        refine List.mem_map.mpr ⟨(i, its[i - p]), ?_, rfl⟩
        refine List.mem_map.mpr ⟨(its[i - p], i - p), ?_, by simp; omega⟩
        exact List.mem_zipIdx_iff_getElem?.mpr (by simp [h4])
    · rw [hlisted.2 i hi2]; simp; omega
    · have hp1 : its.zipIdx.Pairwise fun p q => p.2 < q.2 := by
        rw [List.pairwise_iff_getElem]
        intro i j hi' hj' hij
        simp only [List.getElem_zipIdx]; omega
      have hp2 : R.Pairwise fun p q => p.1 < q.1 := List.pairwise_map.mpr (hp1.imp fun h => by simp only; omega)
      refine hp2.imp_of_mem ?_
      intro x y hp hq hlt
      refine ⟨hlt, ?_⟩
      obtain ⟨hpi0, hpi⟩ := hRmem x hp
      obtain ⟨hqi0, hqi⟩ := hRmem y hq
      rcases ((hst' y.1 y.2.o (hRl _ hq)).2 x.1 hlt).2 hpi0 (hRn _ hp) with h1 | ⟨_, h1⟩
      · exact .inl ⟨hlt, h1⟩
      · right
        obtain ⟨h2, h3⟩ := h1 _ (hRl _ hp)
        have hpm : x.2 ∈ its := List.mem_of_getElem? hpi
        have hqm : y.2 ∈ its := List.mem_of_getElem? hqi
        simp only [dstS, Bool.and_eq_true] at h2
        have sub : ∀ x : It, ∀ n, n ∈ tmpsOf (x.reads ds) → n ∈ tmpsOf (gslot ds x.o ++ x.o.op.operands.toList) := by
          intro x n hn
          unfold It.reads at hn
          simp only [tmpsOf, List.filterMap_append, List.mem_append] at hn ⊢
          rcases hn with hn | hn
          · exact .inl hn
          · right
            split at hn
            · cases hn
            · exact hn
        have hmu : (x.2.e.mut = false ∨ y.2.e.mut = false) ∧ touch x.2 y.2 ∧ touch y.2 x.2 := by
          rcases h3 with ⟨h4, h5⟩ | h4
          · have e1 : x.2.e.mut = false := by
              cases hc : x.2.e.mut with
              | false => rfl
              | true => have := hi.mu _ hpm hc; rw [h4] at this; cases this
            have e2 : y.2.e.mut = false := by
              cases hc : y.2.e.mut with
              | false => rfl
              | true => have := hi.mu _ hqm hc; rw [h5] at this; cases this
            exact ⟨.inl e1, touch_not e1, touch_not e2⟩
          · have := chkD_mem hchk _ h4
            have hk : (!need.isEmpty) = true := by
              cases need with
              | nil => cases h4
              | cons => rfl
            rw [hk] at this
            simp only [cond_true, List.nil_append, List.getElem?_map, hpi, hqi, hitl _ _ hpi, hitl _ _ hqi, Option.map_some, atD, pairD] at this
            have hd1 := hi.dp _ hpm
            have hd2 := hi.dp _ hqm
            rw [hk] at hd1 hd2
            exact ⟨this.1, touch_of this.2.1 hd2, touch_of this.2.2 hd1⟩
        refine ⟨fun n hn' hin => ?_, fun n hn' hin => ?_, fun n hn' => ?_, hmu.1, hmu.2.1, hmu.2.2⟩
        · have := h2.1
          rw [hn'] at this
          simp only [Bool.and_eq_true, Bool.not_eq_true'] at this
          have hc := sub _ _ hin
          rw [← List.contains_iff_mem] at hc
          rw [this.1] at hc; cases hc
        · have := h2.2
          rw [hn'] at this
          simp only [Bool.not_eq_true'] at this
          have hc := sub _ _ hin
          rw [← List.contains_iff_mem] at hc
          rw [this] at hc; cases hc
        · have := h2.1
          rw [hn'] at this
          simp only [Bool.and_eq_true, bne_iff_ne] at this
          exact this.2
    · rw [hRmap]
      intro x hx k hk
      have := (hi.nm x hx k hk).1
      simp only [List.all_eq_true, Bool.and_eq_true] at hn
      have h1 := hn k this
      have h2 := hasE_not h1.1
      exact ⟨⟨fun n v hv => hasE_look h2.1 hv, fun n o ho => hasM_look h2.2 ho, fresh_lt h1.1⟩, by simpa using h1.2⟩
    · intro i o ho hl hsz e he hb
      rw [hlisted.2 i hsz] at hl
      have h1 := (hst' i o (hget i o ho)).1 e he hb
      rw [hlisted.listed]
      simp at hl hsz ⊢
      omega
  · intro S' he
    rw [hRmap] at he
    exact he.symm
theorem dr_piece_k {P : Program} {B : Base} {l seg : List Oper} {p : Nat} {ds : List (Option Tmp)} {S : St} {K : St → Prop} (n : Nat) (names c : List Nat) (need : List (Nat × Nat)) (hds : dsOf l = ds) (hst : pieceOk ds c need p n l = true) (hseg : (l.drop p).take (n - p) = seg)
    (hn : names.all (fun k => fresh k S && (look S.mem k).isNone) = true)
    (h : ∀ (N : St → Prop) (K' : St → List Da → Prop), (∀ S', Dr P B l n S' K → N S') → (∀ S' D, chkD seg D need → N S' → K' S' D) → runD P B.nt names ds (!need.isEmpty) seg [] [] S K') : Dr P B l p S K :=
  dr_piece n names c need hds hst hseg hn fun K' hK' => h (fun S' => Dr P B l n S' K) K' (fun _ h => h) hK'
end Go.Sy
namespace Go.Sy
open Go.RowKit Go.WideShapes Go.ChangeShapes Go.ChangeAt

def formOk (P : Program) (K : List TypeId) (t : TypeId) : Bool := match P.underlying t with
  | some .bool | some (.int .i64) | some (.int .u8) | some (.int .u32) | some (.int .u64) | some .string => P.cellsOf t == 1
  | some (.slice e) => P.cellsOf t == 1 && (P.cellsOf e != 0 && K.contains e)
  | some (.struct fs) => tileFs P fs.toList 0 (P.cellsOf t) && fs.toList.all fun f => K.contains f.type
  | some (.array m e) => P.cellsOf t == m * P.cellsOf e && K.contains e
  | _ => false
theorem cell_spot {w : World} {a : Addr} {v : Value} (h : w.cell? a = some v) : a.spot = none := by
  unfold World.cell? at h
  split at h <;> try (cases h; done)
  split at h
  · cases h
  · rename_i hs; simpa using hs
section
variable {H : Type} {enc : TypeId × Value → H} {P : Program} {w : World} {base : Nat} {spare : Nat → Bool} {held : Bool}
theorem open_all {K : List TypeId} (hK : K.all (formOk P K) = true) : ∀ (n : Nat) (t : TypeId) (cs : List Value) (y : DataW H × List MemPlace), DataW.trod enc P w base spare held n t cs = some y → K.contains t = true →
    ∃ xs, Sh P n t xs ∧ xs.length = cs.length ∧ All2 (PL.den (Va.reads w).ro) xs cs := by
  intro n
  induction n with
  | zero => intro t cs y h; simp [DataW.trod] at h
  | succ n ih =>
    intro t cs y h hk0
    have hk := List.all_eq_true.mp hK t (by simpa using hk0)
    unfold formOk at hk
    split at hk <;> try (cases hk; done)
    · rename_i ht
      obtain ⟨b, rfl, _⟩ := DataW.trod_bool ht h
      exact ⟨[.b b], by unfold Sh; rw [ht]; exact ⟨b, rfl⟩, rfl, .cons (by rw [PL.den]) .nil⟩
    · rename_i ht
      obtain ⟨k, rfl, _, hwf⟩ := DataW.trod_int ht h
      simp only [Lit.wf, IntKind.min, IntKind.max, IntKind.signed, IntKind.bits, Bool.and_eq_true, decide_eq_true_eq, if_true] at hwf
      exact ⟨[.i k], by unfold Sh; rw [ht]; exact ⟨k, rfl, by omega, by omega⟩, rfl, .cons (by rw [PL.den]) .nil⟩
    · rename_i ht
      obtain ⟨k, rfl, _, hwf⟩ := DataW.trod_int ht h
      simp only [Lit.wf, IntKind.min, IntKind.max, IntKind.signed, IntKind.bits, Bool.and_eq_true, decide_eq_true_eq] at hwf
      exact ⟨[.u8 (UInt8.ofNat k.toNat)], by unfold Sh; rw [ht]; exact ⟨_, rfl⟩, rfl, .cons (by rw [PL.den]; congr 1; simp at hwf ⊢; omega) .nil⟩
    · rename_i ht
      obtain ⟨k, rfl, _, hwf⟩ := DataW.trod_int ht h
      simp only [Lit.wf, IntKind.min, IntKind.max, IntKind.signed, IntKind.bits, Bool.and_eq_true, decide_eq_true_eq] at hwf
      exact ⟨[.u32 (UInt32.ofNat k.toNat)], by unfold Sh; rw [ht]; exact ⟨_, rfl⟩, rfl, .cons (by rw [PL.den]; congr 1; simp at hwf ⊢; omega) .nil⟩
    · rename_i ht
      obtain ⟨k, rfl, _, hwf⟩ := DataW.trod_int ht h
      simp only [Lit.wf, IntKind.min, IntKind.max, IntKind.signed, IntKind.bits, Bool.and_eq_true, decide_eq_true_eq] at hwf
      exact ⟨[.u64 (UInt64.ofNat k.toNat)], by unfold Sh; rw [ht]; exact ⟨_, rfl⟩, rfl, .cons (by rw [PL.den]; congr 1; simp at hwf ⊢; omega) .nil⟩
    · rename_i ht
      obtain ⟨s, rfl, _, hs⟩ := DataW.trod_string ht h
      have hl : s.data.toList.length = s.size := Array.length_toList
      exact ⟨[.str s.data.toList], by unfold Sh; rw [ht]; exact ⟨_, rfl, by omega⟩, rfl, .cons (by rw [PL.den]; exact ⟨by simp, by omega⟩) .nil⟩
    · rename_i e ht
      simp only [Bool.and_eq_true, beq_iff_eq, bne_iff_ne] at hk
      rcases DataW.trod_slice ht h with ⟨rfl, _⟩ | ⟨a, len, cap, elems, rest, n', hn, rfl, _, hb, hl, hm, hel, hi, _⟩
      · exact ⟨[.R false (P.cellsOf e) []], by unfold Sh; rw [ht]; exact ⟨[], rfl, fun r hr => (by cases hr), Nat.zero_le _⟩, rfl, .cons (by rw [PL.den]; exact .inl ⟨rfl, rfl⟩) .nil⟩
      · cases hn
        rcases Nat.eq_zero_or_pos len with rfl | hpos
        · exact ⟨[.R false (P.cellsOf e) []], by unfold Sh; rw [ht]; exact ⟨[], rfl, fun r hr => (by cases hr), Nat.zero_le _⟩, rfl, .cons (by rw [PL.den]; exact .inr (.inr ⟨a, cap, rfl, rfl, hm, fun h => (by cases h)⟩)) .nil⟩
        have hsa : a.spot = none := by
          have h1 := hi 0 hpos
          have : 0 < elems.length := by omega
          rw [List.getElem?_eq_getElem this] at h1
          obtain ⟨cs', hc, _⟩ := Option.bind_eq_some_iff.mp h1
          obtain ⟨_, hcl, hcc⟩ := World.cells?_some hc
          have h0 := hcc 0 (by omega)
          have hlt : 0 < cs'.length := by omega
          rw [List.getElem?_eq_getElem hlt] at h0
          have := cell_spot h0
          simpa [Addr.add] using this
        obtain ⟨blk, off, sp⟩ := a
        simp only at hsa; subst hsa
        have each : ∀ i ∈ List.range len, ∃ r : List PL, Sh P n e r ∧ r.length = P.cellsOf e ∧ PL.denAt (Va.reads w).ro blk r (off + i * P.cellsOf e) := by
          intro i hi'
          have hlt : i < len := by simpa using hi'
          have h1 := hi i hlt
          have : i < elems.length := by omega
          rw [List.getElem?_eq_getElem this] at h1
          obtain ⟨cs', hc, ht'⟩ := Option.bind_eq_some_iff.mp h1
          obtain ⟨_, hcl, hcc⟩ := World.cells?_some hc
          have hcell : ∀ j v, cs'[j]? = some v → w.cell? ⟨blk, off + i * P.cellsOf e + j, none⟩ = some v := by
            intro j v hj
            have hj' : j < P.cellsOf e := by
              have := (List.getElem?_eq_some_iff.mp hj).1; omega
            have := hcc j hj'
            rw [hj] at this
            rw [← this]
            congr 1
            rw [addr_add, addr_add]
          obtain ⟨xs, hx1, hx2, hx3⟩ := ih e cs' _ ht' hk.2.2
          exact ⟨xs, hx1, by omega, denAt_of hx3 fun j v hj => hcell j v hj⟩
        obtain ⟨rows, hrows⟩ := choose_list _ each
        have hlen : rows.length = len := by have := hrows.length; simpa using this.symm
        have hget : ∀ i r, rows[i]? = some r → Sh P n e r ∧ r.length = P.cellsOf e ∧ PL.denAt (Va.reads w).ro blk r (off + i * P.cellsOf e) := by
          intro i r hr
          obtain ⟨j, hj, hp⟩ := hrows.flip.get hr
          have hil : i < len := by
            have := (List.getElem?_eq_some_iff.mp hr).1; omega
          rw [List.getElem?_range hil] at hj
          cases hj; exact hp
        refine ⟨[.R false (P.cellsOf e) rows], ?_, rfl, .cons ?_ .nil⟩
        · unfold Sh; rw [ht]
          refine ⟨rows, rfl, fun r hr => ?_, by omega⟩
          obtain ⟨i, hi'⟩ := List.mem_iff_getElem?.mp hr
          exact ⟨(hget i r hi').1, (hget i r hi').2.1⟩
        · rw [PL.den]
          refine .inr (.inl ⟨blk, off, cap, by rw [hlen], by omega, hm, fun h => (by cases h), denRows_of (fun r hr => ?_) fun i r hr => (hget i r hr).2.2⟩)
          obtain ⟨i, hi'⟩ := List.mem_iff_getElem?.mp hr
          exact (hget i r hi').2.1
    · rename_i fs ht
      simp only [Bool.and_eq_true, List.all_eq_true] at hk
      obtain ⟨xs, n', hn, _, hl, hxs, hf⟩ := DataW.trod_struct ht h
      cases hn
      have each : ∀ f ∈ fs.toList, ∃ r : List PL, (Sh P n f.type r ∧ r.length = P.cellsOf f.type) ∧ All2 (PL.den (Va.reads w).ro) r ((cs.drop f.offset).take (P.cellsOf f.type)) := by
        intro f hf'
        obtain ⟨i, hi⟩ := List.mem_iff_getElem?.mp hf'
        rw [Array.getElem?_toList] at hi
        have h1 := hf i f hi
        have hi2 : i < xs.length := by rw [hxs]; exact (Array.getElem?_eq_some_iff.mp hi).1
        rw [List.getElem?_eq_getElem hi2] at h1
        obtain ⟨ys, hy1, hy2, hy3⟩ := ih f.type _ _ h1 (hk.2 f hf')
        have hle := tile_le _ _ hk.1 f hf'
        exact ⟨ys, ⟨hy1, by rw [hy2, take_len (by omega)]⟩, hy3⟩
      obtain ⟨ps, hps⟩ := choose_list _ each
      have hfl := tile_split cs hl fs.toList 0 hk.1
      rw [List.drop_zero] at hfl
      have hall : All2 (PL.den (Va.reads w).ro) ps.flatten cs := by
        rw [← hfl]
        refine all2_flatten (All2.map_r ?_)
        exact hps.flip.mono fun p f _ h => h.2
      exact ⟨ps.flatten, by unfold Sh; rw [ht]; exact ⟨ps, rfl, hps.mono fun f p _ h => h.1⟩, hall.length, hall⟩
    · rename_i k e ht
      simp only [Bool.and_eq_true, beq_iff_eq] at hk
      obtain ⟨n', hn, hl, hi⟩ := trod_array ht h
      cases hn
      have each : ∀ i ∈ List.range k, ∃ r : List PL, (Sh P n e r ∧ r.length = P.cellsOf e) ∧ All2 (PL.den (Va.reads w).ro) r ((cs.drop (i * P.cellsOf e)).take (P.cellsOf e)) := by
        intro i hi'
        have hlt : i < k := by simpa using hi'
        obtain ⟨y', hy'⟩ := hi i hlt
        obtain ⟨ys, hy1, hy2, hy3⟩ := ih e _ _ hy' hk.2
        have hle : i * P.cellsOf e + P.cellsOf e ≤ cs.length := by
          rw [hl, hk.1]
          have : (i + 1) * P.cellsOf e ≤ k * P.cellsOf e := Nat.mul_le_mul_right _ hlt
          rw [Nat.add_mul] at this; omega
        exact ⟨ys, ⟨hy1, by rw [hy2, take_len hle]⟩, hy3⟩
      obtain ⟨ps, hps⟩ := choose_list _ each
      have hfl := chunk_flatten (P.cellsOf e) k cs (by rw [hl, hk.1])
      have hall : All2 (PL.den (Va.reads w).ro) ps.flatten cs := by
        rw [← hfl]
        refine all2_flatten (All2.map_r ?_)
        exact hps.flip.mono fun p f _ h => h.2
      refine ⟨ps.flatten, ?_, hall.length, hall⟩
      unfold Sh; rw [ht]
      refine ⟨ps, rfl, by have := hps.length; simpa using this.symm, fun p hp => ?_⟩
      obtain ⟨i, hi'⟩ := List.mem_iff_getElem?.mp hp
      obtain ⟨j, _, hj⟩ := hps.flip.get hi'
      exact hj.1
theorem open_deep {t : TypeId} {v : Value} {d : DataW H} {p : List MemPlace} {b0 : Nat} (K : List TypeId) (hK : K.all (formOk P K) = true) (hk : K.contains t = true) (hv : Value.okWide P w .any b0 t v) (hts : (match P.underlying t with
      | some (.struct _) | some (.array _ _) | some (.slice _) | some .bool | some (.int _) | some .string => true
      | _ => false) = true) (h : DataW.Trod enc P w base spare held t v d p) :
    ∃ (n : Nat) (xs : List PL), Sh P n t xs ∧ (V.w (match P.underlying t with
      | some (.struct _) | some (.array _ _) => .agg (pls xs)
      | _ => .one (.pl (xs.headD .u)))).den (Va.reads w) v := by
  obtain ⟨fuel, hf⟩ := h
  obtain ⟨xs, h1, h2, h3⟩ := open_all hK fuel t _ _ hf hk
  refine ⟨fuel, xs, h1, ?_⟩
  have hd := den_pls (d := Va.reads w) h3
  unfold Value.okWide at hv
  split at hv
  · rename_i fs ht
    obtain ⟨cs, rfl, _⟩ := hv
    rw [ht]
    exact ⟨cs, rfl, hd⟩
  · rename_i k e ht
    obtain ⟨cs, rfl, _⟩ := hv
    rw [ht]
    exact ⟨cs, rfl, hd⟩
  · rename_i hn1 hn2
    have hq : (match P.underlying t with
          | some (.slice _) | some .bool | some (.int _) | some .string => true
          | _ => false) = true := by
      split at hts
      · rename_i fs ht; exact absurd ht (hn1 fs)
      · rename_i k e ht; exact absurd ht (hn2 k e)
      all_goals simp_all
    have hone : v.cells = #[v] := by
      cases v <;> first | rfl | (exfalso; unfold Cell.okWide at hv; cases hu : P.underlying t with
          | none => rw [hu] at hq; cases hq
          | some d => rw [hu] at hv hq; cases d <;> first | (cases hq; done) | (simp [Cell.ok, hu] at hv))
    rw [hone] at hd
    have : ∃ x, xs = [x] ∧ L.den (Va.reads w) (.pl x) v := by
      cases xs with
      | nil => cases hd
      | cons x r =>
        cases hd with
        | cons g1 g2 =>
          cases r with
          | nil => exact ⟨x, rfl, g1⟩
          | cons _ _ => cases g2
    obtain ⟨x, rfl, hx⟩ := this
    split
    · rename_i fs ht; exact absurd ht (hn1 fs)
    · rename_i k e ht; exact absurd ht (hn2 k e)
    · exact hx
end
end Go.Sy
