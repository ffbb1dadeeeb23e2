/- The layer: comparisons, conversions, composites; all operations that only read. -/
import Derived.Test.YtmopmlnpoeeomaaE7
set_option linter.unusedVariables false
set_option linter.unusedSimpArgs false
namespace Go.Sy

theorem flatFs_mono {P : Program} {g g' : TypeId → Option (List Kd)} (h : ∀ t ks, g t = some ks → g' t = some ks) : ∀ (fs : List Field) (off : Nat) (ks : List Kd), flatFs P g fs off = some ks → flatFs P g' fs off = some ks
  | [], _, _, hk => hk
  | f :: fs, off, ks, hk => by
    unfold flatFs at *
    split at hk <;> try (cases hk; done)
    rename_i hc
    split at hk <;> try (cases hk; done)
    rename_i k1 hg
    split at hk <;> try (cases hk; done)
    rename_i hc2
    cases h2 : flatFs P g fs (off + k1.length) with
    | none => simp [h2] at hk
    | some k2 =>
      rw [if_pos hc, h _ _ hg]
      simp only
      rw [if_pos hc2, flatFs_mono h fs _ _ h2, ← hk, h2]

theorem flatK_mono {P : Program} : ∀ (n : Nat) (t : TypeId) (ks : List Kd), flatK P n t = some ks → flatK P (n + 1) t = some ks
  | 0, _, _, h => by cases h
  | n + 1, t, ks, h => by
    rw [flatK] at h
    rw [flatK]
    split at h <;> rename_i hu <;> try exact h
    · split at h <;> try (cases h; done)
      rename_i hst
      rw [if_pos hst]; exact flatFs_mono (flatK_mono n) _ _ _ h
    · split at h <;> try (cases h; done)
      rename_i ke hke
      rw [flatK_mono n _ _ hke]; exact h

theorem flatK_add {P : Program} {n : Nat} {t : TypeId} {ks : List Kd} (h : flatK P n t = some ks) : ∀ m, flatK P (n + m) t = some ks
  | 0 => h
  | m + 1 => flatK_mono _ _ _ (flatK_add h m)

def kindL : L → Option Kd
  | .pl (.u8 _) => some (.int .u8)
  | .pl (.u32 _) => some (.int .u32)
  | .pl (.u64 _) => some (.int .u64)
  | .pl (.i _) => some (.int .i64)
  | .pl (.b _) => some .b
  | .pl (.str _) => some .s
  | _ => none

def eqL : L → L → Bool
  | .pl (.u8 x), .pl (.u8 y) => decide (x = y)
  | .pl (.u32 x), .pl (.u32 y) => decide (x = y)
  | .pl (.u64 x), .pl (.u64 y) => decide (x = y)
  | .pl (.i x), .pl (.i y) => decide (x = y)
  | .pl (.b x), .pl (.b y) => decide (x = y)
  | .pl (.str x), .pl (.str y) => decide (x = y)
  | _, _ => false

def eqC : List L → List L → Bool
  | x :: xs, y :: ys => eqL x y && eqC xs ys
  | _, _ => true

theorem kindL_ok {d : Va} {l : L} {y : Value} {k : Kd} (h : kindL l = some k) (hd : l.den d y) : kindV y = some k := by
  unfold kindL at h
  split at h <;> cases h <;> (rw [L.den, PL.den] at hd) <;> first | (rw [hd]; rfl) | (rw [hd.1]; rfl)

theorem toList_mk (s : List UInt8) : (⟨s.toArray⟩ : ByteArray).toList = s := by rw [ByteArray.toList_eq]

theorem eqL_ok {d : Va} {a b : L} {x y : Value} {k : Kd} (ha : kindL a = some k) (hb : kindL b = some k) (hx : a.den d x) (hy : b.den d y) : eqv x y = eqL a b := by
  unfold kindL at ha
  split at ha <;> cases ha <;> (unfold kindL at hb; split at hb <;> cases hb) <;> (rw [L.den, PL.den] at hx hy) <;>
    first
    | (subst hx; subst hy; simp [eqv, eqL, BEq.beq, UInt8.toNat_inj, UInt32.toNat_inj, UInt64.toNat_inj, Int.natCast_inj]; done)
    | (rw [hx.1, hy.1]; simp only [eqv, eqL, toList_mk]; rw [Bool.eq_iff_iff]; simp)

theorem eqC_ok {d : Va} : ∀ {xs ys : List L} {vs us : List Value} {ks : List Kd}, xs.map kindL = ks.map some → ys.map kindL = ks.map some → All2 (L.den d) xs vs → All2 (L.den d) ys us → eqVals vs us = eqC xs ys ∧ Kinds ks vs ∧ Kinds ks us
  | [], [], _, _, ks, h, h', hx, hy => by
    cases hx; cases hy
    cases ks with
    | nil => exact ⟨rfl, rfl, rfl⟩
    | cons => simp at h
  | [], y :: ys, _, _, ks, h, h', hx, hy => by cases ks <;> simp at h h'
  | x :: xs, [], _, _, ks, h, h', hx, hy => by cases ks <;> simp at h h'
  | x :: xs, y :: ys, _, _, [], h, h', hx, hy => by simp at h
  | x :: xs, y :: ys, _, _, k :: ks, h, h', hx, hy => by
    cases hx with
    | cons hx1 hx2 =>
      cases hy with
      | cons hy1 hy2 =>
        simp only [List.map_cons, List.cons.injEq] at h h'
        obtain ⟨e1, e2, e3⟩ := eqC_ok h.2 h'.2 hx2 hy2
        refine ⟨by simp only [eqVals, eqC, e1, eqL_ok h.1 h'.1 hx1 hy1], ?_, ?_⟩
        · simp only [Kinds, List.map_cons, kindL_ok h.1 hx1]; rw [e2]
        · simp only [Kinds, List.map_cons, kindL_ok h'.1 hy1]; rw [e3]

def aggEq (P : Program) (t : TypeId) (xs ys : List L) : Option Bool :=
  match flatK P 9 t with
  | some ks => if xs.map kindL = ks.map some ∧ ys.map kindL = ks.map some ∧ P.eqGuardType P.depth t = false then some (eqC xs ys) else none
  | none => none

theorem flatK_agg {P : Program} {n : Nat} {t : TypeId} {ks : List Kd} (h : flatK P n t = some ks) {cs : Array Value} {x : Value} (hx : x = .agg cs) : FormAt P t x cs.toList ∨ ks.length = 1 := by
  cases n with
  | zero => cases h
  | succ n =>
    unfold flatK at h
    unfold FormAt
    split at h
    · cases h; right; rfl
    · cases h; right; rfl
    · cases h; right; rfl
    · rename_i hu; left; simp only [hu]; exact hx
    · rename_i hu; left; simp only [hu]; exact hx
    · cases h

def isAggT (P : Program) (t : TypeId) : Bool :=
  match P.underlying t with
  | some (.struct _) | some (.array _ _) => true
  | _ => false

def binV (P : Program) (op : BinOp) (t : TypeId) (x y : V) : Option V :=
  match x, y with
  | .w (.one (.pl (.str a))), .w (.one (.pl (.str b))) =>
    match op with
    | .add => if a.length + b.length ≤ maxLen then some (.w (.one (.pl (.str (a ++ b))))) else none
    | .eql => some (.w (.one (.pl (.b (decide (a = b))))))
    | .neq => some (.w (.one (.pl (.b (!decide (a = b))))))
    | .lss => some (.w (.one (.pl (.b (Op.bytesLess a b)))))
    | .leq => some (.w (.one (.pl (.b (Op.bytesLess a b || decide (a = b))))))
    | .gtr => some (.w (.one (.pl (.b (!(Op.bytesLess a b || decide (a = b)))))))
    | .geq => some (.w (.one (.pl (.b (!Op.bytesLess a b)))))
    | _ => none
  | .w (.one (.pl (.b a))), .w (.one (.pl (.b b))) =>
    match op, P.underlying t with
    | .eql, some .bool => some (.w (.one (.pl (.b (a == b)))))
    | .neq, some .bool => some (.w (.one (.pl (.b (!(a == b))))))
    | _, _ => none
  | .w (.one (.pl a)), .w (.one (.pl b)) =>
    match op with
    | .shl | .shr => match b.num with
      | some c => (shiftV op a c).map fun z => .w (.one (.pl z))
      | none => none
    | op => (arithV op a b).map fun z => .w (.one (.pl z))
  | .w (.agg xs), .w (.agg ys) =>
    if isAggT P t then
      match op with
      | .eql => (aggEq P t xs ys).map fun z => .w (.one (.pl (.b z)))
      | .neq => (aggEq P t xs ys).map fun z => .w (.one (.pl (.b (!z))))
      | _ => none
    else none
  | _, _ => none

def numLeaf : PL → Bool
  | .u8 _ | .u32 _ | .u64 _ | .i _ => true
  | _ => false

theorem mk_of_num {ro : Ro} {x : PL} {y : Value} {n : Int} (h : x.num = some n) (hd : x.den ro y) : y = x.mk := by
  rw [PL.num_den h hd]
  cases x <;> simp only [PL.num, Option.some.injEq] at h <;> first | (cases h; done) | (subst h; rfl)

theorem bytes_len (s : List UInt8) : (⟨s.toArray⟩ : ByteArray).size = s.length := by simp [ByteArray.size]

theorem str_app (a b : List UInt8) : (⟨a.toArray⟩ : ByteArray) ++ ⟨b.toArray⟩ = ⟨(a ++ b).toArray⟩ := by
  apply ByteArray.ext; simp

theorem den_b {d : Va} {x : Bool} : V.den d (.w (.one (.pl (.b x)))) (.bool x) := by
  show PL.den _ _ _; rw [PL.den]

theorem eqGuard_ok {P : Program} {w : World} {op : BinOp} {t : TypeId} {x y : Operand} {a b : Value} (h : ∀ cs ds, a = .agg cs → b = .agg ds → P.eqGuardType P.depth t = false) (hn : a ≠ .nilIface) : (eqGuard op t x y a b).run P w = .ok () w := by
  cases a with
  | agg cs =>
    cases b with
    | agg ds => exact run_eqGuard_agg (P := P) (w := w) op t x y cs ds (h _ _ rfl rfl)
    | _ => cases op <;> rfl
  | nilIface => exact absurd rfl hn
  | _ => cases b <;> cases op <;> rfl

theorem agg_eq_run {P : Program} {d : Va} {w : World} {t : TypeId} {xs ys : List L} {cs ds : Array Value} {z : Bool} (h : aggEq P t xs ys = some z) (ha : isAggT P t = true)
    (hx : All2 (L.den d) xs cs.toList) (hy : All2 (L.den d) ys ds.toList) : (Op.equalIn 10000 t (.agg cs) (.agg ds)).run P w = .ok z w ∧ P.eqGuardType P.depth t = false := by
  unfold aggEq at h
  split at h <;> try (cases h; done)
  rename_i ks hk
  split at h <;> cases h
  rename_i hc
  obtain ⟨h1, h2, h3⟩ := hc
  obtain ⟨e, k1, k2⟩ := eqC_ok h1 h2 hx hy
  have hk2 := flatK_add hk 9991
  have fx : ∀ c : Array Value, FormAt P t (.agg c) c.toList := by
    intro c
    unfold isAggT at ha
    unfold FormAt
    split at ha
    · rename_i hu; simp [hu]
    · rename_i hu; simp [hu]
    · cases ha
  exact ⟨by rw [← e]; exact equalIn_run _ _ _ hk2 _ _ _ _ (fx cs) (fx ds) k1 k2, h3⟩

theorem binV_ok {P : Program} {d : Va} {w : World} {op : BinOp} {t : TypeId} {x y v : V} {a b : Value} {ox oy : Operand} (hv : binV P op t x y = some v) (hx : x.den d a) (hy : y.den d b) :
    ∃ z, (do eqGuard op t ox oy a b; binOp op t a b : Sem Value).run P w = .ok z w ∧ v.den d z := by
  unfold binV at hv
  split at hv
  · rename_i s u
    change PL.den d.ro (.str s) a at hx; change PL.den d.ro (.str u) b at hy
    rw [PL.den] at hx hy
    obtain ⟨rfl, hs⟩ := hx
    obtain ⟨rfl, hu⟩ := hy
    have hg := eqGuard_ok (P := P) (w := w) (op := op) (t := t) (x := ox) (y := oy) (a := .string ⟨s.toArray⟩) (b := .string ⟨u.toArray⟩) (by simp) (by simp)
    split at hv
    · split at hv <;> cases hv
      rename_i hl
      refine ⟨.string ⟨(s ++ u).toArray⟩, ?_, ?_⟩
      · have hle : ¬ (((s.length + u.length : Nat) : Int) > IntKind.i64.max) := by
          have : IntKind.i64.max = (maxLen : Int) := by decide
          rw [this]; omega
        rw [Sem.run_bind, hg, Result.andThen_ok]
        simp only [binOp, Op.stringOp, bytes_len, Sem.run_ite, if_neg hle, Sem.run_pure, str_app]
      · show PL.den _ _ _; rw [PL.den]; exact ⟨rfl, by simpa using hl⟩
    all_goals first
      | (cases hv; done)
      | (cases hv; refine ⟨_, ?_, den_b⟩; rw [Sem.run_bind, hg, Result.andThen_ok]; simp only [binOp, Op.stringOp, toList_mk, Sem.run_pure] <;>
         first | (congr 2; done) | (congr 2; rw [Bool.eq_iff_iff]; simp))
  · rename_i p q
    change PL.den d.ro _ a at hx; change PL.den d.ro _ b at hy
    rw [PL.den] at hx hy; subst hx; subst hy
    have hg := eqGuard_ok (P := P) (w := w) (op := op) (t := t) (x := ox) (y := oy) (a := .bool p) (b := .bool q) (by simp) (by simp)
    split at hv <;> cases hv
    · rename_i hu
      refine ⟨_, ?_, den_b⟩
      rw [Sem.run_bind, hg, Result.andThen_ok]
      simp [binOp, Op.equal, Op.maxDepth, run_equalIn_bool' w 9999 t p q hu]
    · rename_i hu
      refine ⟨_, ?_, den_b⟩
      rw [Sem.run_bind, hg, Result.andThen_ok]
      simp [binOp, Op.equal, Op.maxDepth, run_equalIn_bool' w 9999 t p q hu]
  · rename_i p q _ _
    change PL.den d.ro _ a at hx; change PL.den d.ro _ b at hy
    have shift : ∀ o : BinOp, (o = .shl ∨ o = .shr) → (match q.num with | some c => (shiftV o p c).map fun z => V.w (.one (.pl z)) | none => none) = some v →
        ∃ z, (do eqGuard o t ox oy a b; binOp o t a b : Sem Value).run P w = .ok z w ∧ v.den d z := by
      intro o ho hv
      split at hv <;> try (cases hv; done)
      rename_i c hc
      cases hsv : shiftV o p c with
      | none => simp [hsv] at hv
      | some z =>
        simp only [hsv, Option.map_some, Option.some.injEq] at hv; subst hv
        obtain ⟨n, hn, hr, hd⟩ := shiftV_ok (P := P) (yk := q.kind) hsv d.ro w
        have ea := PL.num_den hn hx
        have eb := PL.num_den hc hy
        subst ea; subst eb
        refine ⟨z.mk, ?_, hd⟩
        have hg := eqGuard_ok (P := P) (w := w) (op := o) (t := t) (x := ox) (y := oy) (a := .int p.kind n) (b := .int q.kind c) (by simp) (by simp)
        rw [Sem.run_bind, hg, Result.andThen_ok]
        rcases ho with rfl | rfl <;> simpa [binOp] using hr
    have arith : (arithV op p q).map (fun z => V.w (.one (.pl z))) = some v → ∃ z, (do eqGuard op t ox oy a b; binOp op t a b : Sem Value).run P w = .ok z w ∧ v.den d z := by
      intro hv
      cases ha : arithV op p q with
      | none => simp [ha] at hv
      | some z =>
        simp only [ha, Option.map_some, Option.some.injEq] at hv; subst hv
        obtain ⟨hr, hd, ⟨n, hn⟩, ⟨m, hm⟩, _⟩ := arithV_ok (P := P) ha d.ro w t
        have ea := mk_of_num hn hx
        have eb := mk_of_num hm hy
        have en := PL.num_den hn hx
        rw [en] at ea
        have hg := eqGuard_ok (P := P) (w := w) (op := op) (t := t) (x := ox) (y := oy) (a := p.mk) (b := q.mk) (by rw [← ea]; simp) (by rw [← ea]; simp)
        refine ⟨z.mk, ?_, hd⟩
        rw [en, ea, eb, Sem.run_bind, hg, Result.andThen_ok]; exact hr
    split at hv
    · exact shift _ (.inl rfl) hv
    · exact shift _ (.inr rfl) hv
    · exact arith hv
  · rename_i xs ys
    obtain ⟨cs, rfl, hxs⟩ := hx
    obtain ⟨ds, rfl, hys⟩ := hy
    split at hv <;> try (cases hv; done)
    rename_i ha
    split at hv <;> try (cases hv; done)
    · cases he : aggEq P t xs ys with
      | none => simp [he] at hv
      | some z =>
        simp only [he, Option.map_some, Option.some.injEq] at hv; subst hv
        obtain ⟨hr, hg⟩ := agg_eq_run (w := w) he ha hxs hys
        refine ⟨_, ?_, den_b⟩
        rw [Sem.run_bind, run_eqGuard_agg (P := P) (w := w) _ t ox oy cs ds hg, Result.andThen_ok, run_eql_struct, hr]; rfl
    · cases he : aggEq P t xs ys with
      | none => simp [he] at hv
      | some z =>
        simp only [he, Option.map_some, Option.some.injEq] at hv; subst hv
        obtain ⟨hr, hg⟩ := agg_eq_run (w := w) he ha hxs hys
        refine ⟨_, ?_, den_b⟩
        rw [Sem.run_bind, run_eqGuard_agg (P := P) (w := w) _ t ox oy cs ds hg, Result.andThen_ok, run_neq_struct, hr]; rfl
  · cases hv
end Go.Sy
