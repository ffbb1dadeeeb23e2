/- The layer: calls by contract. -/
import Derived.Test.YtmopmlnpoeeomaaE21
set_option linter.unusedVariables false
set_option linter.unusedSimpArgs false
namespace Go.Sy

mutual
theorem PL.den_mono {ro ro' : Ro} (h : ∀ b o y, ro b o = some y → ro' b o = some y) : ∀ {x : PL} {y : Value}, x.den ro y → x.den ro' y
  | .u8 _, _, hd => by rw [PL.den] at hd ⊢; exact hd
  | .u32 _, _, hd => by rw [PL.den] at hd ⊢; exact hd
  | .u64 _, _, hd => by rw [PL.den] at hd ⊢; exact hd
  | .i _, _, hd => by rw [PL.den] at hd ⊢; exact hd
  | .b _, _, hd => by rw [PL.den] at hd ⊢; exact hd
  | .str _, _, hd => by rw [PL.den] at hd ⊢; exact hd
  | .val _, _, hd => by rw [PL.den] at hd ⊢; exact hd
  | .u, _, hd => by rw [PL.den] at hd ⊢; exact hd
  | .q cells path, _, hd => by
    rw [PL.den] at hd ⊢
    obtain ⟨blk, off, e, hat⟩ := hd
    exact ⟨blk, off, e, PL.denAt_mono h hat⟩
  | .R ex sz rows, _, hd => by
    rw [PL.den] at hd ⊢
    rcases hd with hd | ⟨blk, off, cap, e, h1, h2, h3, hr⟩
    · exact .inl hd
    · exact .inr ⟨blk, off, cap, e, h1, h2, h3, PL.denRows_mono h hr⟩
theorem PL.denAt_mono {ro ro' : Ro} (h : ∀ b o y, ro b o = some y → ro' b o = some y) : ∀ {blk : Nat} {cs : List PL} {off : Nat}, PL.denAt ro blk cs off → PL.denAt ro' blk cs off
  | _, [], _, _ => by rw [PL.denAt]; trivial
  | _, c :: cs, _, hd => by
    rw [PL.denAt] at hd ⊢
    obtain ⟨⟨y, hy, hc⟩, hr⟩ := hd
    exact ⟨⟨y, h _ _ _ hy, PL.den_mono h hc⟩, PL.denAt_mono h hr⟩
theorem PL.denRows_mono {ro ro' : Ro} (h : ∀ b o y, ro b o = some y → ro' b o = some y) : ∀ {blk sz : Nat} {rs : List (List PL)} {off : Nat}, PL.denRows ro blk sz rs off → PL.denRows ro' blk sz rs off
  | _, _, [], _, _ => by rw [PL.denRows]; trivial
  | _, _, r :: rs, _, hd => by
    rw [PL.denRows] at hd ⊢
    exact ⟨hd.1, PL.denAt_mono h hd.2.1, PL.denRows_mono h hd.2.2⟩
end

/-- the plain leaves of cells -/
def unpl : List L → Option (List PL)
  | [] => some []
  | .pl x :: r => (unpl r).map (x :: ·)
  | _ => none
def chunks (sz : Nat) : Nat → List PL → List (List PL)
  | 0, _ => []
  | n + 1, c => c.take sz :: chunks sz n (c.drop sz)

theorem unpl_pls : ∀ c : List PL, unpl (pls c) = some c
  | [] => rfl
  | x :: r => by simp only [pls, List.map_cons, unpl]; rw [show List.map L.pl r = pls r from rfl, unpl_pls r]; rfl

theorem unpl_eq : ∀ {cs : List L} {c : List PL}, unpl cs = some c → cs = pls c
  | [], c, h => by simp only [unpl] at h; cases h; rfl
  | x :: r, c, h => by
    unfold unpl at h
    split at h
    · rename_i e; cases e
    · rename_i y r' e
      cases e
      cases hu : unpl r with
      | none => simp [hu] at h
      | some c' => simp only [hu, Option.map_some, Option.some.injEq] at h; subst h; rw [unpl_eq hu]; rfl
    · cases h

/-- an own slice as one that is only read -/
def viewL (S : St) : L → Option L
  | .pl x => some (.pl x)
  | .s k path len sz => match look S.mem k with
    | some o => if pok o.cells.length path ∧ psz o.cells.length path = len * sz then (unpl (rd o.cells path)).map fun c => .pl (.R false sz (chunks sz len c)) else none
    | none => none
  | .fn f [] => some (.fn f [])
  | _ => none
def viewLs (S : St) : List L → Option (List L)
  | [] => some []
  | l :: r => match viewL S l, viewLs S r with
    | some x, some xs => some (x :: xs)
    | _, _ => none
def viewV (S : St) : V → Option V
  | .w (.one l) => (viewL S l).map fun x => .w (.one x)
  | .w (.agg cs) => (viewLs S cs).map fun x => .w (.agg x)
  | _ => none
def viewVs (S : St) : List Operand → Option (List V)
  | [] => some []
  | x :: r => match (S.get x).bind (viewV S), viewVs S r with
    | some v, some vs => some (v :: vs)
    | _, _ => none

def Va.all (d : Va) (w : World) : Va := { d with ro := fun b o => w.cell? ⟨b, o, none⟩ }

theorem denAt_cells {d : Va} {w : World} {blk : Nat} (hro : ∀ b o y, d.ro b o = some y → w.cell? ⟨b, o, none⟩ = some y) : ∀ {c : List PL} {vals : List Value} {off : Nat}, All2 (L.den d) (pls c) vals → CellsAt w blk off vals → PL.denAt (d.all w).ro blk c off
  | [], _, _, _, _ => by rw [PL.denAt]; trivial
  | x :: c, vals, off, h, hc => by
    cases h with
    | cons h1 h2 =>
      rename_i y m
      rw [PL.denAt]
      refine ⟨⟨y, hc 0 y rfl, PL.den_mono hro h1⟩, denAt_cells hro h2 (fun j v hv => ?_)⟩
      have := hc (j + 1) v (by simpa using hv)
      rwa [show off + (j + 1) = off + 1 + j from by omega] at this

theorem denRows_chunks {ro : Ro} {blk sz : Nat} : ∀ {n : Nat} {c : List PL} {off : Nat}, PL.denAt ro blk c off → c.length = n * sz → PL.denRows ro blk sz (chunks sz n c) off
  | 0, c, off, _, _ => by rw [chunks, PL.denRows]; trivial
  | n + 1, c, off, h, hl => by
    rw [Nat.add_mul, Nat.one_mul] at hl
    rw [chunks, PL.denRows]
    have key : ∀ {c : List PL} {off : Nat} (m : Nat), PL.denAt ro blk c off → m ≤ c.length → PL.denAt ro blk (c.take m) off ∧ PL.denAt ro blk (c.drop m) (off + m) := by
      intro c
      induction c with
      | nil => intro off m h hm; simp at hm; subst hm; simpa using h
      | cons x c ih =>
        intro off m h hm
        cases m with
        | zero => simp [PL.denAt]; rw [PL.denAt] at h; exact h
        | succ m =>
          rw [PL.denAt] at h
          obtain ⟨h1, h2⟩ := ih m h.2 (by simpa using hm)
          simp only [List.take_succ_cons, List.drop_succ_cons]
          rw [PL.denAt]
          exact ⟨⟨h.1, h1⟩, by rw [show off + (m + 1) = off + 1 + m from by omega]; exact h2⟩
    obtain ⟨h1, h2⟩ := key sz h (by omega)
    exact ⟨by simp; omega, h1, denRows_chunks h2 (by simp; omega)⟩

theorem length_chunks (sz : Nat) : ∀ (n : Nat) (c : List PL), (chunks sz n c).length = n
  | 0, _ => rfl
  | n + 1, c => by simp [chunks, length_chunks sz n]

theorem viewL_ok {B : Base} {d : Va} {S : St} {a : Act} {w : World} (h : Sim B d S a w) {l x : L} {y : Value} (hv : viewL S l = some x) (hd : l.den d y) : x.den (d.all w) y := by
  unfold viewL at hv
  split at hv <;> try (cases hv; done)
  · cases hv; exact PL.den_mono h.ro hd
  · rename_i k path len sz
    split at hv <;> try (cases hv; done)
    rename_i o hk
    split at hv <;> try (cases hv; done)
    rename_i hc
    obtain ⟨hp, hps⟩ := hc
    cases hu : unpl (rd o.cells path) with
    | none => simp [hu] at hv
    | some c =>
      simp only [hu, Option.map_some, Option.some.injEq] at hv; subst hv
      obtain ⟨vals, hvd, hcell, hl⟩ := h.readObj hk hp
      have hcl := length_rd o.cells hp
      rw [unpl_eq hu] at hvd hcl
      rw [length_pls, hps] at hcl
      obtain ⟨oo, cap, rfl, hlc, hcm, ho, _⟩ := hd
      show PL.den _ _ _
      rw [PL.den]
      right
      refine ⟨d.at_ k, oo, cap, by rw [length_chunks], by rw [length_chunks]; exact hlc, hcm, fun e => (by cases e), ?_⟩
      refine denRows_chunks ?_ hcl
      rcases ho with ho | rfl
      · have hlen : len = 0 := by omega
        rw [hlen, Nat.zero_mul] at hcl
        have := List.eq_nil_of_length_eq_zero hcl
        subst this; rw [PL.denAt]; trivial
      · exact denAt_cells h.ro hvd hcell
  · cases hv; exact hd

theorem viewLs_ok {B : Base} {d : Va} {S : St} {a : Act} {w : World} (h : Sim B d S a w) : ∀ {cs xs : List L} {vs : List Value}, viewLs S cs = some xs → All2 (L.den d) cs vs → All2 (L.den (d.all w)) xs vs
  | [], xs, vs, hv, hd => by cases hd; simp only [viewLs] at hv; cases hv; exact .nil
  | l :: r, xs, vs, hv, hd => by
    cases hd with
    | cons h1 h2 =>
      simp only [viewLs] at hv
      cases e1 : viewL S l with
      | none => simp [e1] at hv
      | some x =>
        cases e2 : viewLs S r with
        | none => simp [e1, e2] at hv
        | some xs' => simp only [e1, e2, Option.some.injEq] at hv; subst hv; exact .cons (viewL_ok h e1 h1) (viewLs_ok h e2 h2)

theorem viewV_ok {B : Base} {d : Va} {S : St} {a : Act} {w : World} (h : Sim B d S a w) {v x : V} {y : Value} (hv : viewV S v = some x) (hd : v.den d y) : x.den (d.all w) y := by
  unfold viewV at hv
  split at hv <;> try (cases hv; done)
  · rename_i l
    cases e : viewL S l with
    | none => simp [e] at hv
    | some z => simp only [e, Option.map_some, Option.some.injEq] at hv; subst hv; exact viewL_ok h e hd
  · rename_i cs
    cases e : viewLs S cs with
    | none => simp [e] at hv
    | some z =>
      simp only [e, Option.map_some, Option.some.injEq] at hv; subst hv
      obtain ⟨vs, rfl, hall⟩ := hd
      exact ⟨vs, rfl, viewLs_ok h e hall⟩

theorem viewVs_ok {B : Base} {d : Va} {S : St} {a : Act} {w : World} (h : Sim B d S a w) : ∀ {xs : List Operand} {vs : List V}, viewVs S xs = some vs → All2 (V.den (d.all w)) vs (xs.map a.eval)
  | [], vs, hv => by simp only [viewVs] at hv; cases hv; exact .nil
  | x :: r, vs, hv => by
    simp only [viewVs] at hv
    cases e1 : (S.get x).bind (viewV S) with
    | none => simp [e1] at hv
    | some v =>
      cases e2 : viewVs S r with
      | none => simp [e1, e2] at hv
      | some us =>
        simp only [e1, e2, Option.some.injEq] at hv; subst hv
        obtain ⟨u, hu, hv⟩ := bind_some e1
        exact .cons (viewV_ok h hv (h.get hu)) (viewVs_ok h e2)

/-- a leaf that leans on no memory -/
def strictL : L → Bool
  | .pl (.u8 _) | .pl (.u32 _) | .pl (.u64 _) | .pl (.i _) | .pl (.b _) | .pl (.str _) | .pl (.val _) | .pl .u | .pl (.R _ _ []) => true
  | _ => false

theorem strictL_den {d d' : Va} {l : L} {y : Value} (h : strictL l = true) (hd : l.den d y) : l.den d' y := by
  unfold strictL at h
  split at h <;> first | (cases h; done) | (rw [L.den, PL.den] at hd ⊢; exact hd) | (rw [L.den, PL.den] at hd ⊢; simpa only [PL.denRows] using hd)

theorem strict_all {d d' : Va} : ∀ {cs : List L} {vs : List Value}, cs.all strictL = true → All2 (L.den d) cs vs → All2 (L.den d') cs vs
  | _, _, _, .nil => .nil
  | _, _, h, .cons h1 h2 => by
    simp only [List.all_cons, Bool.and_eq_true] at h
    exact .cons (strictL_den h.1 h1) (strict_all h.2 h2)

theorem Sim.stay {B : Base} {d : Va} {S : St} {a : Act} {w w' : World} (h : Sim B d S a w) (hold : ∀ b, b < w.heap.size → w'.heap[b]? = w.heap[b]?) (hsz : w.heap.size ≤ w'.heap.size) (hos : w'.os = w.os) (ht : w'.tape = w.tape) (ho : w'.output = w.output) : Sim B d S a w' := by
  refine ⟨h.defers, h.nt, h.env, ?_, h.inj, h.own, ?_, h.old, hos.trans h.os, ht.trans h.tape, ho.trans h.output, Nat.le_trans h.size hsz, ?_⟩
  · intro k o hk
    obtain ⟨vals, spare, ty, fr, hh, rest⟩ := h.mem k o hk
    have hlt := h.mem_lt (k := k) (by rw [hk]; rfl)
    exact ⟨vals, spare, ty, fr, by rw [hold _ hlt]; exact hh, rest⟩
  · intro b o y hy
    have hr := h.ro b o y hy
    have := cell_lt hr
    simp only [World.cell?] at hr ⊢
    rw [hold b this]; exact hr
  · intro b hb hm
    rw [hold b (by have := h.size; omega)]; exact h.block b hb hm
end Go.Sy
