/- Loops, piece by piece; arrays of bytes among cells; sums that fit. -/
import Derived.Test.YtmopmlnpoeeomaaD10
import Derived.Test.YtmopmlnpoeeomaaG4
import Derived.LoopN
set_option linter.unusedVariables false
set_option linter.unusedSimpArgs false
namespace Go.Sy

/-- what lies under new slots -/
def leX {α : Type} (ks : List Nat) (e : List (Nat × α)) : List (Nat × α) → Prop
  | [] => True
  | x :: r => (if ks.contains x.1 = true then True else look e x.1 = some x.2) ∧ leX (x.1 :: ks) e r

theorem leX_look {α : Type} {e : List (Nat × α)} : ∀ {l : List (Nat × α)} {ks : List Nat}, leX ks e l → ∀ {n : Nat} {v : α}, n ∉ ks → look l n = some v → look e n = some v
  | [], _, _, _, _, _, h => by cases h
  | x :: r, ks, h, n, v, hn, hl => by
    simp only [look] at hl
    split at hl
    · rename_i en; cases hl; subst en
      have := h.1
      rw [if_neg (by simpa using hn)] at this; exact this
    · rename_i en
      exact leX_look h.2 (by simp only [List.mem_cons, not_or]; exact ⟨en, hn⟩) hl

theorem Le.ofX {B : Base} {S S' : St} (he : leX [] S.env S'.env) (hm : leX [] S.mem S'.mem) : Le B S S' := by
  intro d a w h
  have hsome : ∀ j, (look S'.mem j).isSome = true → (look S.mem j).isSome = true := by
    intro j hj
    cases ho : look S'.mem j with
    | none => simp [ho] at hj
    | some o => rw [leX_look hm (by simp) ho]; rfl
  exact ⟨d, h.defers, h.nt, fun n v hv => h.env n v (leX_look he (by simp) hv), fun k o hk => h.mem k o (leX_look hm (by simp) hk), fun k k' h1 h2 => h.inj k k' (hsome _ h1) (hsome _ h2), fun k hk => h.own k (hsome _ hk), h.ro, h.old, h.os, h.tape, h.output, h.size, h.block⟩

section
variable {P : Program} {B : Base} {S : St} {Q : Exit → St → Prop}
/-- a loop: what each round's head holds besides -/
theorem loop_k {x : Code} {ι : Type} (e : ι → List (Nat × V)) (m : ι → List (Nat × Ob)) (μ : ι → Nat) (i₀ : ι) (h0 : leX [] S.env (e i₀ ++ S.env)) (h1 : leX [] S.mem (m i₀ ++ S.mem))
    (round : ∀ i, ∀ (N : St → Prop) (M : Exit → St → Prop), (∀ j S', μ j < μ i → leX [] S'.env (e j ++ S.env) → leX [] S'.mem (m j ++ S.mem) → N S') → (∀ e S', Q e S' → M e S') → HT P B x ⟨e i ++ S.env, m i ++ S.mem⟩ (thenQ N M)) : HT P B (.loop x) S Q := by
  refine HT.loop (fun i => ⟨e i ++ S.env, m i ++ S.mem⟩) μ i₀ (Le.ofX h0 h1) fun i => ?_
  exact round i _ Q (fun j S' hj he hm => ⟨j, hj, Le.ofX he hm⟩) (fun _ _ h => h)

/-- so many rounds, each laid open -/
def rnd (P : Program) (B : Base) (x : Code) (Q : Exit → St → Prop) : Nat → St → Prop
  | 0, _ => False
  | n + 1, S => HT P B x S (thenQ (rnd P B x Q n) Q)

theorem rnd_ok {x : Code} : ∀ {n : Nat} {S : St} {d : Va} {a : Act} {w : World}, rnd P B x Q n S → Sim B d S a w → Code.rounds P x (fun e a' w' => ∃ S' d', Q e S' ∧ Sim B d' S' a' w') n a w
  | 0, _, _, _, _, h, _ => h.elim
  | n + 1, S, d, a, w, h, hs => by
    rw [rounds_succ]
    refine Code.wp_mono ?_ (h d a w hs)
    rintro e a' w' ⟨S', d', hq, hs'⟩
    cases e <;> first | exact rnd_ok hq hs' | exact ⟨S', d', hq, hs'⟩

theorem rounds_k {x : Code} (n : Nat) (h : rnd P B x Q n S) : HT P B (.loop x) S Q := fun d a w hs => wp_loop_rounds n (rnd_ok h hs)

theorem rnd_k {x : Code} {n : Nat} (h : ∀ (N : St → Prop) (M : Exit → St → Prop), (∀ S', rnd P B x Q n S' → N S') → (∀ e S', Q e S' → M e S') → HT P B x S (thenQ N M)) : rnd P B x Q (n + 1) S := h _ Q (fun _ h => h) (fun _ _ h => h)
end

def fgt {α : Type} (ks : List Nat) : List (Nat × α) → List (Nat × α)
  | [] => []
  | x :: r => if ks.contains x.1 = true then fgt ks r else x :: fgt ks r
theorem look_fgt {α : Type} {ks : List Nat} : ∀ {l : List (Nat × α)} {n : Nat} {v : α}, look (fgt ks l) n = some v → look l n = some v
  | [], _, _, h => by cases h
  | x :: r, n, v, h => by
    have key : ∀ {l : List (Nat × α)} {n : Nat} {v : α}, look (fgt ks l) n = some v → ks.contains n = false := by
      intro l
      induction l with
      | nil => intro n v h; cases h
      | cons y l ih =>
        intro n v h
        simp only [fgt] at h
        split at h
        · exact ih h
        · rename_i hc
          simp only [look] at h
          split at h
          · rename_i e; subst e; simpa using hc
          · exact ih h
    simp only [fgt] at h
    simp only [look]
    split at h
    · rename_i hc
      have := key h
      rw [if_neg (fun e => by subst e; rw [hc] at this; cases this)]
      exact look_fgt h
    · simp only [look] at h
      by_cases e : n = x.1
      · rw [if_pos e] at h ⊢; exact h
      · rw [if_neg e] at h ⊢; exact look_fgt h
/-- slots and objects, forgotten -/
def St.forget (ks : List Nat) (S : St) : St := ⟨fgt ks S.env, fgt ks S.mem⟩
theorem Le.forget {B : Base} (ks : List Nat) (S : St) : Le B S (S.forget ks) := by
  intro d a w h
  have hsome : ∀ j, (look (fgt ks S.mem) j).isSome = true → (look S.mem j).isSome = true := by
    intro j hj
    cases ho : look (fgt ks S.mem) j with
    | none => simp [ho] at hj
    | some o => rw [look_fgt ho]; rfl
  exact ⟨d, h.defers, h.nt, fun n v hv => h.env n v (look_fgt hv), fun k o hk => h.mem k o (look_fgt hk), fun k k' h1 h2 => h.inj k k' (hsome _ h1) (hsome _ h2), fun k hk => h.own k (hsome _ hk), h.ro, h.old, h.os, h.tape, h.output, h.size, h.block⟩
theorem rnd_forget {P : Program} {B : Base} {Q : Exit → St → Prop} {S : St} {x : Code} (ks : List Nat) : ∀ {n : Nat}, rnd P B x Q n (S.forget ks) → rnd P B x Q n S
  | 0, h => h
  | _ + 1, h => HT.le (Le.forget ks S) h
theorem ht_forget {P : Program} {B : Base} {Q : Exit → St → Prop} {S : St} {x : Code} (ks : List Nat) (h : HT P B x (S.forget ks) Q) : HT P B x S Q := HT.le (Le.forget ks S) h
theorem w64 {n : Int} (h : -9223372036854775808 ≤ n ∧ n ≤ 9223372036854775807) : Go.RowKit.wrap64 n = n := by unfold Go.RowKit.wrap64; omega

theorem viewLs_bytes (S : St) : ∀ l : List UInt8, viewLs S (bytesC l) = some (bytesC l)
  | [] => rfl
  | x :: r => by
    have ih := viewLs_bytes S r
    simp only [bytesC] at ih
    simp only [bytesC, List.map_cons, viewLs, viewL, ih]
theorem viewLs_seg (S : St) (r : List L) : ∀ l : List UInt8, viewLs S (bytesC l ++ r) = (viewLs S r).map (bytesC l ++ ·)
  | [] => by simp [bytesC]
  | x :: l => by
    have ih := viewLs_seg S r l
    simp only [bytesC] at ih
    simp only [bytesC, List.map_cons, List.cons_append, viewLs, viewL, ih]
    cases viewLs S r <;> rfl
theorem all_strict (l : List UInt8) : (bytesC l).all strictL = true := by
  simp only [bytesC, List.all_eq_true, List.mem_map]
  rintro x ⟨y, _, rfl⟩
  rfl
theorem all_resL (m : List (Nat × Ob)) (l : List UInt8) : (bytesC l).all (resL m) = true := by
  simp only [bytesC, List.all_eq_true, List.mem_map]
  rintro x ⟨y, _, rfl⟩
  rfl
theorem map_renL (f : Nat → Nat) (l : List UInt8) : (bytesC l).map (L.ren f) = bytesC l := by simp [bytesC, L.ren]
theorem map_killL (k : Nat) (l : List UInt8) : (bytesC l).map (killL k) = bytesC l := by
  simp only [bytesC, List.map_map]
  congr 1
def byteRows (bs : List UInt8) : List (List PL) := bs.map fun b => [PL.u8 b]
theorem unpl_bytes (bs : List UInt8) : unpl (bytesC bs) = some (bs.map PL.u8) := by
  induction bs with
  | nil => rfl
  | cons a l ih => simp only [bytesC, List.map_cons, unpl] at ih ⊢; simp [ih]
theorem chunks_bytes (bs : List UInt8) : chunks 1 bs.length (bs.map PL.u8) = byteRows bs := by
  induction bs with
  | nil => rfl
  | cons a l ih => simp only [byteRows, List.map_cons, List.length_cons, chunks] at ih ⊢; simp [ih]
theorem chunks_bytes' {bs : List UInt8} {n : Nat} (h : bs.length = n) : chunks 1 n (bs.map PL.u8) = byteRows bs := by
  subst h; exact chunks_bytes bs
theorem bytesL_nil : bytesL [] = some [] := rfl
theorem bytesL_cons (x : UInt8) (r : List L) : bytesL (.pl (.u8 x) :: r) = (bytesL r).map (x :: ·) := by simp only [bytesL]
theorem bin_add_str2 (P : Program) (t : TypeId) (x y : List UInt8) (h : x.length + y.length ≤ 9223372036854775807) : binV P .add t (.w (.one (.pl (.str x)))) (.w (.one (.pl (.str y)))) = some (.w (.one (.pl (.str (x ++ y))))) := bin_add_str P t x y h
theorem maxLen_eq : maxLen = 9223372036854775807 := rfl
theorem rep_flat {α : Type} (n : Nat) (z : List α) : (List.replicate (n + 1) z).flatten = z ++ (List.replicate n z).flatten := by simp [List.replicate_succ]
theorem rep_flat0 {α : Type} (z : List α) : (List.replicate 0 z).flatten = [] := rfl
theorem pls_bytes (l : List UInt8) : pls (l.map .u8) = bytesC l := by simp [pls, bytesC, Function.comp_def]

theorem pls_append (a b : List PL) : pls (a ++ b) = pls a ++ pls b := by simp [pls]
theorem pls_cons (a : PL) (b : List PL) : pls (a :: b) = .pl a :: pls b := rfl
theorem pls_nil : pls [] = [] := rfl
def optCons {α : Type} : Option α → List α → List α
  | some v, l => v :: l
  | none, l => l
theorem optCons_some {α : Type} (v : α) (l : List α) : optCons (some v) l = v :: l := rfl
theorem optCons_none {α : Type} (l : List α) : optCons none l = l := rfl
theorem fm_cons (S : St) (x : Operand) (r : List Operand) : (x :: r).filterMap S.get = optCons (S.get x) (r.filterMap S.get) := by
  rw [List.filterMap_cons]; cases S.get x <;> rfl
theorem fm_nil (S : St) : ([] : List Operand).filterMap S.get = [] := rfl
theorem mut_val (v : V) : (Eff.val v).mut = false := rfl
theorem mut_new (v : V) (m : List (Nat × Ob)) : (Eff.new v m).mut = false := rfl
theorem mut_app (v : V) (j : Nat) (o : Ob) : (Eff.app v j o).mut = true := rfl
theorem mut_sto (v : V) (j : Nat) (o : Ob) : (Eff.sto v j o).mut = true := rfl
theorem ns_val (v : V) (m : List (Nat × Ob)) : nsOf (.val v) m = [] := rfl
theorem ns_new (v : V) (x m : List (Nat × Ob)) : nsOf (.new v x) m = [] := rfl
theorem ns_sto (v : V) (j : Nat) (o : Ob) (m : List (Nat × Ob)) : nsOf (.sto v j o) m = [] := rfl
def nsC (j : Nat) : List (Nat × Ob) → List Nat
  | [] => []
  | x :: r => if (x.1 != j && x.2.has j) = true then x.1 :: nsC j r else nsC j r
theorem ns_app (v : V) (j : Nat) (o : Ob) (m : List (Nat × Ob)) : nsOf (.app v j o) m = nsC j m := by
  simp only [nsOf]
  induction m with
  | nil => rfl
  | cons x r ih =>
    rw [List.filter_cons]; simp only [nsC]
    split
    · rw [List.map_cons, ih]
    · exact ih
theorem td_val (m : Bool) (v : V) (rv : List V) (ns : List Nat) (b : Da) : touchD m ⟨.val v, rv, ns⟩ b = True := rfl
theorem td_new (m : Bool) (v : V) (x : List (Nat × Ob)) (rv : List V) (ns : List Nat) (b : Da) : touchD m ⟨.new v x, rv, ns⟩ b = True := rfl
theorem td_sto (m : Bool) (v : V) (k : Nat) (o : Ob) (rv : List V) (ns : List Nat) (b : Da) : touchD m ⟨.sto v k o, rv, ns⟩ b = (m = true → b.rv.all (fun v => !v.has k) = true) := rfl
theorem td_app (m : Bool) (v : V) (j : Nat) (o : Ob) (rv : List V) (ns : List Nat) (b : Da) : touchD m ⟨.app v j o, rv, ns⟩ b = (b.rv.all (fun v => !v.has j && noUV v) = true ∧ b.e.free j = true ∧ (m = true → b.rv.all (fun v => ns.all fun k => !v.has k) = true)) := rfl
theorem chk_nil (l : List Oper) (D : List Da) : chkD l D [] = True := rfl
theorem chk_cons (l : List Oper) (D : List Da) (p : Nat × Nat) (r : List (Nat × Nat)) : chkD l D (p :: r) = (atD (l[p.1]?.map fun o => memOp o.op) (l[p.2]?.map fun o => memOp o.op) D[p.1]? D[p.2]? ∧ chkD l D r) := rfl
theorem atD_some (x y : Bool) (a b : Da) : atD (some x) (some y) (some a) (some b) = ((a.e.mut = false ∨ b.e.mut = false) ∧ touchD y a b ∧ touchD x b a) := rfl
theorem bytes_noU (l : List UInt8) : (bytesC l).all noUL = true := by
  simp only [bytesC, List.all_eq_true, List.mem_map]
  rintro x ⟨y, _, rfl⟩
  rfl
theorem look_nil {α : Type} (n : Nat) : look ([] : List (Nat × α)) n = none := rfl
theorem ipos {α : Type} {c : Prop} [Decidable c] {a b : α} (h : c) : (if c then a else b) = a := if_pos h
theorem ineg {α : Type} {c : Prop} [Decidable c] {a b : α} (h : ¬ c) : (if c then a else b) = b := if_neg h
theorem bytesC_length (l : List UInt8) : (bytesC l).length = l.length := by simp [bytesC]
theorem bytesC_nil : bytesC [] = [] := rfl
theorem bytesC_any (k : Nat) (l : List UInt8) : (bytesC l).any (L.has k) = false := by
  simp only [bytesC, List.any_eq_false, List.mem_map]
  rintro x ⟨y, _, rfl⟩
  simp [L.has]
theorem take_seg {α : Type} {a b : List α} {n : Nat} (h : a.length ≤ n) : (a ++ b).take n = a ++ b.take (n - a.length) := by
  rw [List.take_append, List.take_of_length_le h]
theorem take_in {α : Type} {a b : List α} {n : Nat} (h : n ≤ a.length) : (a ++ b).take n = a.take n := List.take_append_of_le_length h
theorem drop_seg {α : Type} {a b : List α} {n : Nat} (h : a.length ≤ n) : (a ++ b).drop n = b.drop (n - a.length) := by
  rw [List.drop_append, List.drop_of_length_le h, List.nil_append]
theorem drop_in {α : Type} {a b : List α} {n : Nat} (h : n ≤ a.length) : (a ++ b).drop n = a.drop n ++ b := List.drop_append_of_le_length h
theorem take_all {α : Type} {a : List α} {n : Nat} (h : a.length ≤ n) : a.take n = a := List.take_of_length_le h
theorem drop_all {α : Type} {a : List α} {n : Nat} (h : a.length ≤ n) : a.drop n = [] := List.drop_of_length_le h
theorem bytesC_append (a b : List UInt8) : bytesC a ++ bytesC b = bytesC (a ++ b) := by simp [bytesC]
theorem bytesC_take (a : List UInt8) (n : Nat) : (bytesC a).take n = bytesC (a.take n) := by simp [bytesC, List.map_take]
theorem bytesC_drop (a : List UInt8) (n : Nat) : (bytesC a).drop n = bytesC (a.drop n) := by simp [bytesC, List.map_drop]
theorem bytesL_C : ∀ l : List UInt8, bytesL (bytesC l) = some l
  | [] => rfl
  | x :: r => by
    have ih := bytesL_C r
    simp only [bytesC] at ih
    simp only [bytesC, List.map_cons, bytesL, ih, Option.map_some]
theorem bytesR_rows (bs : List UInt8) : bytesR (byteRows bs) = some bs := by
  induction bs with
  | nil => rfl
  | cons a l ih => simp only [byteRows, List.map_cons, bytesR] at ih ⊢; simp [ih]
theorem byteRows_length (bs : List UInt8) : (byteRows bs).length = bs.length := by simp [byteRows]
theorem byteRows_flatten (bs : List UInt8) : pls (byteRows bs).flatten = bytesC bs := by
  induction bs with
  | nil => rfl
  | cons a l ih => simp only [byteRows, List.map_cons, List.flatten_cons, pls, List.map_append, bytesC] at ih ⊢; simp [ih]
theorem byteRows_nil : byteRows [] = [] := rfl

def u64C (l : List UInt64) : List L := l.map fun b => .pl (.u64 b)
def u32C (l : List UInt32) : List L := l.map fun b => .pl (.u32 b)
theorem aggEq_of {P : Program} {t : TypeId} {ks : List Kd} {xs ys : List L} (hk : flatK P 9 t = some ks) (hg : P.eqGuardType P.depth t = false) (hx : xs.map kindL = ks.map some) (hy : ys.map kindL = ks.map some) : aggEq P t xs ys = some (eqC xs ys) := by
  unfold aggEq; rw [hk]; simp only; rw [if_pos ⟨hx, hy, hg⟩]
theorem kinds_bytes {l : List UInt8} {n : Nat} (h : l.length = n) : (bytesC l).map kindL = List.replicate n (some (.int .u8)) := by
  subst h
  induction l with
  | nil => rfl
  | cons x r ih => simp only [bytesC, List.map_cons, List.length_cons, List.replicate_succ] at ih ⊢; rw [ih]; rfl
theorem eqL_u8 (x y : UInt8) : eqL (.pl (.u8 x)) (.pl (.u8 y)) = decide (x = y) := rfl
theorem eqL_u32 (x y : UInt32) : eqL (.pl (.u32 x)) (.pl (.u32 y)) = decide (x = y) := rfl
theorem eqL_u64 (x y : UInt64) : eqL (.pl (.u64 x)) (.pl (.u64 y)) = decide (x = y) := rfl
theorem eqL_i (x y : Int) : eqL (.pl (.i x)) (.pl (.i y)) = decide (x = y) := rfl
theorem eqL_b (x y : Bool) : eqL (.pl (.b x)) (.pl (.b y)) = decide (x = y) := rfl
theorem eqL_str (x y : List UInt8) : eqL (.pl (.str x)) (.pl (.str y)) = decide (x = y) := rfl
theorem eqC_cons (x y : L) (xs ys : List L) : eqC (x :: xs) (y :: ys) = (eqL x y && eqC xs ys) := rfl
theorem eqC_nil (ys : List L) : eqC [] ys = true := by cases ys <;> rfl
theorem kindL_u8 (x : UInt8) : kindL (.pl (.u8 x)) = some (.int .u8) := rfl
theorem kindL_u32 (x : UInt32) : kindL (.pl (.u32 x)) = some (.int .u32) := rfl
theorem kindL_u64 (x : UInt64) : kindL (.pl (.u64 x)) = some (.int .u64) := rfl
theorem kindL_i (x : Int) : kindL (.pl (.i x)) = some (.int .i64) := rfl
theorem kindL_b (x : Bool) : kindL (.pl (.b x)) = some .b := rfl
theorem kindL_str (x : List UInt8) : kindL (.pl (.str x)) = some .s := rfl
/-- equal arrays of bytes -/
theorem eqC_seg : ∀ {a b : List UInt8} {c d : List L}, a.length = b.length → eqC (bytesC a ++ c) (bytesC b ++ d) = (decide (a = b) && eqC c d)
  | [], [], c, d, _ => by simp [bytesC]
  | [], _ :: _, _, _, h => by cases h
  | _ :: _, [], _, _, h => by cases h
  | x :: a, y :: b, c, d, h => by
    have ih := eqC_seg (a := a) (b := b) (c := c) (d := d) (by simpa using h)
    simp only [bytesC] at ih
    simp only [bytesC, List.map_cons, List.cons_append, eqC, ih, eqL]
    rw [← Bool.and_assoc]
    congr 1
    by_cases h1 : x = y <;> by_cases h2 : a = b <;> simp [h1, h2]
theorem eqC_bytes {a b : List UInt8} (h : a.length = b.length) : eqC (bytesC a) (bytesC b) = decide (a = b) := by
  have := eqC_seg (a := a) (b := b) (c := []) (d := []) h
  simpa [eqC] using this

attribute [go_sem] pls_bytes pls_append pls_cons pls_nil bin_add_str2 false_and and_false Int.cast_ofNat_Int Int.reduceEq Int.reduceNe Int.natCast_zero rep_flat rep_flat0 List.size_toArray Nat.mul_one Nat.one_mul unpl_bytes chunks_bytes bytesL_nil bytesL_cons maxLen_eq decide_true decide_false w64 Option.bind_none Option.map_none viewLs_bytes viewLs_seg all_strict all_resL map_renL map_killL List.all_append look_nil bytesC_length bytesC_nil bytesC_any take_seg take_in drop_seg drop_in take_all drop_all bytesC_append bytesC_take bytesC_drop bytesL_C bytesR_rows byteRows_length byteRows_flatten byteRows_nil eqC_seg eqC_bytes kinds_bytes eqL_u8 eqL_u32 eqL_u64 eqL_i eqL_b eqL_str eqC_cons eqC_nil kindL_u8 kindL_u32 kindL_u64 kindL_i kindL_b kindL_str
theorem upd_mid {c d a b : List L} {o n : Nat} (h : c = a ++ b) (ha : a.length = o) : upd c o n d = a ++ (d ++ b.drop n) := by
  subst h; subst ha
  unfold upd
  rw [List.take_left', List.drop_append]
  · simp
  · rfl
theorem fillL_nil (place : Nat → Option (Nat × Nat)) (cells : List L) : fillL place cells [] = some cells := by cases cells <;> rfl
theorem fillL_cons (place : Nat → Option (Nat × Nat)) (cells : List L) (i : Nat) (v : W) (rest : List (Nat × V)) : fillL place cells ((i, .w v) :: rest) = (match place i with
    | some pl => if v.cells.length = pl.2 ∧ pl.1 + pl.2 ≤ cells.length then fillL place (upd cells pl.1 pl.2 v.cells) rest else none
    | none => none) := by
  cases h : place i with
  | none => simp only [fillL, h]
  | some pl => simp only [fillL, h]
attribute [go_sem] fillL_nil fillL_cons upd wr buildV partsV placesOf storeV appendV allocV sliceV boundV V.num PL.num indexAddrV indexV partV extractV nilV minmaxV getOpt pureV srcV viewVs viewV viewL viewLs unpl killE killM V.kill W.kill killL setM toKind resOkV resOkW resL strictL adoptOk List.any_append Option.isSome_some Option.isSome_none List.map_append List.map_replicate List.length_append List.length_replicate Nat.sub_self Nat.reduceSub Nat.add_zero Nat.reduceBneDiff Nat.reduceMul Int.reduceLT Int.reduceLE Int.reduceToNat UInt8.reduceOfNat UInt32.reduceOfNat UInt64.reduceOfNat Int.toNat_zero Int.reduceNeg Nat.reduceDiv Int.reduceAdd Int.reduceSub Int.reduceMul Int.toNat_natCast
end Go.Sy
