/- Pins, read off bytes: what it gives, in plain lists; results with pins. -/
import Derived.Test.YtmopmlnpoeeomaavaA3
import Derived.Test.YtmopmlnpoeeomaavE3
set_option linter.unusedVariables false
set_option linter.unusedSimpArgs false
namespace Go.Sy
open Go.Proofs
/-- the number ahead of a pin -/
def pn (bs : List UInt8) : Nat := (bs.getD 0 0).toNat
def pinOf (bs : List UInt8) : PinD := ⟨(bs.drop 1).take (pn bs), (bs.drop (pn bs + 1)).take 32, decide (bs.getD (pn bs + 33) 0 = 1)⟩
/-- the fault of what stands ahead -/
def oneFault (bs : List UInt8) : Int := if bs.length = 0 then 4 else if bs.length < 34 + pn bs then 4 else if 1 < bs.getD (pn bs + 33) 0 then 3 else 0
def runP : Nat → List PinD → List UInt8 → Int × List PinD × List UInt8
  | 0, l, bs => (0, l, bs)
  | k + 1, l, bs => if oneFault bs = 0 then runP k (l ++ [pinOf bs]) (bs.drop (pn bs + 34)) else (oneFault bs, [], [])
def decP (bs : List UInt8) : Int × List PinD :=
  if bs.length = 0 then (4, []) else if 8 < pn bs then (1, []) else
  let r := runP (pn bs) [] (bs.drop 1)
  if r.1 = 0 then (if 0 < r.2.2.length then (3, []) else if pinsFault r.2.1 = 0 then (0, r.2.1) else (pinsFault r.2.1, [])) else (r.1, [])
def pinsP (l : List PinD) : List PL := (l.map pinC).flatten
def pinsC (l : List PinD) : List L := pls (pinsP l)
def pinRows (l : List PinD) : List (List PL) := l.map pinC
/-- pins and an error number -/
def pinsV (l : List PinD) (e : Int) (v : V) (m : List (Nat × Ob)) : Prop := v = .tup [.one (.pl (.R false 34 (pinRows l))), .one (.pl (.i e))] ∧ m = []
theorem pn_le (bs : List UInt8) : pn bs ≤ 255 := by
  have := (bs.getD 0 0).toNat_lt; unfold pn; omega
theorem pinOf_ok {bs : List UInt8} (h : 34 + pn bs ≤ bs.length) : (pinOf bs).ok := by
  have := pn_le bs
  simp only [PinD.ok, pinOf, List.length_take, List.length_drop]; omega
theorem runP_ok {k : Nat} {l : List PinD} {bs : List UInt8} (h : oneFault bs = 0) : runP (k + 1) l bs = runP k (l ++ [pinOf bs]) (bs.drop (pn bs + 34)) := by rw [runP, if_pos h]
theorem runP_bad {k : Nat} {l : List PinD} {bs : List UInt8} (h : oneFault bs ≠ 0) : runP (k + 1) l bs = (oneFault bs, [], []) := by rw [runP, if_neg h]
theorem pinsC_snoc (l : List PinD) (p : PinD) : pinsC (l ++ [p]) = pinsC l ++ .pl (.str p.name) :: (bytesC p.key ++ [.pl (.b p.gone)]) := by
  simp [pinsC, pinsP, pls, pinC, bytesC]
theorem pinsC_one (p : PinD) : pinsC [p] = .pl (.str p.name) :: (bytesC p.key ++ [.pl (.b p.gone)]) := by
  simp [pinsC, pinsP, pls, pinC, bytesC]
theorem pinsP_length {l : List PinD} (h : ∀ p ∈ l, p.ok) : (pinsP l).length = l.length * 34 := by
  induction l with
  | nil => rfl
  | cons p l ih =>
    have h1 := (h p (by simp)).1
    have := ih fun q hq => h q (by simp [hq])
    simp only [pinsP] at this ⊢
    simp only [List.map_cons, List.flatten_cons, List.length_append, this, pinC_length h1, List.length_cons]; omega
theorem pinsC_length {l : List PinD} (h : ∀ p ∈ l, p.ok) : (pinsC l).length = l.length * 34 := by rw [pinsC, length_pls, pinsP_length h]
theorem pinsC_any (k : Nat) (l : List PinD) : (pinsC l).any (L.has k) = false := pls_has k _
theorem pinsC_kill (k : Nat) (l : List PinD) : (pinsC l).map (killL k) = pinsC l := by
  simp only [pinsC, pls, List.map_map]; rfl
theorem pinsC_unpl (l : List PinD) : unpl (pinsC l) = some (pinsP l) := unpl_pls _
theorem pins_chunks : ∀ {l : List PinD}, (∀ p ∈ l, p.ok) → chunks 34 l.length (pinsP l) = pinRows l
  | [], _ => rfl
  | p :: l, h => by
    have h1 := pinC_length (h p (by simp)).1
    have ih := pins_chunks (l := l) fun q hq => h q (by simp [hq])
    simp only [pinsP, pinRows] at ih ⊢
    simp only [List.map_cons, List.flatten_cons, List.length_cons, chunks]
    rw [List.take_left' h1, List.drop_left' h1, ih]
theorem pls_all {p : L → Bool} (hp : ∀ x : PL, x ∈ ([] : List PL) ∨ True → (match x with | .str _ => true | .u8 _ => true | .b _ => true | _ => false) = true → p (.pl x) = true) (l : List PinD) : (pinsC l).all p = true := by
  simp only [pinsC, pinsP, pls, List.all_eq_true, List.mem_map, List.mem_flatten]
  rintro x ⟨y, ⟨c, ⟨q, _, rfl⟩, hy⟩, rfl⟩
  refine hp y (.inr trivial) ?_
  simp only [pinC, List.mem_cons, List.mem_append, List.mem_map, List.mem_singleton, List.not_mem_nil, or_false] at hy
  rcases hy with rfl | ⟨z, _, rfl⟩ | rfl <;> rfl
theorem pinsC_strict (l : List PinD) : (pinsC l).all strictL = true := pls_all (fun x _ h => by cases x <;> first | rfl | (cases h)) l
theorem pinsC_noU (l : List PinD) : (pinsC l).all noUL = true := pls_all (fun x _ h => by cases x <;> first | rfl | (cases h)) l
theorem pinsC_view (S : St) (l : List PinD) : viewLs S (pinsC l) = some (pinsC l) := by
  simp only [pinsC]
  generalize pinsP l = c
  induction c with
  | nil => rfl
  | cons x r ih => simp only [pls, List.map_cons, viewLs, viewL] at ih ⊢; rw [ih]
theorem take_drop_full {α : Type} (l : List α) (k : Nat) : (l.drop k).take (l.length - k) = l.drop k := List.take_of_length_le (by simp)
theorem wnat {a : Int} {n : Nat} (h : a = (n : Int)) (hn : n ≤ 9223372036854775807) : Go.RowKit.wrap64 a = (n : Int) := by subst h; exact w64 (by omega)
theorem pinRows_length (l : List PinD) : (pinRows l).length = l.length := by simp [pinRows]
theorem pinRows_nil (l : List PinD) : (pinRows l = []) = (l = []) := by simp [pinRows]
theorem pinRows_get {l : List PinD} {i : Nat} {p : PinD} (h : l[i]? = some p) : (pinRows l).getD i [] = pinC p := getD_map (f := pinC) h
attribute [go_sem] take_drop_full pinsC_any pinsC_kill pinsC_unpl pinsC_strict pinsC_noU pinRows_length
theorem tup2_weak {a a' : L} {b : W} (h : ∀ d y, a.den d y → a'.den d y) (d : Va) (y : Value) (hv : (V.tup [.one a, b]).den d y) : (V.tup [.one a', b]).den d y := by
  obtain ⟨vs, rfl, hv⟩ := hv
  refine ⟨vs, rfl, ?_⟩
  generalize vs.toList = l at hv
  cases hv with
  | cons h1 h2 => exact .cons (h d _ h1) h2
theorem R_weak {ex : Bool} {sz : Nat} {rows : List (List PL)} (d : Va) (y : Value) (h : (L.pl (.R ex sz rows)).den d y) : (L.pl (.R false sz rows)).den d y := by
  simp only [L.den] at h ⊢
  rw [PL.den] at h ⊢
  rcases h with h | ⟨blk, off, cap, h1, h2, h3, h4, h5⟩
  · exact .inl h
  · exact .inr ⟨blk, off, cap, h1, h2, h3, fun h => (by cases h), h5⟩
theorem nil_weak {ex : Bool} {sz sz' : Nat} (d : Va) (y : Value) (h : (L.pl (.R ex sz [])).den d y) : (L.pl (.R false sz' [])).den d y := R_weak d y (R_nil_den h)
theorem pins_nil {e : Int} {m : List (Nat × Ob)} {sz : Nat} {ex : Bool} : Told (pinsV [] e) (.tup [.one (.pl (.R ex sz [])), .one (.pl (.i e))]) m :=
  told_weak (tup2_weak (a' := .pl (.R false 34 (pinRows []))) fun d y h => nil_weak d y h) (told_plain rfl ⟨rfl, rfl⟩)
theorem pins_same {e : Int} {m : List (Nat × Ob)} {ex : Bool} (l : List PinD) : Told (pinsV l e) (.tup [.one (.pl (.R ex 34 (pinRows l))), .one (.pl (.i e))]) m :=
  told_weak (tup2_weak fun d y h => R_weak d y h) (told_plain rfl ⟨rfl, rfl⟩)
theorem pins_seal {k n : Nat} {l : List PinD} (hl : ∀ p ∈ l, p.ok) (hn : n = l.length) : sealL k (pinsP l) (.s k [] n 34) = .pl (.R false 34 (pinRows l)) := by
  subst hn
  simp only [sealL, if_true, rd, pok, psz, pinsP_length hl, pins_chunks hl, and_self, reduceIte]
theorem pins_obj {k n : Nat} {e : Int} {m : List (Nat × Ob)} {b : Bool} {l : List PinD} (hk : look m k = some ⟨b, pinsC l⟩) (hl : ∀ p ∈ l, p.ok) (hn : n = l.length) (hlt : k < 500000 := by decide) : Told (pinsV l e) (.tup [.one (.s k [] n 34), .one (.pl (.i e))]) m := by
  refine told_seal k (pinsP l) hk hlt ?_
  simp only [sealV, List.map_cons, List.map_nil, sealW, pins_seal hl hn]
  exact told_plain rfl ⟨rfl, rfl⟩
def outV (j : Nat) (l : List PinD) : V := if l = [] then .w (.one (.pl (.R true 1 []))) else .w (.one (.s j [] l.length 34))
def outM (j : Nat) (l : List PinD) : List (Nat × Ob) := if l = [] then [] else [(j, ⟨true, pinsC l⟩)]
theorem outV_nil (j : Nat) : outV j [] = .w (.one (.pl (.R true 1 []))) := if_pos rfl
theorem outM_nil (j : Nat) : outM j [] = [] := if_pos rfl
theorem outV_of (j : Nat) {l : List PinD} (h : l ≠ []) : outV j l = .w (.one (.s j [] l.length 34)) := if_neg h
theorem outM_of (j : Nat) {l : List PinD} (h : l ≠ []) : outM j l = [(j, ⟨true, pinsC l⟩)] := if_neg h
theorem outV_snoc (j : Nat) (l : List PinD) (p : PinD) : outV j (l ++ [p]) = .w (.one (.s j [] (l.length + 1) 34)) := by rw [outV_of j (by simp)]; simp
theorem outV_one (j : Nat) (p : PinD) : outV j [p] = .w (.one (.s j [] 1 34)) := outV_snoc j [] p
theorem outM_one (j : Nat) (p : PinD) : outM j [p] = [(j, ⟨true, pinsC [p]⟩)] := outM_of j (by simp)
theorem outM_snoc (j : Nat) (l : List PinD) (p : PinD) : outM j (l ++ [p]) = [(j, ⟨true, pinsC (l ++ [p])⟩)] := outM_of j (by simp)
def DInv (n : Nat) (b1 : List UInt8) (x : Nat × List PinD × List UInt8) : Prop := x.1 ≤ n ∧ runP (n - x.1) x.2.1 x.2.2 = runP n [] b1 ∧ (∀ p ∈ x.2.1, p.ok) ∧ x.2.1.length = x.1 ∧ x.2.2.length ≤ b1.length
theorem dec_cases (n i : Nat) (l : List PinD) (bs : List UInt8) (hi : i ≤ n) : (i < n ∧ bs.length = 0) ∨ (i < n ∧ 0 < bs.length ∧ bs.length < 34 + pn bs) ∨ (i < n ∧ 34 + pn bs ≤ bs.length ∧ 1 < bs.getD (pn bs + 33) 0 ∧ l = []) ∨ (i < n ∧ 34 + pn bs ≤ bs.length ∧ 1 < bs.getD (pn bs + 33) 0 ∧ l ≠ []) ∨ (i < n ∧ 34 + pn bs ≤ bs.length ∧ ¬ 1 < bs.getD (pn bs + 33) 0 ∧ l = []) ∨ (i < n ∧ 34 + pn bs ≤ bs.length ∧ ¬ 1 < bs.getD (pn bs + 33) 0 ∧ l ≠ []) ∨ (i = n ∧ 0 < bs.length) ∨ (i = n ∧ bs.length = 0 ∧ l = []) ∨ (i = n ∧ bs.length = 0 ∧ l ≠ [] ∧ pinsFault l = 0) ∨ (i = n ∧ bs.length = 0 ∧ l ≠ [] ∧ ¬ pinsFault l = 0) := by
  by_cases h : i = n
  · by_cases h2 : bs.length = 0
    · by_cases h3 : l = []
      · simp [h, h2, h3]
      · by_cases h4 : pinsFault l = 0
        · simp [h, h2, h3, h4]
        · simp [h, h2, h3, h4]
    · have : 0 < bs.length := by omega
      simp [h, this]
  · have h1 : i < n := by omega
    by_cases h2 : bs.length = 0
    · exact .inl ⟨h1, h2⟩
    · by_cases h3 : bs.length < 34 + pn bs
      · exact .inr (.inl ⟨h1, by omega, h3⟩)
      · have h3' : 34 + pn bs ≤ bs.length := by omega
        by_cases h4 : 1 < bs.getD (pn bs + 33) 0 <;> by_cases h5 : l = [] <;> simp only [h1, h3', h4, h5, and_self, not_true, not_false_iff, ne_eq, and_true, true_or, or_true]
theorem fault_len0 {bs : List UInt8} (h : bs.length = 0) : oneFault bs = 4 := if_pos h
theorem fault_short {bs : List UInt8} (h0 : 0 < bs.length) (h : bs.length < 34 + pn bs) : oneFault bs = 4 := by
  unfold oneFault; rw [if_neg (by omega), if_pos h]
theorem fault_form {bs : List UInt8} (h : 34 + pn bs ≤ bs.length) (h3 : 1 < bs.getD (pn bs + 33) 0) : oneFault bs = 3 := by
  unfold oneFault; rw [if_neg (by omega), if_neg (by omega), if_pos h3]
theorem fault_none {bs : List UInt8} (h : 34 + pn bs ≤ bs.length) (h3 : ¬ 1 < bs.getD (pn bs + 33) 0) : oneFault bs = 0 := by
  unfold oneFault; rw [if_neg (by omega), if_neg (by omega), if_neg h3]
theorem dinv_fault {n i : Nat} {b1 bs : List UInt8} {l : List PinD} (h : DInv n b1 (i, l, bs)) (hi : i < n) (hf : oneFault bs ≠ 0) : (runP n [] b1).1 = oneFault bs := by
  rw [← h.2.1, show n - i = (n - i - 1) + 1 from by omega, runP_bad hf]
theorem dinv_next {n i : Nat} {b1 bs : List UInt8} {l : List PinD} (h : DInv n b1 (i, l, bs)) (hi : i < n) (hl : 34 + pn bs ≤ bs.length) (hf : oneFault bs = 0) : DInv n b1 (i + 1, l ++ [pinOf bs], bs.drop (pn bs + 34)) := by
  obtain ⟨h1, h2, h3, h4, h5⟩ := h
  refine ⟨hi, ?_, fun p hp => ?_, ?_, ?_⟩
  · rw [← h2]
    show runP (n - (i + 1)) _ _ = runP (n - i) l bs
    rw [show n - i = (n - (i + 1)) + 1 from by omega, runP_ok hf]
  · rcases List.mem_append.mp hp with hp | hp
    · exact h3 p hp
    · rw [List.mem_singleton.mp hp]; exact pinOf_ok hl
  · simp only [List.length_append, List.length_cons, List.length_nil] at h4 ⊢; omega
  · simp only [List.length_drop] at h5 ⊢; omega
theorem dinv_end {n : Nat} {b1 bs : List UInt8} {l : List PinD} (h : DInv n b1 (n, l, bs)) : runP n [] b1 = (0, l, bs) := by
  rw [← h.2.1]; simp [runP]
theorem decP_loop {bs : List UInt8} (h0 : 0 < bs.length) (h8 : ¬ 8 < pn bs) : decP bs = (if (runP (pn bs) [] (bs.drop 1)).1 = 0 then (if 0 < (runP (pn bs) [] (bs.drop 1)).2.2.length then (3, []) else if pinsFault (runP (pn bs) [] (bs.drop 1)).2.1 = 0 then (0, (runP (pn bs) [] (bs.drop 1)).2.1) else (pinsFault (runP (pn bs) [] (bs.drop 1)).2.1, [])) else ((runP (pn bs) [] (bs.drop 1)).1, [])) := by
  unfold decP; rw [if_neg (by omega), if_neg h8]
end Go.Sy
