/- Walks: a pattern shown as the name of a protocol. -/
import Derived.Test.YtbfllkipgfpkkaaDoorvdH1
import Derived.Test.YtbfllkipgfpkkaaDoorvdF8
import Derived.Test.YtbfllkipgfpkkaaDoorvdG0
set_option linter.unusedVariables false
set_option linter.unusedSimpArgs false
namespace Go.Sy
open Go.Proofs
attribute [local irreducible] atCall HT runOps runD onC onE onO onG goV goA goS onSt onGuard
def sC (l : List (List UInt8)) : List L := l.map fun x => .pl (.str x)
def sV (nm : Nat) (l : List (List UInt8)) : V := match l with | [] => .w (.one (.pl (.R true 1 []))) | _ :: _ => .w (.one (.s nm [] l.length 1))
def sM (nm : Nat) (l : List (List UInt8)) : List (Nat × Ob) := match l with | [] => [] | _ :: _ => [(nm, ⟨true, sC l⟩)]
theorem sV_nil (nm : Nat) : sV nm [] = .w (.one (.pl (.R true 1 []))) := rfl
theorem sM_nil (nm : Nat) : sM nm [] = [] := rfl
theorem sV_own {nm : Nat} {l : List (List UInt8)} (h : l ≠ []) : sV nm l = .w (.one (.s nm [] l.length 1)) := by cases l with | nil => exact absurd rfl h | cons a r => rfl
theorem sM_own {nm : Nat} {l : List (List UInt8)} (h : l ≠ []) : sM nm l = [(nm, ⟨true, sC l⟩)] := by cases l with | nil => exact absurd rfl h | cons a r => rfl
theorem sV_one (nm : Nat) (x : List UInt8) : sV nm [x] = .w (.one (.s nm [] 1 1)) := rfl
theorem sM_one (nm : Nat) (x : List UInt8) : sM nm [x] = [(nm, ⟨true, [.pl (.str x)]⟩)] := rfl
theorem sC_snoc (l : List (List UInt8)) (x : List UInt8) : sC (l ++ [x]) = sC l ++ [.pl (.str x)] := by simp [sC]
theorem sV_snoc (nm : Nat) (l : List (List UInt8)) (x : List UInt8) : sV nm (l ++ [x]) = .w (.one (.s nm [] (l.length + 1) 1)) := by rw [sV_own (by simp)]; simp
theorem sM_snoc (nm : Nat) (l : List (List UInt8)) (x : List UInt8) : sM nm (l ++ [x]) = [(nm, ⟨true, sC l ++ [.pl (.str x)]⟩)] := by rw [sM_own (by simp), sC_snoc]
theorem sC_length (l : List (List UInt8)) : (sC l).length = l.length := by simp [sC]
theorem sC_has (l : List (List UInt8)) (k : Nat) : (sC l).any (L.has k) = false := by
 induction l with
 | nil => rfl
 | cons a r ih => simp only [sC, List.map_cons, List.any_cons] at ih ⊢; rw [ih]; rfl
theorem sC_pls (l : List (List UInt8)) : sC l = pls (l.map PL.str) := by simp [sC, pls]
theorem sC_kill (l : List (List UInt8)) (k : Nat) : (sC l).map (killL k) = sC l := by rw [sC_pls]; exact killL_pls k _
theorem chunks_s : ∀ l : List (List UInt8), chunks 1 l.length (l.map PL.str) = sRows l
 | [] => rfl
 | a :: r => by
  have ih := chunks_s r
  simp only [List.map_cons, List.length_cons, chunks, List.take_succ_cons, List.take_zero, List.drop_succ_cons, List.drop_zero, sRows]
  rw [ih]; rfl
def dig (x : Int) : UInt8 := UInt8.ofNat (48 + x).toNat
def pskW (x : Int) : List UInt8 := [112, 115, 107, dig x]
def pskJ (ps : List Int) : List UInt8 := Lib.join (ps.map pskW) [43]
def headS : List UInt8 := [78, 111, 105, 115, 101, 95]
def tailS : List UInt8 := [95, 50, 53, 53, 49, 57, 95, 67, 104, 97, 67, 104, 97, 80, 111, 108, 121, 95, 66, 76, 65, 75, 69, 50, 115]
def nameS (bs : List UInt8) (ps : List Int) : List UInt8 := (headS ++ bs) ++ pskJ ps ++ tailS
theorem dig_u8 {x : Int} (h0 : 0 ≤ x) (h1 : x ≤ 3) : (48 : UInt8) + UInt8.ofNat (x % 256).toNat = dig x := by
 rcases (by omega : x = 0 ∨ x = 1 ∨ x = 2 ∨ x = 3) with rfl | rfl | rfl | rfl <;> rfl
theorem w48 {x : Int} (h0 : 0 ≤ x) (h1 : x ≤ 3) : Go.RowKit.wrap64 (48 + x) = 48 + x := by
 obtain ⟨k, rfl⟩ : ∃ k : Nat, x = (k : Int) := ⟨x.toNat, by omega⟩
 have h := wnat (a := 48 + (k : Int)) (n := 48 + k) (by omega) (by omega)
 rw [h]; omega
theorem wchk_range {n last : Int} : ∀ {l : List Int}, wchk n last l = 0 → ∀ x ∈ l, 0 ≤ x ∧ x ≤ n
 | [], _, x, hx => by cases hx
 | a :: r, h, x, hx => by
  obtain ⟨h1, h2, _, h4⟩ := wchk_step h
  rcases List.mem_cons.mp hx with rfl | h5
  · exact ⟨h1, h2⟩
  · exact wchk_range h4 x h5
theorem wR_range {lt p0 p1 ts n ps d} (h : wR lt p0 p1 ts n ps = .ok d) (hn : n ≤ 3) : ∀ x ∈ ps, 0 ≤ x ∧ x ≤ 3 := by
 unfold wR at h
 split at h
 · cases h
 · split at h
   · rename_i hw
     intro x hx
     have := wchk_range hw x hx
     omega
   · cases h
theorem wRes_range {bs ps d} (h : wRes bs ps = .ok d) : ∀ x ∈ ps, 0 ≤ x ∧ x ≤ 3 := by
 unfold wRes at h
 iterate 7 (split at h; focus exact wR_range h (by decide))
 cases h
theorem wRes_name {bs ps d} (h : wRes bs ps = .ok d) : bs.length ≤ 10 := by
 unfold wRes at h
 iterate 7 (split at h; focus (rename_i e; rw [e]; decide))
 cases h
theorem wR_err {lt p0 p1 ts n ps e} (h : wR lt p0 p1 ts n ps = .error e) : e ≠ 0 := by
 unfold wR at h
 split at h
 · cases h; decide
 · split at h
   · cases h
   · rename_i hw
     cases h; exact hw
theorem wRes_err {bs ps e} (h : wRes bs ps = .error e) : e ≠ 0 := by
 unfold wRes at h
 iterate 7 (split at h; focus exact wR_err h)
 cases h; decide
theorem join_one (x sep : List UInt8) : Lib.join [x] sep = x := by simp [Lib.join]
theorem join_nil (sep : List UInt8) : Lib.join [] sep = [] := rfl
theorem join_snoc : ∀ (l : List (List UInt8)) (x sep : List UInt8), l ≠ [] → Lib.join (l ++ [x]) sep = Lib.join l sep ++ (sep ++ x)
 | [], _, _, h => absurd rfl h
 | [a], x, sep, _ => by simp [Lib.join, List.intercalate, List.intersperse]
 | a :: b :: r, x, sep, _ => by
  have ih := join_snoc (b :: r) x sep (by simp)
  simp only [Lib.join, List.intercalate, List.cons_append, List.intersperse_cons_cons, List.flatten_cons] at ih ⊢
  rw [ih]; simp
theorem pskJ_take {ps : List Int} {i : Nat} (h : i < ps.length) : pskJ (ps.take (i + 1)) = pskJ (ps.take i) ++ ((if i = 0 then [] else [43]) ++ pskW (ps.getD i 0)) := by
 unfold pskJ
 rw [List.take_add_one, List.getElem?_eq_getElem h]
 have hg : ps.getD i 0 = ps[i] := by simp [List.getD, List.getElem?_eq_getElem h]
 rw [hg, Option.toList_some, List.map_append, List.map_cons, List.map_nil]
 by_cases hi : i = 0
 · subst hi; simp [join_one, join_nil]
 · rw [if_neg hi, join_snoc _ _ _ (by
  intro e
  rw [List.map_eq_nil_iff, List.take_eq_nil_iff] at e
  rcases e with e | e
  · exact hi e
  · rw [e] at h; cases h)]
theorem join_len : ∀ (l : List (List UInt8)), (∀ t ∈ l, t.length ≤ 4) → (Lib.join l [43]).length ≤ 5 * l.length
 | [], _ => by simp [Lib.join]
 | [a], h => by have := h a (by simp); rw [join_one]; simp; omega
 | a :: b :: r, h => by
  have ih := join_len (b :: r) fun t ht => h t (List.mem_cons_of_mem _ ht)
  have ha := h a (by simp)
  simp only [Lib.join, List.intercalate, List.intersperse_cons_cons, List.flatten_cons, List.length_append, List.length_cons, List.length_nil] at ih ⊢
  omega
theorem pskJ_len (ps : List Int) : (pskJ ps).length ≤ 5 * ps.length := by
 have := join_len (ps.map pskW) (fun t ht => by
  obtain ⟨x, _, rfl⟩ := List.mem_map.mp ht
  exact Nat.le_refl _)
 rw [List.length_map] at this; exact this
open Go.RowKit in
theorem join_no (ex : Bool) (sep : List UInt8) : Ct Tryd.prog 24 [.w (.one (.pl (.R ex 1 []))), .w (.one (.pl (.str sep)))] (fun v m => v = .w (.one (.pl (.str []))) ∧ m = []) := by
 intro w d vals hro hgat ha
 have hm : MemOK ⟨w, mayOf d [], 0, d.ro, fxOf d []⟩ d [] w := ⟨{ tmps := #[], defers := [] }, ⟨rfl, rfl, fun n v hn => (by cases hn), fun k o hk => (by cases hk), fun k k' hk => (by cases hk), fun k hk => (by cases hk), hro, fun b o y hy _ => hy, rfl, rfl, rfl, Nat.le_refl _, fun b _ _ => rfl, hgat, fun k o hk => (by cases hk), fun k o p hk => (by cases hk), fun k p hk => (by simp [fxOf_nil] at hk)⟩⟩
 have key := CtM.of_below (P := Tryd.prog) (f := 24) (args := [.w (.one (.pl (.R ex 1 []))), .w (.one (.pl (.str sep)))]) (m := []) (X := .w (.one (.pl (.str [])))) (fun w d vals hm ha => by
  obtain ⟨l⟩ := vals
  simp only at ha
  cases ha with
  | cons h1 ha =>
   cases ha with
   | cons h2 ha =>
    cases ha
    simp only [V.den, W.den, L.den] at h1 h2
    have h2' : _ = _ := h2.1
    rw [h2']
    have hd : ∀ d' : Va, V.den d' (.w (.one (.pl (.str [])))) (.string ⟨#[]⟩) := fun d' => ⟨rfl, by simp⟩
    rcases h1 with ⟨rfl, _⟩ | ⟨blk, off, cap, rfl, hc, _, _, hr⟩ | ⟨a, cap, rfl, _, _⟩
    · exact ⟨_, (Tryd.strings_Join_none none 0 ⟨sep.toArray⟩ w).mono fun e w' ⟨he, hw⟩ => ⟨he, hw ▸ Below.refl _ _⟩, hd⟩
    · exact ⟨_, (Tryd.strings_Join_none (some ⟨blk, off, none⟩) cap ⟨sep.toArray⟩ w).mono fun e w' ⟨he, hw⟩ => ⟨he, hw ▸ Below.refl _ _⟩, hd⟩
    · exact ⟨_, (Tryd.strings_Join_none (some a) cap ⟨sep.toArray⟩ w).mono fun e w' ⟨he, hw⟩ => ⟨he, hw ▸ Below.refl _ _⟩, hd⟩) w d vals hm ha
 refine key.mono fun e w' ⟨y, v, d', m', h1, h2, h3, h4⟩ => ⟨y, v, d', m', h1, h2, h3, ?_⟩
 rw [mayOf_nil, fxOf_nil] at h4
 exact h4
end Go.Sy

