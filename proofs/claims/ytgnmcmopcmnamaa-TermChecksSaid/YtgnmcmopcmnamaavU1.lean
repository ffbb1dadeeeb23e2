/- Terms: their cells, how an argument is one, how many they are, their form, whether two are the same. -/
import Derived.Test.YtgnmcmopcmnamaavE2
set_option linter.unusedVariables false
set_option linter.unusedSimpArgs false
namespace Go.Sy
inductive TermD where
  | mk (kind id other : Int) (args : List TermD)
def TermD.kind : TermD → Int | .mk k _ _ _ => k
def TermD.id : TermD → Int | .mk _ i _ _ => i
def TermD.other : TermD → Int | .mk _ _ o _ => o
def TermD.args : TermD → List TermD | .mk _ _ _ l => l
mutual
def TermD.cells : TermD → List PL
  | .mk k i o l => [.i k, .i i, .i o, .R false 4 (termRows l)]
def termRows : List TermD → List (List PL)
  | [] => []
  | a :: l => a.cells :: termRows l
end
theorem termRows_map : ∀ l : List TermD, termRows l = l.map TermD.cells
  | [] => by rw [termRows]; rfl
  | a :: l => by rw [termRows, termRows_map l]; rfl
theorem termRows_length (l : List TermD) : (termRows l).length = l.length := by rw [termRows_map, List.length_map]
def i64b (k : Int) : Prop := -9223372036854775808 ≤ k ∧ k ≤ 9223372036854775807
mutual
def TermD.ok : TermD → Prop
  | .mk k i o l => i64b k ∧ i64b i ∧ i64b o ∧ l.length ≤ 9223372036854775807 ∧ termsOk l
def termsOk : List TermD → Prop
  | [] => True
  | a :: l => a.ok ∧ termsOk l
end
theorem termsOk_mem : ∀ {l : List TermD}, termsOk l → ∀ a ∈ l, a.ok
  | [], _, a, h => by cases h
  | b :: l, hk, a, h => by
    rw [termsOk] at hk
    rcases List.mem_cons.mp h with rfl | h
    · exact hk.1
    · exact termsOk_mem hk.2 a h
theorem rows_terms {p : List PL → Prop} (hp : ∀ r, p r → ∃ d : TermD, r = d.cells ∧ d.ok) : ∀ rows : List (List PL), (∀ r ∈ rows, p r) → ∃ l : List TermD, rows = termRows l ∧ termsOk l
  | [], _ => ⟨[], by rw [termRows], by rw [termsOk]; trivial⟩
  | r :: rows, h => by
    obtain ⟨d, rfl, hd⟩ := hp r (h r (by simp))
    obtain ⟨l, rfl, hl⟩ := rows_terms hp rows fun r hr => h r (by simp [hr])
    exact ⟨d :: l, by rw [termRows], by rw [termsOk]; exact ⟨hd, hl⟩⟩
theorem sh_term {P : Program} {t : TypeId} {f0 f1 f2 f3 : Field} (ht : P.underlying t = some (.struct #[f0, f1, f2, f3])) (h0 : P.underlying f0.type = some (.int .i64)) (h1 : P.underlying f1.type = some (.int .i64)) (h2 : P.underlying f2.type = some (.int .i64)) (h3 : P.underlying f3.type = some (.slice t)) (hc : P.cellsOf t = 4) :
    ∀ (n m : Nat), m ≤ n → ∀ cs, Sh P m t cs → ∃ d : TermD, cs = d.cells ∧ d.ok := by
  intro n
  induction n with
  | zero => intro m hm cs h; obtain rfl : m = 0 := by omega
            exact h.elim
  | succ n ih =>
    intro m hm cs h
    cases m with
    | zero => exact h.elim
    | succ m =>
      unfold Sh at h
      rw [ht] at h
      obtain ⟨ps, rfl, hp⟩ := h
      cases hp with
      | cons g0 hp => cases hp with
        | cons g1 hp => cases hp with
          | cons g2 hp => cases hp with
            | cons g3 hp =>
              cases hp
              obtain ⟨k, rfl, hk⟩ := sh_i64 g0.1 h0
              obtain ⟨i, rfl, hi⟩ := sh_i64 g1.1 h1
              obtain ⟨o, rfl, ho⟩ := sh_i64 g2.1 h2
              have g := g3.1
              cases m with
              | zero => exact g.elim
              | succ m =>
                unfold Sh at g
                rw [h3] at g
                obtain ⟨rows, rfl, hr, hl⟩ := g
                obtain ⟨l, rfl, hlk⟩ := rows_terms (p := fun r => Sh P m t r) (fun r hr => ih m (by omega) r hr) rows fun r hr' => (hr r hr').1
                refine ⟨.mk k i o l, ?_, ?_⟩
                · rw [TermD.cells, hc]; rfl
                · rw [TermD.ok]
                  rw [termRows_length] at hl
                  exact ⟨hk, hi, ho, hl, hlk⟩
mutual
def sizeN : TermD → Int → Int
  | .mk _ _ _ l, deep => if 40 < deep then 301 else sizeL l deep 1
def sizeL : List TermD → Int → Int → Int
  | [], _, n => n
  | a :: l, deep, n => if 300 < n then n else sizeL l deep (n + sizeN a (deep + 1))
end
mutual
def weighN : TermD → Int → Int
  | .mk _ _ _ l, deep => if 40 < deep then 1048576 else weighL l deep 1
def weighL : List TermD → Int → Int → Int
  | [], _, n => n
  | a :: l, deep, n => if 1048576 < n + weighN a (deep + 1) then n + weighN a (deep + 1) else weighL l deep (n + weighN a (deep + 1))
end
mutual
theorem sizeN_pos : ∀ (t : TermD) (d : Int), 1 ≤ sizeN t d
  | .mk _ _ _ l, d => by
    rw [sizeN]; split
    · omega
    · exact sizeL_ge l d 1
theorem sizeL_ge : ∀ (l : List TermD) (d n : Int), n ≤ sizeL l d n
  | [], d, n => by rw [sizeL]; omega
  | a :: l, d, n => by
    rw [sizeL]; split
    · omega
    · have := sizeN_pos a (d + 1)
      have := sizeL_ge l d (n + sizeN a (d + 1))
      omega
end
mutual
theorem weighN_pos : ∀ (t : TermD) (d : Int), 1 ≤ weighN t d
  | .mk _ _ _ l, d => by
    rw [weighN]; split
    · omega
    · exact weighL_ge l d 1
theorem weighL_ge : ∀ (l : List TermD) (d n : Int), n ≤ weighL l d n
  | [], d, n => by rw [weighL]; omega
  | a :: l, d, n => by
    have := weighN_pos a (d + 1)
    rw [weighL]; split
    · omega
    · have := weighL_ge l d (n + weighN a (d + 1))
      omega
end
def upS (x y : Int) : Prop := (x ≤ 300 ∧ y = x) ∨ (300 < x ∧ 300 < y)
mutual
theorem size_weigh : ∀ (t : TermD) (d : Int), upS (sizeN t d) (weighN t d)
  | .mk _ _ _ l, d => by
    rw [sizeN, weighN]; split
    · exact .inr ⟨by omega, by omega⟩
    · exact sizeL_weigh l d 1 1 (by omega) (by omega) (.inl ⟨by omega, rfl⟩)
theorem sizeL_weigh : ∀ (l : List TermD) (d n m : Int), 1 ≤ n → 1 ≤ m → upS n m → upS (sizeL l d n) (weighL l d m)
  | [], d, n, m, _, _, h => by rw [sizeL, weighL]; exact h
  | a :: l, d, n, m, hn1, hm1, h => by
    have h1 := size_weigh a (d + 1)
    have h2 := weighN_pos a (d + 1)
    have h3 := sizeN_pos a (d + 1)
    rw [sizeL, weighL]
    rcases h with ⟨hn, rfl⟩ | ⟨hn, hm⟩
    · rw [if_neg (by omega)]
      split
      · rename_i hb
        refine .inr ⟨?_, by omega⟩
        have := sizeL_ge l d (m + sizeN a (d + 1))
        rcases h1 with ⟨g1, g2⟩ | ⟨g1, g2⟩ <;> omega
      · refine sizeL_weigh l d _ _ (by omega) (by omega) ?_
        rcases h1 with ⟨g1, g2⟩ | ⟨g1, g2⟩
        · rw [g2]
          by_cases hx : m + sizeN a (d + 1) ≤ 300
          · exact .inl ⟨hx, rfl⟩
          · exact .inr ⟨by omega, by omega⟩
        · exact .inr ⟨by omega, by omega⟩
    · rw [if_pos hn]
      refine .inr ⟨hn, ?_⟩
      split
      · omega
      · have := weighL_ge l d (m + weighN a (d + 1)); omega
end
def sbd : Nat → Int
  | 0 => 301
  | k + 1 => 300 + sbd k
theorem sbd_ge : ∀ k, 301 ≤ sbd k
  | 0 => by rw [sbd]; omega
  | k + 1 => by have := sbd_ge k; rw [sbd]; omega
theorem sbd_succ (k : Nat) : sbd (k + 1) = 300 + sbd k := by rw [sbd]
mutual
theorem sizeN_le : ∀ (t : TermD) (d : Int) (k : Nat), 41 ≤ d + k → sizeN t d ≤ sbd k
  | .mk _ _ _ l, d, k, h => by
    have hg := sbd_ge k
    have hl := sizeL_le l d 1
    rw [sizeN]
    by_cases h40 : 40 < d
    · rw [if_pos h40]; exact hg
    · rw [if_neg h40]
      obtain ⟨j, rfl⟩ : ∃ j, k = j + 1 := ⟨k - 1, by omega⟩
      have := sbd_ge j
      exact hl j (by omega) (by omega)
theorem sizeL_le : ∀ (l : List TermD) (d n : Int) (k : Nat), 41 ≤ d + 1 + k → n ≤ sbd (k + 1) → sizeL l d n ≤ sbd (k + 1)
  | [], d, n, k, h, hn => by simp only [sizeL]; exact hn
  | a :: l, d, n, k, h, hn => by
    have h1 := sizeN_le a (d + 1) k (by omega)
    have h2 := sbd_succ k
    have hl := fun n hn => sizeL_le l d n k h hn
    rw [sizeL]
    by_cases hx : 300 < n
    · rw [if_pos hx]; exact hn
    · rw [if_neg hx]; exact hl _ (by omega)
end
def bnd : Nat → Int
  | 0 => 1048576
  | k + 1 => 1048576 + bnd k
theorem bnd_ge : ∀ k, 1048576 ≤ bnd k
  | 0 => by rw [bnd]; omega
  | k + 1 => by have := bnd_ge k; rw [bnd]; omega
theorem bnd_succ (k : Nat) : bnd (k + 1) = 1048576 + bnd k := by rw [bnd]
mutual
theorem weighN_le : ∀ (t : TermD) (d : Int) (k : Nat), 41 ≤ d + k → weighN t d ≤ bnd k
  | .mk _ _ _ l, d, k, h => by
    have hg := bnd_ge k
    have hl := weighL_le l d 1
    rw [weighN]
    by_cases h40 : 40 < d
    · rw [if_pos h40]; exact hg
    · rw [if_neg h40]
      obtain ⟨j, rfl⟩ : ∃ j, k = j + 1 := ⟨k - 1, by omega⟩
      exact hl j (by omega) (by omega)
theorem weighL_le : ∀ (l : List TermD) (d n : Int) (k : Nat), 41 ≤ d + 1 + k → n ≤ 1048576 → weighL l d n ≤ bnd (k + 1)
  | [], d, n, k, h, hn => by
    have := bnd_ge (k + 1)
    rw [weighL]; omega
  | a :: l, d, n, k, h, hn => by
    have h1 := weighN_le a (d + 1) k (by omega)
    have h2 := bnd_succ k
    have hl := fun n hn => weighL_le l d n k h hn
    rw [weighL]
    by_cases hx : 1048576 < n + weighN a (d + 1)
    · rw [if_pos hx]; omega
    · rw [if_neg hx]; exact hl _ (by omega)
end
def argsN (k : Int) : Int := if k = 4 then 2 else if k = 5 then 1 else if k = 6 then 2 else if k = 7 then 3 else 0
def okT (k i o n : Int) : Bool := decide (n = argsN k) && decide (0 ≤ i) && decide (0 ≤ o) && (if k = 3 then decide (i ≤ o) else if k = 1 ∨ k = 2 ∨ k = 6 then decide (o = 0) else decide (i = 0 ∧ o = 0))
mutual
def formE : TermD → Int
  | .mk k i o l => if k < 1 ∨ 7 < k then 2 else if okT k i o l.length = true then formL l else 3
def formL : List TermD → Int
  | [] => 0
  | a :: l => if formE a = 0 then formL l else formE a
end
mutual
def sameB : TermD → TermD → Bool
  | .mk k i o l, .mk k2 i2 o2 l2 => decide (k = k2) && decide (i = i2) && decide (o = o2) && decide (l.length = l2.length) && sameL l l2
def sameL : List TermD → List TermD → Bool
  | [], _ => true
  | _ :: _, [] => true
  | a :: l, b :: l2 => sameB a b && sameL l l2
end
end Go.Sy

