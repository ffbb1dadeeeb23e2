/- Walks: links of a chain. -/
import Derived.Test.YtbfllkipgfpkkaavtV2
set_option linter.unusedVariables false
set_option linter.unusedSimpArgs false
namespace Go.Sy
open Go.Proofs
attribute [local irreducible] atCall HT runOps runD onC onE onO onG goV goA goS onSt onGuard
theorem tflat_length (l : List TermD) : (termRows l).flatten.length = l.length * 4 := by
 induction l with
 | nil => rw [termRows]; rfl
 | cons a r ih => rw [termRows, List.flatten_cons, List.length_append, ih, cells_len, List.length_cons]; omega
theorem t_chunks : ∀ l : List TermD, chunks 4 l.length (termRows l).flatten = termRows l
 | [] => by rw [termRows]; rfl
 | a :: r => by
  have ih := t_chunks r
  have ha := cells_len a
  rw [termRows, List.flatten_cons, List.length_cons]
  simp only [chunks]
  rw [← ha, List.take_left, List.drop_left, ha, ih]
theorem seal_term (k : Nat) (kd i o : Int) (ts : List TermD) : sealV k (termRows ts).flatten (.w (.agg [.pl (.i kd), .pl (.i i), .pl (.i o), .s k [] ts.length 4])) = argT (.mk kd i o ts) := by
 rw [argT, TermD.cells]
 simp only [sealV, sealW, List.map_cons, List.map_nil, sealL, if_true, pok, psz, tflat_length, and_self, rd, t_chunks, pls]
theorem plain_term (t : TermD) : plainV (argT t) = true := by
 obtain ⟨k, i, o, l⟩ := t
 rw [argT, TermD.cells]; rfl
theorem told_rows {R : V → List (Nat × Ob) → Prop} {m : List (Nat × Ob)} {k : Nat} {b : Bool} {kd i o : Int} (ts : List TermD) {n : Nat} (hn : ts.length = n) (hl : k < 500000) (h : R (argT (.mk kd i o ts)) []) (hk : look m k = some ⟨b, pls (termRows ts).flatten⟩) :
 Told R (.w (.agg [.pl (.i kd), .pl (.i i), .pl (.i o), .s k [] n 4])) m := by
 subst hn
 refine told_seal k _ hk hl ?_
 rw [seal_term]
 exact told_plain (plain_term _) h
theorem flat2 (a b : TermD) : pls (termRows [a, b]).flatten = pls a.cells ++ pls b.cells := by simp [termRows, pls]
theorem flat3 (a b c : TermD) : pls (termRows [a, b, c]).flatten = pls a.cells ++ (pls b.cells ++ pls c.cells) := by simp [termRows, pls]
set_option maxHeartbeats 400000 in
set_option maxRecDepth 100000 in
theorem kdf_w (w : Int) (c x : TermD) :
 Ct Try.prog 54 [.w (.one (.pl (.i w))), argT c, argT x] (Told (fun v m => v = argT (kdfT w c x))) := by
 have zE := fun m => told_rows (R := (fun v m => v = argT (kdfT w c x))) (m := m) (b := true) (k := 10) (n := 2) [c, x] rfl (by decide) rfl
 have F0 := And.intro cells_len <| And.intro pls_len <| And.intro pls_has <| flat2
 exact Ct.w Try.func54 rfl Try.ntmps54 Try.results54
theorem kdf_ (w : Int) (c x : TermD) : Ct Try.prog 54 [.w (.one (.pl (.i w))), argT c, argT x] (fun v m => v = argT (kdfT w c x)) := (kdf_w w c x).told
end Go.Sy

