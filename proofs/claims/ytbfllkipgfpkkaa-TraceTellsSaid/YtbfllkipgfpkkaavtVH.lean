/- What a handshake tells, as the document says: the law. -/
import Derived.Test.YtbfllkipgfpkkaavtVG
import Derived.Test.YtbfllkipgfpkkaavtJD
set_option linter.unusedVariables false
set_option linter.unusedSimpArgs false
namespace Go.Sy
open Go.Proofs
attribute [local irreducible] atCall HT runOps runD onC onE onO onG goV goA goS onSt onGuard
theorem leaf_lok (k i o : Int) : (TermD.mk k i o []).lok := by rw [TermD.lok, lokL]; exact ⟨Nat.zero_le _, trivial⟩
theorem kdf_lok {w : Int} {c x : TermD} (hc : c.lok) (hx : x.lok) : (kdfT w c x).lok := by
 rw [kdfT, TermD.lok, lokL, lokL, lokL]; exact ⟨(by decide : 2 ≤ 1000000), hc, hx, trivial⟩
theorem lock_lok {n : Int} {c x : TermD} (hc : c.lok) (hx : x.lok) : (lockT c n x).lok := by
 rw [lockT, TermD.lok, lokL, lokL, lokL, lokL]; exact ⟨(by decide : 3 ≤ 1000000), hc, leaf_lok _ _ _, hx, trivial⟩
theorem chainG_lok {w : Int} : ∀ {l : List TermD} {c : TermD}, c.lok → (∀ m ∈ l, m.lok) → (chainG w c l).lok
 | [], _, hc, _ => hc
 | [m], _, hc, h => kdf_lok hc (h m (by simp))
 | m :: n :: r, c, hc, h => by
  rw [chainG]
  exact chainG_lok (kdf_lok hc (h m (by simp))) fun x hx => h x (by simp only [List.mem_cons] at hx ⊢; exact .inr hx)
def TelS.good (s : TelS) : Prop := (∀ x ∈ s.mx, x.lok) ∧ ∀ x ∈ s.out, x.lok
theorem snoc_lok {l : List TermD} {t : TermD} (h : ∀ x ∈ l, x.lok) (ht : t.lok) : ∀ x ∈ l ++ [t], x.lok := by
 intro x hx
 rcases List.mem_append.mp hx with hx | hx
 · exact h x hx
 · rw [List.mem_singleton] at hx; subst hx; exact ht
theorem mix_good {s : TelS} {t : TermD} (h : s.good) (ht : t.lok) : (s.mix t).good := ⟨snoc_lok h.1 ht, h.2⟩
theorem tell_good {s : TelS} {t : TermD} (h : s.good) (ht : t.lok) : (s.tell t).good := by
 refine ⟨h.1, snoc_lok h.2 ?_⟩
 split
 · exact ht
 · exact lock_lok (chainG_lok (leaf_lok _ _ _) h.1) ht
theorem token_good {pk : Bool} {w : Int} {s : TelS} {t : Int} (h : s.good) : (s.token pk w t).good := by
 unfold TelS.token
 split
 · cases pk
   · exact ⟨h.1, snoc_lok h.2 (leaf_lok _ _ _)⟩
   · exact ⟨snoc_lok h.1 (leaf_lok _ _ _), snoc_lok h.2 (leaf_lok _ _ _)⟩
 · split
   · exact tell_good h (leaf_lok _ _ _)
   · repeat' (first | split | exact mix_good h (leaf_lok _ _ _) | exact ⟨snoc_lok h.1 (leaf_lok _ _ _), h.2⟩)
theorem turn_good {pk : Bool} {w : Int} : ∀ {l : List Int} {s : TelS}, s.good → (TelS.turn pk w s l).good
 | [], _, h => h
 | t :: r, s, h => by rw [TelS.turn]; exact turn_good (token_good h)
theorem turns_good {lt pk : Bool} : ∀ {ts : List (List Int)} {i : Nat} {s : TelS}, s.good → (telTurns lt pk i s ts).good
 | [], _, _, h => h
 | l :: r, i, s, h => by rw [telTurns]; exact turns_good (tell_good (turn_good h) (leaf_lok _ _ _))
theorem preX_good {pk : Bool} {w : Int} : ∀ {l : List Int} {mx : List TermD}, (∀ x ∈ mx, x.lok) → ∀ x ∈ preX pk w mx l, x.lok
 | [], _, h => h
 | t :: r, mx, h => by
  rw [preX]
  refine preX_good ?_
  split
  · exact snoc_lok h (leaf_lok _ _ _)
  · exact h
theorem telOf_good (lt pk : Bool) (p0 p1 : List Int) (ts : List (List Int)) : ∀ x ∈ (telOf lt pk p0 p1 ts).out, x.lok := by
 rw [telOf]
 exact (turns_good ⟨preX_good (preX_good fun x hx => by cases hx), fun x hx => by cases hx⟩).2
theorem turn_out {pk : Bool} {w : Int} : ∀ {l : List Int} {s : TelS}, (TelS.turn pk w s l).out.length ≤ s.out.length + l.length
 | [], _ => Nat.le_refl _
 | t :: r, s => by
  rw [TelS.turn]
  have h1 := turn_out (pk := pk) (w := w) (l := r) (s := s.token pk w t)
  have h2 := token_out pk w s t
  rw [List.length_cons]; omega
theorem turns_out {lt pk : Bool} : ∀ {ts : List (List Int)} {i : Nat} {s : TelS}, (∀ l ∈ ts, l.length ≤ 6) → (telTurns lt pk i s ts).out.length ≤ s.out.length + 7 * ts.length
 | [], _, _, _ => Nat.le_refl _
 | l :: r, i, s, h => by
  rw [telTurns]
  have h1 := turns_out (lt := lt) (pk := pk) (ts := r) (i := i + 1) (s := (TelS.turn pk (whoI (whoT lt i)) s l).tell (atomT (20 + (i : Int)))) fun x hx => h x (by simp [hx])
  have h2 := turn_out (pk := pk) (w := whoI (whoT lt i)) (l := l) (s := s)
  have h3 := h l (by simp)
  rw [tell_len] at h1
  rw [List.length_cons]; omega
theorem telOf_out {lt pk : Bool} {p0 p1 : List Int} {ts : List (List Int)} (h : ∀ l ∈ ts, l.length ≤ 6) (ht : ts.length ≤ 5) : (telOf lt pk p0 p1 ts).out.length ≤ 1000000 := by
 rw [telOf]
 have := turns_out (lt := lt) (pk := pk) (i := 0) (s := ⟨preX pk 1 (preX pk 0 [] p0) p1, 0, []⟩) h
 simp only [List.length_nil] at this
 omega
set_option maxHeartbeats 400000 in
theorem tells_bad (bs : List UInt8) (lt : Bool) (ps : List (List PL)) (p0 p1 : List Int) (ts : List (List Int)) (e : Int) (he : ¬ e = 0) (hC : Ct Try.prog 7 [.w (.agg (patC bs lt ps p0 p1 ts))] (fun v m => v = .w (.one (.pl (.i e))))) (hD : Ct Try.prog 8 [.w (.agg (patC bs lt ps p0 p1 ts))] (fun v m => v = .w (.one (.pl (.i e))))) :
 Ct Try.prog 5 [.w (.agg (patC bs lt ps p0 p1 ts))] (fun v m => v = .w (.one (.pl (.b true)))) := by
 have cv0 := (told_bad bs lt ps p0 p1 ts e he hC).told
 have cv1 := (rtold_bad bs lt ps p0 p1 ts e he hD).told
 have cv2 := Ct.cv (sames_nil)
 have F0 := patC.eq_1
 exact Ct.w Try.func5 rfl Try.ntmps5 Try.results5
set_option maxHeartbeats 400000 in
theorem tells_many (bs : List UInt8) (lt : Bool) (ps : List (List PL)) (p0 p1 : List Int) (ts : List (List Int)) (hps : (4 : Int) < ((ps.length : Nat) : Int)) (hC : Ct Try.prog 7 [.w (.agg (patC bs lt ps p0 p1 ts))] (fun v m => v = .w (.one (.pl (.i 0))))) (hD : Ct Try.prog 8 [.w (.agg (patC bs lt ps p0 p1 ts))] (fun v m => v = .w (.one (.pl (.i 0))))) :
 Ct Try.prog 5 [.w (.agg (patC bs lt ps p0 p1 ts))] (fun v m => v = .w (.one (.pl (.b true)))) := by
 have cv0 := (told_many bs lt ps p0 p1 ts hps hC).told
 have cv1 := (rtold_many bs lt ps p0 p1 ts hps hD).told
 have cv2 := Ct.cv (sames_nil)
 have F0 := patC.eq_1
 exact Ct.w Try.func5 rfl Try.ntmps5 Try.results5
set_option maxHeartbeats 400000 in
theorem tells_fine (bs : List UInt8) (lt : Bool) (ps : List (List PL)) (p0 p1 : List Int) (ts : List (List Int)) (pk : Bool) (hpk : decide ((0 : Int) < ((ps.length : Nat) : Int)) = pk) (hps : ¬ (4 : Int) < ((ps.length : Nat) : Int)) (ht5 : 1 ≤ ts.length ∧ ts.length ≤ 5) (hrng : ∀ l ∈ p0 :: p1 :: ts, scan1 l = 0 ∧ l.length ≤ 6) (hC : Ct Try.prog 7 [.w (.agg (patC bs lt ps p0 p1 ts))] (fun v m => v = .w (.one (.pl (.i 0))))) (hD : Ct Try.prog 8 [.w (.agg (patC bs lt ps p0 p1 ts))] (fun v m => v = .w (.one (.pl (.i 0))))) :
 Ct Try.prog 5 [.w (.agg (patC bs lt ps p0 p1 ts))] (fun v m => v = .w (.one (.pl (.b true)))) := by
 have ch0 := CtM.ch [] ((told_ok bs lt ps p0 p1 ts pk hpk hps ht5 hrng hC).told).hands
 have ch1 := CtM.ch [] ((rtold_ok bs lt ps p0 p1 ts pk hpk hps ht5 hrng hD).told).hands
 have cv0 := Ct.cv ((sames_ok _ (telOf_out (fun l hl => (hrng l (by simp [hl])).2) ht5.2) (fun a ha => same_ a (telOf_good lt pk p0 p1 ts a ha))))
 have F0 := patC.eq_1
 exact Ct.w Try.func5 rfl Try.ntmps5 Try.results5
theorem check0_len {lt : Bool} {p0 p1 : List Int} {ts : List (List Int)} (h0 : checkJ lt p0 p1 ts = 0) : 1 ≤ ts.length ∧ ts.length ≤ 5 := by
 by_cases h1 : ts.length < 1 ∨ 5 < ts.length
 · rw [checkJ, if_pos h1] at h0; exact absurd h0 (by decide)
 · omega
theorem check0_scan {lt : Bool} {p0 p1 : List Int} {ts : List (List Int)} (h0 : checkJ lt p0 p1 ts = 0) : scan (p0 :: p1 :: ts) = 0 := by
 have h1 := check0_len h0
 by_cases hz : scan (p0 :: p1 :: ts) = 0
 · exact hz
 · rw [checkJ, if_neg (by omega), if_pos hz] at h0; exact absurd h0 hz
theorem tracetells (bs : List UInt8) (lt : Bool) (ps : List (List PL)) (p0 p1 : List Int) (ts : List (List Int)) : Ct Try.prog 5 [.w (.agg (patC bs lt ps p0 p1 ts))] (fun v m => v = .w (.one (.pl (.b true)))) := by
 have hc := pcheck_ bs lt ps p0 p1 ts
 have hf := pfault_ bs lt ps p0 p1 ts
 rw [← check_of] at hf
 by_cases h0 : checkJ lt p0 p1 ts = 0
 · rw [h0] at hc hf
   by_cases hps : (4 : Int) < ((ps.length : Nat) : Int)
   · exact tells_many bs lt ps p0 p1 ts hps hc hf
   · exact tells_fine bs lt ps p0 p1 ts _ rfl hps (check0_len h0) (scan_ok (check0_scan h0)) hc hf
 · exact tells_bad bs lt ps p0 p1 ts _ h0 hc hf
end Go.Sy

