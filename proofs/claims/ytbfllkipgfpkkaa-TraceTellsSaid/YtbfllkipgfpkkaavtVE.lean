/- A term told, as the document tells it, what it does. -/
import Derived.Test.YtbfllkipgfpkkaavtVD
set_option linter.unusedVariables false
set_option linter.unusedSimpArgs false
namespace Go.Sy
open Go.Proofs
-- atCall HT runOps runD onC onE onO onG goV goA goS onSt onGuard
def rtM (o : Nat) (s : TelS) : List (Nat × Ob) := (500000, ⟨false, [.s 500001 [] s.mx.length 4]⟩) :: (500001, ⟨true, pls (termRows s.mx).flatten⟩) :: (500002, ⟨false, [.fn 40 [500000]]⟩) :: (500003, ⟨false, [outL o s.out]⟩) :: outM o s.out
theorem rtM_nil {o : Nat} {s : TelS} (h : s.out = []) : rtM o s = [(500000, ⟨false, [.s 500001 [] s.mx.length 4]⟩), (500001, ⟨true, pls (termRows s.mx).flatten⟩), (500002, ⟨false, [.fn 40 [500000]]⟩), (500003, ⟨false, [.pl (.R true 1 [])]⟩)] := by
 rw [rtM, h]; rfl
theorem rtM_own {o : Nat} {s : TelS} (h : s.out ≠ []) : rtM o s = [(500000, ⟨false, [.s 500001 [] s.mx.length 4]⟩), (500001, ⟨true, pls (termRows s.mx).flatten⟩), (500002, ⟨false, [.fn 40 [500000]]⟩), (500003, ⟨false, [.s o [] s.out.length 4]⟩), (o, ⟨true, pls (termRows s.out).flatten⟩)] := by
 rw [rtM, outL_own h, outM_own h]
theorem rput_eq {s : TelS} {x : TermD} {o : Nat} : (fun (v : V) (m : List (Nat × Ob)) => v = .tup [] ∧ m = rtM o { s with out := s.out ++ [x] }) = (fun v m => v = .tup [] ∧ m = [(500000, ⟨false, [.s 500001 [] s.mx.length 4]⟩), (500001, ⟨true, pls (termRows s.mx).flatten⟩), (500002, ⟨false, [.fn 40 [500000]]⟩), (500003, ⟨false, [.s o [] (s.out.length + 1) 4]⟩), (o, ⟨true, pls ((termRows s.out).flatten ++ x.cells)⟩)]) := by
 rw [rtM_own (by simp)]; simp [flat_snoc]
theorem rtell_ (s : TelS) (t : TermD) (hmx : s.mx.length ≤ 1000000) (hn : s.out.length ≤ 1000000) : CtM Try.prog 42 [argT t, .w (.one (.p 500000 [])), .w (.one (.p 500002 [])), .w (.one (.p 500003 []))] (rtM 750001 s) (fun v m => v = .tup [] ∧ m = rtM (tokN s 21) (s.tell t)) := by
 obtain ⟨mx, ps, out⟩ := s
 rw [tell_eq]
 have hc : (termRows out).flatten.length = out.length * 4 := tflat_length out
 have hmx : mx.length ≤ 1000000 := hmx
 have hn : out.length ≤ 1000000 := hn
 have h0 : ¬ (0 : Int) < ((([] : List TermD).length : Nat) : Int) := by simp
 have h1 : ∀ (a : TermD) (r : List TermD), (0 : Int) < (((a :: r).length : Nat) : Int) := fun a r => by simp only [List.length_cons]; omega
 cases out with
 | nil =>
  cases mx with
  | nil => refine (rtell_00w [] hmx h0 t).told.eq rfl rfl ?_; rw [rput_eq]; rfl
  | cons a r => refine (rtell_10w (a :: r) hmx (h1 a r) t).told.eq rfl rfl ?_; rw [rput_eq]; rfl
 | cons b l =>
  cases mx with
  | nil => refine (rtell_01w [] hmx h0 t (b :: l).length hn _ hc).told.eq rfl rfl ?_; rw [rput_eq]; rfl
  | cons a r => refine (rtell_11w (a :: r) hmx (h1 a r) t (b :: l).length hn _ hc).told.eq rfl rfl ?_; rw [rput_eq]; rfl
end Go.Sy

