/- A token, what it does to the hand. -/
import Derived.Test.YtbfllkipgfpkkaavtV7
set_option linter.unusedVariables false
set_option linter.unusedSimpArgs false
namespace Go.Sy
open Go.Proofs
-- atCall HT runOps runD onC onE onO onG goV goA goS onSt onGuard
def keyC (mx : List TermD) : List PL := match mx with | [] => [.i 0, .i 0, .i 0, .R true 1 []] | _ :: _ => (chainT 2 mx).cells
def hasK (mx : List TermD) : Bool := match mx with | [] => false | _ :: _ => true
def outL (o : Nat) (l : List TermD) : L := match l with | [] => .pl (.R true 1 []) | _ :: _ => .s o [] l.length 4
def outM (o : Nat) (l : List TermD) : List (Nat × Ob) := match l with | [] => [] | _ :: _ => [(o, ⟨true, pls (termRows l).flatten⟩)]
def handM (h o : Nat) (s : TelS) : List (Nat × Ob) := (h, ⟨false, handC (chainT 1 s.mx) (keyC s.mx) (hasK s.mx) (s.ps : Int) (outL o s.out)⟩) :: outM o s.out
theorem keyC_len (mx : List TermD) : (keyC mx).length = 4 := by cases mx with | nil => rfl | cons a r => exact cells_len _
theorem keyC_snoc (l : List TermD) (m : TermD) : keyC (l ++ [m]) = (kdfT 2 (chainT 1 l) m).cells := by
 rw [← chainT_snoc]; cases l <;> rfl
theorem hasK_snoc (l : List TermD) (m : TermD) : hasK (l ++ [m]) = true := by cases l <;> rfl
theorem outL_own {o : Nat} {l : List TermD} (h : l ≠ []) : outL o l = .s o [] l.length 4 := by cases l with | nil => exact absurd rfl h | cons a r => rfl
theorem outM_own {o : Nat} {l : List TermD} (h : l ≠ []) : outM o l = [(o, ⟨true, pls (termRows l).flatten⟩)] := by cases l with | nil => exact absurd rfl h | cons a r => rfl
theorem termRows_app (a b : List TermD) : termRows (a ++ b) = termRows a ++ termRows b := by
 induction a with
 | nil => rw [termRows]; rfl
 | cons x r ih => rw [List.cons_append, termRows, termRows, ih]; rfl
theorem termRows_one (x : TermD) : termRows [x] = [x.cells] := by rw [termRows, termRows]
theorem flat_snoc (l : List TermD) (x : TermD) : (termRows (l ++ [x])).flatten = (termRows l).flatten ++ x.cells := by
 rw [termRows_app, termRows_one]; simp
theorem handM_nil {h o : Nat} {s : TelS} (hs : s.out = []) : handM h o s = [(h, ⟨false, handC (chainT 1 s.mx) (keyC s.mx) (hasK s.mx) (s.ps : Int) (.pl (.R true 1 []))⟩)] := by
 rw [handM, hs]; rfl
theorem handM_own {h o : Nat} {s : TelS} (hs : s.out ≠ []) : handM h o s = [(h, ⟨false, handC (chainT 1 s.mx) (keyC s.mx) (hasK s.mx) (s.ps : Int) (.s o [] s.out.length 4)⟩), (o, ⟨true, pls (termRows s.out).flatten⟩)] := by
 rw [handM, outL_own hs, outM_own hs]
theorem handM_mix {h o : Nat} {s : TelS} {x : TermD} : handM h o (s.mix x) = (h, ⟨false, handC (kdfT 1 (chainT 1 s.mx) x) (kdfT 2 (chainT 1 s.mx) x).cells true (s.ps : Int) (outL o s.out)⟩) :: outM o s.out := by
 simp only [handM, TelS.mix, chainT_snoc, keyC_snoc, hasK_snoc]
def TelS.word (s : TelS) (t : TermD) : TermD := if s.mx = [] then t else lockT (chainT 2 s.mx) (100 + (s.out.length : Int)) t
theorem tell_eq (s : TelS) (t : TermD) : s.tell t = { s with out := s.out ++ [s.word t] } := rfl
theorem handM_put {h o : Nat} {s : TelS} {x : TermD} : handM h o { s with out := s.out ++ [x] } = [(h, ⟨false, handC (chainT 1 s.mx) (keyC s.mx) (hasK s.mx) (s.ps : Int) (.s o [] (s.out.length + 1) 4)⟩), (o, ⟨true, pls ((termRows s.out).flatten ++ x.cells)⟩)] := by
 rw [handM_own (by simp)]; simp [flat_snoc]
theorem CtM.eq {P : Program} {f : FuncId} {args args' : List V} {m m' : List (Nat × Ob)} {R R' : V → List (Nat × Ob) → Prop} (h : CtM P f args m R) (ha : args = args') (hm : m = m') (hR : R = R') : CtM P f args' m' R' := by
 subst ha hm hR; exact h

def tokN (s : TelS) (o' : Nat) : Nat := if s.out = [] then o' else 750001
theorem put_eq {s : TelS} {x : TermD} {o : Nat} : (fun (v : V) (m : List (Nat × Ob)) => v = .tup [] ∧ m = handM 500000 o { s with out := s.out ++ [x] }) = (fun v m => v = .tup [] ∧ m = [(500000, ⟨false, handC (chainT 1 s.mx) (keyC s.mx) (hasK s.mx) (s.ps : Int) (.s o [] (s.out.length + 1) 4)⟩), (o, ⟨true, pls ((termRows s.out).flatten ++ x.cells)⟩)]) := by
 rw [handM_put]
theorem tell_ (s : TelS) (t : TermD) (hn : s.out.length ≤ 1000000) : CtM Try.prog 39 [.w (.one (.p 500000 [])), argT t] (handM 500000 750001 s) (fun v m => v = .tup [] ∧ m = handM 500000 (tokN s 29) (s.tell t)) := by
 obtain ⟨mx, ps, out⟩ := s
 rw [tell_eq]
 have hc : (termRows out).flatten.length = out.length * 4 := tflat_length out
 cases out with
 | nil =>
  cases mx with
  | nil => refine (tell_00w (chainT 1 []) t (keyC []) (keyC_len []) ps).told.eq rfl rfl ?_; rw [put_eq]; rfl
  | cons a r => refine (tell_10w (chainT 1 (a :: r)) t (chainT 2 (a :: r)) ps).told.eq rfl rfl ?_; rw [put_eq]; rfl
 | cons b l =>
  cases mx with
  | nil => refine (tell_01w (chainT 1 []) t (keyC []) (keyC_len []) ps (b :: l).length hn _ hc).told.eq rfl rfl ?_; rw [put_eq]; rfl
  | cons a r => refine (tell_11w (chainT 1 (a :: r)) t (chainT 2 (a :: r)) ps (b :: l).length hn _ hc).told.eq rfl rfl ?_; rw [put_eq]; rfl
theorem token_ (pk : Bool) (w : Int) (hw : 0 ≤ w ∧ w ≤ 1) (s : TelS) (t : Int) (ht : 1 ≤ t ∧ t ≤ 7) (hn : s.out.length ≤ 1000000) (hp : s.ps ≤ 1000) :
 CtM Try.prog 38 [.w (.one (.p 500000 [])), .w (.one (.pl (.i w))), .w (.one (.pl (.i t))), .w (.one (.pl (.b pk)))] (handM 500000 750001 s) (fun v m => v = .tup [] ∧ m = handM 500000 (tokN s 20) (s.token pk w t)) := by
 obtain ⟨mx, ps, out⟩ := s
 have hc : (termRows out).flatten.length = out.length * 4 := tflat_length out
 have hkl := keyC_len mx
 have hp : ps ≤ 1000 := hp
 have hn : out.length ≤ 1000000 := hn
 obtain rfl | rfl | rfl | rfl | rfl | rfl | rfl : t = 1 ∨ t = 2 ∨ t = 3 ∨ t = 4 ∨ t = 5 ∨ t = 6 ∨ t = 7 := by omega
 · cases pk with
   | false =>
    have e : TelS.token false w ⟨mx, ps, out⟩ 1 = ⟨mx, ps, out ++ [pubT (3 + w)]⟩ := rfl
    rw [e]
    cases out with
    | nil => refine (tokE_n0w (chainT 1 mx) w hw (keyC mx) hkl (hasK mx) ps).told.eq rfl rfl ?_; rw [put_eq (s := ⟨mx, ps, []⟩)]; rfl
    | cons b l => refine (tokE_o0w (chainT 1 mx) w hw (keyC mx) hkl (hasK mx) ps (b :: l).length hn _ hc).told.eq rfl rfl ?_; rw [put_eq (s := ⟨mx, ps, b :: l⟩)]; rfl
   | true =>
    have e : TelS.token true w ⟨mx, ps, out⟩ 1 = TelS.mix ⟨mx, ps, out ++ [pubT (3 + w)]⟩ (pubT (3 + w)) := rfl
    rw [e, handM_mix]
    cases out with
    | nil => refine (tokE_n1w (chainT 1 mx) w hw (keyC mx) hkl (hasK mx) ps).told.eq rfl rfl ?_; simp [outL, outM, termRows_one, tokN]
    | cons b l => refine (tokE_o1w (chainT 1 mx) w hw (keyC mx) hkl (hasK mx) ps (b :: l).length hn _ hc).told.eq rfl rfl ?_; rw [outL_own (by simp), outM_own (by simp), flat_snoc]; simp [tokN]
 · have e : TelS.token pk w ⟨mx, ps, out⟩ 2 = TelS.tell ⟨mx, ps, out⟩ (pubT (1 + w)) := rfl
   rw [e, tell_eq]
   cases out with
   | nil =>
    cases mx with
    | nil => refine (tokS_n0w (chainT 1 []) w pk hw (keyC []) (keyC_len []) ps).told.eq rfl rfl ?_; rw [put_eq]; rfl
    | cons a r => refine (tokS_n1w (chainT 1 (a :: r)) w pk hw (chainT 2 (a :: r)) ps).told.eq rfl rfl ?_; rw [put_eq]; rfl
   | cons b l =>
    cases mx with
    | nil => refine (tokS_o0w (chainT 1 []) w pk hw (keyC []) (keyC_len []) ps (b :: l).length hn _ hc).told.eq rfl rfl ?_; rw [put_eq]; rfl
    | cons a r => refine (tokS_o1w (chainT 1 (a :: r)) w pk hw (chainT 2 (a :: r)) ps (b :: l).length hn _ hc).told.eq rfl rfl ?_; rw [put_eq]; rfl
 · have e : TelS.token pk w ⟨mx, ps, out⟩ 3 = TelS.mix ⟨mx, ps, out⟩ (dhT 3 4) := rfl
   rw [e, handM_mix]
   cases out with
   | nil => refine (tok3_nw (chainT 1 mx) w pk (keyC mx) hkl (hasK mx) ps).told.eq rfl rfl ?_; rfl
   | cons b l => refine (tok3_ow (chainT 1 mx) w pk (keyC mx) hkl (hasK mx) ps (b :: l).length hn _ hc).told.eq rfl rfl ?_; rfl
 · have e : TelS.token pk w ⟨mx, ps, out⟩ 4 = TelS.mix ⟨mx, ps, out⟩ (dhT 2 3) := rfl
   rw [e, handM_mix]
   cases out with
   | nil => refine (tok4_nw (chainT 1 mx) w pk (keyC mx) hkl (hasK mx) ps).told.eq rfl rfl ?_; rfl
   | cons b l => refine (tok4_ow (chainT 1 mx) w pk (keyC mx) hkl (hasK mx) ps (b :: l).length hn _ hc).told.eq rfl rfl ?_; rfl
 · have e : TelS.token pk w ⟨mx, ps, out⟩ 5 = TelS.mix ⟨mx, ps, out⟩ (dhT 1 4) := rfl
   rw [e, handM_mix]
   cases out with
   | nil => refine (tok5_nw (chainT 1 mx) w pk (keyC mx) hkl (hasK mx) ps).told.eq rfl rfl ?_; rfl
   | cons b l => refine (tok5_ow (chainT 1 mx) w pk (keyC mx) hkl (hasK mx) ps (b :: l).length hn _ hc).told.eq rfl rfl ?_; rfl
 · have e : TelS.token pk w ⟨mx, ps, out⟩ 6 = TelS.mix ⟨mx, ps, out⟩ (dhT 1 2) := rfl
   rw [e, handM_mix]
   cases out with
   | nil => refine (tok6_nw (chainT 1 mx) w pk (keyC mx) hkl (hasK mx) ps).told.eq rfl rfl ?_; rfl
   | cons b l => refine (tok6_ow (chainT 1 mx) w pk (keyC mx) hkl (hasK mx) ps (b :: l).length hn _ hc).told.eq rfl rfl ?_; rfl
 · have e : TelS.token pk w ⟨mx, ps, out⟩ 7 = TelS.mix ⟨mx, ps + 1, out⟩ (atomT (10 + (ps : Int))) := rfl
   rw [e, handM_mix]
   cases out with
   | nil => refine (tok7_nw (chainT 1 mx) w pk (keyC mx) hkl (hasK mx) ps (by omega)).told.eq rfl rfl ?_; rfl
   | cons b l => refine (tok7_ow (chainT 1 mx) w pk (keyC mx) hkl (hasK mx) ps (by omega) (b :: l).length hn _ hc).told.eq rfl rfl ?_; rfl
end Go.Sy

