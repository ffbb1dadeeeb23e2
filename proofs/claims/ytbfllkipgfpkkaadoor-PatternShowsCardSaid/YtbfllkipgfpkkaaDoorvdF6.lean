/- Walks: are two patterns the same. -/
import Derived.Test.YtbfllkipgfpkkaaDoorvdT
import Derived.Test.YtbfllkipgfpkkaaDoorvU4
import Derived.Test.YtbfllkipgfpkkaaDoorvE3
set_option linter.unusedVariables false
set_option linter.unusedSimpArgs false
namespace Go.Sy
open Go.Proofs
attribute [local irreducible] atCall HT runOps runD onC onE onO onG goV goA goS onSt onGuard
@[go_sem] theorem bin_eql_bool {P : Program} {t : TypeId} (ht : P.underlying t = some .bool) (a b : Bool) : binV P .eql t (.w (.one (.pl (.b a)))) (.w (.one (.pl (.b b)))) = some (.w (.one (.pl (.b (a == b))))) := by simp [binV, ht]
def rI (x : Bool × List Int) : PL := .R x.1 1 (iRows x.2)
def rT (ts : List (Bool × List Int)) : List (List PL) := ts.map fun x => [rI x]
theorem rI_def (x : Bool × List Int) : rI x = .R x.1 1 (iRows x.2) := rfl
theorem rT_length (l : List (Bool × List Int)) : (rT l).length = l.length := by simp [rT]
theorem rT_get {l : List (Bool × List Int)} {n : Nat} (h : n < l.length) : (rT l).getD n [] = [.R (l.getD n (true, [])).1 1 (iRows (l.getD n (true, [])).2)] := by simp [rT, rI, List.getD, List.getElem?_map, List.getElem?_eq_getElem h]
theorem int_ne {a b : Nat} (h : ¬ a = b) : ¬ ((a : Nat) : Int) = ((b : Nat) : Int) := fun e => h (Int.ofNat_inj.mp e)
def sixB (bs bs' : List UInt8) (lt lt' : Bool) (n n' : Nat) (ps ps' p0 p0' p1 p1' : List Int) : Bool := decide (bs = bs') && (decide (lt = lt') && (decide (n = n') && (decide (ps = ps') && (decide (p0 = p0') && decide (p1 = p1')))))
def samP (bs bs' : List UInt8) (lt lt' : Bool) (ps ps' p0 p0' p1 p1' : List Int) (ts ts' : List (Bool × List Int)) : Bool := sixB bs bs' lt lt' ts.length ts'.length ps ps' p0 p0' p1 p1' && decide (ts.map Prod.snd = ts'.map Prod.snd)
theorem six_len {bs bs' lt lt' n n' ps ps' p0 p0' p1 p1'} (h : true = sixB bs bs' lt lt' n n' ps ps' p0 p0' p1 p1') : n = n' := by
 simp [sixB] at h; exact h.2.2.1
theorem drop_ne {α : Type} {a b : List α} {z : α} {j : Nat} (h : j < a.length) (h' : j < b.length) (hn : ¬ a.getD j z = b.getD j z) : ¬ a.drop j = b.drop j := by
 intro e; rw [drop_getD (z := z) h, drop_getD (z := z) h'] at e; exact hn (List.cons.inj e).1
theorem drop_step {α : Type} {a b : List α} {z : α} {j : Nat} (h : j < a.length) (h' : j < b.length) (he : a.getD j z = b.getD j z) : (a.drop j = b.drop j) ↔ (a.drop (j + 1) = b.drop (j + 1)) := by
 rw [drop_getD (z := z) h, drop_getD (z := z) h', he]; simp
theorem getD_snd {l : List (Bool × List Int)} (j : Nat) : (l.map Prod.snd).getD j [] = (l.getD j (true, [])).2 := by
 simp only [List.getD, List.getElem?_map]; cases l[j]? <;> rfl
theorem six_cases {bs bs' : List UInt8} {lt lt' : Bool} {ps ps' p0 p0' p1 p1' : Bool × List Int} {ts ts' : List (Bool × List Int)} : ¬ bs = bs' ∨ (bs = bs' ∧ ¬ lt = lt') ∨ (bs = bs' ∧ lt = lt' ∧ ¬ ts.length = ts'.length) ∨ (bs = bs' ∧ lt = lt' ∧ ts.length = ts'.length ∧ ¬ ps.2 = ps'.2) ∨ (bs = bs' ∧ lt = lt' ∧ ts.length = ts'.length ∧ ps.2 = ps'.2 ∧ ¬ p0.2 = p0'.2) ∨ (bs = bs' ∧ lt = lt' ∧ ts.length = ts'.length ∧ ps.2 = ps'.2 ∧ p0.2 = p0'.2 ∧ ¬ p1.2 = p1'.2) ∨ (bs = bs' ∧ lt = lt' ∧ ts.length = ts'.length ∧ ps.2 = ps'.2 ∧ p0.2 = p0'.2 ∧ p1.2 = p1'.2) := by
 by_cases a0 : bs = bs'
 · by_cases a1 : lt = lt'
   · by_cases a2 : ts.length = ts'.length
     · by_cases a3 : ps.2 = ps'.2
       · by_cases a4 : p0.2 = p0'.2
         · by_cases a5 : p1.2 = p1'.2
           · exact .inr (.inr (.inr (.inr (.inr (.inr ⟨a0, a1, a2, a3, a4, a5⟩)))))
           · exact .inr (.inr (.inr (.inr (.inr (.inl ⟨a0, a1, a2, a3, a4, a5⟩)))))
         · exact .inr (.inr (.inr (.inr (.inl ⟨a0, a1, a2, a3, a4⟩))))
       · exact .inr (.inr (.inr (.inl ⟨a0, a1, a2, a3⟩)))
     · exact .inr (.inr (.inl ⟨a0, a1, a2⟩))
   · exact .inr (.inl ⟨a0, a1⟩)
 · exact .inl a0
theorem beq_no {a b : Bool} (h : ¬ a = b) : (a == b) = false := by cases a <;> cases b <;> simp_all
theorem beq_yes (a : Bool) : (a == a) = true := by cases a <;> rfl
set_option maxHeartbeats 400000 in
theorem si_len (a b : List Int) (ex ex2 : Bool) (hb : b.length ≤ 1000000) (hn : ¬ a.length = b.length) :
 Ct Tryd.prog 18 [.w (.one (.pl (.R ex 1 (iRows a)))), .w (.one (.pl (.R ex2 1 (iRows b))))] (fun v m => v = .w (.one (.pl (.b false)))) := by
 have hni := int_ne hn
 have F0 := And.intro iRows_length <| hni
 exact Ct.w Tryd.func18 rfl Tryd.ntmps18 Tryd.results18
set_option maxHeartbeats 400000 in
theorem si_eq (a b : List Int) (ex ex2 : Bool) (hb : b.length ≤ 1000000) (hn : a.length = b.length) :
 Ct Tryd.prog 18 [.w (.one (.pl (.R ex 1 (iRows a)))), .w (.one (.pl (.R ex2 1 (iRows b))))] (fun v m => v = .w (.one (.pl (.b (decide (a = b)))))) := by
 have F0 := And.intro iRows_length <| hn
 refine Ct.k Tryd.func18 rfl Tryd.ntmps18 (congrArg Array.toList Tryd.results18) (by simp) fun w0 ro => ?_
 refine top_k fun zZ zhZ => ?_
 iterate 12 first
  | (refine sr_k fun zK zhK => ?_; simp only [go_sem, F0]; (repeat' (first | apply And.intro | intro _)))
  | refine zhK _ ?_
  | refine skip_k ?_
  | (refine zhN _ ?_; clear zhN zhM)
  | refine block_k fun zB zbn zbx zbr zbi => ?_
  | refine seq_k fun zN zM zhN zhM => ?_
  | (refine condF_k ?_ ?_; focus (first | rfl | (simp [go_sem, F0]; done)))
 refine loop_k (fun y => [(13, .w (.one (.pl (.i ((y.1 : Nat) : Int)))))]) (fun _ => []) (fun y => a.length - y.1) (⟨0, Nat.zero_le _, rfl⟩ : {y : Nat // y ≤ a.length ∧ decide (a.drop y = b.drop y) = decide (a = b)}) ?_ ?_ ?_
 · (simp only [go_sem, leX, List.cons_append, List.nil_append, F0]; try simp)
 · (simp only [go_sem, leX, List.cons_append, List.nil_append, F0]; try simp)
 intro yy zN zM zhN zhM
 simp only [List.cons_append, List.nil_append]
 have yN0 := zhN
 obtain ⟨j, h1, h2⟩ := yy
 have hd : (j < a.length ∧ ¬ a.getD j 0 = b.getD j 0) ∨ (j < a.length ∧ a.getD j 0 = b.getD j 0) ∨ j = a.length := by omega
 rcases hd with ⟨glt, hx⟩ | ⟨glt, hx⟩ | rfl
 · have gcq := ltI glt
   have gj := Int.natCast_nonneg j
   have glt2 : j < b.length := hn ▸ glt
   have gcq2 := ltI glt2
   have ga := iRows_get glt
   have gb := iRows_get glt2
   have gs1 := wsucc glt2 hb
   rw [decide_eq_false (drop_ne glt glt2 hx)] at h2
   have zE : V.w (.one (.pl (.b false))) = V.w (.one (.pl (.b (decide (a = b))))) := by rw [← h2]

   have F0 := And.intro gcq <| And.intro gj <| And.intro glt <| And.intro glt2 <| And.intro gcq2 <| And.intro ga <| And.intro gb <| And.intro gs1 <| And.intro hx <| F0
   iterate 22 first
    | (refine sr_k fun zK zhK => ?_; simp only [go_sem, F0]; (repeat' (first | apply And.intro | intro _)))
    | refine zhK _ ?_
    | (refine zhM _ _ ?_; clear zhN zhM)
    | (refine zbr _ ?_; clear zbn zbx zbr zbi)
    | refine skip_k ?_
    | (refine zhN _ ?_; clear zhN zhM)
    | refine block_k fun zB zbn zbx zbr zbi => ?_
    | (refine sd_k (id := 6) [16, 17, 18, 19, 20, 21, 22, 23, 24] [0, 0, 3, 7, 0, 0, 48, 112, 255] [] mixed (by kernel_rfl) (by simp only [go_sem]) fun zK zhK => ?_; simp only [go_sem, F0]; (repeat' (first | apply And.intro | intro _)))
    | refine zhK _ _ trivial ?_
    | refine ret_k ?_
    | (refine zhZ _ _ ?_; simp only [go_sem, F0]; (all_goals (first | rfl | exact zE | (rw [zE]; done))))
    | refine seq_k fun zN zM zhN zhM => ?_
    | (refine condT_k ?_ ?_; focus (first | rfl | (simp [go_sem, F0]; done)))
 · have gcq := ltI glt
   have gj := Int.natCast_nonneg j
   have glt2 : j < b.length := hn ▸ glt
   have gcq2 := ltI glt2
   have ga := iRows_get glt
   have gb := iRows_get glt2
   have gs1 := wsucc glt2 hb
   rw [decide_eq_decide.mpr (drop_step glt glt2 hx)] at h2

   have F0 := And.intro gcq <| And.intro gj <| And.intro glt <| And.intro glt2 <| And.intro gcq2 <| And.intro ga <| And.intro gb <| And.intro gs1 <| And.intro hx <| F0
   iterate 18 first
    | refine zhK _ ?_
    | (refine sr_k fun zK zhK => ?_; simp only [go_sem, F0]; (repeat' (first | apply And.intro | intro _)))
    | refine skip_k ?_
    | (refine zhN _ ?_; clear zhN zhM)
    | refine block_k fun zB zbn zbx zbr zbi => ?_
    | (refine sd_k (id := 6) [16, 17, 18, 19, 20, 21, 22, 23, 24] [0, 0, 3, 7, 0, 0, 48, 112, 255] [] mixed (by kernel_rfl) (by simp only [go_sem]) fun zK zhK => ?_; simp only [go_sem, F0]; (repeat' (first | apply And.intro | intro _)))
    | refine zhK _ _ trivial ?_
    | (refine zbn _ ?_; clear zbn zbx zbr zbi)
    | (refine region_k fun zK zhK => ?_; simp only [go_sem, F0]; (repeat' (first | apply And.intro | intro _)))
    | refine seq_k fun zN zM zhN zhM => ?_
    | (refine condT_k ?_ ?_; focus (first | rfl | (simp [go_sem, F0]; done)))
    | (refine condF_k ?_ ?_; focus (first | rfl | (simp [go_sem, F0]; done)))
   refine zhN ⟨j + 1, glt, h2⟩ _ ?_ ?_ ?_
   · exact Nat.sub_lt_sub_left glt (Nat.lt_succ_self j)
   · (simp only [go_sem, leX, List.cons_append, List.nil_append, F0]; try simp)
   · (simp only [go_sem, leX, List.cons_append, List.nil_append, F0]; try simp)
 · have gcq := nltI (n := b.length)
   rw [List.drop_length, hn, List.drop_length, decide_eq_true rfl] at h2
   have zE : V.w (.one (.pl (.b true))) = V.w (.one (.pl (.b (decide (a = b))))) := by rw [← h2]

   have F0 := And.intro gcq <| F0
   exact HT.w
theorem sints_ (a b : List Int) (ex ex2 : Bool) (hb : b.length ≤ 1000000) (r : Bool) (hr : decide (a = b) = r) : Ct Tryd.prog 18 [.w (.one (.pl (.R ex 1 (iRows a)))), .w (.one (.pl (.R ex2 1 (iRows b))))] (fun v m => v = .w (.one (.pl (.b r)))) := by
 subst hr
 by_cases hn : a.length = b.length
 · exact si_eq a b ex ex2 hb hn
 · rw [decide_eq_false fun (e : a = b) => hn (e ▸ rfl)]; exact si_len a b ex ex2 hb hn
set_option maxHeartbeats 1600000 in
set_option maxRecDepth 100000 in
theorem samep_ (bs bs' : List UInt8) (lt lt' te te' : Bool) (ps ps' p0 p0' p1 p1' : Bool × List Int) (ts ts' : List (Bool × List Int)) (hps : ps'.2.length ≤ 1000000) (hp0 : p0'.2.length ≤ 1000000) (hp1 : p1'.2.length ≤ 1000000) (hts : ts'.length ≤ 1000000) (htl : ∀ t ∈ ts', t.2.length ≤ 1000000) :
 Ct Tryd.prog 8 [.w (.agg [.pl (.str bs), .pl (.b lt), .pl (rI ps), .pl (rI p0), .pl (rI p1), .pl (.R te 1 (rT ts))]), .w (.agg [.pl (.str bs'), .pl (.b lt'), .pl (rI ps'), .pl (rI p0'), .pl (rI p1'), .pl (.R te' 1 (rT ts'))])] (fun v m => v = .w (.one (.pl (.b (samP bs bs' lt lt' ps.2 ps'.2 p0.2 p0'.2 p1.2 p1'.2 ts ts'))))) := by
 have F0 := And.intro iRows_length <| And.intro rT_length <| rI_def
 refine Ct.k Tryd.func8 rfl Tryd.ntmps8 (congrArg Array.toList Tryd.results8) (by simp) fun w0 ro => ?_
 refine top_k fun zZ zhZ => ?_
 refine sr_k fun zK zhK => ?_
 simp only [go_sem, F0]
 repeat' (first | apply And.intro | intro _)
 refine zhK _ ?_
 refine join_l (fun b : Bool => [(5, .w (.one (.pl (.b b))))]) (fun _ => []) (fun b => b = sixB bs bs' lt lt' ts.length ts'.length ps.2 ps'.2 p0.2 p0'.2 p1.2 p1'.2) (fun zN zM zhN zhM => ?_) (fun b0 hb0 => ?_)
 · rcases six_cases (bs := bs) (bs' := bs') (lt := lt) (lt' := lt') (ps := ps) (ps' := ps') (p0 := p0) (p0' := p0') (p1 := p1) (p1' := p1') (ts := ts) (ts' := ts') with a0 | ⟨a0, a1⟩ | ⟨a0, a1, a2⟩ | ⟨a0, a1, a2, a3⟩ | ⟨a0, a1, a2, a3, a4⟩ | ⟨a0, a1, a2, a3, a4, a5⟩ | ⟨a0, a1, a2, a3, a4, a5⟩
   · 
     have F0 := And.intro a0 <| F0
     have zL := fun S2 => zhN false (by simp [sixB, a0]) S2
     exact HT.w
   · have b1 := beq_no a1
     have F0 := And.intro a0 <| And.intro b1 <| F0
     have zL := fun S2 => zhN false (by simp [sixB, a0, a1]) S2
     exact HT.w
   · have b1 : (lt == lt') = true := by rw [a1]; exact beq_yes _
     have b2 := int_ne a2
     have F0 := And.intro a0 <| And.intro b1 <| And.intro b2 <| F0
     have zL := fun S2 => zhN false (by simp [sixB, a0, a1, a2]) S2
     exact HT.w
   · have b1 : (lt == lt') = true := by rw [a1]; exact beq_yes _
     have b2 : ((ts.length : Nat) : Int) = ((ts'.length : Nat) : Int) := by rw [a2]
     have F0 := And.intro a0 <| And.intro b1 <| And.intro b2 <| F0
     have cv0 := Ct.cv (sints_ ps.2 ps'.2 ps.1 ps'.1 hps false (by simp [a3]))
     have zL := fun S2 => zhN false (by simp [sixB, a0, a1, a2, a3]) S2
     exact HT.w
   · have b1 : (lt == lt') = true := by rw [a1]; exact beq_yes _
     have b2 : ((ts.length : Nat) : Int) = ((ts'.length : Nat) : Int) := by rw [a2]
     have F0 := And.intro a0 <| And.intro b1 <| And.intro b2 <| F0
     have cv0 := Ct.cv (sints_ ps.2 ps'.2 ps.1 ps'.1 hps true (by simp [a3]))
     have cv1 := Ct.cv (sints_ p0.2 p0'.2 p0.1 p0'.1 hp0 false (by simp [a4]))
     have zL := fun S2 => zhN false (by simp [sixB, a0, a1, a2, a3, a4]) S2
     exact HT.w
   · have b1 : (lt == lt') = true := by rw [a1]; exact beq_yes _
     have b2 : ((ts.length : Nat) : Int) = ((ts'.length : Nat) : Int) := by rw [a2]
     have F0 := And.intro a0 <| And.intro b1 <| And.intro b2 <| F0
     have cv0 := Ct.cv (sints_ ps.2 ps'.2 ps.1 ps'.1 hps true (by simp [a3]))
     have cv1 := Ct.cv (sints_ p0.2 p0'.2 p0.1 p0'.1 hp0 true (by simp [a4]))
     have cv2 := Ct.cv (sints_ p1.2 p1'.2 p1.1 p1'.1 hp1 false (by simp [a5]))
     have zL := fun S2 => zhN false (by simp [sixB, a0, a1, a2, a3, a4, a5]) S2
     exact HT.w
   · have b1 : (lt == lt') = true := by rw [a1]; exact beq_yes _
     have b2 : ((ts.length : Nat) : Int) = ((ts'.length : Nat) : Int) := by rw [a2]
     have F0 := And.intro a0 <| And.intro b1 <| And.intro b2 <| F0
     have cv0 := Ct.cv (sints_ ps.2 ps'.2 ps.1 ps'.1 hps true (by simp [a3]))
     have cv1 := Ct.cv (sints_ p0.2 p0'.2 p0.1 p0'.1 hp0 true (by simp [a4]))
     have cv2 := Ct.cv (sints_ p1.2 p1'.2 p1.1 p1'.1 hp1 true (by simp [a5]))
     have zL := fun S2 => zhN true (by simp [sixB, a0, a1, a2, a3, a4, a5]) S2
     exact HT.w
 · skip
   refine seq_k fun zN zM zhN zhM => ?_
   refine sr_k fun zK zhK => ?_
   simp only [go_sem, F0]
   repeat' (first | apply And.intro | intro _)
   refine zhK _ ?_
   refine block_k fun zB zbn zbx zbr zbi => ?_
   refine loop_k (fun y => [(6, .w (.one (.pl (.i ((y.1.1 : Nat) : Int))))), (5, .w (.one (.pl (.b y.1.2))))]) (fun _ => []) (fun y => ts.length - y.1.1) (⟨(0, b0), Nat.zero_le _, by rw [hb0]; rfl, fun (e : b0 = true) => six_len (e.symm.trans hb0)⟩ : {y : Nat × Bool // y.1 ≤ ts.length ∧ (y.2 && decide ((ts.map Prod.snd).drop y.1 = (ts'.map Prod.snd).drop y.1)) = samP bs bs' lt lt' ps.2 ps'.2 p0.2 p0'.2 p1.2 p1'.2 ts ts' ∧ (y.2 = true → ts.length = ts'.length)}) ?_ ?_ ?_
   · (simp only [go_sem, leX, List.cons_append, List.nil_append, F0]; try simp)
   · (simp only [go_sem, leX, List.cons_append, List.nil_append, F0]; try simp)
   intro yy zN zM zhN zhM
   simp only [List.cons_append, List.nil_append]
   have yN0 := zhN
   obtain ⟨⟨j, ok⟩, h1, h2, h4⟩ := yy
   simp only at h1 h2 h4
   have hd : ok = false ∨ (ok = true ∧ j < ts.length ∧ ¬ (ts.map Prod.snd).getD j [] = (ts'.map Prod.snd).getD j []) ∨ (ok = true ∧ j < ts.length ∧ (ts.map Prod.snd).getD j [] = (ts'.map Prod.snd).getD j []) ∨ (ok = true ∧ j = ts.length) := by
    cases ok with
    | false => exact .inl rfl
    | true =>
     rcases Nat.lt_or_ge j ts.length with h | h
     · by_cases he : (ts.map Prod.snd).getD j [] = (ts'.map Prod.snd).getD j []
       · exact .inr (.inr (.inl ⟨rfl, h, he⟩))
       · exact .inr (.inl ⟨rfl, h, he⟩)
     · exact .inr (.inr (.inr ⟨rfl, Nat.le_antisymm h1 h⟩))
   rcases hd with rfl | ⟨rfl, glt, hq⟩ | ⟨rfl, glt, hq⟩ | ⟨rfl, rfl⟩
   · rw [Bool.false_and] at h2
     have zE : V.w (.one (.pl (.b false))) = V.w (.one (.pl (.b (samP bs bs' lt lt' ps.2 ps'.2 p0.2 p0'.2 p1.2 p1'.2 ts ts')))) := by rw [← h2]

     exact HT.w
   · have hq0 := hq
     have gcq := ltI glt
     have gj := Int.natCast_nonneg j
     have hn := h4 rfl
     have glt2 : j < ts'.length := hn ▸ glt
     have gcq2 := ltI glt2
     have ga := rT_get glt
     have gb := rT_get glt2
     have gs1 := wsucc glt2 hts
     obtain ⟨x, hx⟩ : ∃ x, ts.getD j (true, []) = x := ⟨_, rfl⟩
     obtain ⟨z, hz⟩ : ∃ z, ts'.getD j (true, []) = z := ⟨_, rfl⟩
     have hm1 : j < (ts.map Prod.snd).length := by rw [List.length_map]; exact glt
     have hm2 : j < (ts'.map Prod.snd).length := by rw [List.length_map]; exact glt2
     have hzl : z.2.length ≤ 1000000 := htl z (hz ▸ by simp [List.getD, List.getElem?_eq_getElem glt2])
     rw [hx] at ga
     rw [hz] at gb
     rw [getD_snd, getD_snd, hx, hz] at hq
     rw [decide_eq_false (drop_ne hm1 hm2 hq0), Bool.and_false] at h2

     have F0 := And.intro gcq <| And.intro gj <| And.intro glt <| And.intro glt2 <| And.intro gcq2 <| And.intro ga <| And.intro gb <| And.intro gs1 <| F0
     refine seq_k fun zN zM zhN zhM => ?_
     refine sr_k fun zK zhK => ?_
     simp only [go_sem, F0]
     repeat' (first | apply And.intro | intro _)
     refine zhK _ ?_
     (refine condT_k ?_ ?_; focus (first | rfl | (simp [go_sem, F0]; done)))
     refine skip_k ?_
     refine zhN _ ?_; clear zhN zhM
     refine seq_k fun zN zM zhN zhM => ?_
     refine block_k fun zB zbn zbx zbr zbi => ?_
     refine draw_k (id := 5) [63, 64, 65, 66, 67, 68, 69, 70, 71, 72, 73, 5] [0, 1, 0, 7, 15, 0, 32, 0, 224, 480, 1023, 2047] [] mixed (by kernel_rfl) (by simp only [go_sem]) fun zK zhK => ?_
     simp only [go_sem, F0]
     repeat' (first | apply And.intro | intro _)
     all_goals (refine call_draw (fun k => k) (.w (.one (.pl (.b false)))) [] (fun _ _ => rfl) ?_ ((sints_ x.2 z.2 x.1 z.1 hzl false (decide_eq_false hq)).plain fun _ _ h => h) ?_ ?_; focus (first | rfl | (simp only [go_sem, F0] <;> rfl)))
     all_goals try (refine And.intro ?_ (And.intro ?_ (And.intro ?_ ?_)) <;> first | rfl | simp only [go_sem])
     all_goals simp only [go_sem, F0]
     all_goals repeat' (first | apply And.intro | intro _)
     refine zhK _ _ trivial ?_
     refine zbn _ ?_; clear zbn zbx zbr zbi
     refine zhN _ ?_; clear zhN zhM
     refine region_k fun zK zhK => ?_
     simp only [go_sem, F0]
     repeat' (first | apply And.intro | intro _)
     refine zhK _ ?_
     refine zhN ⟨(j + 1, false), glt, h2, fun e => (by cases e)⟩ _ ?_ ?_ ?_
     · exact Nat.sub_lt_sub_left glt (Nat.lt_succ_self j)
     · (simp only [go_sem, leX, List.cons_append, List.nil_append, F0]; try simp)
     · (simp only [go_sem, leX, List.cons_append, List.nil_append, F0]; try simp)
   · have hq0 := hq
     have gcq := ltI glt
     have gj := Int.natCast_nonneg j
     have hn := h4 rfl
     have glt2 : j < ts'.length := hn ▸ glt
     have gcq2 := ltI glt2
     have ga := rT_get glt
     have gb := rT_get glt2
     have gs1 := wsucc glt2 hts
     obtain ⟨x, hx⟩ : ∃ x, ts.getD j (true, []) = x := ⟨_, rfl⟩
     obtain ⟨z, hz⟩ : ∃ z, ts'.getD j (true, []) = z := ⟨_, rfl⟩
     have hm1 : j < (ts.map Prod.snd).length := by rw [List.length_map]; exact glt
     have hm2 : j < (ts'.map Prod.snd).length := by rw [List.length_map]; exact glt2
     have hzl : z.2.length ≤ 1000000 := htl z (hz ▸ by simp [List.getD, List.getElem?_eq_getElem glt2])
     rw [hx] at ga
     rw [hz] at gb
     rw [getD_snd, getD_snd, hx, hz] at hq
     rw [show decide ((ts.map Prod.snd).drop j = (ts'.map Prod.snd).drop j) = decide ((ts.map Prod.snd).drop (j + 1) = (ts'.map Prod.snd).drop (j + 1)) from decide_eq_decide.mpr (drop_step hm1 hm2 hq0)] at h2

     have F0 := And.intro gcq <| And.intro gj <| And.intro glt <| And.intro glt2 <| And.intro gcq2 <| And.intro ga <| And.intro gb <| And.intro gs1 <| F0
     refine seq_k fun zN zM zhN zhM => ?_
     refine sr_k fun zK zhK => ?_
     simp only [go_sem, F0]
     repeat' (first | apply And.intro | intro _)
     refine zhK _ ?_
     (refine condT_k ?_ ?_; focus (first | rfl | (simp [go_sem, F0]; done)))
     refine skip_k ?_
     refine zhN _ ?_; clear zhN zhM
     refine seq_k fun zN zM zhN zhM => ?_
     refine block_k fun zB zbn zbx zbr zbi => ?_
     refine draw_k (id := 5) [63, 64, 65, 66, 67, 68, 69, 70, 71, 72, 73, 5] [0, 1, 0, 7, 15, 0, 32, 0, 224, 480, 1023, 2047] [] mixed (by kernel_rfl) (by simp only [go_sem]) fun zK zhK => ?_
     simp only [go_sem, F0]
     repeat' (first | apply And.intro | intro _)
     all_goals (refine call_draw (fun k => k) (.w (.one (.pl (.b true)))) [] (fun _ _ => rfl) ?_ ((sints_ x.2 z.2 x.1 z.1 hzl true (decide_eq_true hq)).plain fun _ _ h => h) ?_ ?_; focus (first | rfl | (simp only [go_sem, F0] <;> rfl)))
     all_goals try (refine And.intro ?_ (And.intro ?_ (And.intro ?_ ?_)) <;> first | rfl | simp only [go_sem])
     all_goals simp only [go_sem, F0]
     all_goals repeat' (first | apply And.intro | intro _)
     refine zhK _ _ trivial ?_
     refine zbn _ ?_; clear zbn zbx zbr zbi
     refine zhN _ ?_; clear zhN zhM
     refine region_k fun zK zhK => ?_
     simp only [go_sem, F0]
     repeat' (first | apply And.intro | intro _)
     refine zhK _ ?_
     refine zhN ⟨(j + 1, true), glt, h2, fun _ => hn⟩ _ ?_ ?_ ?_
     · exact Nat.sub_lt_sub_left glt (Nat.lt_succ_self j)
     · (simp only [go_sem, leX, List.cons_append, List.nil_append, F0]; try simp)
     · (simp only [go_sem, leX, List.cons_append, List.nil_append, F0]; try simp)
   · have hn := h4 rfl
     have gcq := nltI (n := ts.length)
     rw [List.drop_of_length_le (by simp), List.drop_of_length_le (by simp [hn]), decide_eq_true rfl, Bool.and_true] at h2
     have zE : V.w (.one (.pl (.b true))) = V.w (.one (.pl (.b (samP bs bs' lt lt' ps.2 ps'.2 p0.2 p0'.2 p1.2 p1'.2 ts ts')))) := by rw [← h2]

     have F0 := And.intro gcq <| F0
     exact HT.w
end Go.Sy

