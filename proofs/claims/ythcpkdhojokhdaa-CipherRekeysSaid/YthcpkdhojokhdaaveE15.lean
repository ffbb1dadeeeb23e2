/- Walks: bytes added to a sum, as the document tells it. -/
import Derived.Test.YthcpkdhojokhdaaveE14
set_option linter.unusedVariables false
set_option linter.unusedSimpArgs false
namespace Go.Sy
open Go.Proofs
attribute [local irreducible] atCall HT runOps runD onC onE onO onG goV goA goS onSt onGuard
set_option maxHeartbeats 1600000 in
set_option maxRecDepth 100000 in
theorem pref_ok (r0 r1 p0 p1 : UInt64) (s : PSt) (hs : s.ok) (hr0 : r0 &&& ~~~1152921487695413247 = 0) (hr1 : r1 &&& ~~~1152921487695413244 = 0) (b : List UInt8) (hbl : b.length ≤ 140737488355328) (ex : Bool) :
 Ct Try.prog 19 [.w (.agg (polyC r0 r1 p0 p1 s.acc.a s.acc.b s.acc.c (pad16 s.rest) (s.rest.length : Nat))), .w (.one (.pl (.R ex 1 (byteRows b))))] (fun v m => v = .tup [.agg (stC r0 r1 p0 p1 (absorb r0 r1 s b)), .one (.pl (.i 0))]) := by
 have hpl := pad16_length (r := s.rest) (by have := hs.1; omega)
 have he := perr_ok (st_ok hs hr0 hr1)
 have hr := r1_lt hr1
 have h15 := hs.1
 have hc1 : (0 : Int) ≤ ((s.rest.length : Nat) : Int) := by omega
 have hc2 : ((s.rest.length : Nat) : Int) ≤ 16 := by omega
 have hpt := pad16_take s.rest
 have hml : s.rest.length + b.length ≤ 9223372036854775807 := by omega
 have hle : s.rest.length ≤ 16 := by omega
 have F0 := And.intro hpl <| And.intro he <| And.intro hc1 <| And.intro hc2 <| And.intro hpt <| And.intro hml <| hle
 refine Ct.k Try.func19 rfl Try.ntmps19 (congrArg Array.toList Try.results19) (by simp) fun w0 ro => ?_
 refine top_k fun zZ zhZ => ?_
 iterate 17 first
  | (refine sr_k fun zK zhK => ?_; simp only [go_sem, polyC, Nat.sub_zero, Nat.zero_add, F0]; (repeat' (first | apply And.intro | intro _)))
  | refine zhK _ ?_
  | refine skip_k ?_
  | (refine zhN _ ?_; clear zhN zhM)
  | (refine sd_k (id := 5) [17, 18, 19, 20, 21, 22, 23, 8] [0, 1, 3, 7, 0, 16, 63, 127] [] mixed (by kernel_rfl) (by simp only [go_sem]) fun zK zhK => ?_; simp only [go_sem, polyC, Nat.sub_zero, Nat.zero_add, F0]; (repeat' (first | apply And.intro | intro _)))
  | refine zhK _ _ trivial ?_
  | refine block_k fun zB zbn zbx zbr zbi => ?_
  | ((all_goals (refine call_view (fun k => k) (fun _ _ => rfl) ?_ ((poly_fault r0 r1 p0 p1 s.acc.a s.acc.b s.acc.c (pad16 s.rest) hpl (s.rest.length : Nat)).plain fun _ _ h => h) ?_; focus (first | rfl | (simp only [go_sem, polyC, Nat.sub_zero, Nat.zero_add, F0] <;> rfl)))); (all_goals (rintro v m ⟨hR, hm⟩; subst hR; subst hm)); (all_goals refine And.intro (by first | rfl | simp only [go_sem, polyC, Nat.sub_zero, Nat.zero_add, F0]) (And.intro (by first | rfl | simp only [go_sem, polyC, Nat.sub_zero, Nat.zero_add, F0]) ?_)); (all_goals simp only [go_sem, polyC, Nat.sub_zero, Nat.zero_add, F0]); (all_goals repeat' (first | apply And.intro | intro _)))
  | refine seq_k fun zN zM zhN zhM => ?_
  | (refine condF_k ?_ ?_; focus (first | rfl | (simp [go_sem, polyC, Nat.sub_zero, Nat.zero_add, F0]; done)))
 refine ht_dropE [0, 1, 6, 7, 9, 10, 11, 12, 13, 14, 15, 16, 17, 18, 19, 20, 21, 22, 23] ?_
 simp only [dropE_mk, fgt_nil, fgt_cons, List.contains_cons, List.contains_nil, Nat.reduceBEq, beq_self_eq_true, Bool.or_false, Bool.or_true, Bool.true_or, Bool.false_or, Bool.false_eq_true, reduceIte]
 refine loop_k (fun y => [(8, .w (.one (.pl (.str y.1.2.2.2))))]) (fun y => [(2, ⟨false, polyC r0 r1 p0 p1 y.1.1.a y.1.1.b y.1.1.c y.1.2.1 y.1.2.2.1⟩)]) (fun y => y.1.2.2.2.length) (⟨(s.acc, pad16 s.rest, (s.rest.length : Nat), s.rest ++ b), hpl, hs.2, rfl, by simp⟩ : {y : T3 × List UInt8 × Int × List UInt8 // y.2.1.length = 16 ∧ val3 y.1.a y.1.b y.1.c < pP ∧ absorb r0 r1 ⟨y.1, []⟩ y.2.2.2 = absorb r0 r1 ⟨s.acc, []⟩ (s.rest ++ b) ∧ y.2.2.2.length ≤ s.rest.length + b.length}) ?_ ?_ ?_
 · (simp only [go_sem, leX, List.cons_append, List.nil_append]; try simp)
 · (simp only [polyC, go_sem, leX, List.cons_append, List.nil_append]; try simp [polyC, leX, look])
 intro yy zN zM zhN zhM
 simp only [List.cons_append, List.nil_append]
 obtain ⟨⟨q, h, k, t⟩, hh, hv, ht, hl⟩ := yy
 rcases Nat.lt_or_ge t.length 16 with hlt | hge
 rotate_left
 · simp only at hh hv ht hl
   obtain ⟨qa, qb, qc⟩ := q
   simp only at hh hv ht hl
   have ha4 : qc.toNat < 4 := by
    simp only [val3, pP] at hv
    have := qa.toNat_lt; have := qb.toNat_lt
    omega
   have hcq : (16 : Int) ≤ ((t.length : Nat) : Int) := by omega
   have hc1 : ((t.length : Nat) : Int).toNat = t.length := Int.toNat_natCast _
   have hbk := absorb_block (r0 := r0) (r1 := r1) (a := ⟨qa, qb, qc⟩) hge
   have htd : List.take (t.length - 16) (List.drop 16 t) = List.drop 16 t := List.take_of_length_le (by simp)
   have F9 := And.intro hh <| And.intro hcq <| And.intro hc1 <| htd
   refine seq_k fun zN zM zhN zhM => ?_
   refine sr_k fun zK zhK => ?_
   simp only [go_sem, polyC, Nat.sub_zero, Nat.zero_add, F0, F9]
   repeat' (first | apply And.intro | intro _)
   refine zhK _ ?_
   (refine condT_k ?_ ?_; focus (first | rfl | (simp [go_sem, polyC, Nat.sub_zero, Nat.zero_add, F0, F9]; done)))
   refine skip_k ?_
   refine zhN _ ?_; clear zhN zhM
   refine block_k fun zB zbn zbx zbr zbi => ?_
   refine draw_k (id := 7) [27, 28, 29, 30, 31, 32, 8] [0, 0, 2, 7, 0, 16, 15, 127] [(4, 6), (5, 6)] mixed (by kernel_rfl) (by simp only [go_sem]) fun zK zhK => ?_
   simp only [go_sem, polyC, Nat.sub_zero, Nat.zero_add, F0, F9]
   repeat' (first | apply And.intro | intro _)
   all_goals (refine call_draw (fun k => k) _ [] (fun _ _ => rfl) ?_ ((psoaked_ r0 r1 p0 p1 qa qb qc h hh k ha4 (t.take 16) (by rw [List.length_take]; omega)).plain fun _ _ h => h) ?_ ?_; focus (first | rfl | (simp only [go_sem, polyC, Nat.sub_zero, Nat.zero_add, F0, F9] <;> rfl)))
   all_goals try (refine And.intro ?_ (And.intro ?_ (And.intro ?_ ?_)) <;> first | rfl | simp only [go_sem])
   all_goals simp only [go_sem, polyC, Nat.sub_zero, Nat.zero_add, F0, F9]
   all_goals repeat' (first | apply And.intro | intro _)
   refine zhK _ _ ?_ ?_
   focus (first | trivial | (simp only [go_sem]; done) | (simp only [go_sem]; simp; done) | (simp only [go_sem]; simp; simp only [go_sem]))
   refine zbn _ ?_; clear zbn zbx zbr zbi
   refine zhN ⟨(soakT r0 r1 ⟨qa, qb, qc⟩ (t.take 16), List.replicate 16 0, 0, t.drop 16), by simp, soakT_val _ _ _ _, by rw [← ht, hbk], by simp only [List.length_drop]; omega⟩ _ ?_ ?_ ?_
   · (show (t.drop 16).length < t.length; rw [List.length_drop]; omega)
   · (simp only [go_sem, leX, List.cons_append, List.nil_append]; try simp)
   · (simp only [soakT, polyC, go_sem, leX, List.cons_append, List.nil_append]; first | done | (simp [soakT, polyC, leX, look]; done) | rfl)
 · simp only at hh hv ht hl
   obtain ⟨qa, qb, qc⟩ := q
   simp only at hh hv ht hl
   have ha4 : qc.toNat < 4 := by
    simp only [val3, pP] at hv
    have := qa.toNat_lt; have := qb.toNat_lt
    omega
   have hcq : ¬ (16 : Int) ≤ ((t.length : Nat) : Int) := by omega
   have hsh := absorb_short (r0 := r0) (r1 := r1) (a := ⟨qa, qb, qc⟩) (r := []) (l := t) (by simp; omega)
   rw [List.nil_append] at hsh
   have hres : absorb r0 r1 s b = ⟨⟨qa, qb, qc⟩, t⟩ := by
    rw [← hsh, ht]
    exact absorb_rest hs.1 b
   have hmi : min t.length 16 = t.length := by omega
   have hmi2 : min 16 t.length = t.length := by omega
   have htk : List.take t.length t = t := List.take_length
   have hdr : List.drop t.length (List.replicate 16 (0 : UInt8)) = List.replicate (16 - t.length) 0 := List.drop_replicate
   have hpt : t ++ List.replicate (16 - t.length) 0 = pad16 t := rfl
   have hpl2 := pad16_length (r := t) (by omega)
   have F13 := And.intro hh <| And.intro hcq <| And.intro hmi <| And.intro hmi2 <| And.intro htk <| And.intro hdr <| And.intro hpt <| hpl2
   refine seq_k fun zN zM zhN zhM => ?_
   iterate 10 first
    | (refine sr_k fun zK zhK => ?_; simp only [go_sem, polyC, Nat.sub_zero, Nat.zero_add, F0, F13]; (repeat' (first | apply And.intro | intro _)))
    | refine zhK _ ?_
    | (refine zhM _ _ ?_; clear zhN zhM)
    | refine exit_k ?_
    | (refine zbx _ ?_; clear zbn zbx zbr zbi)
    | (refine zhN _ ?_; clear zhN zhM)
    | (refine condF_k ?_ ?_; focus (first | rfl | (simp [go_sem, polyC, Nat.sub_zero, Nat.zero_add, F0, F13]; done)))
   refine seq_k fun zN zM zhN zhM => ?_
   refine text_k (id := 9) [38, 39, 40, 41] (by simp only [go_sem]) fun zK zhK => ?_
   simp only [go_sem, polyC, Nat.sub_zero, Nat.zero_add, F0, F13]
   repeat' (first | apply And.intro | intro _)
   refine zhK _ _ ?_
   refine zhN _ ?_; clear zhN zhM
   refine sr_k fun zK zhK => ?_
   simp only [go_sem, polyC, Nat.sub_zero, Nat.zero_add, F0, F13]
   repeat' (first | apply And.intro | intro _)
   refine zhK _ ?_
   refine ret_k ?_
   refine zhZ _ _ ?_
   simp only [go_sem, polyC, Nat.sub_zero, Nat.zero_add, F0, F13]
   all_goals (rw [hres]; simp only [stC, polyC])
end Go.Sy

