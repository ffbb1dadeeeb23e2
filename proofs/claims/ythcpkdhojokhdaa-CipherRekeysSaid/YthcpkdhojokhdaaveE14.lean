/- Walks: bytes added to a sum. -/
import Derived.Test.YthcpkdhojokhdaaveE13
import Derived.Test.YthcpkdhojokhdaaveE8
import Derived.Test.YthcpkdhojokhdaavP7
set_option linter.unusedVariables false
set_option linter.unusedSimpArgs false
namespace Go.Sy
open Go.Proofs
attribute [local irreducible] atCall HT runOps runD onC onE onO onG goV goA goS onSt onGuard
def stC (r0 r1 p0 p1 : UInt64) (s : PSt) : List L := polyC r0 r1 p0 p1 s.acc.a s.acc.b s.acc.c (pad16 s.rest) (s.rest.length : Nat)
theorem r1_lt {r1 : UInt64} (h : r1 &&& ~~~1152921487695413244 = 0) : r1.toNat < 1152921504606846976 := by
 have := (mask_iff r1 1152921487695413244).mpr h
 rw [← this, UInt64.toNat_and]
 exact Nat.lt_of_le_of_lt Nat.and_le_right (by decide)
theorem st_ok {r0 r1 : UInt64} {s : PSt} (hs : s.ok) (h0 : r0 &&& ~~~1152921487695413247 = 0) (h1 : r1 &&& ~~~1152921487695413244 = 0) : PolyOk r0 r1 s.acc.a s.acc.b s.acc.c (pad16 s.rest) (s.rest.length : Nat) := by
 have := hs.1
 have hv := hs.2
 refine ⟨h0, h1, ?_, hs.2, by omega, by omega, fun j hj hl => pad16_rest (by omega) j (by simpa using hj) hl⟩
 simp only [val3, pP] at hv
 have := s.acc.a.toNat_lt; have := s.acc.b.toNat_lt
 omega
theorem len_pos {b : List UInt8} {i : Nat} (h : i < b.length) : ((i : Nat) : Int) < ((b.length : Nat) : Int) := by omega
set_option maxHeartbeats 1600000 in
set_option maxRecDepth 100000 in
theorem padd_ok (r0 r1 p0 p1 : UInt64) (s : PSt) (hs : s.ok) (hr0 : r0 &&& ~~~1152921487695413247 = 0) (hr1 : r1 &&& ~~~1152921487695413244 = 0) (b : List UInt8) (hbl : b.length ≤ 140737488355328) (ex : Bool) :
 Ct Try.prog 18 [.w (.agg (polyC r0 r1 p0 p1 s.acc.a s.acc.b s.acc.c (pad16 s.rest) (s.rest.length : Nat))), .w (.one (.pl (.R ex 1 (byteRows b))))] (fun v m => v = .tup [.agg (stC r0 r1 p0 p1 (absorb r0 r1 s b)), .one (.pl (.i 0))]) := by
 have hpl := pad16_length (r := s.rest) (by have := hs.1; omega)
 have he := perr_ok (st_ok hs hr0 hr1)
 have hr := r1_lt hr1
 refine Ct.k Try.func18 rfl Try.ntmps18 (congrArg Array.toList Try.results18) (by simp) fun w0 ro => ?_
 refine top_k fun zZ zhZ => ?_
 iterate 15 first
  | (refine sr_k fun zK zhK => ?_; simp only [go_sem, polyC, hpl, he]; (repeat' (first | apply And.intro | intro _)))
  | refine zhK _ ?_
  | refine skip_k ?_
  | (refine zhN _ ?_; clear zhN zhM)
  | refine block_k fun zB zbn zbx zbr zbi => ?_
  | ((all_goals (refine call_view (fun k => k) (fun _ _ => rfl) ?_ ((poly_check r0 r1 p0 p1 s.acc.a s.acc.b s.acc.c (pad16 s.rest) hpl (s.rest.length : Nat)).plain fun _ _ h => h) ?_; focus (first | rfl | (simp only [go_sem, polyC, hpl, he] <;> rfl)))); (all_goals (rintro v m ⟨hR, hm⟩; subst hR; subst hm)); (all_goals refine And.intro (by first | rfl | simp only [go_sem, polyC, hpl, he]) (And.intro (by first | rfl | simp only [go_sem, polyC, hpl, he]) ?_)); (all_goals simp only [go_sem, polyC, hpl, he]); (all_goals repeat' (first | apply And.intro | intro _)))
  | refine seq_k fun zN zM zhN zhM => ?_
  | (refine condF_k ?_ ?_; focus (first | rfl | (simp [go_sem, polyC, hpl, he]; done)))
 refine ht_dropE [0, 1, 6, 9, 10, 11, 12, 13, 14] ?_
 simp only [dropE_mk, fgt_nil, fgt_cons, List.contains_cons, List.contains_nil, Nat.reduceBEq, beq_self_eq_true, Bool.or_false, Bool.or_true, Bool.true_or, Bool.false_or, Bool.false_eq_true, reduceIte]
 refine loop_k (fun y => [(17, .w (.one (.pl (.i ((y.1 : Nat) : Int)))))]) (fun y => [(2, ⟨false, stC r0 r1 p0 p1 (absorb r0 r1 s (b.take y.1))⟩)]) (fun y => b.length - y.1) (⟨0, Nat.zero_le _⟩ : {y : Nat // y ≤ b.length}) ?_ ?_ ?_
 · (simp only [go_sem, leX, List.cons_append, List.nil_append]; try simp)
 · (simp only [stC, absorb, List.take_zero, List.foldl_nil, polyC, go_sem, leX, List.cons_append, List.nil_append]; try simp [stC, absorb, polyC, leX, look])
 intro ⟨i, hi⟩ zN zM zhN zhM
 simp only [List.cons_append, List.nil_append]
 have hd : (i < b.length ∧ (absorb r0 r1 s (b.take i)).rest.length = 15) ∨ (i < b.length ∧ ¬ (absorb r0 r1 s (b.take i)).rest.length = 15) ∨ i = b.length := by
  by_cases h1 : i = b.length
  · exact .inr (.inr h1)
  · by_cases h2 : (absorb r0 r1 s (b.take i)).rest.length = 15
    · exact .inl ⟨by omega, h2⟩
    · exact .inr (.inl ⟨by omega, h2⟩)
 rcases hd with ⟨hlt, h15⟩ | ⟨hlt, h15⟩ | rfl
 · obtain ⟨⟨⟨qa, qb, qc⟩, q⟩, hq⟩ : ∃ q, absorb r0 r1 s (b.take i) = q := ⟨_, rfl⟩
   have hqok : PSt.ok ⟨⟨qa, qb, qc⟩, q⟩ := hq ▸ absorb_ok hs
   have hq15 : q.length ≤ 15 := hqok.1
   have hsn := absorb_snoc (r0 := r0) (r1 := r1) (s := s) hlt
   rw [hq] at hsn
   have hpq := pad16_length (r := q) (by omega)
   have hps := pad16_set (r := q) (by omega) (b.getD i 0)
   simp only [hq, stC]
   have hcq := len_pos hlt
   have hc0 : (0 : Int) ≤ ((i : Nat) : Int) := by omega
   have hg0 := byteRows_get hlt
   have hc1 : (0 : Int) ≤ ((q.length : Nat) : Int) := by omega
   have hc2 : ((q.length : Nat) : Int) < 16 := by omega
   have hc3 : q.length + 1 ≤ 16 := by omega
   have hc4 : q.length < 16 := by omega
   have hpt := pad16_take q
   have hput : bytesC q ++ [L.pl (PL.u8 (b.getD i 0))] ++ bytesC (List.drop (q.length + 1) (pad16 q)) = bytesC (pad16 (q ++ [b.getD i 0])) := by rw [← hps]; simp [bytesC]
   have hpl2 := pad16_length (r := q ++ [b.getD i 0]) (by simp; omega)
   have hle3 : (16 ≤ q.length + 1 + (List.drop (q.length + 1) (pad16 q)).length) = True := eq_true (by rw [List.length_drop, hpq]; omega)
   obtain ⟨hs1, hs2⟩ : Go.RowKit.wrap64 (((i : Nat) : Int) + 1) = ((i + 1 : Nat) : Int) ∧ Go.RowKit.wrap64 (((q.length : Nat) : Int) + 1) = ((q.length + 1 : Nat) : Int) := ⟨wnat (by omega) (by omega), wnat (by omega) (by omega)⟩
   rw [hq] at h15
   simp only at h15
   have hq16 : (q ++ [b.getD i 0]).length = 16 := by rw [List.length_append, h15]; rfl
   have hpf : pad16 (q ++ [b.getD i 0]) = q ++ [b.getD i 0] := by rw [pad16, hq16]; simp
   have hce : ((q.length + 1 : Nat) : Int) = 16 := by omega
   have hst : stepP r0 r1 ⟨⟨qa, qb, qc⟩, q⟩ (b.getD i 0) = ⟨soakT r0 r1 ⟨qa, qb, qc⟩ (q ++ [b.getD i 0]), []⟩ := by unfold stepP; rw [if_pos h15]
   rw [hst] at hsn
   have F8 := And.intro hput <| And.intro hpl2 <| And.intro hle3 <| And.intro hcq <| And.intro hc0 <| And.intro hg0 <| And.intro hc1 <| And.intro hc2 <| And.intro hc3 <| And.intro hc4 <| And.intro hpq <| And.intro hpt <| And.intro hs1 <| And.intro hs2 <| hce
   iterate 24 first
    | refine zhK _ ?_
    | (refine sr_k fun zK zhK => ?_; simp only [go_sem, polyC, hpl, he, F8]; (repeat' (first | apply And.intro | intro _)))
    | (refine zhN _ ?_; clear zhN zhM)
    | (refine region_k fun zK zhK => ?_; simp only [go_sem, polyC, hpl, he, F8]; (repeat' (first | apply And.intro | intro _)))
    | refine skip_k ?_
    | refine block_k fun zB zbn zbx zbr zbi => ?_
    | (refine zbn _ ?_; clear zbn zbx zbr zbi)
    | ((all_goals (refine call_view (fun k => k) (fun _ _ => rfl) ?_ ((soak_full r0 r1 p0 p1 qa qb qc (pad16 (q ++ [b.getD i 0])) hpl2 hqok.2 hr).plain fun _ _ h => h) ?_; focus (first | rfl | (simp only [go_sem, polyC, hpl, he, F8] <;> rfl)))); (all_goals (rintro v m ⟨hR, hm⟩; subst hR; subst hm)); (all_goals refine And.intro (by first | rfl | simp only [go_sem, polyC, hpl, he, F8]) (And.intro (by first | rfl | simp only [go_sem, polyC, hpl, he, F8]) ?_)); (all_goals simp only [go_sem, polyC, hpl, he, F8]); (all_goals repeat' (first | apply And.intro | intro _)))
    | refine seq_k fun zN zM zhN zhM => ?_
    | (refine condT_k ?_ ?_; focus (first | rfl | (simp [go_sem, polyC, hpl, he, F8]; done)))
   refine zhN ⟨i + 1, hlt⟩ _ ?_ ?_ ?_
   · (show b.length - (i + 1) < b.length - i; clear hs1 hs2; omega)
   · (simp only [go_sem, leX, List.cons_append, List.nil_append]; try simp)
   · (simp only [hsn, hpf, stC, polyC, soakT, go_sem, leX, List.cons_append, List.nil_append]; first | done | (simp [hsn, hpf, stC, polyC, soakT, pad16, leX, look]; done) | rfl)
 · obtain ⟨⟨⟨qa, qb, qc⟩, q⟩, hq⟩ : ∃ q, absorb r0 r1 s (b.take i) = q := ⟨_, rfl⟩
   have hqok : PSt.ok ⟨⟨qa, qb, qc⟩, q⟩ := hq ▸ absorb_ok hs
   have hq15 : q.length ≤ 15 := hqok.1
   have hsn := absorb_snoc (r0 := r0) (r1 := r1) (s := s) hlt
   rw [hq] at hsn
   have hpq := pad16_length (r := q) (by omega)
   have hps := pad16_set (r := q) (by omega) (b.getD i 0)
   simp only [hq, stC]
   have hcq := len_pos hlt
   have hc0 : (0 : Int) ≤ ((i : Nat) : Int) := by omega
   have hg0 := byteRows_get hlt
   have hc1 : (0 : Int) ≤ ((q.length : Nat) : Int) := by omega
   have hc2 : ((q.length : Nat) : Int) < 16 := by omega
   have hc3 : q.length + 1 ≤ 16 := by omega
   have hc4 : q.length < 16 := by omega
   have hpt := pad16_take q
   have hput : bytesC q ++ [L.pl (PL.u8 (b.getD i 0))] ++ bytesC (List.drop (q.length + 1) (pad16 q)) = bytesC (pad16 (q ++ [b.getD i 0])) := by rw [← hps]; simp [bytesC]
   have hpl2 := pad16_length (r := q ++ [b.getD i 0]) (by simp; omega)
   have hle3 : (16 ≤ q.length + 1 + (List.drop (q.length + 1) (pad16 q)).length) = True := eq_true (by rw [List.length_drop, hpq]; omega)
   obtain ⟨hs1, hs2⟩ : Go.RowKit.wrap64 (((i : Nat) : Int) + 1) = ((i + 1 : Nat) : Int) ∧ Go.RowKit.wrap64 (((q.length : Nat) : Int) + 1) = ((q.length + 1 : Nat) : Int) := ⟨wnat (by omega) (by omega), wnat (by omega) (by omega)⟩
   rw [hq] at h15
   simp only at h15
   have hce : (((q.length + 1 : Nat) : Int) = 16) = False := eq_false (by omega)
   have hst : stepP r0 r1 ⟨⟨qa, qb, qc⟩, q⟩ (b.getD i 0) = ⟨⟨qa, qb, qc⟩, q ++ [b.getD i 0]⟩ := by unfold stepP; rw [if_neg h15]
   rw [hst] at hsn
   have F18 := And.intro hput <| And.intro hpl2 <| And.intro hle3 <| And.intro hcq <| And.intro hc0 <| And.intro hg0 <| And.intro hc1 <| And.intro hc2 <| And.intro hc3 <| And.intro hc4 <| And.intro hpq <| And.intro hpt <| And.intro hs1 <| And.intro hs2 <| hce
   iterate 22 first
    | refine zhK _ ?_
    | (refine sr_k fun zK zhK => ?_; simp only [go_sem, polyC, hpl, he, F18]; (repeat' (first | apply And.intro | intro _)))
    | refine skip_k ?_
    | (refine zhN _ ?_; clear zhN zhM)
    | refine block_k fun zB zbn zbx zbr zbi => ?_
    | (refine zbn _ ?_; clear zbn zbx zbr zbi)
    | (refine region_k fun zK zhK => ?_; simp only [go_sem, polyC, hpl, he, F18]; (repeat' (first | apply And.intro | intro _)))
    | refine seq_k fun zN zM zhN zhM => ?_
    | (refine condT_k ?_ ?_; focus (first | rfl | (simp [go_sem, polyC, hpl, he, F18]; done)))
    | (refine condF_k ?_ ?_; focus (first | rfl | (simp [go_sem, polyC, hpl, he, F18]; done)))
   refine zhN ⟨i + 1, hlt⟩ _ ?_ ?_ ?_
   · (show b.length - (i + 1) < b.length - i; clear hs1 hs2; omega)
   · (simp only [go_sem, leX, List.cons_append, List.nil_append]; try simp)
   · (simp only [hsn, stC, polyC, go_sem, leX, List.cons_append, List.nil_append]; first | done | (simp [hsn, stC, polyC, leX, look]; done) | rfl)
 · obtain ⟨⟨⟨qa, qb, qc⟩, q⟩, hq⟩ : ∃ q, absorb r0 r1 s (b.take b.length) = q := ⟨_, rfl⟩
   have hqok : PSt.ok ⟨⟨qa, qb, qc⟩, q⟩ := hq ▸ absorb_ok hs
   have hq15 : q.length ≤ 15 := hqok.1
   have hpq := pad16_length (r := q) (by omega)
   simp only [hq, stC]
   rw [List.take_length] at hq
   have hcq : ¬ ((b.length : Nat) : Int) < ((b.length : Nat) : Int) := by omega

   iterate 13 first
    | (refine sr_k fun zK zhK => ?_; simp only [go_sem, polyC, hpl, he, hcq, hpq]; (repeat' (first | apply And.intro | intro _)))
    | refine zhK _ ?_
    | (refine zhM _ _ ?_; clear zhN zhM)
    | refine exit_k ?_
    | (refine zbx _ ?_; clear zbn zbx zbr zbi)
    | (refine zhN _ ?_; clear zhN zhM)
    | refine ret_k ?_
    | (refine zhZ _ _ ?_; simp only [go_sem, polyC, hpl, he, hcq, hpq]; (all_goals (rw [hq]; simp only [stC, polyC])))
    | refine seq_k fun zN zM zhN zhM => ?_
    | (refine condF_k ?_ ?_; focus (first | rfl | (simp [go_sem, polyC, hpl, he, hcq, hpq]; done)))
end Go.Sy

