/- Walks: bytes added to a sum. -/
import Derived.Test.YthcpkdhojokhdaaveE13
import Derived.Test.YthcpkdhojokhdaaveE8
import Derived.Test.YthcpkdhojokhdaavP7
set_option linter.unusedVariables false
set_option linter.unusedSimpArgs false
namespace Go.Sy
open Go.Proofs
attribute [local irreducible] atCall HT runOps runD onC onE onO onG goV goA goS onSt onGuard
def stC (r0 r1 p0 p1 : UInt64) (s : PSt) : List L := polyC r0 r1 p0 p1 s.acc.a s.acc.b s.acc.c (pad16 s.rest) (s.rest.length : Nat)
def zeroC28 : List L := polyC 0 0 0 0 0 0 0 (List.replicate 16 0) 0
set_option maxHeartbeats 400000 in
theorem padd_bad (r0 r1 p0 p1 a0 a1 a2 : UInt64) (held : List UInt8) (hh : held.length = 16) (n : Int) (b : List UInt8) (hbl : b.length ≤ 140737488355328) (ex : Bool) (hno : ¬ PolyOk r0 r1 a0 a1 a2 held n) :
 Ct Try.prog 18 [.w (.agg (polyC r0 r1 p0 p1 a0 a1 a2 held n)), .w (.one (.pl (.R ex 1 (byteRows b))))] (fun v m => v = .tup [.agg zeroC28, .one (.pl (.i 9))]) := by
 have he := perr_no hno
 refine Ct.k Try.func18 rfl Try.ntmps18 (congrArg Array.toList Try.results18) (by simp) fun w0 ro => ?_
 refine seq_k fun N1 M1 hN1 hM1 => ?_
 refine region_k fun K2 hK2 => ?_
 simp only [go_sem, polyC, hh, he, zeroC28]
 all_goals repeat' (first | apply And.intro | intro _)
 all_goals
  refine hK2 _ ?_
  refine hN1 _ ?_
  refine seq_k fun N3 M3 hN3 hM3 => ?_
  refine seq_k fun N4 M4 hN4 hM4 => ?_
  refine region_k fun K5 hK5 => ?_
  simp only [go_sem, polyC, hh, he, zeroC28]
  all_goals repeat' (first | apply And.intro | intro _)
  all_goals refine call_view (fun k => k) (fun _ _ => rfl) (by first | rfl | (simp only [go_sem, polyC, hh, he, zeroC28]; rfl) | simp only [go_sem, polyC, hh, he, zeroC28]) ((poly_check r0 r1 p0 p1 a0 a1 a2 held hh n).plain fun _ _ h => h) ?_
  all_goals (rintro v m ⟨hR, hm⟩; subst hR; subst hm)
  all_goals refine And.intro (by first | rfl | simp only [go_sem, polyC, hh, he, zeroC28]) (And.intro (by first | rfl | simp only [go_sem, polyC, hh, he, zeroC28]) ?_)
  all_goals simp only [go_sem, polyC, hh, he, zeroC28]
  all_goals repeat' (first | apply And.intro | intro _)
  all_goals
   refine hK5 _ ?_
   refine hN4 _ ?_
   refine seq_k fun N6 M6 hN6 hM6 => ?_
   refine region_k fun K7 hK7 => ?_
   simp only [go_sem, polyC, hh, he, zeroC28]
   all_goals repeat' (first | apply And.intro | intro _)
   all_goals
    refine hK7 _ ?_
    refine hN6 _ ?_
    refine cond_k rfl (fun hc => ?_) (fun hc => ?_)
    · try simp only [go_sem, polyC, hh, he, zeroC28] at hc
      all_goals
       refine seq_k fun N8 M8 hN8 hM8 => ?_
       refine region_k fun K9 hK9 => ?_
       simp only [go_sem, polyC, hh, he, zeroC28]
       all_goals repeat' (first | apply And.intro | intro _)
       all_goals
        refine hK9 _ ?_
        refine hN8 _ ?_
        refine ret_k ?_
        refine hM3 _ _ ?_
        simp only [go_sem, polyC, hh, he, zeroC28]
        all_goals rfl
    · exfalso; revert hc; simp [go_sem, polyC, hh, decide_true, decide_false, Bool.not_true, Bool.not_false, he, zeroC28]
set_option maxHeartbeats 400000 in
theorem pref_bad (r0 r1 p0 p1 a0 a1 a2 : UInt64) (held : List UInt8) (hh : held.length = 16) (n : Int) (b : List UInt8) (hbl : b.length ≤ 140737488355328) (ex : Bool) (hno : ¬ PolyOk r0 r1 a0 a1 a2 held n) :
 Ct Try.prog 19 [.w (.agg (polyC r0 r1 p0 p1 a0 a1 a2 held n)), .w (.one (.pl (.R ex 1 (byteRows b))))] (fun v m => v = .tup [.agg zeroC28, .one (.pl (.i 9))]) := by
 have he := perr_no hno
 refine Ct.k Try.func19 rfl Try.ntmps19 (congrArg Array.toList Try.results19) (by simp) fun w0 ro => ?_
 refine seq_k fun N1 M1 hN1 hM1 => ?_
 refine region_k fun K2 hK2 => ?_
 simp only [go_sem, polyC, hh, he, zeroC28]
 all_goals repeat' (first | apply And.intro | intro _)
 all_goals
  refine hK2 _ ?_
  refine hN1 _ ?_
  refine seq_k fun N3 M3 hN3 hM3 => ?_
  refine seq_k fun N4 M4 hN4 hM4 => ?_
  refine region_k fun K5 hK5 => ?_
  simp only [go_sem, polyC, hh, he, zeroC28]
  all_goals repeat' (first | apply And.intro | intro _)
  all_goals refine call_view (fun k => k) (fun _ _ => rfl) (by first | rfl | (simp only [go_sem, polyC, hh, he, zeroC28]; rfl) | simp only [go_sem, polyC, hh, he, zeroC28]) ((poly_fault r0 r1 p0 p1 a0 a1 a2 held hh n).plain fun _ _ h => h) ?_
  all_goals (rintro v m ⟨hR, hm⟩; subst hR; subst hm)
  all_goals refine And.intro (by first | rfl | simp only [go_sem, polyC, hh, he, zeroC28]) (And.intro (by first | rfl | simp only [go_sem, polyC, hh, he, zeroC28]) ?_)
  all_goals simp only [go_sem, polyC, hh, he, zeroC28]
  all_goals repeat' (first | apply And.intro | intro _)
  all_goals
   refine hK5 _ ?_
   refine hN4 _ ?_
   refine seq_k fun N6 M6 hN6 hM6 => ?_
   refine region_k fun K7 hK7 => ?_
   simp only [go_sem, polyC, hh, he, zeroC28]
   all_goals repeat' (first | apply And.intro | intro _)
   all_goals
    refine hK7 _ ?_
    refine hN6 _ ?_
    refine cond_k rfl (fun hc => ?_) (fun hc => ?_)
    · try simp only [go_sem, polyC, hh, he, zeroC28] at hc
      all_goals
       refine seq_k fun N8 M8 hN8 hM8 => ?_
       refine region_k fun K9 hK9 => ?_
       simp only [go_sem, polyC, hh, he, zeroC28]
       all_goals repeat' (first | apply And.intro | intro _)
       all_goals
        refine hK9 _ ?_
        refine hN8 _ ?_
        refine ret_k ?_
        refine hM3 _ _ ?_
        simp only [go_sem, polyC, hh, he, zeroC28]
        all_goals rfl
    · exfalso; revert hc; simp [go_sem, polyC, hh, decide_true, decide_false, Bool.not_true, Bool.not_false, he, zeroC28]
theorem r1_lt {r1 : UInt64} (h : r1 &&& ~~~1152921487695413244 = 0) : r1.toNat < 1152921504606846976 := by
 have := (mask_iff r1 1152921487695413244).mpr h
 rw [← this, UInt64.toNat_and]
 exact Nat.lt_of_le_of_lt Nat.and_le_right (by decide)
theorem st_ok {r0 r1 : UInt64} {s : PSt} (hs : s.ok) (h0 : r0 &&& ~~~1152921487695413247 = 0) (h1 : r1 &&& ~~~1152921487695413244 = 0) : PolyOk r0 r1 s.acc.a s.acc.b s.acc.c (pad16 s.rest) (s.rest.length : Nat) := by
 have := hs.1
 have hv := hs.2
 refine ⟨h0, h1, ?_, hs.2, by omega, by omega, fun j hj hl => pad16_rest (by omega) j (by simpa using hj) hl⟩
 simp only [val3, pP] at hv
 have := s.acc.a.toNat_lt; have := s.acc.b.toNat_lt
 omega
theorem len_pos {b : List UInt8} {i : Nat} (h : i < b.length) : ((i : Nat) : Int) < ((b.length : Nat) : Int) := by omega
set_option maxHeartbeats 1600000 in
set_option maxRecDepth 100000 in
theorem padd_ok (r0 r1 p0 p1 : UInt64) (s : PSt) (hs : s.ok) (hr0 : r0 &&& ~~~1152921487695413247 = 0) (hr1 : r1 &&& ~~~1152921487695413244 = 0) (b : List UInt8) (hbl : b.length ≤ 140737488355328) (ex : Bool) :
 Ct Try.prog 18 [.w (.agg (polyC r0 r1 p0 p1 s.acc.a s.acc.b s.acc.c (pad16 s.rest) (s.rest.length : Nat))), .w (.one (.pl (.R ex 1 (byteRows b))))] (fun v m => v = .tup [.agg (stC r0 r1 p0 p1 (absorb r0 r1 s b)), .one (.pl (.i 0))]) := by
 have hpl := pad16_length (r := s.rest) (by have := hs.1; omega)
 have he := perr_ok (st_ok hs hr0 hr1)
 have hr := r1_lt hr1
 refine Ct.k Try.func18 rfl Try.ntmps18 (congrArg Array.toList Try.results18) (by simp) fun w0 ro => ?_
 refine seq_k fun N1 M1 hN1 hM1 => ?_
 refine region_k fun K2 hK2 => ?_
 simp only [go_sem, polyC, hpl, he]
 all_goals repeat' (first | apply And.intro | intro _)
 all_goals
  refine hK2 _ ?_
  refine hN1 _ ?_
  refine seq_k fun N3 M3 hN3 hM3 => ?_
  refine seq_k fun N4 M4 hN4 hM4 => ?_
  refine region_k fun K5 hK5 => ?_
  simp only [go_sem, polyC, hpl, he]
  all_goals repeat' (first | apply And.intro | intro _)
  all_goals refine call_view (fun k => k) (fun _ _ => rfl) (by first | rfl | (simp only [go_sem, polyC, hpl, he]; rfl) | simp only [go_sem, polyC, hpl, he]) ((poly_check r0 r1 p0 p1 s.acc.a s.acc.b s.acc.c (pad16 s.rest) hpl (s.rest.length : Nat)).plain fun _ _ h => h) ?_
  all_goals (rintro v m ⟨hR, hm⟩; subst hR; subst hm)
  all_goals refine And.intro (by first | rfl | simp only [go_sem, polyC, hpl, he]) (And.intro (by first | rfl | simp only [go_sem, polyC, hpl, he]) ?_)
  all_goals simp only [go_sem, polyC, hpl, he]
  all_goals repeat' (first | apply And.intro | intro _)
  all_goals
   refine hK5 _ ?_
   refine hN4 _ ?_
   refine seq_k fun N6 M6 hN6 hM6 => ?_
   refine region_k fun K7 hK7 => ?_
   simp only [go_sem, polyC, hpl, he]
   all_goals repeat' (first | apply And.intro | intro _)
   all_goals
    refine hK7 _ ?_
    refine hN6 _ ?_
    refine cond_k rfl (fun hc => ?_) (fun hc => ?_)
    · exfalso; revert hc; simp [go_sem, polyC, hpl, he, decide_true, decide_false, Bool.not_true, Bool.not_false]
    · try simp only [go_sem, polyC, hpl, he] at hc
      all_goals
       refine skip_k ?_
       refine hN3 _ ?_
       refine seq_k fun N8 M8 hN8 hM8 => ?_
       refine seq_k fun N9 M9 hN9 hM9 => ?_
       refine region_k fun K10 hK10 => ?_
       simp only [go_sem, polyC, hpl, he]
       all_goals repeat' (first | apply And.intro | intro _)
       all_goals
        refine hK10 _ ?_
        refine hN9 _ ?_
        refine block_k fun B11 bn11 bx11 br11 bi11 => ?_
        refine ht_dropE [0, 1, 6, 9, 10, 11, 12, 13, 14] ?_
        simp only [dropE_mk, fgt_nil, fgt_cons, List.contains_cons, List.contains_nil, Nat.reduceBEq, beq_self_eq_true, Bool.or_false, Bool.or_true, Bool.true_or, Bool.false_or, Bool.false_eq_true, reduceIte]
        refine loop_k (fun y => [(17, .w (.one (.pl (.i ((y.1 : Nat) : Int)))))]) (fun y => [(2, ⟨false, stC r0 r1 p0 p1 (absorb r0 r1 s (b.take y.1))⟩)]) (fun y => b.length - y.1) (⟨0, Nat.zero_le _⟩ : {y : Nat // y ≤ b.length}) ?_ ?_ ?_
        · (simp only [go_sem, leX, List.cons_append, List.nil_append]; try simp)
        · (simp only [stC, absorb, List.take_zero, List.foldl_nil, polyC, go_sem, leX, List.cons_append, List.nil_append]; try simp [stC, absorb, polyC, leX, look])
        intro ⟨i, hi⟩ N12 M12 hN12 hM12
        simp only [List.cons_append, List.nil_append]
        have hd : (i < b.length ∧ (absorb r0 r1 s (b.take i)).rest.length = 15) ∨ (i < b.length ∧ ¬ (absorb r0 r1 s (b.take i)).rest.length = 15) ∨ i = b.length := by
         by_cases h1 : i = b.length
         · exact .inr (.inr h1)
         · by_cases h2 : (absorb r0 r1 s (b.take i)).rest.length = 15
           · exact .inl ⟨by omega, h2⟩
           · exact .inr (.inl ⟨by omega, h2⟩)
        rcases hd with ⟨hlt, h15⟩ | ⟨hlt, h15⟩ | rfl
        · obtain ⟨⟨⟨qa, qb, qc⟩, q⟩, hq⟩ : ∃ q, absorb r0 r1 s (b.take i) = q := ⟨_, rfl⟩
          have hqok : PSt.ok ⟨⟨qa, qb, qc⟩, q⟩ := hq ▸ absorb_ok hs
          have hq15 : q.length ≤ 15 := hqok.1
          have hsn := absorb_snoc (r0 := r0) (r1 := r1) (s := s) hlt
          rw [hq] at hsn
          have hpq := pad16_length (r := q) (by omega)
          have hps := pad16_set (r := q) (by omega) (b.getD i 0)
          simp only [hq, stC]
          have hcq := len_pos hlt
          have hc0 : (0 : Int) ≤ ((i : Nat) : Int) := by omega
          have hg0 := byteRows_get hlt
          have hc1 : (0 : Int) ≤ ((q.length : Nat) : Int) := by omega
          have hc2 : ((q.length : Nat) : Int) < 16 := by omega
          have hc3 : q.length + 1 ≤ 16 := by omega
          have hc4 : q.length < 16 := by omega
          have hpt := pad16_take q
          have hput : bytesC q ++ [L.pl (PL.u8 (b.getD i 0))] ++ bytesC (List.drop (q.length + 1) (pad16 q)) = bytesC (pad16 (q ++ [b.getD i 0])) := by rw [← hps]; simp [bytesC]
          have hpl2 := pad16_length (r := q ++ [b.getD i 0]) (by simp; omega)
          have hle3 : (16 ≤ q.length + 1 + (List.drop (q.length + 1) (pad16 q)).length) = True := eq_true (by rw [List.length_drop, hpq]; omega)
          obtain ⟨hs1, hs2⟩ : Go.RowKit.wrap64 (((i : Nat) : Int) + 1) = ((i + 1 : Nat) : Int) ∧ Go.RowKit.wrap64 (((q.length : Nat) : Int) + 1) = ((q.length + 1 : Nat) : Int) := ⟨wnat (by omega) (by omega), wnat (by omega) (by omega)⟩
          rw [hq] at h15
          simp only at h15
          have hq16 : (q ++ [b.getD i 0]).length = 16 := by rw [List.length_append, h15]; rfl
          have hpf : pad16 (q ++ [b.getD i 0]) = q ++ [b.getD i 0] := by rw [pad16, hq16]; simp
          have hce : ((q.length + 1 : Nat) : Int) = 16 := by omega
          have hst : stepP r0 r1 ⟨⟨qa, qb, qc⟩, q⟩ (b.getD i 0) = ⟨soakT r0 r1 ⟨qa, qb, qc⟩ (q ++ [b.getD i 0]), []⟩ := by unfold stepP; rw [if_pos h15]
          rw [hst] at hsn

          refine seq_k fun N13 M13 hN13 hM13 => ?_
          refine region_k fun K14 hK14 => ?_
          simp only [go_sem, polyC, hpl, he, hput, hpl2, hle3, hcq, hc0, hg0, hc1, hc2, hc3, hc4, hpq, hpt, hs1, hs2, hce]
          all_goals repeat' (first | apply And.intro | intro _)
          all_goals
           refine hK14 _ ?_
           refine hN13 _ ?_
           refine seq_k fun N15 M15 hN15 hM15 => ?_
           refine cond_k rfl (fun hc => ?_) (fun hc => ?_)
           · try simp only [go_sem, polyC, hpl, he, hput, hpl2, hle3, hcq, hc0, hg0, hc1, hc2, hc3, hc4, hpq, hpt, hs1, hs2, hce] at hc
             all_goals
              refine skip_k ?_
              refine hN15 _ ?_
              refine seq_k fun N16 M16 hN16 hM16 => ?_
              refine block_k fun B17 bn17 bx17 br17 bi17 => ?_
              refine seq_k fun N18 M18 hN18 hM18 => ?_
              refine region_k fun K19 hK19 => ?_
              simp only [go_sem, polyC, hpl, he, hput, hpl2, hle3, hcq, hc0, hg0, hc1, hc2, hc3, hc4, hpq, hpt, hs1, hs2, hce]
              all_goals repeat' (first | apply And.intro | intro _)
              all_goals
               refine hK19 _ ?_
               refine hN18 _ ?_
               refine seq_k fun N20 M20 hN20 hM20 => ?_
               refine region_k fun K21 hK21 => ?_
               simp only [go_sem, polyC, hpl, he, hput, hpl2, hle3, hcq, hc0, hg0, hc1, hc2, hc3, hc4, hpq, hpt, hs1, hs2, hce]
               all_goals repeat' (first | apply And.intro | intro _)
               all_goals
                refine hK21 _ ?_
                refine hN20 _ ?_
                refine seq_k fun N22 M22 hN22 hM22 => ?_
                refine region_k fun K23 hK23 => ?_
                simp only [go_sem, polyC, hpl, he, hput, hpl2, hle3, hcq, hc0, hg0, hc1, hc2, hc3, hc4, hpq, hpt, hs1, hs2, hce]
                all_goals repeat' (first | apply And.intro | intro _)
                all_goals
                 refine hK23 _ ?_
                 refine hN22 _ ?_
                 refine seq_k fun N24 M24 hN24 hM24 => ?_
                 refine region_k fun K25 hK25 => ?_
                 simp only [go_sem, polyC, hpl, he, hput, hpl2, hle3, hcq, hc0, hg0, hc1, hc2, hc3, hc4, hpq, hpt, hs1, hs2, hce]
                 all_goals repeat' (first | apply And.intro | intro _)
                 all_goals
                  refine hK25 _ ?_
                  refine hN24 _ ?_
                  refine cond_k rfl (fun hc => ?_) (fun hc => ?_)
                  · try simp only [go_sem, polyC, hpl, he, hput, hpl2, hle3, hcq, hc0, hg0, hc1, hc2, hc3, hc4, hpq, hpt, hs1, hs2, hce] at hc
                    all_goals
                     refine region_k fun K26 hK26 => ?_
                     simp only [go_sem, polyC, hpl, he, hput, hpl2, hle3, hcq, hc0, hg0, hc1, hc2, hc3, hc4, hpq, hpt, hs1, hs2, hce]
                     all_goals repeat' (first | apply And.intro | intro _)
                     all_goals refine call_view (fun k => k) (fun _ _ => rfl) (by first | rfl | (simp only [go_sem, polyC, hpl, he, hput, hpl2, hle3, hcq, hc0, hg0, hc1, hc2, hc3, hc4, hpq, hpt, hs1, hs2, hce]; rfl) | simp only [go_sem, polyC, hpl, he, hput, hpl2, hle3, hcq, hc0, hg0, hc1, hc2, hc3, hc4, hpq, hpt, hs1, hs2, hce]) ((soak_full r0 r1 p0 p1 qa qb qc (pad16 (q ++ [b.getD i 0])) hpl2 hqok.2 hr).plain fun _ _ h => h) ?_
                     all_goals (rintro v m ⟨hR, hm⟩; subst hR; subst hm)
                     all_goals refine And.intro (by first | rfl | simp only [go_sem, polyC, hpl, he, hput, hpl2, hle3, hcq, hc0, hg0, hc1, hc2, hc3, hc4, hpq, hpt, hs1, hs2, hce]) (And.intro (by first | rfl | simp only [go_sem, polyC, hpl, he, hput, hpl2, hle3, hcq, hc0, hg0, hc1, hc2, hc3, hc4, hpq, hpt, hs1, hs2, hce]) ?_)
                     all_goals simp only [go_sem, polyC, hpl, he, hput, hpl2, hle3, hcq, hc0, hg0, hc1, hc2, hc3, hc4, hpq, hpt, hs1, hs2, hce]
                     all_goals repeat' (first | apply And.intro | intro _)
                     all_goals
                      refine hK26 _ ?_
                      refine bn17 _ ?_
                      refine hN16 _ ?_
                      refine region_k fun K27 hK27 => ?_
                      simp only [go_sem, polyC, hpl, he, hput, hpl2, hle3, hcq, hc0, hg0, hc1, hc2, hc3, hc4, hpq, hpt, hs1, hs2, hce]
                      all_goals repeat' (first | apply And.intro | intro _)
                      all_goals
                       refine hK27 _ ?_
                       refine hN12 ⟨i + 1, hlt⟩ _ ?_ ?_ ?_
                       · (show b.length - (i + 1) < b.length - i; clear hs1 hs2; omega)
                       · (simp only [go_sem, leX, List.cons_append, List.nil_append]; try simp)
                       · (simp only [hsn, hpf, stC, polyC, soakT, go_sem, leX, List.cons_append, List.nil_append]; first | done | (simp [hsn, hpf, stC, polyC, soakT, pad16, leX, look]; done) | rfl)
                  · exfalso; revert hc; simp [go_sem, polyC, hpl, he, decide_true, decide_false, Bool.not_true, Bool.not_false, hput, hpl2, hle3, hcq, hc0, hg0, hc1, hc2, hc3, hc4, hpq, hpt, hs1, hs2, Int.toNat_natCast, hce]
           · exfalso; revert hc; simp [go_sem, polyC, hpl, he, decide_true, decide_false, Bool.not_true, Bool.not_false, hput, hpl2, hle3, hcq, hc0, hg0, hc1, hc2, hc3, hc4, hpq, hpt, hs1, hs2, Int.toNat_natCast, hce]
        · obtain ⟨⟨⟨qa, qb, qc⟩, q⟩, hq⟩ : ∃ q, absorb r0 r1 s (b.take i) = q := ⟨_, rfl⟩
          have hqok : PSt.ok ⟨⟨qa, qb, qc⟩, q⟩ := hq ▸ absorb_ok hs
          have hq15 : q.length ≤ 15 := hqok.1
          have hsn := absorb_snoc (r0 := r0) (r1 := r1) (s := s) hlt
          rw [hq] at hsn
          have hpq := pad16_length (r := q) (by omega)
          have hps := pad16_set (r := q) (by omega) (b.getD i 0)
          simp only [hq, stC]
          have hcq := len_pos hlt
          have hc0 : (0 : Int) ≤ ((i : Nat) : Int) := by omega
          have hg0 := byteRows_get hlt
          have hc1 : (0 : Int) ≤ ((q.length : Nat) : Int) := by omega
          have hc2 : ((q.length : Nat) : Int) < 16 := by omega
          have hc3 : q.length + 1 ≤ 16 := by omega
          have hc4 : q.length < 16 := by omega
          have hpt := pad16_take q
          have hput : bytesC q ++ [L.pl (PL.u8 (b.getD i 0))] ++ bytesC (List.drop (q.length + 1) (pad16 q)) = bytesC (pad16 (q ++ [b.getD i 0])) := by rw [← hps]; simp [bytesC]
          have hpl2 := pad16_length (r := q ++ [b.getD i 0]) (by simp; omega)
          have hle3 : (16 ≤ q.length + 1 + (List.drop (q.length + 1) (pad16 q)).length) = True := eq_true (by rw [List.length_drop, hpq]; omega)
          obtain ⟨hs1, hs2⟩ : Go.RowKit.wrap64 (((i : Nat) : Int) + 1) = ((i + 1 : Nat) : Int) ∧ Go.RowKit.wrap64 (((q.length : Nat) : Int) + 1) = ((q.length + 1 : Nat) : Int) := ⟨wnat (by omega) (by omega), wnat (by omega) (by omega)⟩
          rw [hq] at h15
          simp only at h15
          have hce : (((q.length + 1 : Nat) : Int) = 16) = False := eq_false (by omega)
          have hst : stepP r0 r1 ⟨⟨qa, qb, qc⟩, q⟩ (b.getD i 0) = ⟨⟨qa, qb, qc⟩, q ++ [b.getD i 0]⟩ := by unfold stepP; rw [if_neg h15]
          rw [hst] at hsn

          refine seq_k fun N28 M28 hN28 hM28 => ?_
          refine region_k fun K29 hK29 => ?_
          simp only [go_sem, polyC, hpl, he, hput, hpl2, hle3, hcq, hc0, hg0, hc1, hc2, hc3, hc4, hpq, hpt, hs1, hs2, hce]
          all_goals repeat' (first | apply And.intro | intro _)
          all_goals
           refine hK29 _ ?_
           refine hN28 _ ?_
           refine seq_k fun N30 M30 hN30 hM30 => ?_
           refine cond_k rfl (fun hc => ?_) (fun hc => ?_)
           · try simp only [go_sem, polyC, hpl, he, hput, hpl2, hle3, hcq, hc0, hg0, hc1, hc2, hc3, hc4, hpq, hpt, hs1, hs2, hce] at hc
             all_goals
              refine skip_k ?_
              refine hN30 _ ?_
              refine seq_k fun N31 M31 hN31 hM31 => ?_
              refine block_k fun B32 bn32 bx32 br32 bi32 => ?_
              refine seq_k fun N33 M33 hN33 hM33 => ?_
              refine region_k fun K34 hK34 => ?_
              simp only [go_sem, polyC, hpl, he, hput, hpl2, hle3, hcq, hc0, hg0, hc1, hc2, hc3, hc4, hpq, hpt, hs1, hs2, hce]
              all_goals repeat' (first | apply And.intro | intro _)
              all_goals
               refine hK34 _ ?_
               refine hN33 _ ?_
               refine seq_k fun N35 M35 hN35 hM35 => ?_
               refine region_k fun K36 hK36 => ?_
               simp only [go_sem, polyC, hpl, he, hput, hpl2, hle3, hcq, hc0, hg0, hc1, hc2, hc3, hc4, hpq, hpt, hs1, hs2, hce]
               all_goals repeat' (first | apply And.intro | intro _)
               all_goals
                refine hK36 _ ?_
                refine hN35 _ ?_
                refine seq_k fun N37 M37 hN37 hM37 => ?_
                refine region_k fun K38 hK38 => ?_
                simp only [go_sem, polyC, hpl, he, hput, hpl2, hle3, hcq, hc0, hg0, hc1, hc2, hc3, hc4, hpq, hpt, hs1, hs2, hce]
                all_goals repeat' (first | apply And.intro | intro _)
                all_goals
                 refine hK38 _ ?_
                 refine hN37 _ ?_
                 refine seq_k fun N39 M39 hN39 hM39 => ?_
                 refine region_k fun K40 hK40 => ?_
                 simp only [go_sem, polyC, hpl, he, hput, hpl2, hle3, hcq, hc0, hg0, hc1, hc2, hc3, hc4, hpq, hpt, hs1, hs2, hce]
                 all_goals repeat' (first | apply And.intro | intro _)
                 all_goals
                  refine hK40 _ ?_
                  refine hN39 _ ?_
                  refine cond_k rfl (fun hc => ?_) (fun hc => ?_)
                  · exfalso; revert hc; simp [go_sem, polyC, hpl, he, decide_true, decide_false, Bool.not_true, Bool.not_false, hput, hpl2, hle3, hcq, hc0, hg0, hc1, hc2, hc3, hc4, hpq, hpt, hs1, hs2, Int.toNat_natCast, hce]
                  · try simp only [go_sem, polyC, hpl, he, hput, hpl2, hle3, hcq, hc0, hg0, hc1, hc2, hc3, hc4, hpq, hpt, hs1, hs2, hce] at hc
                    all_goals
                     refine skip_k ?_
                     refine bn32 _ ?_
                     refine hN31 _ ?_
                     refine region_k fun K41 hK41 => ?_
                     simp only [go_sem, polyC, hpl, he, hput, hpl2, hle3, hcq, hc0, hg0, hc1, hc2, hc3, hc4, hpq, hpt, hs1, hs2, hce]
                     all_goals repeat' (first | apply And.intro | intro _)
                     all_goals
                      refine hK41 _ ?_
                      refine hN12 ⟨i + 1, hlt⟩ _ ?_ ?_ ?_
                      · (show b.length - (i + 1) < b.length - i; clear hs1 hs2; omega)
                      · (simp only [go_sem, leX, List.cons_append, List.nil_append]; try simp)
                      · (simp only [hsn, stC, polyC, go_sem, leX, List.cons_append, List.nil_append]; first | done | (simp [hsn, stC, polyC, leX, look]; done) | rfl)
           · exfalso; revert hc; simp [go_sem, polyC, hpl, he, decide_true, decide_false, Bool.not_true, Bool.not_false, hput, hpl2, hle3, hcq, hc0, hg0, hc1, hc2, hc3, hc4, hpq, hpt, hs1, hs2, Int.toNat_natCast, hce]
        · obtain ⟨⟨⟨qa, qb, qc⟩, q⟩, hq⟩ : ∃ q, absorb r0 r1 s (b.take b.length) = q := ⟨_, rfl⟩
          have hqok : PSt.ok ⟨⟨qa, qb, qc⟩, q⟩ := hq ▸ absorb_ok hs
          have hq15 : q.length ≤ 15 := hqok.1
          have hpq := pad16_length (r := q) (by omega)
          simp only [hq, stC]
          rw [List.take_length] at hq
          have hcq : ¬ ((b.length : Nat) : Int) < ((b.length : Nat) : Int) := by omega

          refine seq_k fun N42 M42 hN42 hM42 => ?_
          refine region_k fun K43 hK43 => ?_
          simp only [go_sem, polyC, hpl, he, hcq, hpq]
          all_goals repeat' (first | apply And.intro | intro _)
          all_goals
           refine hK43 _ ?_
           refine hN42 _ ?_
           refine seq_k fun N44 M44 hN44 hM44 => ?_
           refine cond_k rfl (fun hc => ?_) (fun hc => ?_)
           · exfalso; revert hc; simp [go_sem, polyC, hpl, he, decide_true, decide_false, Bool.not_true, Bool.not_false, hcq, hpq]
           · try simp only [go_sem, polyC, hpl, he, hcq, hpq] at hc
             all_goals
              refine exit_k ?_
              refine hM44 _ _ ?_
              refine hM12 _ _ ?_
              refine bx11 _ ?_
              refine hN8 _ ?_
              refine seq_k fun N45 M45 hN45 hM45 => ?_
              refine region_k fun K46 hK46 => ?_
              simp only [go_sem, polyC, hpl, he, hcq, hpq]
              all_goals repeat' (first | apply And.intro | intro _)
              all_goals
               refine hK46 _ ?_
               refine hN45 _ ?_
               refine ret_k ?_
               simp only [go_sem, polyC, hpl, he, hcq, hpq]
               all_goals (rw [hq]; simp only [stC, polyC])
end Go.Sy
