/- Walks: bytes added to a sum. -/
import Derived.Test.YthcpkdhojokhdaaveE13
import Derived.Test.YthcpkdhojokhdaaveE8
import Derived.Test.YthcpkdhojokhdaavP7
set_option linter.unusedVariables false
set_option linter.unusedSimpArgs false
namespace Go.Sy
open Go.Proofs
attribute [local irreducible] atCall HT runOps runD onC onE onO onG goV goA goS onSt onGuard
def stC (r0 r1 p0 p1 : UInt64) (s : PSt) : List L := polyC r0 r1 p0 p1 s.acc.a s.acc.b s.acc.c (pad16 s.rest) (s.rest.length : Nat)
def zeroC28 : List L := polyC 0 0 0 0 0 0 0 (List.replicate 16 0) 0
set_option maxHeartbeats 400000 in
theorem padd_bad (r0 r1 p0 p1 a0 a1 a2 : UInt64) (held : List UInt8) (hh : held.length = 16) (n : Int) (b : List UInt8) (hbl : b.length ≤ 140737488355328) (ex : Bool) (hno : ¬ PolyOk r0 r1 a0 a1 a2 held n) :
 Ct Try.prog 18 [.w (.agg (polyC r0 r1 p0 p1 a0 a1 a2 held n)), .w (.one (.pl (.R ex 1 (byteRows b))))] (fun v m => v = .tup [.agg zeroC28, .one (.pl (.i 9))]) := by
 have he := perr_no hno
 refine Ct.k Try.func18 rfl Try.ntmps18 (congrArg Array.toList Try.results18) (by simp) fun w0 ro => ?_
 refine sr_k fun K1 hK1 => ?_
 simp only [go_sem, polyC, hh, he, zeroC28]
 all_goals repeat' (first | apply And.intro | intro _)
 refine hK1 _ ?_
 refine seq_k fun N2 M2 hN2 hM2 => ?_
 refine sr_k fun K3 hK3 => ?_
 simp only [go_sem, polyC, hh, he, zeroC28]
 all_goals repeat' (first | apply And.intro | intro _)
 all_goals refine call_view (fun k => k) (fun _ _ => rfl) (by first | rfl | (simp only [go_sem, polyC, hh, he, zeroC28]; rfl) | simp only [go_sem, polyC, hh, he, zeroC28]) ((poly_check r0 r1 p0 p1 a0 a1 a2 held hh n).plain fun _ _ h => h) ?_
 all_goals (rintro v m ⟨hR, hm⟩; subst hR; subst hm)
 all_goals refine And.intro (by first | rfl | simp only [go_sem, polyC, hh, he, zeroC28]) (And.intro (by first | rfl | simp only [go_sem, polyC, hh, he, zeroC28]) ?_)
 all_goals simp only [go_sem, polyC, hh, he, zeroC28]
 all_goals repeat' (first | apply And.intro | intro _)
 refine hK3 _ ?_
 refine sr_k fun K4 hK4 => ?_
 simp only [go_sem, polyC, hh, he, zeroC28]
 all_goals repeat' (first | apply And.intro | intro _)
 refine hK4 _ ?_
 refine condT_k (by first | rfl | (simp [go_sem, polyC, hh, he, zeroC28]; done)) ?_
 refine sr_k fun K5 hK5 => ?_
 simp only [go_sem, polyC, hh, he, zeroC28]
 all_goals repeat' (first | apply And.intro | intro _)
 refine hK5 _ ?_
 refine ret_k ?_
 refine hM2 _ _ ?_
 simp only [go_sem, polyC, hh, he, zeroC28]
 all_goals rfl
set_option maxHeartbeats 400000 in
theorem pref_bad (r0 r1 p0 p1 a0 a1 a2 : UInt64) (held : List UInt8) (hh : held.length = 16) (n : Int) (b : List UInt8) (hbl : b.length ≤ 140737488355328) (ex : Bool) (hno : ¬ PolyOk r0 r1 a0 a1 a2 held n) :
 Ct Try.prog 19 [.w (.agg (polyC r0 r1 p0 p1 a0 a1 a2 held n)), .w (.one (.pl (.R ex 1 (byteRows b))))] (fun v m => v = .tup [.agg zeroC28, .one (.pl (.i 9))]) := by
 have he := perr_no hno
 refine Ct.k Try.func19 rfl Try.ntmps19 (congrArg Array.toList Try.results19) (by simp) fun w0 ro => ?_
 refine sr_k fun K1 hK1 => ?_
 simp only [go_sem, polyC, hh, he, zeroC28]
 all_goals repeat' (first | apply And.intro | intro _)
 refine hK1 _ ?_
 refine seq_k fun N2 M2 hN2 hM2 => ?_
 refine sr_k fun K3 hK3 => ?_
 simp only [go_sem, polyC, hh, he, zeroC28]
 all_goals repeat' (first | apply And.intro | intro _)
 all_goals refine call_view (fun k => k) (fun _ _ => rfl) (by first | rfl | (simp only [go_sem, polyC, hh, he, zeroC28]; rfl) | simp only [go_sem, polyC, hh, he, zeroC28]) ((poly_fault r0 r1 p0 p1 a0 a1 a2 held hh n).plain fun _ _ h => h) ?_
 all_goals (rintro v m ⟨hR, hm⟩; subst hR; subst hm)
 all_goals refine And.intro (by first | rfl | simp only [go_sem, polyC, hh, he, zeroC28]) (And.intro (by first | rfl | simp only [go_sem, polyC, hh, he, zeroC28]) ?_)
 all_goals simp only [go_sem, polyC, hh, he, zeroC28]
 all_goals repeat' (first | apply And.intro | intro _)
 refine hK3 _ ?_
 refine sr_k fun K4 hK4 => ?_
 simp only [go_sem, polyC, hh, he, zeroC28]
 all_goals repeat' (first | apply And.intro | intro _)
 refine hK4 _ ?_
 refine condT_k (by first | rfl | (simp [go_sem, polyC, hh, he, zeroC28]; done)) ?_
 refine sr_k fun K5 hK5 => ?_
 simp only [go_sem, polyC, hh, he, zeroC28]
 all_goals repeat' (first | apply And.intro | intro _)
 refine hK5 _ ?_
 refine ret_k ?_
 refine hM2 _ _ ?_
 simp only [go_sem, polyC, hh, he, zeroC28]
 all_goals rfl
theorem r1_lt {r1 : UInt64} (h : r1 &&& ~~~1152921487695413244 = 0) : r1.toNat < 1152921504606846976 := by
 have := (mask_iff r1 1152921487695413244).mpr h
 rw [← this, UInt64.toNat_and]
 exact Nat.lt_of_le_of_lt Nat.and_le_right (by decide)
theorem st_ok {r0 r1 : UInt64} {s : PSt} (hs : s.ok) (h0 : r0 &&& ~~~1152921487695413247 = 0) (h1 : r1 &&& ~~~1152921487695413244 = 0) : PolyOk r0 r1 s.acc.a s.acc.b s.acc.c (pad16 s.rest) (s.rest.length : Nat) := by
 have := hs.1
 have hv := hs.2
 refine ⟨h0, h1, ?_, hs.2, by omega, by omega, fun j hj hl => pad16_rest (by omega) j (by simpa using hj) hl⟩
 simp only [val3, pP] at hv
 have := s.acc.a.toNat_lt; have := s.acc.b.toNat_lt
 omega
theorem len_pos {b : List UInt8} {i : Nat} (h : i < b.length) : ((i : Nat) : Int) < ((b.length : Nat) : Int) := by omega
set_option maxHeartbeats 1600000 in
set_option maxRecDepth 100000 in
theorem padd_ok (r0 r1 p0 p1 : UInt64) (s : PSt) (hs : s.ok) (hr0 : r0 &&& ~~~1152921487695413247 = 0) (hr1 : r1 &&& ~~~1152921487695413244 = 0) (b : List UInt8) (hbl : b.length ≤ 140737488355328) (ex : Bool) :
 Ct Try.prog 18 [.w (.agg (polyC r0 r1 p0 p1 s.acc.a s.acc.b s.acc.c (pad16 s.rest) (s.rest.length : Nat))), .w (.one (.pl (.R ex 1 (byteRows b))))] (fun v m => v = .tup [.agg (stC r0 r1 p0 p1 (absorb r0 r1 s b)), .one (.pl (.i 0))]) := by
 have hpl := pad16_length (r := s.rest) (by have := hs.1; omega)
 have he := perr_ok (st_ok hs hr0 hr1)
 have hr := r1_lt hr1
 refine Ct.k Try.func18 rfl Try.ntmps18 (congrArg Array.toList Try.results18) (by simp) fun w0 ro => ?_
 refine sr_k fun K1 hK1 => ?_
 simp only [go_sem, polyC, hpl, he]
 all_goals repeat' (first | apply And.intro | intro _)
 refine hK1 _ ?_
 refine seq_k fun N2 M2 hN2 hM2 => ?_
 refine sr_k fun K3 hK3 => ?_
 simp only [go_sem, polyC, hpl, he]
 all_goals repeat' (first | apply And.intro | intro _)
 all_goals refine call_view (fun k => k) (fun _ _ => rfl) (by first | rfl | (simp only [go_sem, polyC, hpl, he]; rfl) | simp only [go_sem, polyC, hpl, he]) ((poly_check r0 r1 p0 p1 s.acc.a s.acc.b s.acc.c (pad16 s.rest) hpl (s.rest.length : Nat)).plain fun _ _ h => h) ?_
 all_goals (rintro v m ⟨hR, hm⟩; subst hR; subst hm)
 all_goals refine And.intro (by first | rfl | simp only [go_sem, polyC, hpl, he]) (And.intro (by first | rfl | simp only [go_sem, polyC, hpl, he]) ?_)
 all_goals simp only [go_sem, polyC, hpl, he]
 all_goals repeat' (first | apply And.intro | intro _)
 refine hK3 _ ?_
 refine sr_k fun K4 hK4 => ?_
 simp only [go_sem, polyC, hpl, he]
 all_goals repeat' (first | apply And.intro | intro _)
 refine hK4 _ ?_
 refine condF_k (by first | rfl | (simp [go_sem, polyC, hpl, he]; done)) ?_
 refine skip_k ?_
 refine hN2 _ ?_
 refine seq_k fun N5 M5 hN5 hM5 => ?_
 refine sr_k fun K6 hK6 => ?_
 simp only [go_sem, polyC, hpl, he]
 all_goals repeat' (first | apply And.intro | intro _)
 refine hK6 _ ?_
 refine block_k fun B7 bn7 bx7 br7 bi7 => ?_
 refine ht_dropE [0, 1, 6, 9, 10, 11, 12, 13, 14] ?_
 simp only [dropE_mk, fgt_nil, fgt_cons, List.contains_cons, List.contains_nil, Nat.reduceBEq, beq_self_eq_true, Bool.or_false, Bool.or_true, Bool.true_or, Bool.false_or, Bool.false_eq_true, reduceIte]
 refine loop_k (fun y => [(17, .w (.one (.pl (.i ((y.1 : Nat) : Int)))))]) (fun y => [(2, ⟨false, stC r0 r1 p0 p1 (absorb r0 r1 s (b.take y.1))⟩)]) (fun y => b.length - y.1) (⟨0, Nat.zero_le _⟩ : {y : Nat // y ≤ b.length}) ?_ ?_ ?_
 · (simp only [go_sem, leX, List.cons_append, List.nil_append]; try simp)
 · (simp only [stC, absorb, List.take_zero, List.foldl_nil, polyC, go_sem, leX, List.cons_append, List.nil_append]; try simp [stC, absorb, polyC, leX, look])
 intro ⟨i, hi⟩ N8 M8 hN8 hM8
 simp only [List.cons_append, List.nil_append]
 have hd : (i < b.length ∧ (absorb r0 r1 s (b.take i)).rest.length = 15) ∨ (i < b.length ∧ ¬ (absorb r0 r1 s (b.take i)).rest.length = 15) ∨ i = b.length := by
  by_cases h1 : i = b.length
  · exact .inr (.inr h1)
  · by_cases h2 : (absorb r0 r1 s (b.take i)).rest.length = 15
    · exact .inl ⟨by omega, h2⟩
    · exact .inr (.inl ⟨by omega, h2⟩)
 rcases hd with ⟨hlt, h15⟩ | ⟨hlt, h15⟩ | rfl
 · obtain ⟨⟨⟨qa, qb, qc⟩, q⟩, hq⟩ : ∃ q, absorb r0 r1 s (b.take i) = q := ⟨_, rfl⟩
   have hqok : PSt.ok ⟨⟨qa, qb, qc⟩, q⟩ := hq ▸ absorb_ok hs
   have hq15 : q.length ≤ 15 := hqok.1
   have hsn := absorb_snoc (r0 := r0) (r1 := r1) (s := s) hlt
   rw [hq] at hsn
   have hpq := pad16_length (r := q) (by omega)
   have hps := pad16_set (r := q) (by omega) (b.getD i 0)
   simp only [hq, stC]
   have hcq := len_pos hlt
   have hc0 : (0 : Int) ≤ ((i : Nat) : Int) := by omega
   have hg0 := byteRows_get hlt
   have hc1 : (0 : Int) ≤ ((q.length : Nat) : Int) := by omega
   have hc2 : ((q.length : Nat) : Int) < 16 := by omega
   have hc3 : q.length + 1 ≤ 16 := by omega
   have hc4 : q.length < 16 := by omega
   have hpt := pad16_take q
   have hput : bytesC q ++ [L.pl (PL.u8 (b.getD i 0))] ++ bytesC (List.drop (q.length + 1) (pad16 q)) = bytesC (pad16 (q ++ [b.getD i 0])) := by rw [← hps]; simp [bytesC]
   have hpl2 := pad16_length (r := q ++ [b.getD i 0]) (by simp; omega)
   have hle3 : (16 ≤ q.length + 1 + (List.drop (q.length + 1) (pad16 q)).length) = True := eq_true (by rw [List.length_drop, hpq]; omega)
   obtain ⟨hs1, hs2⟩ : Go.RowKit.wrap64 (((i : Nat) : Int) + 1) = ((i + 1 : Nat) : Int) ∧ Go.RowKit.wrap64 (((q.length : Nat) : Int) + 1) = ((q.length + 1 : Nat) : Int) := ⟨wnat (by omega) (by omega), wnat (by omega) (by omega)⟩
   rw [hq] at h15
   simp only at h15
   have hq16 : (q ++ [b.getD i 0]).length = 16 := by rw [List.length_append, h15]; rfl
   have hpf : pad16 (q ++ [b.getD i 0]) = q ++ [b.getD i 0] := by rw [pad16, hq16]; simp
   have hce : ((q.length + 1 : Nat) : Int) = 16 := by omega
   have hst : stepP r0 r1 ⟨⟨qa, qb, qc⟩, q⟩ (b.getD i 0) = ⟨soakT r0 r1 ⟨qa, qb, qc⟩ (q ++ [b.getD i 0]), []⟩ := by unfold stepP; rw [if_pos h15]
   rw [hst] at hsn
   have F8 := And.intro hput <| And.intro hpl2 <| And.intro hle3 <| And.intro hcq <| And.intro hc0 <| And.intro hg0 <| And.intro hc1 <| And.intro hc2 <| And.intro hc3 <| And.intro hc4 <| And.intro hpq <| And.intro hpt <| And.intro hs1 <| And.intro hs2 <| hce
   refine sr_k fun K9 hK9 => ?_
   simp only [go_sem, polyC, hpl, he, F8]
   all_goals repeat' (first | apply And.intro | intro _)
   refine hK9 _ ?_
   refine seq_k fun N10 M10 hN10 hM10 => ?_
   refine condT_k (by first | rfl | (simp [go_sem, polyC, hpl, he, F8]; done)) ?_
   refine skip_k ?_
   refine hN10 _ ?_
   refine seq_k fun N11 M11 hN11 hM11 => ?_
   refine block_k fun B12 bn12 bx12 br12 bi12 => ?_
   refine sr_k fun K13 hK13 => ?_
   simp only [go_sem, polyC, hpl, he, F8]
   all_goals repeat' (first | apply And.intro | intro _)
   refine hK13 _ ?_
   refine sr_k fun K14 hK14 => ?_
   simp only [go_sem, polyC, hpl, he, F8]
   all_goals repeat' (first | apply And.intro | intro _)
   refine hK14 _ ?_
   refine sr_k fun K15 hK15 => ?_
   simp only [go_sem, polyC, hpl, he, F8]
   all_goals repeat' (first | apply And.intro | intro _)
   refine hK15 _ ?_
   refine sr_k fun K16 hK16 => ?_
   simp only [go_sem, polyC, hpl, he, F8]
   all_goals repeat' (first | apply And.intro | intro _)
   refine hK16 _ ?_
   refine condT_k (by first | rfl | (simp [go_sem, polyC, hpl, he, F8]; done)) ?_
   refine region_k fun K17 hK17 => ?_
   simp only [go_sem, polyC, hpl, he, F8]
   all_goals repeat' (first | apply And.intro | intro _)
   all_goals refine call_view (fun k => k) (fun _ _ => rfl) (by first | rfl | (simp only [go_sem, polyC, hpl, he, F8]; rfl) | simp only [go_sem, polyC, hpl, he, F8]) ((soak_full r0 r1 p0 p1 qa qb qc (pad16 (q ++ [b.getD i 0])) hpl2 hqok.2 hr).plain fun _ _ h => h) ?_
   all_goals (rintro v m ⟨hR, hm⟩; subst hR; subst hm)
   all_goals refine And.intro (by first | rfl | simp only [go_sem, polyC, hpl, he, F8]) (And.intro (by first | rfl | simp only [go_sem, polyC, hpl, he, F8]) ?_)
   all_goals simp only [go_sem, polyC, hpl, he, F8]
   all_goals repeat' (first | apply And.intro | intro _)
   refine hK17 _ ?_
   refine bn12 _ ?_
   refine hN11 _ ?_
   refine region_k fun K18 hK18 => ?_
   simp only [go_sem, polyC, hpl, he, F8]
   all_goals repeat' (first | apply And.intro | intro _)
   refine hK18 _ ?_
   refine hN8 ⟨i + 1, hlt⟩ _ ?_ ?_ ?_
   · (show b.length - (i + 1) < b.length - i; clear hs1 hs2; omega)
   · (simp only [go_sem, leX, List.cons_append, List.nil_append]; try simp)
   · (simp only [hsn, hpf, stC, polyC, soakT, go_sem, leX, List.cons_append, List.nil_append]; first | done | (simp [hsn, hpf, stC, polyC, soakT, pad16, leX, look]; done) | rfl)
 · obtain ⟨⟨⟨qa, qb, qc⟩, q⟩, hq⟩ : ∃ q, absorb r0 r1 s (b.take i) = q := ⟨_, rfl⟩
   have hqok : PSt.ok ⟨⟨qa, qb, qc⟩, q⟩ := hq ▸ absorb_ok hs
   have hq15 : q.length ≤ 15 := hqok.1
   have hsn := absorb_snoc (r0 := r0) (r1 := r1) (s := s) hlt
   rw [hq] at hsn
   have hpq := pad16_length (r := q) (by omega)
   have hps := pad16_set (r := q) (by omega) (b.getD i 0)
   simp only [hq, stC]
   have hcq := len_pos hlt
   have hc0 : (0 : Int) ≤ ((i : Nat) : Int) := by omega
   have hg0 := byteRows_get hlt
   have hc1 : (0 : Int) ≤ ((q.length : Nat) : Int) := by omega
   have hc2 : ((q.length : Nat) : Int) < 16 := by omega
   have hc3 : q.length + 1 ≤ 16 := by omega
   have hc4 : q.length < 16 := by omega
   have hpt := pad16_take q
   have hput : bytesC q ++ [L.pl (PL.u8 (b.getD i 0))] ++ bytesC (List.drop (q.length + 1) (pad16 q)) = bytesC (pad16 (q ++ [b.getD i 0])) := by rw [← hps]; simp [bytesC]
   have hpl2 := pad16_length (r := q ++ [b.getD i 0]) (by simp; omega)
   have hle3 : (16 ≤ q.length + 1 + (List.drop (q.length + 1) (pad16 q)).length) = True := eq_true (by rw [List.length_drop, hpq]; omega)
   obtain ⟨hs1, hs2⟩ : Go.RowKit.wrap64 (((i : Nat) : Int) + 1) = ((i + 1 : Nat) : Int) ∧ Go.RowKit.wrap64 (((q.length : Nat) : Int) + 1) = ((q.length + 1 : Nat) : Int) := ⟨wnat (by omega) (by omega), wnat (by omega) (by omega)⟩
   rw [hq] at h15
   simp only at h15
   have hce : (((q.length + 1 : Nat) : Int) = 16) = False := eq_false (by omega)
   have hst : stepP r0 r1 ⟨⟨qa, qb, qc⟩, q⟩ (b.getD i 0) = ⟨⟨qa, qb, qc⟩, q ++ [b.getD i 0]⟩ := by unfold stepP; rw [if_neg h15]
   rw [hst] at hsn
   have F18 := And.intro hput <| And.intro hpl2 <| And.intro hle3 <| And.intro hcq <| And.intro hc0 <| And.intro hg0 <| And.intro hc1 <| And.intro hc2 <| And.intro hc3 <| And.intro hc4 <| And.intro hpq <| And.intro hpt <| And.intro hs1 <| And.intro hs2 <| hce
   refine sr_k fun K19 hK19 => ?_
   simp only [go_sem, polyC, hpl, he, F18]
   all_goals repeat' (first | apply And.intro | intro _)
   refine hK19 _ ?_
   refine seq_k fun N20 M20 hN20 hM20 => ?_
   refine condT_k (by first | rfl | (simp [go_sem, polyC, hpl, he, F18]; done)) ?_
   refine skip_k ?_
   refine hN20 _ ?_
   refine seq_k fun N21 M21 hN21 hM21 => ?_
   refine block_k fun B22 bn22 bx22 br22 bi22 => ?_
   refine sr_k fun K23 hK23 => ?_
   simp only [go_sem, polyC, hpl, he, F18]
   all_goals repeat' (first | apply And.intro | intro _)
   refine hK23 _ ?_
   refine sr_k fun K24 hK24 => ?_
   simp only [go_sem, polyC, hpl, he, F18]
   all_goals repeat' (first | apply And.intro | intro _)
   refine hK24 _ ?_
   refine sr_k fun K25 hK25 => ?_
   simp only [go_sem, polyC, hpl, he, F18]
   all_goals repeat' (first | apply And.intro | intro _)
   refine hK25 _ ?_
   refine sr_k fun K26 hK26 => ?_
   simp only [go_sem, polyC, hpl, he, F18]
   all_goals repeat' (first | apply And.intro | intro _)
   refine hK26 _ ?_
   refine condF_k (by first | rfl | (simp [go_sem, polyC, hpl, he, F18]; done)) ?_
   refine skip_k ?_
   refine bn22 _ ?_
   refine hN21 _ ?_
   refine region_k fun K27 hK27 => ?_
   simp only [go_sem, polyC, hpl, he, F18]
   all_goals repeat' (first | apply And.intro | intro _)
   refine hK27 _ ?_
   refine hN8 ⟨i + 1, hlt⟩ _ ?_ ?_ ?_
   · (show b.length - (i + 1) < b.length - i; clear hs1 hs2; omega)
   · (simp only [go_sem, leX, List.cons_append, List.nil_append]; try simp)
   · (simp only [hsn, stC, polyC, go_sem, leX, List.cons_append, List.nil_append]; first | done | (simp [hsn, stC, polyC, leX, look]; done) | rfl)
 · obtain ⟨⟨⟨qa, qb, qc⟩, q⟩, hq⟩ : ∃ q, absorb r0 r1 s (b.take b.length) = q := ⟨_, rfl⟩
   have hqok : PSt.ok ⟨⟨qa, qb, qc⟩, q⟩ := hq ▸ absorb_ok hs
   have hq15 : q.length ≤ 15 := hqok.1
   have hpq := pad16_length (r := q) (by omega)
   simp only [hq, stC]
   rw [List.take_length] at hq
   have hcq : ¬ ((b.length : Nat) : Int) < ((b.length : Nat) : Int) := by omega

   refine sr_k fun K28 hK28 => ?_
   simp only [go_sem, polyC, hpl, he, hcq, hpq]
   all_goals repeat' (first | apply And.intro | intro _)
   refine hK28 _ ?_
   refine seq_k fun N29 M29 hN29 hM29 => ?_
   refine condF_k (by first | rfl | (simp [go_sem, polyC, hpl, he, hcq, hpq]; done)) ?_
   refine exit_k ?_
   refine hM29 _ _ ?_
   refine hM8 _ _ ?_
   refine bx7 _ ?_
   refine hN5 _ ?_
   refine sr_k fun K30 hK30 => ?_
   simp only [go_sem, polyC, hpl, he, hcq, hpq]
   all_goals repeat' (first | apply And.intro | intro _)
   refine hK30 _ ?_
   refine ret_k ?_
   simp only [go_sem, polyC, hpl, he, hcq, hpq]
   all_goals (rw [hq]; simp only [stC, polyC])
end Go.Sy
