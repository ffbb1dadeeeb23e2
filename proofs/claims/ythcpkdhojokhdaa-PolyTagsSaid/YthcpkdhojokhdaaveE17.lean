/- Walks: the end of a sum. -/
import Derived.Test.YthcpkdhojokhdaaveE14
import Derived.Test.YthcpkdhojokhdaavP8
set_option linter.unusedVariables false
set_option linter.unusedSimpArgs false
namespace Go.Sy
open Go.Proofs
attribute [local irreducible] atCall HT runOps runD onC onE onO onG goV goA goS onSt onGuard
theorem soak_part (r0 r1 p0 p1 a0 a1 a2 : UInt64) (held : List UInt8) (hh : held.length = 16) (ha : val3 a0 a1 a2 < pP) (hr : r1.toNat < 1152921504606846976) (k : Nat) (hk : k < 16) (hz : ∀ j, k ≤ j → j < 16 → held.getD j 0 = 0) : Ct Try.prog 44 [.w (.agg (polyC r0 r1 p0 p1 a0 a1 a2 held (k : Int)))] (fun v m => v = .w (.agg (polyC r0 r1 p0 p1 (sp0 (soakV a0 a1 a2 r0 r1 (held.take k))) (sp1 (soakV a0 a1 a2 r0 r1 (held.take k))) (sp2 (soakV a0 a1 a2 r0 r1 (held.take k))) (List.replicate 16 0) 0))) := by
 rcases Nat.lt_or_ge k 8 with h8 | h8
 · exact soak_lo r0 r1 p0 p1 a0 a1 a2 held hh ha hr k hk hz h8
 · exact soak_hi r0 r1 p0 p1 a0 a1 a2 held hh ha hr k hk hz h8
theorem z16 : bytesC (List.replicate 16 0) = [.pl (.u8 0), .pl (.u8 0), .pl (.u8 0), .pl (.u8 0), .pl (.u8 0), .pl (.u8 0), .pl (.u8 0), .pl (.u8 0), .pl (.u8 0), .pl (.u8 0), .pl (.u8 0), .pl (.u8 0), .pl (.u8 0), .pl (.u8 0), .pl (.u8 0), .pl (.u8 0)] := rfl
set_option maxHeartbeats 400000 in
theorem pend_bad (r0 r1 p0 p1 a0 a1 a2 : UInt64) (held : List UInt8) (hh : held.length = 16) (n : Int) (hno : ¬ PolyOk r0 r1 a0 a1 a2 held n) :
 Ct Try.prog 20 [.w (.agg (polyC r0 r1 p0 p1 a0 a1 a2 held n))] (fun v m => v = .tup [.agg (bytesC (List.replicate 16 0)), .one (.pl (.i 9))]) := by
 have he := perr_no hno
 refine Ct.k Try.func20 rfl Try.ntmps20 (congrArg Array.toList Try.results20) (by simp) fun w0 ro => ?_
 refine sr_k fun K1 hK1 => ?_
 simp only [go_sem, polyC, hh, he]
 all_goals repeat' (first | apply And.intro | intro _)
 refine hK1 _ ?_
 refine seq_k fun N2 M2 hN2 hM2 => ?_
 refine sr_k fun K3 hK3 => ?_
 simp only [go_sem, polyC, hh, he]
 all_goals repeat' (first | apply And.intro | intro _)
 all_goals refine call_view (fun k => k) (fun _ _ => rfl) (by first | rfl | (simp only [go_sem, polyC, hh, he]; rfl) | simp only [go_sem, polyC, hh, he]) ((poly_check r0 r1 p0 p1 a0 a1 a2 held hh n).plain fun _ _ h => h) ?_
 all_goals (rintro v m ⟨hR, hm⟩; subst hR; subst hm)
 all_goals refine And.intro (by first | rfl | simp only [go_sem, polyC, hh, he]) (And.intro (by first | rfl | simp only [go_sem, polyC, hh, he]) ?_)
 all_goals simp only [go_sem, polyC, hh, he]
 all_goals repeat' (first | apply And.intro | intro _)
 refine hK3 _ ?_
 refine sr_k fun K4 hK4 => ?_
 simp only [go_sem, polyC, hh, he]
 all_goals repeat' (first | apply And.intro | intro _)
 refine hK4 _ ?_
 refine condT_k (by first | rfl | (simp [go_sem, polyC, hh, he]; done)) ?_
 refine sr_k fun K5 hK5 => ?_
 simp only [go_sem, polyC, hh, he]
 all_goals repeat' (first | apply And.intro | intro _)
 refine hK5 _ ?_
 refine ret_k ?_
 refine hM2 _ _ ?_
 simp only [go_sem, polyC, hh, he]
 all_goals rfl
set_option maxHeartbeats 400000 in
theorem pended_bad (r0 r1 p0 p1 a0 a1 a2 : UInt64) (held : List UInt8) (hh : held.length = 16) (n : Int) (hno : ¬ PolyOk r0 r1 a0 a1 a2 held n) :
 Ct Try.prog 21 [.w (.agg (polyC r0 r1 p0 p1 a0 a1 a2 held n))] (fun v m => v = .tup [.agg (bytesC (List.replicate 16 0)), .one (.pl (.i 9))]) := by
 have he := perr_no hno
 refine Ct.k Try.func21 rfl Try.ntmps21 (congrArg Array.toList Try.results21) (by simp) fun w0 ro => ?_
 refine sr_k fun K1 hK1 => ?_
 simp only [go_sem, polyC, hh, he]
 all_goals repeat' (first | apply And.intro | intro _)
 refine hK1 _ ?_
 refine seq_k fun N2 M2 hN2 hM2 => ?_
 refine sr_k fun K3 hK3 => ?_
 simp only [go_sem, polyC, hh, he]
 all_goals repeat' (first | apply And.intro | intro _)
 all_goals refine call_view (fun k => k) (fun _ _ => rfl) (by first | rfl | (simp only [go_sem, polyC, hh, he]; rfl) | simp only [go_sem, polyC, hh, he]) ((poly_fault r0 r1 p0 p1 a0 a1 a2 held hh n).plain fun _ _ h => h) ?_
 all_goals (rintro v m ⟨hR, hm⟩; subst hR; subst hm)
 all_goals refine And.intro (by first | rfl | simp only [go_sem, polyC, hh, he]) (And.intro (by first | rfl | simp only [go_sem, polyC, hh, he]) ?_)
 all_goals simp only [go_sem, polyC, hh, he]
 all_goals repeat' (first | apply And.intro | intro _)
 refine hK3 _ ?_
 refine sr_k fun K4 hK4 => ?_
 simp only [go_sem, polyC, hh, he]
 all_goals repeat' (first | apply And.intro | intro _)
 refine hK4 _ ?_
 refine condT_k (by first | rfl | (simp [go_sem, polyC, hh, he]; done)) ?_
 refine sr_k fun K5 hK5 => ?_
 simp only [go_sem, polyC, hh, he]
 all_goals repeat' (first | apply And.intro | intro _)
 refine hK5 _ ?_
 refine ret_k ?_
 refine hM2 _ _ ?_
 simp only [go_sem, polyC, hh, he]
 all_goals rfl
set_option maxHeartbeats 1600000 in
set_option maxRecDepth 100000 in
theorem pend_z (r0 r1 p0 p1 : UInt64) (s : PSt) (hs : s.ok) (hr0 : r0 &&& ~~~1152921487695413247 = 0) (hr1 : r1 &&& ~~~1152921487695413244 = 0) (h0 : s.rest.length = 0) :
 Ct Try.prog 20 [.w (.agg (polyC r0 r1 p0 p1 s.acc.a s.acc.b s.acc.c (pad16 s.rest) (s.rest.length : Nat)))] (fun v m => v = .tup [.agg (bytesC (endV (finA r0 r1 s).a (finA r0 r1 s).b p0 p1)), .one (.pl (.i 0))]) := by
 have h15 := hs.1
 have hpl := pad16_length (r := s.rest) (by omega)
 have hpt := pad16_take s.rest
 have hpz := pad16_rest (r := s.rest) (by omega)
 have he := perr_ok (st_ok hs hr0 hr1)
 have hr := r1_lt hr1
 have hfa : finA r0 r1 s = s.acc := if_pos h0
 have hn0 : ¬ (0 : Int) < ((s.rest.length : Nat) : Int) := by omega
 have F0 := And.intro hpl <| And.intro hpt <| And.intro he <| hn0
 refine Ct.k Try.func20 rfl Try.ntmps20 (congrArg Array.toList Try.results20) (by simp) fun w0 ro => ?_
 refine sr_k fun K1 hK1 => ?_
 simp only [go_sem, polyC, z16, ic0, ic1, ic2, ic3, ic4, ic5, F0]
 all_goals repeat' (first | apply And.intro | intro _)
 refine hK1 _ ?_
 refine seq_k fun N2 M2 hN2 hM2 => ?_
 refine sr_k fun K3 hK3 => ?_
 simp only [go_sem, polyC, z16, ic0, ic1, ic2, ic3, ic4, ic5, F0]
 all_goals repeat' (first | apply And.intro | intro _)
 all_goals refine call_view (fun k => k) (fun _ _ => rfl) (by first | rfl | (simp only [go_sem, polyC, z16, ic0, ic1, ic2, ic3, ic4, ic5, F0]; rfl) | simp only [go_sem, polyC, z16, ic0, ic1, ic2, ic3, ic4, ic5, F0]) ((poly_check r0 r1 p0 p1 s.acc.a s.acc.b s.acc.c (pad16 s.rest) hpl (s.rest.length : Nat)).plain fun _ _ h => h) ?_
 all_goals (rintro v m ⟨hR, hm⟩; subst hR; subst hm)
 all_goals refine And.intro (by first | rfl | simp only [go_sem, polyC, z16, ic0, ic1, ic2, ic3, ic4, ic5, F0]) (And.intro (by first | rfl | simp only [go_sem, polyC, z16, ic0, ic1, ic2, ic3, ic4, ic5, F0]) ?_)
 all_goals simp only [go_sem, polyC, z16, ic0, ic1, ic2, ic3, ic4, ic5, F0]
 all_goals repeat' (first | apply And.intro | intro _)
 refine hK3 _ ?_
 refine sr_k fun K4 hK4 => ?_
 simp only [go_sem, polyC, z16, ic0, ic1, ic2, ic3, ic4, ic5, F0]
 all_goals repeat' (first | apply And.intro | intro _)
 refine hK4 _ ?_
 refine condF_k (by first | rfl | (simp [go_sem, polyC, z16, ic0, ic1, ic2, ic3, ic4, ic5, F0]; done)) ?_
 refine skip_k ?_
 refine hN2 _ ?_
 refine seq_k fun N5 M5 hN5 hM5 => ?_
 refine sr_k fun K6 hK6 => ?_
 simp only [go_sem, polyC, z16, ic0, ic1, ic2, ic3, ic4, ic5, F0]
 all_goals repeat' (first | apply And.intro | intro _)
 refine hK6 _ ?_
 refine condF_k (by first | rfl | (simp [go_sem, polyC, z16, ic0, ic1, ic2, ic3, ic4, ic5, F0]; done)) ?_
 refine skip_k ?_
 refine hN5 _ ?_
 refine sr_k fun K7 hK7 => ?_
 simp only [go_sem, polyC, z16, ic0, ic1, ic2, ic3, ic4, ic5, F0]
 all_goals repeat' (first | apply And.intro | intro _)
 all_goals refine call_now (by first | rfl | (simp only [go_sem, polyC, z16, ic0, ic1, ic2, ic3, ic4, ic5, F0]; rfl) | simp only [go_sem, polyC, z16, ic0, ic1, ic2, ic3, ic4, ic5, F0]) (now_add64 _ _ _ (by first | decide | exact (ad_val _ _ (by decide)).2 | exact (ad_val _ _ ((ad_val _ _ (by decide)).2)).2)) ?_
 all_goals simp only [go_sem, polyC, z16, ic0, ic1, ic2, ic3, ic4, ic5, F0]
 all_goals repeat' (first | apply And.intro | intro _)
 refine hK7 _ ?_
 refine sr_k fun K8 hK8 => ?_
 simp only [go_sem, polyC, z16, ic0, ic1, ic2, ic3, ic4, ic5, F0]
 all_goals repeat' (first | apply And.intro | intro _)
 all_goals refine call_now (by first | rfl | (simp only [go_sem, polyC, z16, ic0, ic1, ic2, ic3, ic4, ic5, F0]; rfl) | simp only [go_sem, polyC, z16, ic0, ic1, ic2, ic3, ic4, ic5, F0]) (now_add64 _ _ _ (by first | decide | exact (ad_val _ _ (by decide)).2 | exact (ad_val _ _ ((ad_val _ _ (by decide)).2)).2)) ?_
 all_goals simp only [go_sem, polyC, z16, ic0, ic1, ic2, ic3, ic4, ic5, F0]
 all_goals repeat' (first | apply And.intro | intro _)
 refine hK8 _ ?_
 refine sr_k fun K9 hK9 => ?_
 simp only [go_sem, polyC, z16, ic0, ic1, ic2, ic3, ic4, ic5, F0]
 all_goals repeat' (first | apply And.intro | intro _)
 refine hK9 _ ?_
 refine seq_k fun N10 M10 hN10 hM10 => ?_
 refine sr_k fun K11 hK11 => ?_
 simp only [go_sem, polyC, z16, ic0, ic1, ic2, ic3, ic4, ic5, F0]
 all_goals repeat' (first | apply And.intro | intro _)
 refine hK11 _ ?_
 refine block_k fun B12 bn12 bx12 br12 bi12 => ?_
 refine rounds_k 9 ?_
 refine rnd_k fun N14 M14 hN14 hM14 => ?_
 refine sr_k fun K15 hK15 => ?_
 simp only [go_sem, polyC, z16, ic0, ic1, ic2, ic3, ic4, ic5, F0]
 all_goals repeat' (first | apply And.intro | intro _)
 refine hK15 _ ?_
 refine seq_k fun N16 M16 hN16 hM16 => ?_
 refine condT_k (by first | rfl | (simp [go_sem, polyC, z16, ic0, ic1, ic2, ic3, ic4, ic5, F0]; done)) ?_
 refine skip_k ?_
 refine hN16 _ ?_
 refine seq_k fun N17 M17 hN17 hM17 => ?_
 refine block_k fun B18 bn18 bx18 br18 bi18 => ?_
 refine sr_k fun K19 hK19 => ?_
 simp only [go_sem, polyC, z16, ic0, ic1, ic2, ic3, ic4, ic5, F0]
 all_goals repeat' (first | apply And.intro | intro _)
 refine hK19 _ ?_
 refine draw_k [46, 47, 48, 49, 50, 51, 52, 53, 54, 55, 56, 57, 58, 59, 60] [0, 0, 2, 0, 0, 16, 56, 120, 0, 0, 512, 1792, 3840, 249, 8441, 32767, 65535] [(1, 14), (2, 14), (8, 14), (9, 14), (10, 14), (11, 14), (12, 14)] mixed (by kernel_rfl) (by simp only [go_sem]) fun K20 hK20 => ?_
 simp only [go_sem, polyC, z16, ic0, ic1, ic2, ic3, ic4, ic5, F0]
 all_goals repeat' (first | apply And.intro | intro _)
 refine hK20 _ _ ?_ ?_
 · first | trivial | (simp only [go_sem]; done) | (simp only [go_sem]; simp; done) | (simp only [go_sem]; simp; simp only [go_sem])
 refine bn18 _ ?_
 refine hN17 _ ?_
 refine region_k fun K21 hK21 => ?_
 simp only [go_sem, polyC, z16, ic0, ic1, ic2, ic3, ic4, ic5, F0]
 all_goals repeat' (first | apply And.intro | intro _)
 refine hK21 _ ?_
 refine hN14 _ ?_
 refine rnd_forget [10, 44, 45, 46, 47, 48, 49, 50, 51, 52, 53, 54, 55, 56, 57, 58, 59, 60, 61] ?_
 simp only [go_sem, St.forget, fgt]
 refine rnd_k fun N22 M22 hN22 hM22 => ?_
 refine sr_k fun K23 hK23 => ?_
 simp only [go_sem, polyC, z16, ic0, ic1, ic2, ic3, ic4, ic5, F0]
 all_goals repeat' (first | apply And.intro | intro _)
 refine hK23 _ ?_
 refine seq_k fun N24 M24 hN24 hM24 => ?_
 refine condT_k (by first | rfl | (simp [go_sem, polyC, z16, ic0, ic1, ic2, ic3, ic4, ic5, F0]; done)) ?_
 refine skip_k ?_
 refine hN24 _ ?_
 refine seq_k fun N25 M25 hN25 hM25 => ?_
 refine block_k fun B26 bn26 bx26 br26 bi26 => ?_
 refine sr_k fun K27 hK27 => ?_
 simp only [go_sem, polyC, z16, ic0, ic1, ic2, ic3, ic4, ic5, F0]
 all_goals repeat' (first | apply And.intro | intro _)
 refine hK27 _ ?_
 refine draw_k [46, 47, 48, 49, 50, 51, 52, 53, 54, 55, 56, 57, 58, 59, 60] [0, 0, 2, 0, 0, 16, 56, 120, 0, 0, 512, 1792, 3840, 249, 8441, 32767, 65535] [(1, 14), (2, 14), (8, 14), (9, 14), (10, 14), (11, 14), (12, 14)] mixed (by kernel_rfl) (by simp only [go_sem]) fun K28 hK28 => ?_
 simp only [go_sem, polyC, z16, ic0, ic1, ic2, ic3, ic4, ic5, F0]
 all_goals repeat' (first | apply And.intro | intro _)
 refine hK28 _ _ ?_ ?_
 · first | trivial | (simp only [go_sem]; done) | (simp only [go_sem]; simp; done) | (simp only [go_sem]; simp; simp only [go_sem])
 refine bn26 _ ?_
 refine hN25 _ ?_
 refine region_k fun K29 hK29 => ?_
 simp only [go_sem, polyC, z16, ic0, ic1, ic2, ic3, ic4, ic5, F0]
 all_goals repeat' (first | apply And.intro | intro _)
 refine hK29 _ ?_
 refine hN22 _ ?_
 refine rnd_forget [10, 44, 45, 46, 47, 48, 49, 50, 51, 52, 53, 54, 55, 56, 57, 58, 59, 60, 61] ?_
 simp only [go_sem, St.forget, fgt]
 refine rnd_k fun N30 M30 hN30 hM30 => ?_
 refine sr_k fun K31 hK31 => ?_
 simp only [go_sem, polyC, z16, ic0, ic1, ic2, ic3, ic4, ic5, F0]
 all_goals repeat' (first | apply And.intro | intro _)
 refine hK31 _ ?_
 refine seq_k fun N32 M32 hN32 hM32 => ?_
 refine condT_k (by first | rfl | (simp [go_sem, polyC, z16, ic0, ic1, ic2, ic3, ic4, ic5, F0]; done)) ?_
 refine skip_k ?_
 refine hN32 _ ?_
 refine seq_k fun N33 M33 hN33 hM33 => ?_
 refine block_k fun B34 bn34 bx34 br34 bi34 => ?_
 refine sr_k fun K35 hK35 => ?_
 simp only [go_sem, polyC, z16, ic0, ic1, ic2, ic3, ic4, ic5, F0]
 all_goals repeat' (first | apply And.intro | intro _)
 refine hK35 _ ?_
 refine draw_k [46, 47, 48, 49, 50, 51, 52, 53, 54, 55, 56, 57, 58, 59, 60] [0, 0, 2, 0, 0, 16, 56, 120, 0, 0, 512, 1792, 3840, 249, 8441, 32767, 65535] [(1, 14), (2, 14), (8, 14), (9, 14), (10, 14), (11, 14), (12, 14)] mixed (by kernel_rfl) (by simp only [go_sem]) fun K36 hK36 => ?_
 simp only [go_sem, polyC, z16, ic0, ic1, ic2, ic3, ic4, ic5, F0]
 all_goals repeat' (first | apply And.intro | intro _)
 refine hK36 _ _ ?_ ?_
 · first | trivial | (simp only [go_sem]; done) | (simp only [go_sem]; simp; done) | (simp only [go_sem]; simp; simp only [go_sem])
 refine bn34 _ ?_
 refine hN33 _ ?_
 refine region_k fun K37 hK37 => ?_
 simp only [go_sem, polyC, z16, ic0, ic1, ic2, ic3, ic4, ic5, F0]
 all_goals repeat' (first | apply And.intro | intro _)
 refine hK37 _ ?_
 refine hN30 _ ?_
 refine rnd_forget [10, 44, 45, 46, 47, 48, 49, 50, 51, 52, 53, 54, 55, 56, 57, 58, 59, 60, 61] ?_
 simp only [go_sem, St.forget, fgt]
 refine rnd_k fun N38 M38 hN38 hM38 => ?_
 refine sr_k fun K39 hK39 => ?_
 simp only [go_sem, polyC, z16, ic0, ic1, ic2, ic3, ic4, ic5, F0]
 all_goals repeat' (first | apply And.intro | intro _)
 refine hK39 _ ?_
 refine seq_k fun N40 M40 hN40 hM40 => ?_
 refine condT_k (by first | rfl | (simp [go_sem, polyC, z16, ic0, ic1, ic2, ic3, ic4, ic5, F0]; done)) ?_
 refine skip_k ?_
 refine hN40 _ ?_
 refine seq_k fun N41 M41 hN41 hM41 => ?_
 refine block_k fun B42 bn42 bx42 br42 bi42 => ?_
 refine sr_k fun K43 hK43 => ?_
 simp only [go_sem, polyC, z16, ic0, ic1, ic2, ic3, ic4, ic5, F0]
 all_goals repeat' (first | apply And.intro | intro _)
 refine hK43 _ ?_
 refine draw_k [46, 47, 48, 49, 50, 51, 52, 53, 54, 55, 56, 57, 58, 59, 60] [0, 0, 2, 0, 0, 16, 56, 120, 0, 0, 512, 1792, 3840, 249, 8441, 32767, 65535] [(1, 14), (2, 14), (8, 14), (9, 14), (10, 14), (11, 14), (12, 14)] mixed (by kernel_rfl) (by simp only [go_sem]) fun K44 hK44 => ?_
 simp only [go_sem, polyC, z16, ic0, ic1, ic2, ic3, ic4, ic5, F0]
 all_goals repeat' (first | apply And.intro | intro _)
 refine hK44 _ _ ?_ ?_
 · first | trivial | (simp only [go_sem]; done) | (simp only [go_sem]; simp; done) | (simp only [go_sem]; simp; simp only [go_sem])
 refine bn42 _ ?_
 refine hN41 _ ?_
 refine region_k fun K45 hK45 => ?_
 simp only [go_sem, polyC, z16, ic0, ic1, ic2, ic3, ic4, ic5, F0]
 all_goals repeat' (first | apply And.intro | intro _)
 refine hK45 _ ?_
 refine hN38 _ ?_
 refine rnd_forget [10, 44, 45, 46, 47, 48, 49, 50, 51, 52, 53, 54, 55, 56, 57, 58, 59, 60, 61] ?_
 simp only [go_sem, St.forget, fgt]
 refine rnd_k fun N46 M46 hN46 hM46 => ?_
 refine sr_k fun K47 hK47 => ?_
 simp only [go_sem, polyC, z16, ic0, ic1, ic2, ic3, ic4, ic5, F0]
 all_goals repeat' (first | apply And.intro | intro _)
 refine hK47 _ ?_
 refine seq_k fun N48 M48 hN48 hM48 => ?_
 refine condT_k (by first | rfl | (simp [go_sem, polyC, z16, ic0, ic1, ic2, ic3, ic4, ic5, F0]; done)) ?_
 refine skip_k ?_
 refine hN48 _ ?_
 refine seq_k fun N49 M49 hN49 hM49 => ?_
 refine block_k fun B50 bn50 bx50 br50 bi50 => ?_
 refine sr_k fun K51 hK51 => ?_
 simp only [go_sem, polyC, z16, ic0, ic1, ic2, ic3, ic4, ic5, F0]
 all_goals repeat' (first | apply And.intro | intro _)
 refine hK51 _ ?_
 refine draw_k [46, 47, 48, 49, 50, 51, 52, 53, 54, 55, 56, 57, 58, 59, 60] [0, 0, 2, 0, 0, 16, 56, 120, 0, 0, 512, 1792, 3840, 249, 8441, 32767, 65535] [(1, 14), (2, 14), (8, 14), (9, 14), (10, 14), (11, 14), (12, 14)] mixed (by kernel_rfl) (by simp only [go_sem]) fun K52 hK52 => ?_
 simp only [go_sem, polyC, z16, ic0, ic1, ic2, ic3, ic4, ic5, F0]
 all_goals repeat' (first | apply And.intro | intro _)
 refine hK52 _ _ ?_ ?_
 · first | trivial | (simp only [go_sem]; done) | (simp only [go_sem]; simp; done) | (simp only [go_sem]; simp; simp only [go_sem])
 refine bn50 _ ?_
 refine hN49 _ ?_
 refine region_k fun K53 hK53 => ?_
 simp only [go_sem, polyC, z16, ic0, ic1, ic2, ic3, ic4, ic5, F0]
 all_goals repeat' (first | apply And.intro | intro _)
 refine hK53 _ ?_
 refine hN46 _ ?_
 refine rnd_forget [10, 44, 45, 46, 47, 48, 49, 50, 51, 52, 53, 54, 55, 56, 57, 58, 59, 60, 61] ?_
 simp only [go_sem, St.forget, fgt]
 refine rnd_k fun N54 M54 hN54 hM54 => ?_
 refine sr_k fun K55 hK55 => ?_
 simp only [go_sem, polyC, z16, ic0, ic1, ic2, ic3, ic4, ic5, F0]
 all_goals repeat' (first | apply And.intro | intro _)
 refine hK55 _ ?_
 refine seq_k fun N56 M56 hN56 hM56 => ?_
 refine condT_k (by first | rfl | (simp [go_sem, polyC, z16, ic0, ic1, ic2, ic3, ic4, ic5, F0]; done)) ?_
 refine skip_k ?_
 refine hN56 _ ?_
 refine seq_k fun N57 M57 hN57 hM57 => ?_
 refine block_k fun B58 bn58 bx58 br58 bi58 => ?_
 refine sr_k fun K59 hK59 => ?_
 simp only [go_sem, polyC, z16, ic0, ic1, ic2, ic3, ic4, ic5, F0]
 all_goals repeat' (first | apply And.intro | intro _)
 refine hK59 _ ?_
 refine draw_k [46, 47, 48, 49, 50, 51, 52, 53, 54, 55, 56, 57, 58, 59, 60] [0, 0, 2, 0, 0, 16, 56, 120, 0, 0, 512, 1792, 3840, 249, 8441, 32767, 65535] [(1, 14), (2, 14), (8, 14), (9, 14), (10, 14), (11, 14), (12, 14)] mixed (by kernel_rfl) (by simp only [go_sem]) fun K60 hK60 => ?_
 simp only [go_sem, polyC, z16, ic0, ic1, ic2, ic3, ic4, ic5, F0]
 all_goals repeat' (first | apply And.intro | intro _)
 refine hK60 _ _ ?_ ?_
 · first | trivial | (simp only [go_sem]; done) | (simp only [go_sem]; simp; done) | (simp only [go_sem]; simp; simp only [go_sem])
 refine bn58 _ ?_
 refine hN57 _ ?_
 refine region_k fun K61 hK61 => ?_
 simp only [go_sem, polyC, z16, ic0, ic1, ic2, ic3, ic4, ic5, F0]
 all_goals repeat' (first | apply And.intro | intro _)
 refine hK61 _ ?_
 refine hN54 _ ?_
 refine rnd_forget [10, 44, 45, 46, 47, 48, 49, 50, 51, 52, 53, 54, 55, 56, 57, 58, 59, 60, 61] ?_
 simp only [go_sem, St.forget, fgt]
 refine rnd_k fun N62 M62 hN62 hM62 => ?_
 refine sr_k fun K63 hK63 => ?_
 simp only [go_sem, polyC, z16, ic0, ic1, ic2, ic3, ic4, ic5, F0]
 all_goals repeat' (first | apply And.intro | intro _)
 refine hK63 _ ?_
 refine seq_k fun N64 M64 hN64 hM64 => ?_
 refine condT_k (by first | rfl | (simp [go_sem, polyC, z16, ic0, ic1, ic2, ic3, ic4, ic5, F0]; done)) ?_
 refine skip_k ?_
 refine hN64 _ ?_
 refine seq_k fun N65 M65 hN65 hM65 => ?_
 refine block_k fun B66 bn66 bx66 br66 bi66 => ?_
 refine sr_k fun K67 hK67 => ?_
 simp only [go_sem, polyC, z16, ic0, ic1, ic2, ic3, ic4, ic5, F0]
 all_goals repeat' (first | apply And.intro | intro _)
 refine hK67 _ ?_
 refine draw_k [46, 47, 48, 49, 50, 51, 52, 53, 54, 55, 56, 57, 58, 59, 60] [0, 0, 2, 0, 0, 16, 56, 120, 0, 0, 512, 1792, 3840, 249, 8441, 32767, 65535] [(1, 14), (2, 14), (8, 14), (9, 14), (10, 14), (11, 14), (12, 14)] mixed (by kernel_rfl) (by simp only [go_sem]) fun K68 hK68 => ?_
 simp only [go_sem, polyC, z16, ic0, ic1, ic2, ic3, ic4, ic5, F0]
 all_goals repeat' (first | apply And.intro | intro _)
 refine hK68 _ _ ?_ ?_
 · first | trivial | (simp only [go_sem]; done) | (simp only [go_sem]; simp; done) | (simp only [go_sem]; simp; simp only [go_sem])
 refine bn66 _ ?_
 refine hN65 _ ?_
 refine region_k fun K69 hK69 => ?_
 simp only [go_sem, polyC, z16, ic0, ic1, ic2, ic3, ic4, ic5, F0]
 all_goals repeat' (first | apply And.intro | intro _)
 refine hK69 _ ?_
 refine hN62 _ ?_
 refine rnd_forget [10, 44, 45, 46, 47, 48, 49, 50, 51, 52, 53, 54, 55, 56, 57, 58, 59, 60, 61] ?_
 simp only [go_sem, St.forget, fgt]
 refine rnd_k fun N70 M70 hN70 hM70 => ?_
 refine sr_k fun K71 hK71 => ?_
 simp only [go_sem, polyC, z16, ic0, ic1, ic2, ic3, ic4, ic5, F0]
 all_goals repeat' (first | apply And.intro | intro _)
 refine hK71 _ ?_
 refine seq_k fun N72 M72 hN72 hM72 => ?_
 refine condT_k (by first | rfl | (simp [go_sem, polyC, z16, ic0, ic1, ic2, ic3, ic4, ic5, F0]; done)) ?_
 refine skip_k ?_
 refine hN72 _ ?_
 refine seq_k fun N73 M73 hN73 hM73 => ?_
 refine block_k fun B74 bn74 bx74 br74 bi74 => ?_
 refine sr_k fun K75 hK75 => ?_
 simp only [go_sem, polyC, z16, ic0, ic1, ic2, ic3, ic4, ic5, F0]
 all_goals repeat' (first | apply And.intro | intro _)
 refine hK75 _ ?_
 refine draw_k [46, 47, 48, 49, 50, 51, 52, 53, 54, 55, 56, 57, 58, 59, 60] [0, 0, 2, 0, 0, 16, 56, 120, 0, 0, 512, 1792, 3840, 249, 8441, 32767, 65535] [(1, 14), (2, 14), (8, 14), (9, 14), (10, 14), (11, 14), (12, 14)] mixed (by kernel_rfl) (by simp only [go_sem]) fun K76 hK76 => ?_
 simp only [go_sem, polyC, z16, ic0, ic1, ic2, ic3, ic4, ic5, F0]
 all_goals repeat' (first | apply And.intro | intro _)
 refine hK76 _ _ ?_ ?_
 · first | trivial | (simp only [go_sem]; done) | (simp only [go_sem]; simp; done) | (simp only [go_sem]; simp; simp only [go_sem])
 refine bn74 _ ?_
 refine hN73 _ ?_
 refine region_k fun K77 hK77 => ?_
 simp only [go_sem, polyC, z16, ic0, ic1, ic2, ic3, ic4, ic5, F0]
 all_goals repeat' (first | apply And.intro | intro _)
 refine hK77 _ ?_
 refine hN70 _ ?_
 refine rnd_forget [10, 44, 45, 46, 47, 48, 49, 50, 51, 52, 53, 54, 55, 56, 57, 58, 59, 60, 61] ?_
 simp only [go_sem, St.forget, fgt]
 refine rnd_k fun N78 M78 hN78 hM78 => ?_
 refine sr_k fun K79 hK79 => ?_
 simp only [go_sem, polyC, z16, ic0, ic1, ic2, ic3, ic4, ic5, F0]
 all_goals repeat' (first | apply And.intro | intro _)
 refine hK79 _ ?_
 refine seq_k fun N80 M80 hN80 hM80 => ?_
 refine condF_k (by first | rfl | (simp [go_sem, polyC, z16, ic0, ic1, ic2, ic3, ic4, ic5, F0]; done)) ?_
 refine exit_k ?_
 refine hM80 _ _ ?_
 refine hM78 _ _ ?_
 refine bx12 _ ?_
 refine hN10 _ ?_
 refine sr_k fun K81 hK81 => ?_
 simp only [go_sem, polyC, z16, ic0, ic1, ic2, ic3, ic4, ic5, F0]
 all_goals repeat' (first | apply And.intro | intro _)
 refine hK81 _ ?_
 refine ret_k ?_
 simp only [go_sem, polyC, z16, ic0, ic1, ic2, ic3, ic4, ic5, F0]
 all_goals (rw [hfa, ← end_main, lowB_shr, lowB_shr]; rfl)
set_option maxHeartbeats 1600000 in
set_option maxRecDepth 100000 in
theorem pend_p (r0 r1 p0 p1 : UInt64) (s : PSt) (hs : s.ok) (hr0 : r0 &&& ~~~1152921487695413247 = 0) (hr1 : r1 &&& ~~~1152921487695413244 = 0) (h0 : 0 < s.rest.length) :
 Ct Try.prog 20 [.w (.agg (polyC r0 r1 p0 p1 s.acc.a s.acc.b s.acc.c (pad16 s.rest) (s.rest.length : Nat)))] (fun v m => v = .tup [.agg (bytesC (endV (finA r0 r1 s).a (finA r0 r1 s).b p0 p1)), .one (.pl (.i 0))]) := by
 have h15 := hs.1
 have hpl := pad16_length (r := s.rest) (by omega)
 have hpt := pad16_take s.rest
 have hpz := pad16_rest (r := s.rest) (by omega)
 have he := perr_ok (st_ok hs hr0 hr1)
 have hr := r1_lt hr1
 have hfa : finA r0 r1 s = soakT r0 r1 s.acc s.rest := if_neg (by omega)
 have hn0 : (0 : Int) < ((s.rest.length : Nat) : Int) := by omega
 have F0 := And.intro hpl <| And.intro hpt <| And.intro he <| hn0
 refine Ct.k Try.func20 rfl Try.ntmps20 (congrArg Array.toList Try.results20) (by simp) fun w0 ro => ?_
 refine sr_k fun K1 hK1 => ?_
 simp only [go_sem, polyC, z16, ic0, ic1, ic2, ic3, ic4, ic5, F0]
 all_goals repeat' (first | apply And.intro | intro _)
 refine hK1 _ ?_
 refine seq_k fun N2 M2 hN2 hM2 => ?_
 refine sr_k fun K3 hK3 => ?_
 simp only [go_sem, polyC, z16, ic0, ic1, ic2, ic3, ic4, ic5, F0]
 all_goals repeat' (first | apply And.intro | intro _)
 all_goals refine call_view (fun k => k) (fun _ _ => rfl) (by first | rfl | (simp only [go_sem, polyC, z16, ic0, ic1, ic2, ic3, ic4, ic5, F0]; rfl) | simp only [go_sem, polyC, z16, ic0, ic1, ic2, ic3, ic4, ic5, F0]) ((poly_check r0 r1 p0 p1 s.acc.a s.acc.b s.acc.c (pad16 s.rest) hpl (s.rest.length : Nat)).plain fun _ _ h => h) ?_
 all_goals (rintro v m ⟨hR, hm⟩; subst hR; subst hm)
 all_goals refine And.intro (by first | rfl | simp only [go_sem, polyC, z16, ic0, ic1, ic2, ic3, ic4, ic5, F0]) (And.intro (by first | rfl | simp only [go_sem, polyC, z16, ic0, ic1, ic2, ic3, ic4, ic5, F0]) ?_)
 all_goals simp only [go_sem, polyC, z16, ic0, ic1, ic2, ic3, ic4, ic5, F0]
 all_goals repeat' (first | apply And.intro | intro _)
 refine hK3 _ ?_
 refine sr_k fun K4 hK4 => ?_
 simp only [go_sem, polyC, z16, ic0, ic1, ic2, ic3, ic4, ic5, F0]
 all_goals repeat' (first | apply And.intro | intro _)
 refine hK4 _ ?_
 refine condF_k (by first | rfl | (simp [go_sem, polyC, z16, ic0, ic1, ic2, ic3, ic4, ic5, F0]; done)) ?_
 refine skip_k ?_
 refine hN2 _ ?_
 refine seq_k fun N5 M5 hN5 hM5 => ?_
 refine sr_k fun K6 hK6 => ?_
 simp only [go_sem, polyC, z16, ic0, ic1, ic2, ic3, ic4, ic5, F0]
 all_goals repeat' (first | apply And.intro | intro _)
 refine hK6 _ ?_
 refine condT_k (by first | rfl | (simp [go_sem, polyC, z16, ic0, ic1, ic2, ic3, ic4, ic5, F0]; done)) ?_
 refine region_k fun K7 hK7 => ?_
 simp only [go_sem, polyC, z16, ic0, ic1, ic2, ic3, ic4, ic5, F0]
 all_goals repeat' (first | apply And.intro | intro _)
 all_goals refine call_view (fun k => k) (fun _ _ => rfl) (by first | rfl | (simp only [go_sem, polyC, z16, ic0, ic1, ic2, ic3, ic4, ic5, F0]; rfl) | simp only [go_sem, polyC, z16, ic0, ic1, ic2, ic3, ic4, ic5, F0]) ((soak_part r0 r1 p0 p1 s.acc.a s.acc.b s.acc.c (pad16 s.rest) hpl hs.2 hr s.rest.length (by omega) hpz).plain fun _ _ h => h) ?_
 all_goals (rintro v m ⟨hR, hm⟩; subst hR; subst hm)
 all_goals refine And.intro (by first | rfl | simp only [go_sem, polyC, z16, ic0, ic1, ic2, ic3, ic4, ic5, F0]) (And.intro (by first | rfl | simp only [go_sem, polyC, z16, ic0, ic1, ic2, ic3, ic4, ic5, F0]) ?_)
 all_goals simp only [go_sem, polyC, z16, ic0, ic1, ic2, ic3, ic4, ic5, F0]
 all_goals repeat' (first | apply And.intro | intro _)
 refine hK7 _ ?_
 refine hN5 _ ?_
 refine sr_k fun K8 hK8 => ?_
 simp only [go_sem, polyC, z16, ic0, ic1, ic2, ic3, ic4, ic5, F0]
 all_goals repeat' (first | apply And.intro | intro _)
 all_goals refine call_now (by first | rfl | (simp only [go_sem, polyC, z16, ic0, ic1, ic2, ic3, ic4, ic5, F0]; rfl) | simp only [go_sem, polyC, z16, ic0, ic1, ic2, ic3, ic4, ic5, F0]) (now_add64 _ _ _ (by first | decide | exact (ad_val _ _ (by decide)).2 | exact (ad_val _ _ ((ad_val _ _ (by decide)).2)).2)) ?_
 all_goals simp only [go_sem, polyC, z16, ic0, ic1, ic2, ic3, ic4, ic5, F0]
 all_goals repeat' (first | apply And.intro | intro _)
 refine hK8 _ ?_
 refine sr_k fun K9 hK9 => ?_
 simp only [go_sem, polyC, z16, ic0, ic1, ic2, ic3, ic4, ic5, F0]
 all_goals repeat' (first | apply And.intro | intro _)
 all_goals refine call_now (by first | rfl | (simp only [go_sem, polyC, z16, ic0, ic1, ic2, ic3, ic4, ic5, F0]; rfl) | simp only [go_sem, polyC, z16, ic0, ic1, ic2, ic3, ic4, ic5, F0]) (now_add64 _ _ _ (by first | decide | exact (ad_val _ _ (by decide)).2 | exact (ad_val _ _ ((ad_val _ _ (by decide)).2)).2)) ?_
 all_goals simp only [go_sem, polyC, z16, ic0, ic1, ic2, ic3, ic4, ic5, F0]
 all_goals repeat' (first | apply And.intro | intro _)
 refine hK9 _ ?_
 refine sr_k fun K10 hK10 => ?_
 simp only [go_sem, polyC, z16, ic0, ic1, ic2, ic3, ic4, ic5, F0]
 all_goals repeat' (first | apply And.intro | intro _)
 refine hK10 _ ?_
 refine seq_k fun N11 M11 hN11 hM11 => ?_
 refine sr_k fun K12 hK12 => ?_
 simp only [go_sem, polyC, z16, ic0, ic1, ic2, ic3, ic4, ic5, F0]
 all_goals repeat' (first | apply And.intro | intro _)
 refine hK12 _ ?_
 refine block_k fun B13 bn13 bx13 br13 bi13 => ?_
 refine rounds_k 9 ?_
 refine rnd_k fun N15 M15 hN15 hM15 => ?_
 refine sr_k fun K16 hK16 => ?_
 simp only [go_sem, polyC, z16, ic0, ic1, ic2, ic3, ic4, ic5, F0]
 all_goals repeat' (first | apply And.intro | intro _)
 refine hK16 _ ?_
 refine seq_k fun N17 M17 hN17 hM17 => ?_
 refine condT_k (by first | rfl | (simp [go_sem, polyC, z16, ic0, ic1, ic2, ic3, ic4, ic5, F0]; done)) ?_
 refine skip_k ?_
 refine hN17 _ ?_
 refine seq_k fun N18 M18 hN18 hM18 => ?_
 refine block_k fun B19 bn19 bx19 br19 bi19 => ?_
 refine sr_k fun K20 hK20 => ?_
 simp only [go_sem, polyC, z16, ic0, ic1, ic2, ic3, ic4, ic5, F0]
 all_goals repeat' (first | apply And.intro | intro _)
 refine hK20 _ ?_
 refine draw_k [46, 47, 48, 49, 50, 51, 52, 53, 54, 55, 56, 57, 58, 59, 60] [0, 0, 2, 0, 0, 16, 56, 120, 0, 0, 512, 1792, 3840, 249, 8441, 32767, 65535] [(1, 14), (2, 14), (8, 14), (9, 14), (10, 14), (11, 14), (12, 14)] mixed (by kernel_rfl) (by simp only [go_sem]) fun K21 hK21 => ?_
 simp only [go_sem, polyC, z16, ic0, ic1, ic2, ic3, ic4, ic5, F0]
 all_goals repeat' (first | apply And.intro | intro _)
 refine hK21 _ _ ?_ ?_
 · first | trivial | (simp only [go_sem]; done) | (simp only [go_sem]; simp; done) | (simp only [go_sem]; simp; simp only [go_sem])
 refine bn19 _ ?_
 refine hN18 _ ?_
 refine region_k fun K22 hK22 => ?_
 simp only [go_sem, polyC, z16, ic0, ic1, ic2, ic3, ic4, ic5, F0]
 all_goals repeat' (first | apply And.intro | intro _)
 refine hK22 _ ?_
 refine hN15 _ ?_
 refine rnd_forget [10, 44, 45, 46, 47, 48, 49, 50, 51, 52, 53, 54, 55, 56, 57, 58, 59, 60, 61] ?_
 simp only [go_sem, St.forget, fgt]
 refine rnd_k fun N23 M23 hN23 hM23 => ?_
 refine sr_k fun K24 hK24 => ?_
 simp only [go_sem, polyC, z16, ic0, ic1, ic2, ic3, ic4, ic5, F0]
 all_goals repeat' (first | apply And.intro | intro _)
 refine hK24 _ ?_
 refine seq_k fun N25 M25 hN25 hM25 => ?_
 refine condT_k (by first | rfl | (simp [go_sem, polyC, z16, ic0, ic1, ic2, ic3, ic4, ic5, F0]; done)) ?_
 refine skip_k ?_
 refine hN25 _ ?_
 refine seq_k fun N26 M26 hN26 hM26 => ?_
 refine block_k fun B27 bn27 bx27 br27 bi27 => ?_
 refine sr_k fun K28 hK28 => ?_
 simp only [go_sem, polyC, z16, ic0, ic1, ic2, ic3, ic4, ic5, F0]
 all_goals repeat' (first | apply And.intro | intro _)
 refine hK28 _ ?_
 refine draw_k [46, 47, 48, 49, 50, 51, 52, 53, 54, 55, 56, 57, 58, 59, 60] [0, 0, 2, 0, 0, 16, 56, 120, 0, 0, 512, 1792, 3840, 249, 8441, 32767, 65535] [(1, 14), (2, 14), (8, 14), (9, 14), (10, 14), (11, 14), (12, 14)] mixed (by kernel_rfl) (by simp only [go_sem]) fun K29 hK29 => ?_
 simp only [go_sem, polyC, z16, ic0, ic1, ic2, ic3, ic4, ic5, F0]
 all_goals repeat' (first | apply And.intro | intro _)
 refine hK29 _ _ ?_ ?_
 · first | trivial | (simp only [go_sem]; done) | (simp only [go_sem]; simp; done) | (simp only [go_sem]; simp; simp only [go_sem])
 refine bn27 _ ?_
 refine hN26 _ ?_
 refine region_k fun K30 hK30 => ?_
 simp only [go_sem, polyC, z16, ic0, ic1, ic2, ic3, ic4, ic5, F0]
 all_goals repeat' (first | apply And.intro | intro _)
 refine hK30 _ ?_
 refine hN23 _ ?_
 refine rnd_forget [10, 44, 45, 46, 47, 48, 49, 50, 51, 52, 53, 54, 55, 56, 57, 58, 59, 60, 61] ?_
 simp only [go_sem, St.forget, fgt]
 refine rnd_k fun N31 M31 hN31 hM31 => ?_
 refine sr_k fun K32 hK32 => ?_
 simp only [go_sem, polyC, z16, ic0, ic1, ic2, ic3, ic4, ic5, F0]
 all_goals repeat' (first | apply And.intro | intro _)
 refine hK32 _ ?_
 refine seq_k fun N33 M33 hN33 hM33 => ?_
 refine condT_k (by first | rfl | (simp [go_sem, polyC, z16, ic0, ic1, ic2, ic3, ic4, ic5, F0]; done)) ?_
 refine skip_k ?_
 refine hN33 _ ?_
 refine seq_k fun N34 M34 hN34 hM34 => ?_
 refine block_k fun B35 bn35 bx35 br35 bi35 => ?_
 refine sr_k fun K36 hK36 => ?_
 simp only [go_sem, polyC, z16, ic0, ic1, ic2, ic3, ic4, ic5, F0]
 all_goals repeat' (first | apply And.intro | intro _)
 refine hK36 _ ?_
 refine draw_k [46, 47, 48, 49, 50, 51, 52, 53, 54, 55, 56, 57, 58, 59, 60] [0, 0, 2, 0, 0, 16, 56, 120, 0, 0, 512, 1792, 3840, 249, 8441, 32767, 65535] [(1, 14), (2, 14), (8, 14), (9, 14), (10, 14), (11, 14), (12, 14)] mixed (by kernel_rfl) (by simp only [go_sem]) fun K37 hK37 => ?_
 simp only [go_sem, polyC, z16, ic0, ic1, ic2, ic3, ic4, ic5, F0]
 all_goals repeat' (first | apply And.intro | intro _)
 refine hK37 _ _ ?_ ?_
 · first | trivial | (simp only [go_sem]; done) | (simp only [go_sem]; simp; done) | (simp only [go_sem]; simp; simp only [go_sem])
 refine bn35 _ ?_
 refine hN34 _ ?_
 refine region_k fun K38 hK38 => ?_
 simp only [go_sem, polyC, z16, ic0, ic1, ic2, ic3, ic4, ic5, F0]
 all_goals repeat' (first | apply And.intro | intro _)
 refine hK38 _ ?_
 refine hN31 _ ?_
 refine rnd_forget [10, 44, 45, 46, 47, 48, 49, 50, 51, 52, 53, 54, 55, 56, 57, 58, 59, 60, 61] ?_
 simp only [go_sem, St.forget, fgt]
 refine rnd_k fun N39 M39 hN39 hM39 => ?_
 refine sr_k fun K40 hK40 => ?_
 simp only [go_sem, polyC, z16, ic0, ic1, ic2, ic3, ic4, ic5, F0]
 all_goals repeat' (first | apply And.intro | intro _)
 refine hK40 _ ?_
 refine seq_k fun N41 M41 hN41 hM41 => ?_
 refine condT_k (by first | rfl | (simp [go_sem, polyC, z16, ic0, ic1, ic2, ic3, ic4, ic5, F0]; done)) ?_
 refine skip_k ?_
 refine hN41 _ ?_
 refine seq_k fun N42 M42 hN42 hM42 => ?_
 refine block_k fun B43 bn43 bx43 br43 bi43 => ?_
 refine sr_k fun K44 hK44 => ?_
 simp only [go_sem, polyC, z16, ic0, ic1, ic2, ic3, ic4, ic5, F0]
 all_goals repeat' (first | apply And.intro | intro _)
 refine hK44 _ ?_
 refine draw_k [46, 47, 48, 49, 50, 51, 52, 53, 54, 55, 56, 57, 58, 59, 60] [0, 0, 2, 0, 0, 16, 56, 120, 0, 0, 512, 1792, 3840, 249, 8441, 32767, 65535] [(1, 14), (2, 14), (8, 14), (9, 14), (10, 14), (11, 14), (12, 14)] mixed (by kernel_rfl) (by simp only [go_sem]) fun K45 hK45 => ?_
 simp only [go_sem, polyC, z16, ic0, ic1, ic2, ic3, ic4, ic5, F0]
 all_goals repeat' (first | apply And.intro | intro _)
 refine hK45 _ _ ?_ ?_
 · first | trivial | (simp only [go_sem]; done) | (simp only [go_sem]; simp; done) | (simp only [go_sem]; simp; simp only [go_sem])
 refine bn43 _ ?_
 refine hN42 _ ?_
 refine region_k fun K46 hK46 => ?_
 simp only [go_sem, polyC, z16, ic0, ic1, ic2, ic3, ic4, ic5, F0]
 all_goals repeat' (first | apply And.intro | intro _)
 refine hK46 _ ?_
 refine hN39 _ ?_
 refine rnd_forget [10, 44, 45, 46, 47, 48, 49, 50, 51, 52, 53, 54, 55, 56, 57, 58, 59, 60, 61] ?_
 simp only [go_sem, St.forget, fgt]
 refine rnd_k fun N47 M47 hN47 hM47 => ?_
 refine sr_k fun K48 hK48 => ?_
 simp only [go_sem, polyC, z16, ic0, ic1, ic2, ic3, ic4, ic5, F0]
 all_goals repeat' (first | apply And.intro | intro _)
 refine hK48 _ ?_
 refine seq_k fun N49 M49 hN49 hM49 => ?_
 refine condT_k (by first | rfl | (simp [go_sem, polyC, z16, ic0, ic1, ic2, ic3, ic4, ic5, F0]; done)) ?_
 refine skip_k ?_
 refine hN49 _ ?_
 refine seq_k fun N50 M50 hN50 hM50 => ?_
 refine block_k fun B51 bn51 bx51 br51 bi51 => ?_
 refine sr_k fun K52 hK52 => ?_
 simp only [go_sem, polyC, z16, ic0, ic1, ic2, ic3, ic4, ic5, F0]
 all_goals repeat' (first | apply And.intro | intro _)
 refine hK52 _ ?_
 refine draw_k [46, 47, 48, 49, 50, 51, 52, 53, 54, 55, 56, 57, 58, 59, 60] [0, 0, 2, 0, 0, 16, 56, 120, 0, 0, 512, 1792, 3840, 249, 8441, 32767, 65535] [(1, 14), (2, 14), (8, 14), (9, 14), (10, 14), (11, 14), (12, 14)] mixed (by kernel_rfl) (by simp only [go_sem]) fun K53 hK53 => ?_
 simp only [go_sem, polyC, z16, ic0, ic1, ic2, ic3, ic4, ic5, F0]
 all_goals repeat' (first | apply And.intro | intro _)
 refine hK53 _ _ ?_ ?_
 · first | trivial | (simp only [go_sem]; done) | (simp only [go_sem]; simp; done) | (simp only [go_sem]; simp; simp only [go_sem])
 refine bn51 _ ?_
 refine hN50 _ ?_
 refine region_k fun K54 hK54 => ?_
 simp only [go_sem, polyC, z16, ic0, ic1, ic2, ic3, ic4, ic5, F0]
 all_goals repeat' (first | apply And.intro | intro _)
 refine hK54 _ ?_
 refine hN47 _ ?_
 refine rnd_forget [10, 44, 45, 46, 47, 48, 49, 50, 51, 52, 53, 54, 55, 56, 57, 58, 59, 60, 61] ?_
 simp only [go_sem, St.forget, fgt]
 refine rnd_k fun N55 M55 hN55 hM55 => ?_
 refine sr_k fun K56 hK56 => ?_
 simp only [go_sem, polyC, z16, ic0, ic1, ic2, ic3, ic4, ic5, F0]
 all_goals repeat' (first | apply And.intro | intro _)
 refine hK56 _ ?_
 refine seq_k fun N57 M57 hN57 hM57 => ?_
 refine condT_k (by first | rfl | (simp [go_sem, polyC, z16, ic0, ic1, ic2, ic3, ic4, ic5, F0]; done)) ?_
 refine skip_k ?_
 refine hN57 _ ?_
 refine seq_k fun N58 M58 hN58 hM58 => ?_
 refine block_k fun B59 bn59 bx59 br59 bi59 => ?_
 refine sr_k fun K60 hK60 => ?_
 simp only [go_sem, polyC, z16, ic0, ic1, ic2, ic3, ic4, ic5, F0]
 all_goals repeat' (first | apply And.intro | intro _)
 refine hK60 _ ?_
 refine draw_k [46, 47, 48, 49, 50, 51, 52, 53, 54, 55, 56, 57, 58, 59, 60] [0, 0, 2, 0, 0, 16, 56, 120, 0, 0, 512, 1792, 3840, 249, 8441, 32767, 65535] [(1, 14), (2, 14), (8, 14), (9, 14), (10, 14), (11, 14), (12, 14)] mixed (by kernel_rfl) (by simp only [go_sem]) fun K61 hK61 => ?_
 simp only [go_sem, polyC, z16, ic0, ic1, ic2, ic3, ic4, ic5, F0]
 all_goals repeat' (first | apply And.intro | intro _)
 refine hK61 _ _ ?_ ?_
 · first | trivial | (simp only [go_sem]; done) | (simp only [go_sem]; simp; done) | (simp only [go_sem]; simp; simp only [go_sem])
 refine bn59 _ ?_
 refine hN58 _ ?_
 refine region_k fun K62 hK62 => ?_
 simp only [go_sem, polyC, z16, ic0, ic1, ic2, ic3, ic4, ic5, F0]
 all_goals repeat' (first | apply And.intro | intro _)
 refine hK62 _ ?_
 refine hN55 _ ?_
 refine rnd_forget [10, 44, 45, 46, 47, 48, 49, 50, 51, 52, 53, 54, 55, 56, 57, 58, 59, 60, 61] ?_
 simp only [go_sem, St.forget, fgt]
 refine rnd_k fun N63 M63 hN63 hM63 => ?_
 refine sr_k fun K64 hK64 => ?_
 simp only [go_sem, polyC, z16, ic0, ic1, ic2, ic3, ic4, ic5, F0]
 all_goals repeat' (first | apply And.intro | intro _)
 refine hK64 _ ?_
 refine seq_k fun N65 M65 hN65 hM65 => ?_
 refine condT_k (by first | rfl | (simp [go_sem, polyC, z16, ic0, ic1, ic2, ic3, ic4, ic5, F0]; done)) ?_
 refine skip_k ?_
 refine hN65 _ ?_
 refine seq_k fun N66 M66 hN66 hM66 => ?_
 refine block_k fun B67 bn67 bx67 br67 bi67 => ?_
 refine sr_k fun K68 hK68 => ?_
 simp only [go_sem, polyC, z16, ic0, ic1, ic2, ic3, ic4, ic5, F0]
 all_goals repeat' (first | apply And.intro | intro _)
 refine hK68 _ ?_
 refine draw_k [46, 47, 48, 49, 50, 51, 52, 53, 54, 55, 56, 57, 58, 59, 60] [0, 0, 2, 0, 0, 16, 56, 120, 0, 0, 512, 1792, 3840, 249, 8441, 32767, 65535] [(1, 14), (2, 14), (8, 14), (9, 14), (10, 14), (11, 14), (12, 14)] mixed (by kernel_rfl) (by simp only [go_sem]) fun K69 hK69 => ?_
 simp only [go_sem, polyC, z16, ic0, ic1, ic2, ic3, ic4, ic5, F0]
 all_goals repeat' (first | apply And.intro | intro _)
 refine hK69 _ _ ?_ ?_
 · first | trivial | (simp only [go_sem]; done) | (simp only [go_sem]; simp; done) | (simp only [go_sem]; simp; simp only [go_sem])
 refine bn67 _ ?_
 refine hN66 _ ?_
 refine region_k fun K70 hK70 => ?_
 simp only [go_sem, polyC, z16, ic0, ic1, ic2, ic3, ic4, ic5, F0]
 all_goals repeat' (first | apply And.intro | intro _)
 refine hK70 _ ?_
 refine hN63 _ ?_
 refine rnd_forget [10, 44, 45, 46, 47, 48, 49, 50, 51, 52, 53, 54, 55, 56, 57, 58, 59, 60, 61] ?_
 simp only [go_sem, St.forget, fgt]
 refine rnd_k fun N71 M71 hN71 hM71 => ?_
 refine sr_k fun K72 hK72 => ?_
 simp only [go_sem, polyC, z16, ic0, ic1, ic2, ic3, ic4, ic5, F0]
 all_goals repeat' (first | apply And.intro | intro _)
 refine hK72 _ ?_
 refine seq_k fun N73 M73 hN73 hM73 => ?_
 refine condT_k (by first | rfl | (simp [go_sem, polyC, z16, ic0, ic1, ic2, ic3, ic4, ic5, F0]; done)) ?_
 refine skip_k ?_
 refine hN73 _ ?_
 refine seq_k fun N74 M74 hN74 hM74 => ?_
 refine block_k fun B75 bn75 bx75 br75 bi75 => ?_
 refine sr_k fun K76 hK76 => ?_
 simp only [go_sem, polyC, z16, ic0, ic1, ic2, ic3, ic4, ic5, F0]
 all_goals repeat' (first | apply And.intro | intro _)
 refine hK76 _ ?_
 refine draw_k [46, 47, 48, 49, 50, 51, 52, 53, 54, 55, 56, 57, 58, 59, 60] [0, 0, 2, 0, 0, 16, 56, 120, 0, 0, 512, 1792, 3840, 249, 8441, 32767, 65535] [(1, 14), (2, 14), (8, 14), (9, 14), (10, 14), (11, 14), (12, 14)] mixed (by kernel_rfl) (by simp only [go_sem]) fun K77 hK77 => ?_
 simp only [go_sem, polyC, z16, ic0, ic1, ic2, ic3, ic4, ic5, F0]
 all_goals repeat' (first | apply And.intro | intro _)
 refine hK77 _ _ ?_ ?_
 · first | trivial | (simp only [go_sem]; done) | (simp only [go_sem]; simp; done) | (simp only [go_sem]; simp; simp only [go_sem])
 refine bn75 _ ?_
 refine hN74 _ ?_
 refine region_k fun K78 hK78 => ?_
 simp only [go_sem, polyC, z16, ic0, ic1, ic2, ic3, ic4, ic5, F0]
 all_goals repeat' (first | apply And.intro | intro _)
 refine hK78 _ ?_
 refine hN71 _ ?_
 refine rnd_forget [10, 44, 45, 46, 47, 48, 49, 50, 51, 52, 53, 54, 55, 56, 57, 58, 59, 60, 61] ?_
 simp only [go_sem, St.forget, fgt]
 refine rnd_k fun N79 M79 hN79 hM79 => ?_
 refine sr_k fun K80 hK80 => ?_
 simp only [go_sem, polyC, z16, ic0, ic1, ic2, ic3, ic4, ic5, F0]
 all_goals repeat' (first | apply And.intro | intro _)
 refine hK80 _ ?_
 refine seq_k fun N81 M81 hN81 hM81 => ?_
 refine condF_k (by first | rfl | (simp [go_sem, polyC, z16, ic0, ic1, ic2, ic3, ic4, ic5, F0]; done)) ?_
 refine exit_k ?_
 refine hM81 _ _ ?_
 refine hM79 _ _ ?_
 refine bx13 _ ?_
 refine hN11 _ ?_
 refine sr_k fun K82 hK82 => ?_
 simp only [go_sem, polyC, z16, ic0, ic1, ic2, ic3, ic4, ic5, F0]
 all_goals repeat' (first | apply And.intro | intro _)
 refine hK82 _ ?_
 refine ret_k ?_
 simp only [go_sem, polyC, z16, ic0, ic1, ic2, ic3, ic4, ic5, F0]
 all_goals (rw [hfa, ← end_main, lowB_shr, lowB_shr]; rfl)
set_option maxHeartbeats 1600000 in
set_option maxRecDepth 100000 in
theorem pended_z (r0 r1 p0 p1 : UInt64) (s : PSt) (hs : s.ok) (hr0 : r0 &&& ~~~1152921487695413247 = 0) (hr1 : r1 &&& ~~~1152921487695413244 = 0) (h0 : s.rest.length = 0) :
 Ct Try.prog 21 [.w (.agg (polyC r0 r1 p0 p1 s.acc.a s.acc.b s.acc.c (pad16 s.rest) (s.rest.length : Nat)))] (fun v m => v = .tup [.agg (bytesC (endV (finA r0 r1 s).a (finA r0 r1 s).b p0 p1)), .one (.pl (.i 0))]) := by
 have h15 := hs.1
 have hpl := pad16_length (r := s.rest) (by omega)
 have hpt := pad16_take s.rest
 have hpz := pad16_rest (r := s.rest) (by omega)
 have he := perr_ok (st_ok hs hr0 hr1)
 have hr := r1_lt hr1
 have ha4 : s.acc.c.toNat < 4 := by
  have hv := hs.2
  simp only [val3, pP] at hv
  have := s.acc.a.toNat_lt; have := s.acc.b.toNat_lt
  omega
 have hc1 : (0 : Int) ≤ ((s.rest.length : Nat) : Int) := by omega
 have hc2 : ((s.rest.length : Nat) : Int) ≤ 16 := by omega
 have hle : s.rest.length ≤ 16 := by omega
 have hfa : finA r0 r1 s = s.acc := if_pos h0
 have hn0 : ¬ (0 : Int) < ((s.rest.length : Nat) : Int) := by omega
 have F0 := And.intro hpl <| And.intro hpt <| And.intro he <| And.intro hn0 <| And.intro hc1 <| And.intro hc2 <| hle
 refine Ct.k Try.func21 rfl Try.ntmps21 (congrArg Array.toList Try.results21) (by simp) fun w0 ro => ?_
 refine sr_k fun K1 hK1 => ?_
 simp only [go_sem, polyC, lowB_length, Nat.sub_zero, Nat.zero_add, F0]
 all_goals repeat' (first | apply And.intro | intro _)
 refine hK1 _ ?_
 refine seq_k fun N2 M2 hN2 hM2 => ?_
 refine sr_k fun K3 hK3 => ?_
 simp only [go_sem, polyC, lowB_length, Nat.sub_zero, Nat.zero_add, F0]
 all_goals repeat' (first | apply And.intro | intro _)
 all_goals refine call_view (fun k => k) (fun _ _ => rfl) (by first | rfl | (simp only [go_sem, polyC, lowB_length, Nat.sub_zero, Nat.zero_add, F0]; rfl) | simp only [go_sem, polyC, lowB_length, Nat.sub_zero, Nat.zero_add, F0]) ((poly_fault r0 r1 p0 p1 s.acc.a s.acc.b s.acc.c (pad16 s.rest) hpl (s.rest.length : Nat)).plain fun _ _ h => h) ?_
 all_goals (rintro v m ⟨hR, hm⟩; subst hR; subst hm)
 all_goals refine And.intro (by first | rfl | simp only [go_sem, polyC, lowB_length, Nat.sub_zero, Nat.zero_add, F0]) (And.intro (by first | rfl | simp only [go_sem, polyC, lowB_length, Nat.sub_zero, Nat.zero_add, F0]) ?_)
 all_goals simp only [go_sem, polyC, lowB_length, Nat.sub_zero, Nat.zero_add, F0]
 all_goals repeat' (first | apply And.intro | intro _)
 refine hK3 _ ?_
 refine sr_k fun K4 hK4 => ?_
 simp only [go_sem, polyC, lowB_length, Nat.sub_zero, Nat.zero_add, F0]
 all_goals repeat' (first | apply And.intro | intro _)
 refine hK4 _ ?_
 refine condF_k (by first | rfl | (simp [go_sem, polyC, lowB_length, Nat.sub_zero, Nat.zero_add, F0]; done)) ?_
 refine skip_k ?_
 refine hN2 _ ?_
 refine seq_k fun N5 M5 hN5 hM5 => ?_
 refine sr_k fun K6 hK6 => ?_
 simp only [go_sem, polyC, lowB_length, Nat.sub_zero, Nat.zero_add, F0]
 all_goals repeat' (first | apply And.intro | intro _)
 refine hK6 _ ?_
 refine sr_k fun K7 hK7 => ?_
 simp only [go_sem, polyC, lowB_length, Nat.sub_zero, Nat.zero_add, F0]
 all_goals repeat' (first | apply And.intro | intro _)
 refine hK7 _ ?_
 refine condF_k (by first | rfl | (simp [go_sem, polyC, lowB_length, Nat.sub_zero, Nat.zero_add, F0]; done)) ?_
 refine skip_k ?_
 refine hN5 _ ?_
 refine sr_k fun K8 hK8 => ?_
 simp only [go_sem, polyC, lowB_length, Nat.sub_zero, Nat.zero_add, F0]
 all_goals repeat' (first | apply And.intro | intro _)
 refine hK8 _ ?_
 refine sd_k [28, 29, 30, 31, 32, 33, 34, 35, 36, 7] [0, 1, 3, 7, 0, 16, 48, 127, 255, 511] [] mixed (by kernel_rfl) (by simp only [go_sem]) fun K9 hK9 => ?_
 simp only [go_sem, polyC, lowB_length, Nat.sub_zero, Nat.zero_add, F0]
 all_goals repeat' (first | apply And.intro | intro _)
 all_goals refine call_draw (fun k => k) _ [] (fun _ _ => rfl) (by first | rfl | (simp only [go_sem, polyC, lowB_length, Nat.sub_zero, Nat.zero_add, F0]; rfl) | simp only [go_sem, polyC, lowB_length, Nat.sub_zero, Nat.zero_add, F0]) ((low_ _ 8 (by decide)).plain fun _ _ h => h) ?_ ?_
 all_goals try (refine And.intro ?_ (And.intro ?_ (And.intro ?_ ?_)) <;> first | rfl | simp only [go_sem])
 all_goals simp only [go_sem, polyC, lowB_length, Nat.sub_zero, Nat.zero_add, F0]
 all_goals repeat' (first | apply And.intro | intro _)
 all_goals refine call_draw (fun k => k) _ [] (fun _ _ => rfl) (by first | rfl | (simp only [go_sem, polyC, lowB_length, Nat.sub_zero, Nat.zero_add, F0]; rfl) | simp only [go_sem, polyC, lowB_length, Nat.sub_zero, Nat.zero_add, F0]) ((low_ _ 8 (by decide)).plain fun _ _ h => h) ?_ ?_
 all_goals try (refine And.intro ?_ (And.intro ?_ (And.intro ?_ ?_)) <;> first | rfl | simp only [go_sem])
 all_goals simp only [go_sem, polyC, lowB_length, Nat.sub_zero, Nat.zero_add, F0]
 all_goals repeat' (first | apply And.intro | intro _)
 refine hK9 _ _ ?_ ?_
 · first | trivial | (simp only [go_sem]; done) | (simp only [go_sem]; simp; done) | (simp only [go_sem]; simp; simp only [go_sem])
 refine sd_k [37, 38, 39, 40, 41, 42, 43, 44, 45, 8] [0, 1, 3, 7, 0, 16, 48, 127, 255, 511] [] mixed (by kernel_rfl) (by simp only [go_sem]) fun K10 hK10 => ?_
 simp only [go_sem, polyC, lowB_length, Nat.sub_zero, Nat.zero_add, F0]
 all_goals repeat' (first | apply And.intro | intro _)
 all_goals refine call_draw (fun k => k) _ [] (fun _ _ => rfl) (by first | rfl | (simp only [go_sem, polyC, lowB_length, Nat.sub_zero, Nat.zero_add, F0]; rfl) | simp only [go_sem, polyC, lowB_length, Nat.sub_zero, Nat.zero_add, F0]) ((low_ _ 8 (by decide)).plain fun _ _ h => h) ?_ ?_
 all_goals try (refine And.intro ?_ (And.intro ?_ (And.intro ?_ ?_)) <;> first | rfl | simp only [go_sem])
 all_goals simp only [go_sem, polyC, lowB_length, Nat.sub_zero, Nat.zero_add, F0]
 all_goals repeat' (first | apply And.intro | intro _)
 all_goals refine call_draw (fun k => k) _ [] (fun _ _ => rfl) (by first | rfl | (simp only [go_sem, polyC, lowB_length, Nat.sub_zero, Nat.zero_add, F0]; rfl) | simp only [go_sem, polyC, lowB_length, Nat.sub_zero, Nat.zero_add, F0]) ((low_ _ 8 (by decide)).plain fun _ _ h => h) ?_ ?_
 all_goals try (refine And.intro ?_ (And.intro ?_ (And.intro ?_ ?_)) <;> first | rfl | simp only [go_sem])
 all_goals simp only [go_sem, polyC, lowB_length, Nat.sub_zero, Nat.zero_add, F0]
 all_goals repeat' (first | apply And.intro | intro _)
 refine hK10 _ _ ?_ ?_
 · first | trivial | (simp only [go_sem]; done) | (simp only [go_sem]; simp; done) | (simp only [go_sem]; simp; simp only [go_sem])
 refine sr_k fun K11 hK11 => ?_
 simp only [go_sem, polyC, lowB_length, Nat.sub_zero, Nat.zero_add, F0]
 all_goals repeat' (first | apply And.intro | intro _)
 refine hK11 _ ?_
 refine seq_k fun N12 M12 hN12 hM12 => ?_
 refine sr_k fun K13 hK13 => ?_
 simp only [go_sem, polyC, lowB_length, Nat.sub_zero, Nat.zero_add, F0]
 all_goals repeat' (first | apply And.intro | intro _)
 refine hK13 _ ?_
 refine block_k fun B14 bn14 bx14 br14 bi14 => ?_
 refine ht_dropE [0, 1, 4, 5, 11, 12, 13, 14, 15, 16, 17, 18, 19, 20, 21, 22, 23, 24, 25, 26, 27, 28, 29, 30, 31, 32, 33, 34, 35, 36, 37, 38, 39, 40, 41, 42, 43, 44, 45] ?_
 simp only [dropE_mk, fgt_nil, fgt_cons, List.contains_cons, List.contains_nil, Nat.reduceBEq, beq_self_eq_true, Bool.or_false, Bool.or_true, Bool.true_or, Bool.false_or, Bool.false_eq_true, reduceIte]
 refine loop_k (fun y => [(46, .w (.one (.pl (.i ((y.1.1 : Nat) : Int))))), (9, .w (.one (.pl (.i ((y.1.2.1 : Nat) : Int)))))]) (fun y => [(6, ⟨false, bytesC y.1.2.2⟩)]) (fun y => 16 - y.1.1) (⟨(0, 0, List.replicate 16 0), Nat.zero_le _, Nat.zero_le _, by simp, rfl⟩ : {y : Nat × Nat × List UInt8 // y.1 ≤ 16 ∧ y.2.1 ≤ 1 ∧ y.2.2.length = 16 ∧ y.2.2.take y.1 ++ addB y.2.1 ((lowB s.acc.a 8 ++ lowB s.acc.b 8).drop y.1) ((lowB p0 8 ++ lowB p1 8).drop y.1) = addB 0 (lowB s.acc.a 8 ++ lowB s.acc.b 8) (lowB p0 8 ++ lowB p1 8)}) ?_ ?_ ?_
 · (simp only [go_sem, leX, List.cons_append, List.nil_append]; try simp)
 · (simp only [go_sem, leX, List.cons_append, List.nil_append]; try simp)
 intro yy N15 M15 hN15 hM15
 simp only [List.cons_append, List.nil_append]
 obtain ⟨⟨i, c, q⟩, hi, hc, hq, hv⟩ := yy
 simp only at hi hc hq hv
 have hev := end_ref s.acc.a s.acc.b p0 p1
 obtain ⟨al, hal⟩ : ∃ al, lowB s.acc.a 8 ++ lowB s.acc.b 8 = al := ⟨_, rfl⟩
 obtain ⟨bl, hbl⟩ : ∃ bl, lowB p0 8 ++ lowB p1 8 = bl := ⟨_, rfl⟩
 have lal : al.length = 16 := by rw [← hal]; simp [lowB_length]
 have lbl : bl.length = 16 := by rw [← hbl]; simp [lowB_length]
 rw [hal, hbl] at hv hev
 simp only [hal, hbl]
 rcases Nat.lt_or_ge i 16 with hlt | hge
 · obtain ⟨a, ha⟩ : ∃ a, al.getD i 0 = a := ⟨_, rfl⟩
   obtain ⟨b, hb⟩ : ∃ b, bl.getD i 0 = b := ⟨_, rfl⟩
   have hda := drop_cons (l := al) (j := i) (by omega)
   have hdb := drop_cons (l := bl) (j := i) (by omega)
   rw [ha] at hda
   rw [hb] at hdb
   rw [hda, hdb, addB] at hv
   have a1 := a.toNat_lt
   have b1 := b.toNat_lt
   obtain ⟨x, hx⟩ : ∃ x, UInt8.ofNat (c + a.toNat + b.toNat) = x := ⟨_, rfl⟩
   rw [hx] at hv
   have hcq : ((i : Nat) : Int) < 16 := by omega
   have hc0 : (0 : Int) ≤ ((i : Nat) : Int) := by omega
   have hk2 : i + 1 ≤ 16 := by omega
   have hput : bytesC (List.take i q) ++ [L.pl (PL.u8 x)] ++ bytesC (List.drop (i + 1) q) = bytesC (q.take i ++ x :: q.drop (i + 1)) := by simp [bytesC]
   have hmo : UInt8.ofNat ((((c + (a.toNat + b.toNat) : Nat) : Int) % 256).toNat) = x := by
    rw [← hx, show (((c + (a.toNat + b.toNat) : Nat) : Int) % 256).toNat = (c + (a.toNat + b.toNat)) % 256 from by omega]
    apply UInt8.toNat_inj.mp
    simp only [UInt8.toNat_ofNat']; omega
   have htd : ((c + (a.toNat + b.toNat) : Nat) : Int).tdiv 256 = (((c + a.toNat + b.toNat) / 256 : Nat) : Int) := by
    rw [show ((c + (a.toNat + b.toNat) : Nat) : Int).tdiv 256 = (((c + (a.toNat + b.toNat)) / 256 : Nat) : Int) from rfl, Nat.add_assoc]
   have n1 : (c + a.toNat + b.toNat) / 256 ≤ 1 := by omega
   have n2 : (q.take i ++ x :: q.drop (i + 1)).length = 16 := by rw [List.length_append, List.length_cons, List.length_take, List.length_drop]; omega
   have htl : (q.take i).length = i := by rw [List.length_take]; omega
   have n3 : (q.take i ++ x :: q.drop (i + 1)).take (i + 1) ++ addB ((c + a.toNat + b.toNat) / 256) (al.drop (i + 1)) (bl.drop (i + 1)) = addB 0 al bl := by
    rw [← hv, List.take_append, htl, List.take_of_length_le (by omega), show i + 1 - i = 1 from by omega, List.take_succ_cons, List.take_zero, List.append_assoc]; rfl
   obtain ⟨hw1, hw2, hw4, hs1⟩ : Go.RowKit.wrap64 (((a.toNat : Nat) : Int) + ((b.toNat : Nat) : Int)) = ((a.toNat + b.toNat : Nat) : Int) ∧ Go.RowKit.wrap64 (((c : Nat) : Int) + ((a.toNat + b.toNat : Nat) : Int)) = ((c + (a.toNat + b.toNat) : Nat) : Int) ∧ Go.RowKit.wrap64 ((((c + a.toNat + b.toNat) / 256 : Nat) : Int)) = (((c + a.toNat + b.toNat) / 256 : Nat) : Int) ∧ Go.RowKit.wrap64 (((i : Nat) : Int) + 1) = ((i + 1 : Nat) : Int) := ⟨wnat (by omega) (by omega), wnat (by omega) (by omega), wnat rfl (by omega), wnat (by omega) (by omega)⟩
   have F15 := And.intro hcq <| And.intro hc0 <| And.intro hk2 <| And.intro hq <| And.intro lal <| And.intro lbl <| And.intro ha <| And.intro hb <| And.intro hput <| And.intro hmo <| And.intro htd <| And.intro hw1 <| And.intro hw2 <| And.intro hw4 <| hs1
   refine sr_k fun K16 hK16 => ?_
   simp only [go_sem, polyC, lowB_length, Nat.sub_zero, Nat.zero_add, F0, F15]
   all_goals repeat' (first | apply And.intro | intro _)
   refine hK16 _ ?_
   refine seq_k fun N17 M17 hN17 hM17 => ?_
   refine condT_k (by first | rfl | (simp [go_sem, polyC, lowB_length, Nat.sub_zero, Nat.zero_add, F0, F15]; done)) ?_
   refine skip_k ?_
   refine hN17 _ ?_
   refine seq_k fun N18 M18 hN18 hM18 => ?_
   refine block_k fun B19 bn19 bx19 br19 bi19 => ?_
   refine sr_k fun K20 hK20 => ?_
   simp only [go_sem, polyC, lowB_length, Nat.sub_zero, Nat.zero_add, F0, F15]
   all_goals repeat' (first | apply And.intro | intro _)
   refine hK20 _ ?_
   refine sd_k [49, 50, 51, 52, 53, 54, 55, 56, 57, 58, 59, 9] [0, 0, 0, 6, 14, 0, 0, 96, 224, 510, 1023, 2047] [] mixed (by kernel_rfl) (by simp only [go_sem]) fun K21 hK21 => ?_
   simp only [go_sem, polyC, lowB_length, Nat.sub_zero, Nat.zero_add, F0, F15]
   all_goals repeat' (first | apply And.intro | intro _)
   refine hK21 _ _ ?_ ?_
   · first | trivial | (simp only [go_sem]; done) | (simp only [go_sem]; simp; done) | (simp only [go_sem]; simp; simp only [go_sem])
   refine sr_k fun K22 hK22 => ?_
   simp only [go_sem, polyC, lowB_length, Nat.sub_zero, Nat.zero_add, F0, F15]
   all_goals repeat' (first | apply And.intro | intro _)
   refine hK22 _ ?_
   refine region_k fun K23 hK23 => ?_
   simp only [go_sem, polyC, lowB_length, Nat.sub_zero, Nat.zero_add, F0, F15]
   all_goals repeat' (first | apply And.intro | intro _)
   refine hK23 _ ?_
   refine bn19 _ ?_
   refine hN18 _ ?_
   refine region_k fun K24 hK24 => ?_
   simp only [go_sem, polyC, lowB_length, Nat.sub_zero, Nat.zero_add, F0, F15]
   all_goals repeat' (first | apply And.intro | intro _)
   refine hK24 _ ?_
   refine hN15 ⟨(i + 1, (c + a.toNat + b.toNat) / 256, q.take i ++ x :: q.drop (i + 1)), hlt, n1, n2, by rw [hal, hbl]; exact n3⟩ _ ?_ ?_ ?_
   · (exact Nat.sub_lt_sub_left hlt (Nat.lt_succ_self i))
   · (simp only [go_sem, leX, List.cons_append, List.nil_append]; try simp [hal, hbl])
   · (simp only [go_sem, leX, List.cons_append, List.nil_append]; try simp)
 · obtain rfl : i = 16 := by omega
   have hcq : ¬ ((16 : Nat) : Int) < 16 := by omega
   have hfin : q = endV s.acc.a s.acc.b p0 p1 := by
    rw [← hev, ← hv, List.drop_of_length_le (by omega), List.take_of_length_le (by omega)]; simp [addB]
   refine sr_k fun K25 hK25 => ?_
   simp only [go_sem, polyC, lowB_length, Nat.sub_zero, Nat.zero_add, F0, hcq, hq]
   all_goals repeat' (first | apply And.intro | intro _)
   refine hK25 _ ?_
   refine seq_k fun N26 M26 hN26 hM26 => ?_
   refine condF_k (by first | rfl | (simp [go_sem, polyC, lowB_length, Nat.sub_zero, Nat.zero_add, F0, hcq, hq]; done)) ?_
   refine exit_k ?_
   refine hM26 _ _ ?_
   refine hM15 _ _ ?_
   refine bx14 _ ?_
   refine hN12 _ ?_
   refine sr_k fun K27 hK27 => ?_
   simp only [go_sem, polyC, lowB_length, Nat.sub_zero, Nat.zero_add, F0, hcq, hq]
   all_goals repeat' (first | apply And.intro | intro _)
   refine hK27 _ ?_
   refine ret_k ?_
   simp only [go_sem, polyC, lowB_length, Nat.sub_zero, Nat.zero_add, F0, hcq, hq]
   all_goals (first | (rw [hfa, hfin]; done) | (rw [hfa, hfin]; rfl))
set_option maxHeartbeats 1600000 in
set_option maxRecDepth 100000 in
theorem pended_p (r0 r1 p0 p1 : UInt64) (s : PSt) (hs : s.ok) (hr0 : r0 &&& ~~~1152921487695413247 = 0) (hr1 : r1 &&& ~~~1152921487695413244 = 0) (h0 : 0 < s.rest.length) :
 Ct Try.prog 21 [.w (.agg (polyC r0 r1 p0 p1 s.acc.a s.acc.b s.acc.c (pad16 s.rest) (s.rest.length : Nat)))] (fun v m => v = .tup [.agg (bytesC (endV (finA r0 r1 s).a (finA r0 r1 s).b p0 p1)), .one (.pl (.i 0))]) := by
 have h15 := hs.1
 have hpl := pad16_length (r := s.rest) (by omega)
 have hpt := pad16_take s.rest
 have hpz := pad16_rest (r := s.rest) (by omega)
 have he := perr_ok (st_ok hs hr0 hr1)
 have hr := r1_lt hr1
 have ha4 : s.acc.c.toNat < 4 := by
  have hv := hs.2
  simp only [val3, pP] at hv
  have := s.acc.a.toNat_lt; have := s.acc.b.toNat_lt
  omega
 have hc1 : (0 : Int) ≤ ((s.rest.length : Nat) : Int) := by omega
 have hc2 : ((s.rest.length : Nat) : Int) ≤ 16 := by omega
 have hle : s.rest.length ≤ 16 := by omega
 have hfa : finA r0 r1 s = soakT r0 r1 s.acc s.rest := if_neg (by omega)
 have hn0 : (0 : Int) < ((s.rest.length : Nat) : Int) := by omega
 have F0 := And.intro hpl <| And.intro hpt <| And.intro he <| And.intro hn0 <| And.intro hc1 <| And.intro hc2 <| hle
 refine Ct.k Try.func21 rfl Try.ntmps21 (congrArg Array.toList Try.results21) (by simp) fun w0 ro => ?_
 refine sr_k fun K1 hK1 => ?_
 simp only [go_sem, polyC, lowB_length, Nat.sub_zero, Nat.zero_add, F0]
 all_goals repeat' (first | apply And.intro | intro _)
 refine hK1 _ ?_
 refine seq_k fun N2 M2 hN2 hM2 => ?_
 refine sr_k fun K3 hK3 => ?_
 simp only [go_sem, polyC, lowB_length, Nat.sub_zero, Nat.zero_add, F0]
 all_goals repeat' (first | apply And.intro | intro _)
 all_goals refine call_view (fun k => k) (fun _ _ => rfl) (by first | rfl | (simp only [go_sem, polyC, lowB_length, Nat.sub_zero, Nat.zero_add, F0]; rfl) | simp only [go_sem, polyC, lowB_length, Nat.sub_zero, Nat.zero_add, F0]) ((poly_fault r0 r1 p0 p1 s.acc.a s.acc.b s.acc.c (pad16 s.rest) hpl (s.rest.length : Nat)).plain fun _ _ h => h) ?_
 all_goals (rintro v m ⟨hR, hm⟩; subst hR; subst hm)
 all_goals refine And.intro (by first | rfl | simp only [go_sem, polyC, lowB_length, Nat.sub_zero, Nat.zero_add, F0]) (And.intro (by first | rfl | simp only [go_sem, polyC, lowB_length, Nat.sub_zero, Nat.zero_add, F0]) ?_)
 all_goals simp only [go_sem, polyC, lowB_length, Nat.sub_zero, Nat.zero_add, F0]
 all_goals repeat' (first | apply And.intro | intro _)
 refine hK3 _ ?_
 refine sr_k fun K4 hK4 => ?_
 simp only [go_sem, polyC, lowB_length, Nat.sub_zero, Nat.zero_add, F0]
 all_goals repeat' (first | apply And.intro | intro _)
 refine hK4 _ ?_
 refine condF_k (by first | rfl | (simp [go_sem, polyC, lowB_length, Nat.sub_zero, Nat.zero_add, F0]; done)) ?_
 refine skip_k ?_
 refine hN2 _ ?_
 refine seq_k fun N5 M5 hN5 hM5 => ?_
 refine sr_k fun K6 hK6 => ?_
 simp only [go_sem, polyC, lowB_length, Nat.sub_zero, Nat.zero_add, F0]
 all_goals repeat' (first | apply And.intro | intro _)
 refine hK6 _ ?_
 refine sr_k fun K7 hK7 => ?_
 simp only [go_sem, polyC, lowB_length, Nat.sub_zero, Nat.zero_add, F0]
 all_goals repeat' (first | apply And.intro | intro _)
 refine hK7 _ ?_
 refine condT_k (by first | rfl | (simp [go_sem, polyC, lowB_length, Nat.sub_zero, Nat.zero_add, F0]; done)) ?_
 refine draw_k [22, 23, 24, 25, 26, 27] [0, 0, 2, 6, 14, 31, 63] [] mixed (by kernel_rfl) (by simp only [go_sem]) fun K8 hK8 => ?_
 simp only [go_sem, polyC, lowB_length, Nat.sub_zero, Nat.zero_add, F0]
 all_goals repeat' (first | apply And.intro | intro _)
 all_goals refine call_draw (fun k => k) _ [] (fun _ _ => rfl) (by first | rfl | (simp only [go_sem, polyC, lowB_length, Nat.sub_zero, Nat.zero_add, F0]; rfl) | simp only [go_sem, polyC, lowB_length, Nat.sub_zero, Nat.zero_add, F0]) ((psoaked_ r0 r1 p0 p1 s.acc.a s.acc.b s.acc.c (pad16 s.rest) hpl (s.rest.length : Nat) ha4 s.rest (by omega)).plain fun _ _ h => h) ?_ ?_
 all_goals try (refine And.intro ?_ (And.intro ?_ (And.intro ?_ ?_)) <;> first | rfl | simp only [go_sem])
 all_goals simp only [go_sem, polyC, lowB_length, Nat.sub_zero, Nat.zero_add, F0]
 all_goals repeat' (first | apply And.intro | intro _)
 refine hK8 _ _ ?_ ?_
 · first | trivial | (simp only [go_sem]; done) | (simp only [go_sem]; simp; done) | (simp only [go_sem]; simp; simp only [go_sem])
 refine hN5 _ ?_
 refine sr_k fun K9 hK9 => ?_
 simp only [go_sem, polyC, lowB_length, Nat.sub_zero, Nat.zero_add, F0]
 all_goals repeat' (first | apply And.intro | intro _)
 refine hK9 _ ?_
 refine sd_k [28, 29, 30, 31, 32, 33, 34, 35, 36, 7] [0, 1, 3, 7, 0, 16, 48, 127, 255, 511] [] mixed (by kernel_rfl) (by simp only [go_sem]) fun K10 hK10 => ?_
 simp only [go_sem, polyC, lowB_length, Nat.sub_zero, Nat.zero_add, F0]
 all_goals repeat' (first | apply And.intro | intro _)
 all_goals refine call_draw (fun k => k) _ [] (fun _ _ => rfl) (by first | rfl | (simp only [go_sem, polyC, lowB_length, Nat.sub_zero, Nat.zero_add, F0]; rfl) | simp only [go_sem, polyC, lowB_length, Nat.sub_zero, Nat.zero_add, F0]) ((low_ _ 8 (by decide)).plain fun _ _ h => h) ?_ ?_
 all_goals try (refine And.intro ?_ (And.intro ?_ (And.intro ?_ ?_)) <;> first | rfl | simp only [go_sem])
 all_goals simp only [go_sem, polyC, lowB_length, Nat.sub_zero, Nat.zero_add, F0]
 all_goals repeat' (first | apply And.intro | intro _)
 all_goals refine call_draw (fun k => k) _ [] (fun _ _ => rfl) (by first | rfl | (simp only [go_sem, polyC, lowB_length, Nat.sub_zero, Nat.zero_add, F0]; rfl) | simp only [go_sem, polyC, lowB_length, Nat.sub_zero, Nat.zero_add, F0]) ((low_ _ 8 (by decide)).plain fun _ _ h => h) ?_ ?_
 all_goals try (refine And.intro ?_ (And.intro ?_ (And.intro ?_ ?_)) <;> first | rfl | simp only [go_sem])
 all_goals simp only [go_sem, polyC, lowB_length, Nat.sub_zero, Nat.zero_add, F0]
 all_goals repeat' (first | apply And.intro | intro _)
 refine hK10 _ _ ?_ ?_
 · first | trivial | (simp only [go_sem]; done) | (simp only [go_sem]; simp; done) | (simp only [go_sem]; simp; simp only [go_sem])
 refine sd_k [37, 38, 39, 40, 41, 42, 43, 44, 45, 8] [0, 1, 3, 7, 0, 16, 48, 127, 255, 511] [] mixed (by kernel_rfl) (by simp only [go_sem]) fun K11 hK11 => ?_
 simp only [go_sem, polyC, lowB_length, Nat.sub_zero, Nat.zero_add, F0]
 all_goals repeat' (first | apply And.intro | intro _)
 all_goals refine call_draw (fun k => k) _ [] (fun _ _ => rfl) (by first | rfl | (simp only [go_sem, polyC, lowB_length, Nat.sub_zero, Nat.zero_add, F0]; rfl) | simp only [go_sem, polyC, lowB_length, Nat.sub_zero, Nat.zero_add, F0]) ((low_ _ 8 (by decide)).plain fun _ _ h => h) ?_ ?_
 all_goals try (refine And.intro ?_ (And.intro ?_ (And.intro ?_ ?_)) <;> first | rfl | simp only [go_sem])
 all_goals simp only [go_sem, polyC, lowB_length, Nat.sub_zero, Nat.zero_add, F0]
 all_goals repeat' (first | apply And.intro | intro _)
 all_goals refine call_draw (fun k => k) _ [] (fun _ _ => rfl) (by first | rfl | (simp only [go_sem, polyC, lowB_length, Nat.sub_zero, Nat.zero_add, F0]; rfl) | simp only [go_sem, polyC, lowB_length, Nat.sub_zero, Nat.zero_add, F0]) ((low_ _ 8 (by decide)).plain fun _ _ h => h) ?_ ?_
 all_goals try (refine And.intro ?_ (And.intro ?_ (And.intro ?_ ?_)) <;> first | rfl | simp only [go_sem])
 all_goals simp only [go_sem, polyC, lowB_length, Nat.sub_zero, Nat.zero_add, F0]
 all_goals repeat' (first | apply And.intro | intro _)
 refine hK11 _ _ ?_ ?_
 · first | trivial | (simp only [go_sem]; done) | (simp only [go_sem]; simp; done) | (simp only [go_sem]; simp; simp only [go_sem])
 refine sr_k fun K12 hK12 => ?_
 simp only [go_sem, polyC, lowB_length, Nat.sub_zero, Nat.zero_add, F0]
 all_goals repeat' (first | apply And.intro | intro _)
 refine hK12 _ ?_
 refine seq_k fun N13 M13 hN13 hM13 => ?_
 refine sr_k fun K14 hK14 => ?_
 simp only [go_sem, polyC, lowB_length, Nat.sub_zero, Nat.zero_add, F0]
 all_goals repeat' (first | apply And.intro | intro _)
 refine hK14 _ ?_
 refine block_k fun B15 bn15 bx15 br15 bi15 => ?_
 refine ht_dropE [0, 1, 4, 5, 11, 12, 13, 14, 15, 16, 17, 18, 19, 20, 21, 22, 23, 24, 25, 26, 27, 28, 29, 30, 31, 32, 33, 34, 35, 36, 37, 38, 39, 40, 41, 42, 43, 44, 45] ?_
 simp only [dropE_mk, fgt_nil, fgt_cons, List.contains_cons, List.contains_nil, Nat.reduceBEq, beq_self_eq_true, Bool.or_false, Bool.or_true, Bool.true_or, Bool.false_or, Bool.false_eq_true, reduceIte]
 refine loop_k (fun y => [(46, .w (.one (.pl (.i ((y.1.1 : Nat) : Int))))), (9, .w (.one (.pl (.i ((y.1.2.1 : Nat) : Int)))))]) (fun y => [(6, ⟨false, bytesC y.1.2.2⟩)]) (fun y => 16 - y.1.1) (⟨(0, 0, List.replicate 16 0), Nat.zero_le _, Nat.zero_le _, by simp, rfl⟩ : {y : Nat × Nat × List UInt8 // y.1 ≤ 16 ∧ y.2.1 ≤ 1 ∧ y.2.2.length = 16 ∧ y.2.2.take y.1 ++ addB y.2.1 ((lowB (sp0 (soakV s.acc.a s.acc.b s.acc.c r0 r1 s.rest)) 8 ++ lowB (sp1 (soakV s.acc.a s.acc.b s.acc.c r0 r1 s.rest)) 8).drop y.1) ((lowB p0 8 ++ lowB p1 8).drop y.1) = addB 0 (lowB (sp0 (soakV s.acc.a s.acc.b s.acc.c r0 r1 s.rest)) 8 ++ lowB (sp1 (soakV s.acc.a s.acc.b s.acc.c r0 r1 s.rest)) 8) (lowB p0 8 ++ lowB p1 8)}) ?_ ?_ ?_
 · (simp only [go_sem, leX, List.cons_append, List.nil_append]; try simp)
 · (simp only [go_sem, leX, List.cons_append, List.nil_append]; try simp)
 intro yy N16 M16 hN16 hM16
 simp only [List.cons_append, List.nil_append]
 obtain ⟨⟨i, c, q⟩, hi, hc, hq, hv⟩ := yy
 simp only at hi hc hq hv
 have hev := end_ref (sp0 (soakV s.acc.a s.acc.b s.acc.c r0 r1 s.rest)) (sp1 (soakV s.acc.a s.acc.b s.acc.c r0 r1 s.rest)) p0 p1
 obtain ⟨al, hal⟩ : ∃ al, lowB (sp0 (soakV s.acc.a s.acc.b s.acc.c r0 r1 s.rest)) 8 ++ lowB (sp1 (soakV s.acc.a s.acc.b s.acc.c r0 r1 s.rest)) 8 = al := ⟨_, rfl⟩
 obtain ⟨bl, hbl⟩ : ∃ bl, lowB p0 8 ++ lowB p1 8 = bl := ⟨_, rfl⟩
 have lal : al.length = 16 := by rw [← hal]; simp [lowB_length]
 have lbl : bl.length = 16 := by rw [← hbl]; simp [lowB_length]
 rw [hal, hbl] at hv hev
 simp only [hal, hbl]
 rcases Nat.lt_or_ge i 16 with hlt | hge
 · obtain ⟨a, ha⟩ : ∃ a, al.getD i 0 = a := ⟨_, rfl⟩
   obtain ⟨b, hb⟩ : ∃ b, bl.getD i 0 = b := ⟨_, rfl⟩
   have hda := drop_cons (l := al) (j := i) (by omega)
   have hdb := drop_cons (l := bl) (j := i) (by omega)
   rw [ha] at hda
   rw [hb] at hdb
   rw [hda, hdb, addB] at hv
   have a1 := a.toNat_lt
   have b1 := b.toNat_lt
   obtain ⟨x, hx⟩ : ∃ x, UInt8.ofNat (c + a.toNat + b.toNat) = x := ⟨_, rfl⟩
   rw [hx] at hv
   have hcq : ((i : Nat) : Int) < 16 := by omega
   have hc0 : (0 : Int) ≤ ((i : Nat) : Int) := by omega
   have hk2 : i + 1 ≤ 16 := by omega
   have hput : bytesC (List.take i q) ++ [L.pl (PL.u8 x)] ++ bytesC (List.drop (i + 1) q) = bytesC (q.take i ++ x :: q.drop (i + 1)) := by simp [bytesC]
   have hmo : UInt8.ofNat ((((c + (a.toNat + b.toNat) : Nat) : Int) % 256).toNat) = x := by
    rw [← hx, show (((c + (a.toNat + b.toNat) : Nat) : Int) % 256).toNat = (c + (a.toNat + b.toNat)) % 256 from by omega]
    apply UInt8.toNat_inj.mp
    simp only [UInt8.toNat_ofNat']; omega
   have htd : ((c + (a.toNat + b.toNat) : Nat) : Int).tdiv 256 = (((c + a.toNat + b.toNat) / 256 : Nat) : Int) := by
    rw [show ((c + (a.toNat + b.toNat) : Nat) : Int).tdiv 256 = (((c + (a.toNat + b.toNat)) / 256 : Nat) : Int) from rfl, Nat.add_assoc]
   have n1 : (c + a.toNat + b.toNat) / 256 ≤ 1 := by omega
   have n2 : (q.take i ++ x :: q.drop (i + 1)).length = 16 := by rw [List.length_append, List.length_cons, List.length_take, List.length_drop]; omega
   have htl : (q.take i).length = i := by rw [List.length_take]; omega
   have n3 : (q.take i ++ x :: q.drop (i + 1)).take (i + 1) ++ addB ((c + a.toNat + b.toNat) / 256) (al.drop (i + 1)) (bl.drop (i + 1)) = addB 0 al bl := by
    rw [← hv, List.take_append, htl, List.take_of_length_le (by omega), show i + 1 - i = 1 from by omega, List.take_succ_cons, List.take_zero, List.append_assoc]; rfl
   obtain ⟨hw1, hw2, hw4, hs1⟩ : Go.RowKit.wrap64 (((a.toNat : Nat) : Int) + ((b.toNat : Nat) : Int)) = ((a.toNat + b.toNat : Nat) : Int) ∧ Go.RowKit.wrap64 (((c : Nat) : Int) + ((a.toNat + b.toNat : Nat) : Int)) = ((c + (a.toNat + b.toNat) : Nat) : Int) ∧ Go.RowKit.wrap64 ((((c + a.toNat + b.toNat) / 256 : Nat) : Int)) = (((c + a.toNat + b.toNat) / 256 : Nat) : Int) ∧ Go.RowKit.wrap64 (((i : Nat) : Int) + 1) = ((i + 1 : Nat) : Int) := ⟨wnat (by omega) (by omega), wnat (by omega) (by omega), wnat rfl (by omega), wnat (by omega) (by omega)⟩
   have F16 := And.intro hcq <| And.intro hc0 <| And.intro hk2 <| And.intro hq <| And.intro lal <| And.intro lbl <| And.intro ha <| And.intro hb <| And.intro hput <| And.intro hmo <| And.intro htd <| And.intro hw1 <| And.intro hw2 <| And.intro hw4 <| hs1
   refine sr_k fun K17 hK17 => ?_
   simp only [go_sem, polyC, lowB_length, Nat.sub_zero, Nat.zero_add, F0, F16]
   all_goals repeat' (first | apply And.intro | intro _)
   refine hK17 _ ?_
   refine seq_k fun N18 M18 hN18 hM18 => ?_
   refine condT_k (by first | rfl | (simp [go_sem, polyC, lowB_length, Nat.sub_zero, Nat.zero_add, F0, F16]; done)) ?_
   refine skip_k ?_
   refine hN18 _ ?_
   refine seq_k fun N19 M19 hN19 hM19 => ?_
   refine block_k fun B20 bn20 bx20 br20 bi20 => ?_
   refine sr_k fun K21 hK21 => ?_
   simp only [go_sem, polyC, lowB_length, Nat.sub_zero, Nat.zero_add, F0, F16]
   all_goals repeat' (first | apply And.intro | intro _)
   refine hK21 _ ?_
   refine sd_k [49, 50, 51, 52, 53, 54, 55, 56, 57, 58, 59, 9] [0, 0, 0, 6, 14, 0, 0, 96, 224, 510, 1023, 2047] [] mixed (by kernel_rfl) (by simp only [go_sem]) fun K22 hK22 => ?_
   simp only [go_sem, polyC, lowB_length, Nat.sub_zero, Nat.zero_add, F0, F16]
   all_goals repeat' (first | apply And.intro | intro _)
   refine hK22 _ _ ?_ ?_
   · first | trivial | (simp only [go_sem]; done) | (simp only [go_sem]; simp; done) | (simp only [go_sem]; simp; simp only [go_sem])
   refine sr_k fun K23 hK23 => ?_
   simp only [go_sem, polyC, lowB_length, Nat.sub_zero, Nat.zero_add, F0, F16]
   all_goals repeat' (first | apply And.intro | intro _)
   refine hK23 _ ?_
   refine region_k fun K24 hK24 => ?_
   simp only [go_sem, polyC, lowB_length, Nat.sub_zero, Nat.zero_add, F0, F16]
   all_goals repeat' (first | apply And.intro | intro _)
   refine hK24 _ ?_
   refine bn20 _ ?_
   refine hN19 _ ?_
   refine region_k fun K25 hK25 => ?_
   simp only [go_sem, polyC, lowB_length, Nat.sub_zero, Nat.zero_add, F0, F16]
   all_goals repeat' (first | apply And.intro | intro _)
   refine hK25 _ ?_
   refine hN16 ⟨(i + 1, (c + a.toNat + b.toNat) / 256, q.take i ++ x :: q.drop (i + 1)), hlt, n1, n2, by rw [hal, hbl]; exact n3⟩ _ ?_ ?_ ?_
   · (exact Nat.sub_lt_sub_left hlt (Nat.lt_succ_self i))
   · (simp only [go_sem, leX, List.cons_append, List.nil_append]; try simp [hal, hbl])
   · (simp only [go_sem, leX, List.cons_append, List.nil_append]; try simp)
 · obtain rfl : i = 16 := by omega
   have hcq : ¬ ((16 : Nat) : Int) < 16 := by omega
   have hfin : q = endV (sp0 (soakV s.acc.a s.acc.b s.acc.c r0 r1 s.rest)) (sp1 (soakV s.acc.a s.acc.b s.acc.c r0 r1 s.rest)) p0 p1 := by
    rw [← hev, ← hv, List.drop_of_length_le (by omega), List.take_of_length_le (by omega)]; simp [addB]
   refine sr_k fun K26 hK26 => ?_
   simp only [go_sem, polyC, lowB_length, Nat.sub_zero, Nat.zero_add, F0, hcq, hq]
   all_goals repeat' (first | apply And.intro | intro _)
   refine hK26 _ ?_
   refine seq_k fun N27 M27 hN27 hM27 => ?_
   refine condF_k (by first | rfl | (simp [go_sem, polyC, lowB_length, Nat.sub_zero, Nat.zero_add, F0, hcq, hq]; done)) ?_
   refine exit_k ?_
   refine hM27 _ _ ?_
   refine hM16 _ _ ?_
   refine bx15 _ ?_
   refine hN13 _ ?_
   refine sr_k fun K28 hK28 => ?_
   simp only [go_sem, polyC, lowB_length, Nat.sub_zero, Nat.zero_add, F0, hcq, hq]
   all_goals repeat' (first | apply And.intro | intro _)
   refine hK28 _ ?_
   refine ret_k ?_
   simp only [go_sem, polyC, lowB_length, Nat.sub_zero, Nat.zero_add, F0, hcq, hq]
   all_goals (first | (rw [hfa, hfin]; done) | (rw [hfa, hfin]; rfl))
end Go.Sy
