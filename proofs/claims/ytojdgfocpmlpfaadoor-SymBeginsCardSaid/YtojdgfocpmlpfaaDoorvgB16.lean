/- Bytes added to a sum: the walks of what may be. -/
import Derived.Test.YtojdgfocpmlpfaaDoorvgB15
set_option linter.unusedVariables false
set_option linter.unusedSimpArgs false
namespace Go.Sy
open Go.Proofs
attribute [local irreducible] atCall HT runOps runD onC onE onO onG goV goA goS onSt onGuard
set_option maxHeartbeats 3200000 in
set_option maxRecDepth 100000 in
theorem hadd_ok (h0 h1 h2 h3 h4 h5 h6 h7 : UInt32) (d : Nat) (r : List UInt8) (hs : HSt.ok ⟨⟨h0, h1, h2, h3, h4, h5, h6, h7⟩, d, r⟩) (b : List UInt8) (hbl : d + r.length + b.length ≤ 9223372036854775807) (ex : Bool) (hnb : ¬ 1073741824 < d + r.length + b.length) :
 CtM Tryd.prog 12 [.w (.agg (stB ⟨⟨h0, h1, h2, h3, h4, h5, h6, h7⟩, d, r⟩)), .w (.one (.pl (.R ex 1 (byteRows b))))] [(1000000, ⟨false, [.pl (.u32 1779033703), .pl (.u32 3144134277), .pl (.u32 1013904242), .pl (.u32 2773480762), .pl (.u32 1359893119), .pl (.u32 2600822924), .pl (.u32 528734635), .pl (.u32 1541459225)]⟩), (1000002, ⟨false, ordC⟩)] (Told (fun v m => v = .tup [.agg (stB (absB ⟨⟨h0, h1, h2, h3, h4, h5, h6, h7⟩, d, r⟩ b)), .one (.pl (.i 0))] ∧ m = [])) := by
 have hr : r.length ≤ 64 := hs.1
 have hd : d + r.length ≤ 1073741824 := hs.2.1
 have hpl := pad64_length hr
 have hok := stB_ok hs
 obtain ⟨l, hl⟩ : ∃ l, d + r.length = l := ⟨_, rfl⟩
 have hlen : HSt.len ⟨⟨h0, h1, h2, h3, h4, h5, h6, h7⟩, d, r⟩ = l := hl
 rw [hlen] at hok
 have he := herr_ok hok
 have hb := hbad_ok hok
 have hw : Go.RowKit.wrap64 (1073741824 - ((l : Nat) : Int)) = 1073741824 - ((l : Nat) : Int) := w64 (by omega)
 have hc : ¬ 1073741824 - ((l : Nat) : Int) < ((b.length : Nat) : Int) := by clear hw; omega
 have F0 := And.intro hlen <| And.intro hpl <| And.intro he <| And.intro hw <| hc
 refine CtM.k Tryd.func12 rfl Tryd.ntmps12 (congrArg Array.toList Tryd.results12) (by simp) fun w0 ro may fx => ?_
 refine sr_k fun K1 hK1 => ?_
 simp only [go_sem, stB, hashC, H8.ls, F0]
 repeat' (first | apply And.intro | intro _)
 refine hK1 _ ?_
 refine seq_k fun N2 M2 hN2 hM2 => ?_
 refine sr_k fun K3 hK3 => ?_
 simp only [go_sem, stB, hashC, H8.ls, F0]
 repeat' (first | apply And.intro | intro _)
 all_goals refine call_view (fun k => k) (fun _ _ => rfl) (by first | rfl | (simp only [go_sem, stB, hashC, H8.ls, F0] <;> rfl)) ((hash_check h0 h1 h2 h3 h4 h5 h6 h7 (pad64 r) hpl ((r.length : Nat) : Int) ((l : Nat) : Int)).plain fun _ _ h => h) ?_
 all_goals (rintro v m ⟨hR, hm⟩; subst hR; subst hm)
 all_goals refine And.intro (by first | rfl | simp only [go_sem, stB, hashC, H8.ls, F0]) (And.intro (by first | rfl | simp only [go_sem, stB, hashC, H8.ls, F0]) ?_)
 all_goals simp only [go_sem, stB, hashC, H8.ls, F0]
 all_goals repeat' (first | apply And.intro | intro _)
 refine hK3 _ ?_
 refine sr_k fun K4 hK4 => ?_
 simp only [go_sem, stB, hashC, H8.ls, F0]
 repeat' (first | apply And.intro | intro _)
 refine hK4 _ ?_
 refine condF_k (by first | rfl | (simp [go_sem, stB, hashC, H8.ls, F0]; done)) ?_
 refine skip_k ?_
 refine hN2 _ ?_
 refine seq_k fun N5 M5 hN5 hM5 => ?_
 refine sr_k fun K6 hK6 => ?_
 simp only [go_sem, stB, hashC, H8.ls, F0]
 repeat' (first | apply And.intro | intro _)
 refine hK6 _ ?_
 refine condF_k (by first | rfl | (simp [go_sem, stB, hashC, H8.ls, F0]; done)) ?_
 refine skip_k ?_
 refine hN5 _ ?_
 refine seq_k fun N7 M7 hN7 hM7 => ?_
 refine sr_k fun K8 hK8 => ?_
 simp only [go_sem, stB, hashC, H8.ls, F0]
 repeat' (first | apply And.intro | intro _)
 refine hK8 _ ?_
 refine block_k fun B9 bn9 bx9 br9 bi9 => ?_
 refine ht_dropE [0, 1, 6, 9, 10, 11, 12, 13, 14, 15, 16, 17, 18, 19, 20, 21] ?_
 simp only [dropE_mk, fgt_nil, fgt_cons, List.contains_cons, List.contains_nil, Nat.reduceBEq, beq_self_eq_true, Bool.or_false, Bool.or_true, Bool.true_or, Bool.false_or, Bool.false_eq_true, reduceIte]
 refine loop_k (fun y => [(24, .w (.one (.pl (.i ((y.1 : Nat) : Int)))))]) (fun y => [(2, ⟨false, stB (absB ⟨⟨h0, h1, h2, h3, h4, h5, h6, h7⟩, d, r⟩ (b.take y.1))⟩)]) (fun y => b.length - y.1) (⟨0, Nat.zero_le _⟩ : {y : Nat // y ≤ b.length}) ?_ ?_ ?_
 · (simp only [go_sem, leX, List.cons_append, List.nil_append]; try simp)
 · (simp only [stB, hashC, H8.ls, absB, List.take_zero, List.foldl_nil, hlen, go_sem, leX, List.cons_append, List.nil_append]; try simp [stB, hlen, absB, leX, look])
 intro ⟨i, hi⟩ N10 M10 hN10 hM10
 simp only [List.cons_append, List.nil_append]
 have hd : (i < b.length ∧ (absB ⟨⟨h0, h1, h2, h3, h4, h5, h6, h7⟩, d, r⟩ (b.take i)).rest.length = 64) ∨ (i < b.length ∧ ¬ (absB ⟨⟨h0, h1, h2, h3, h4, h5, h6, h7⟩, d, r⟩ (b.take i)).rest.length = 64) ∨ i = b.length := by
  by_cases e1 : i = b.length
  · exact .inr (.inr e1)
  · by_cases e2 : (absB ⟨⟨h0, h1, h2, h3, h4, h5, h6, h7⟩, d, r⟩ (b.take i)).rest.length = 64
    · exact .inl ⟨by omega, e2⟩
    · exact .inr (.inl ⟨by omega, e2⟩)
 rcases hd with ⟨hlt, h15⟩ | ⟨hlt, h15⟩ | rfl
 · obtain ⟨⟨⟨q0, q1, q2, q3, q4, q5, q6, q7⟩, d1, q⟩, hq⟩ : ∃ q, absB ⟨⟨h0, h1, h2, h3, h4, h5, h6, h7⟩, d, r⟩ (b.take i) = q := ⟨_, rfl⟩
   have hal := absB_len (l := b.take i) (s := ⟨⟨h0, h1, h2, h3, h4, h5, h6, h7⟩, d, r⟩) hr
   rw [hq, List.length_take] at hal
   simp only at hal
   obtain ⟨hq64, hqd⟩ := hal
   have hsn := absB_snoc (s := ⟨⟨h0, h1, h2, h3, h4, h5, h6, h7⟩, d, r⟩) hlt
   rw [hq] at hsn
   have hpq := pad64_length (r := q) hq64
   simp only [hq, stB]
   have hcq : ((i : Nat) : Int) < ((b.length : Nat) : Int) := by omega
   have hc0 : (0 : Int) ≤ ((i : Nat) : Int) := by omega
   have hg0 := byteRows_get hlt
   obtain ⟨c, hc⟩ : ∃ c, b.getD i 0 = c := ⟨_, rfl⟩
   rw [hc] at hsn hg0
   obtain ⟨l1, hl1⟩ : ∃ l, d1 + q.length = l := ⟨_, rfl⟩
   have hlen1 : HSt.len ⟨⟨q0, q1, q2, q3, q4, q5, q6, q7⟩, d1, q⟩ = l1 := hl1
   have hlb : l1 + 1 ≤ 1073741824 := by omega
   have hmi : min i b.length = i := by omega
   rw [hmi] at hqd
   rw [hq] at h15
   simp only at h15
   have hpf := pad64_full h15
   have hce : ((q.length : Nat) : Int) = 64 := by omega
   obtain ⟨⟨z0, z1, z2, z3, z4, z5, z6, z7⟩, hz⟩ : ∃ z, soakB ⟨q0, q1, q2, q3, q4, q5, q6, q7⟩ q (d1 + 64) false = z := ⟨_, rfl⟩
   have hst : stepB ⟨⟨q0, q1, q2, q3, q4, q5, q6, q7⟩, d1, q⟩ c = ⟨⟨z0, z1, z2, z3, z4, z5, z6, z7⟩, d1 + 64, [c]⟩ := by unfold stepB; rw [if_pos h15]; simp only [hz]
   rw [hst] at hsn
   have hl64 : d1 + 64 = l1 := by omega
   rw [hl64] at hz
   have hsq := squeeze_ q0 q1 q2 q3 q4 q5 q6 q7 q h15 64 l1 (by omega) false
   rw [hz] at hsq
   have hlen2 : HSt.len ⟨⟨z0, z1, z2, z3, z4, z5, z6, z7⟩, d1 + 64, [c]⟩ = l1 + 1 := by show d1 + 64 + 1 = _; omega
   have hput : List.drop 1 (List.replicate 64 (0 : UInt8)) = List.replicate 63 0 := rfl
   have hp1 : bytesC (c :: List.replicate 63 0) = L.pl (PL.u8 c) :: bytesC (List.replicate 63 0) := rfl
   obtain ⟨hs1, hs2, hs3⟩ : Go.RowKit.wrap64 (((i : Nat) : Int) + 1) = ((i + 1 : Nat) : Int) ∧ Go.RowKit.wrap64 (((l1 : Nat) : Int) + 1) = ((l1 + 1 : Nat) : Int) ∧ Go.RowKit.wrap64 1 = 1 := ⟨wnat (by omega) (by omega), wnat (by omega) (by omega), w64 (by decide)⟩
   have F10 := And.intro hlen1 <| And.intro hcq <| And.intro hc0 <| And.intro hg0 <| And.intro hpf <| And.intro h15 <| And.intro hce <| And.intro hput <| And.intro hs1 <| And.intro hs2 <| hs3
   refine sr_k fun K11 hK11 => ?_
   simp only [go_sem, stB, hashC, H8.ls, F0, F10]
   repeat' (first | apply And.intro | intro _)
   refine hK11 _ ?_
   refine seq_k fun N12 M12 hN12 hM12 => ?_
   refine condT_k (by first | rfl | (simp [go_sem, stB, hashC, H8.ls, F0, F10]; done)) ?_
   refine skip_k ?_
   refine hN12 _ ?_
   refine seq_k fun N13 M13 hN13 hM13 => ?_
   refine block_k fun B14 bn14 bx14 br14 bi14 => ?_
   refine sr_k fun K15 hK15 => ?_
   simp only [go_sem, stB, hashC, H8.ls, F0, F10]
   repeat' (first | apply And.intro | intro _)
   refine hK15 _ ?_
   refine seq_k fun N16 M16 hN16 hM16 => ?_
   refine sr_k fun K17 hK17 => ?_
   simp only [go_sem, stB, hashC, H8.ls, F0, F10]
   repeat' (first | apply And.intro | intro _)
   refine hK17 _ ?_
   refine condT_k (by first | rfl | (simp [go_sem, stB, hashC, H8.ls, F0, F10]; done)) ?_
   refine sr_k fun K18 hK18 => ?_
   simp only [go_sem, stB, hashC, H8.ls, F0, F10]
   repeat' (first | apply And.intro | intro _)
   all_goals (refine call_hand false [] (fun k => k) (fun _ _ => rfl) ?_ (by decide) ?_ hsq.told ?_; iterate 2 (focus (first | rfl | (simp only [go_sem, stB, hashC, H8.ls, F0, F10] <;> first | done | rfl | simp))))
   all_goals (rintro v m ⟨hR, hm⟩; subst hR; subst hm)
   all_goals (refine And.intro ?_ (And.intro ?_ (And.intro ?_ ?_)); iterate 3 (focus (first | rfl | (simp only [go_sem, stB, hashC, H8.ls, F0, F10]; done) | (simp [go_sem, look, stB, hashC, H8.ls, F0, F10]; done))))
   all_goals (try simp only [go_sem, stB, hashC, H8.ls, F0, F10])
   all_goals (try simp only [go_sem, stB, hashC, H8.ls, F0, F10])
   all_goals repeat' (first | apply And.intro | intro _)
   refine hK18 _ ?_
   refine region_k fun K19 hK19 => ?_
   simp only [go_sem, stB, hashC, H8.ls, F0, F10]
   repeat' (first | apply And.intro | intro _)
   refine hK19 _ ?_
   refine hN16 _ ?_
   refine sr_k fun K20 hK20 => ?_
   simp only [go_sem, stB, hashC, H8.ls, F0, F10]
   repeat' (first | apply And.intro | intro _)
   refine hK20 _ ?_
   refine sr_k fun K21 hK21 => ?_
   simp only [go_sem, stB, hashC, H8.ls, F0, F10]
   repeat' (first | apply And.intro | intro _)
   refine hK21 _ ?_
   refine region_k fun K22 hK22 => ?_
   simp only [go_sem, stB, hashC, H8.ls, F0, F10]
   repeat' (first | apply And.intro | intro _)
   refine hK22 _ ?_
   refine bn14 _ ?_
   refine hN13 _ ?_
   refine region_k fun K23 hK23 => ?_
   simp only [go_sem, stB, hashC, H8.ls, F0, F10]
   repeat' (first | apply And.intro | intro _)
   refine hK23 _ ?_
   refine hN10 ⟨i + 1, hlt⟩ _ ?_ ?_ ?_
   · (exact Nat.sub_lt_sub_left hlt (Nat.lt_succ_self i))
   · (simp only [go_sem, leX, List.cons_append, List.nil_append]; try simp)
   · (simp only [hsn, stB, hlen2, pad64_one, hp1, hashC, H8.ls, go_sem, leX, List.cons_append, List.nil_append]; first | done | (simp [hsn, stB, hlen2, pad64_one, hashC, H8.ls, leX, look]; done) | rfl)
 · obtain ⟨⟨⟨q0, q1, q2, q3, q4, q5, q6, q7⟩, d1, q⟩, hq⟩ : ∃ q, absB ⟨⟨h0, h1, h2, h3, h4, h5, h6, h7⟩, d, r⟩ (b.take i) = q := ⟨_, rfl⟩
   have hal := absB_len (l := b.take i) (s := ⟨⟨h0, h1, h2, h3, h4, h5, h6, h7⟩, d, r⟩) hr
   rw [hq, List.length_take] at hal
   simp only at hal
   obtain ⟨hq64, hqd⟩ := hal
   have hsn := absB_snoc (s := ⟨⟨h0, h1, h2, h3, h4, h5, h6, h7⟩, d, r⟩) hlt
   rw [hq] at hsn
   have hpq := pad64_length (r := q) hq64
   simp only [hq, stB]
   have hcq : ((i : Nat) : Int) < ((b.length : Nat) : Int) := by omega
   have hc0 : (0 : Int) ≤ ((i : Nat) : Int) := by omega
   have hg0 := byteRows_get hlt
   obtain ⟨c, hc⟩ : ∃ c, b.getD i 0 = c := ⟨_, rfl⟩
   rw [hc] at hsn hg0
   obtain ⟨l1, hl1⟩ : ∃ l, d1 + q.length = l := ⟨_, rfl⟩
   have hlen1 : HSt.len ⟨⟨q0, q1, q2, q3, q4, q5, q6, q7⟩, d1, q⟩ = l1 := hl1
   have hlb : l1 + 1 ≤ 1073741824 := by omega
   have hmi : min i b.length = i := by omega
   rw [hmi] at hqd
   rw [hq] at h15
   simp only at h15
   have hce : (((q.length : Nat) : Int) = 64) = False := eq_false (by omega)
   have hst : stepB ⟨⟨q0, q1, q2, q3, q4, q5, q6, q7⟩, d1, q⟩ c = ⟨⟨q0, q1, q2, q3, q4, q5, q6, q7⟩, d1, q ++ [c]⟩ := by unfold stepB; rw [if_neg h15]
   rw [hst] at hsn
   have hc1 : (0 : Int) ≤ ((q.length : Nat) : Int) ∧ ((q.length : Nat) : Int) < 64 ∧ q.length + 1 ≤ 64 ∧ q.length < 64 := by omega
   have hpt := pad64_take q
   have hps := pad64_set (r := q) (by omega) c
   have hput : bytesC q ++ [L.pl (PL.u8 c)] ++ bytesC (List.drop (q.length + 1) (pad64 q)) = bytesC (pad64 (q ++ [c])) := by rw [← hps]; simp [bytesC]
   have hpl2 := pad64_length (r := q ++ [c]) (by simp; omega)
   have hle3 : (64 ≤ q.length + 1 + (List.drop (q.length + 1) (pad64 q)).length) = True := eq_true (by rw [List.length_drop, hpq]; omega)
   have hlen2 : HSt.len ⟨⟨q0, q1, q2, q3, q4, q5, q6, q7⟩, d1, q ++ [c]⟩ = l1 + 1 := by show d1 + (q ++ [c]).length = _; rw [List.length_append, List.length_cons, List.length_nil]; omega
   obtain ⟨hs1, hs2, hs3⟩ : Go.RowKit.wrap64 (((i : Nat) : Int) + 1) = ((i + 1 : Nat) : Int) ∧ Go.RowKit.wrap64 (((l1 : Nat) : Int) + 1) = ((l1 + 1 : Nat) : Int) ∧ Go.RowKit.wrap64 (((q.length : Nat) : Int) + 1) = ((q.length + 1 : Nat) : Int) := ⟨wnat (by omega) (by omega), wnat (by omega) (by omega), wnat (by omega) (by omega)⟩
   have F23 := And.intro hlen1 <| And.intro hcq <| And.intro hc0 <| And.intro hg0 <| And.intro hput <| And.intro hpl2 <| And.intro hle3 <| And.intro hpq <| And.intro hpt <| And.intro hce <| And.intro hc1 <| And.intro hs1 <| And.intro hs2 <| hs3
   refine sr_k fun K24 hK24 => ?_
   simp only [go_sem, stB, hashC, H8.ls, F0, F23]
   repeat' (first | apply And.intro | intro _)
   refine hK24 _ ?_
   refine seq_k fun N25 M25 hN25 hM25 => ?_
   refine condT_k (by first | rfl | (simp [go_sem, stB, hashC, H8.ls, F0, F23]; done)) ?_
   refine skip_k ?_
   refine hN25 _ ?_
   refine seq_k fun N26 M26 hN26 hM26 => ?_
   refine block_k fun B27 bn27 bx27 br27 bi27 => ?_
   refine sr_k fun K28 hK28 => ?_
   simp only [go_sem, stB, hashC, H8.ls, F0, F23]
   repeat' (first | apply And.intro | intro _)
   refine hK28 _ ?_
   refine seq_k fun N29 M29 hN29 hM29 => ?_
   refine sr_k fun K30 hK30 => ?_
   simp only [go_sem, stB, hashC, H8.ls, F0, F23]
   repeat' (first | apply And.intro | intro _)
   refine hK30 _ ?_
   refine condF_k (by first | rfl | (simp [go_sem, stB, hashC, H8.ls, F0, F23]; done)) ?_
   refine skip_k ?_
   refine hN29 _ ?_
   refine sr_k fun K31 hK31 => ?_
   simp only [go_sem, stB, hashC, H8.ls, F0, F23]
   repeat' (first | apply And.intro | intro _)
   refine hK31 _ ?_
   refine sr_k fun K32 hK32 => ?_
   simp only [go_sem, stB, hashC, H8.ls, F0, F23]
   repeat' (first | apply And.intro | intro _)
   refine hK32 _ ?_
   refine region_k fun K33 hK33 => ?_
   simp only [go_sem, stB, hashC, H8.ls, F0, F23]
   repeat' (first | apply And.intro | intro _)
   refine hK33 _ ?_
   refine bn27 _ ?_
   refine hN26 _ ?_
   refine region_k fun K34 hK34 => ?_
   simp only [go_sem, stB, hashC, H8.ls, F0, F23]
   repeat' (first | apply And.intro | intro _)
   refine hK34 _ ?_
   refine hN10 ⟨i + 1, hlt⟩ _ ?_ ?_ ?_
   · (exact Nat.sub_lt_sub_left hlt (Nat.lt_succ_self i))
   · (simp only [go_sem, leX, List.cons_append, List.nil_append]; try simp)
   · (simp only [hsn, stB, hlen2, hashC, H8.ls, go_sem, leX, List.cons_append, List.nil_append]; first | done | (simp [hsn, stB, hlen2, hashC, H8.ls, leX, look]; done) | rfl)
 · obtain ⟨⟨⟨q0, q1, q2, q3, q4, q5, q6, q7⟩, d1, q⟩, hq⟩ : ∃ q, absB ⟨⟨h0, h1, h2, h3, h4, h5, h6, h7⟩, d, r⟩ (b.take b.length) = q := ⟨_, rfl⟩
   simp only [hq, stB]
   rw [List.take_length] at hq
   have hal := absB_len (l := b) (s := ⟨⟨h0, h1, h2, h3, h4, h5, h6, h7⟩, d, r⟩) hr
   rw [hq] at hal
   have hpq := pad64_length (r := q) hal.1
   have hcq : ¬ ((b.length : Nat) : Int) < ((b.length : Nat) : Int) := by omega

   refine sr_k fun K35 hK35 => ?_
   simp only [go_sem, stB, hashC, H8.ls, F0, hcq, hpq]
   repeat' (first | apply And.intro | intro _)
   refine hK35 _ ?_
   refine seq_k fun N36 M36 hN36 hM36 => ?_
   refine condF_k (by first | rfl | (simp [go_sem, stB, hashC, H8.ls, F0, hcq, hpq]; done)) ?_
   refine exit_k ?_
   refine hM36 _ _ ?_
   refine hM10 _ _ ?_
   refine bx9 _ ?_
   refine hN7 _ ?_
   refine sr_k fun K37 hK37 => ?_
   simp only [go_sem, stB, hashC, H8.ls, F0, hcq, hpq]
   repeat' (first | apply And.intro | intro _)
   refine hK37 _ ?_
   refine ret_k ?_
   simp only [go_sem, stB, hashC, H8.ls, F0, hcq, hpq]
   all_goals (exact told_plain (by simp [plainV, plainW, bytesC]) ⟨by rw [hq], rfl⟩)
end Go.Sy

