/- Bytes added to a sum: the walks of what may be. -/
import Derived.Test.YtcmcnfjdfcianaaDoorvqgB15
set_option linter.unusedVariables false
set_option linter.unusedSimpArgs false
namespace Go.Sy
namespace Bk
open Go.Proofs
attribute [local irreducible] atCall HT runOps runD onC onE onO onG goV goA goS onSt onGuard
theorem plain_st (s : HSt) (e : Int) : plainV (.tup [.agg (stB s), .one (.pl (.i e))]) = true := plain_hash _ _ _ _ _
theorem take_all8 {α : Type} {l : List α} {n : Nat} (h : l.length ≤ n) : l.take n = l := List.take_of_length_le h
set_option maxHeartbeats 3200000 in
set_option maxRecDepth 100000 in
theorem hadd_ok (h0 h1 h2 h3 h4 h5 h6 h7 : UInt32) (d : Nat) (r : List UInt8) (hs : HSt.ok ⟨⟨h0, h1, h2, h3, h4, h5, h6, h7⟩, d, r⟩) (b : List UInt8) (hbl : d + r.length + b.length ≤ 9223372036854775807) (ex : Bool) (hnb : ¬ 1073741824 < d + r.length + b.length) :
 CtM Tryd.prog 37 [.w (.agg (stB ⟨⟨h0, h1, h2, h3, h4, h5, h6, h7⟩, d, r⟩)), .w (.one (.pl (.R ex 1 (byteRows b))))] [(1000000, ⟨false, [.pl (.u32 1779033703), .pl (.u32 3144134277), .pl (.u32 1013904242), .pl (.u32 2773480762), .pl (.u32 1359893119), .pl (.u32 2600822924), .pl (.u32 528734635), .pl (.u32 1541459225)]⟩), (1000002, ⟨false, ordC⟩)] (Told (fun v m => v = .tup [.agg (stB (absB ⟨⟨h0, h1, h2, h3, h4, h5, h6, h7⟩, d, r⟩ b)), .one (.pl (.i 0))] ∧ m = [])) := by
 have hr : r.length ≤ 64 := hs.1
 have hd : d + r.length ≤ 1073741824 := hs.2.1
 have hpl := pad64_length hr
 have hok := stB_ok hs
 obtain ⟨l, hl⟩ : ∃ l, d + r.length = l := ⟨_, rfl⟩
 have hlen : HSt.len ⟨⟨h0, h1, h2, h3, h4, h5, h6, h7⟩, d, r⟩ = l := hl
 rw [hlen] at hok
 have he := herr_ok hok
 have hb := hbad_ok hok
 have hw : Go.RowKit.wrap64 (1073741824 - ((l : Nat) : Int)) = 1073741824 - ((l : Nat) : Int) := w64 (by omega)
 have hc : ¬ 1073741824 - ((l : Nat) : Int) < ((b.length : Nat) : Int) := by clear hw; omega
 have F0 := And.intro hlen <| And.intro hpl <| And.intro he <| And.intro hw <| hc
 refine CtM.k Tryd.func37 rfl Tryd.ntmps37 (congrArg Array.toList Tryd.results37) (by simp) fun w0 ro may fx => ?_
 refine top_k fun zZ zhZ => ?_
 iterate 21 first
  | (refine sr_k fun zK zhK => ?_; simp only [go_sem, stB, hashC, H8.ls, F0]; (repeat' (first | apply And.intro | intro _)))
  | refine zhK _ ?_
  | refine skip_k ?_
  | (refine zhN _ ?_; clear zhN zhM)
  | refine block_k fun zB zbn zbx zbr zbi => ?_
  | ((all_goals (refine call_view (fun k => k) (fun _ _ => rfl) ?_ ((hash_check h0 h1 h2 h3 h4 h5 h6 h7 (pad64 r) hpl ((r.length : Nat) : Int) ((l : Nat) : Int)).plain fun _ _ h => h) ?_; focus (first | rfl | (simp only [go_sem, stB, hashC, H8.ls, F0] <;> rfl)))); (all_goals (rintro v m ⟨hR, hm⟩; subst hR; subst hm)); (all_goals refine And.intro (by first | rfl | simp only [go_sem, stB, hashC, H8.ls, F0]) (And.intro (by first | rfl | simp only [go_sem, stB, hashC, H8.ls, F0]) ?_)); (all_goals simp only [go_sem, stB, hashC, H8.ls, F0]); (all_goals repeat' (first | apply And.intro | intro _)))
  | refine seq_k fun zN zM zhN zhM => ?_
  | (refine condF_k ?_ ?_; focus (first | rfl | (simp [go_sem, stB, hashC, H8.ls, F0]; done)))
 refine ht_dropE [0, 1, 6, 9, 10, 11, 12, 13, 14, 15, 16, 17, 18, 19, 20, 21] ?_
 simp only [dropE_mk, fgt_nil, fgt_cons, List.contains_cons, List.contains_nil, Nat.reduceBEq, beq_self_eq_true, Bool.or_false, Bool.or_true, Bool.true_or, Bool.false_or, Bool.false_eq_true, reduceIte]
 refine loop_k (fun y => [(24, .w (.one (.pl (.i ((y.1 : Nat) : Int)))))]) (fun y => [(2, ⟨false, stB (absB ⟨⟨h0, h1, h2, h3, h4, h5, h6, h7⟩, d, r⟩ (b.take y.1))⟩)]) (fun y => b.length - y.1) (⟨0, Nat.zero_le _⟩ : {y : Nat // y ≤ b.length}) ?_ ?_ ?_
 · (simp only [go_sem, leX, List.cons_append, List.nil_append]; try simp)
 · (simp only [stB, hashC, H8.ls, absB, List.take_zero, List.foldl_nil, hlen, go_sem, leX, List.cons_append, List.nil_append]; try simp [stB, hlen, absB, leX, look])
 intro ⟨i, hi⟩ zN zM zhN zhM
 simp only [List.cons_append, List.nil_append]
 have hd : (i < b.length ∧ (absB ⟨⟨h0, h1, h2, h3, h4, h5, h6, h7⟩, d, r⟩ (b.take i)).rest.length = 64) ∨ (i < b.length ∧ ¬ (absB ⟨⟨h0, h1, h2, h3, h4, h5, h6, h7⟩, d, r⟩ (b.take i)).rest.length = 64) ∨ i = b.length := by
  by_cases e1 : i = b.length
  · exact .inr (.inr e1)
  · by_cases e2 : (absB ⟨⟨h0, h1, h2, h3, h4, h5, h6, h7⟩, d, r⟩ (b.take i)).rest.length = 64
    · exact .inl ⟨by omega, e2⟩
    · exact .inr (.inl ⟨by omega, e2⟩)
 rcases hd with ⟨hlt, h15⟩ | ⟨hlt, h15⟩ | rfl
 · obtain ⟨⟨⟨q0, q1, q2, q3, q4, q5, q6, q7⟩, d1, q⟩, hq⟩ : ∃ q, absB ⟨⟨h0, h1, h2, h3, h4, h5, h6, h7⟩, d, r⟩ (b.take i) = q := ⟨_, rfl⟩
   have hal := absB_len (l := b.take i) (s := ⟨⟨h0, h1, h2, h3, h4, h5, h6, h7⟩, d, r⟩) hr
   rw [hq, List.length_take] at hal
   simp only at hal
   obtain ⟨hq64, hqd⟩ := hal
   have hsn := absB_snoc (s := ⟨⟨h0, h1, h2, h3, h4, h5, h6, h7⟩, d, r⟩) hlt
   rw [hq] at hsn
   have hpq := pad64_length (r := q) hq64
   simp only [hq, stB]
   have hcq : ((i : Nat) : Int) < ((b.length : Nat) : Int) := by omega
   have hc0 : (0 : Int) ≤ ((i : Nat) : Int) := by omega
   have hg0 := byteRows_get hlt
   obtain ⟨c, hc⟩ : ∃ c, b.getD i 0 = c := ⟨_, rfl⟩
   rw [hc] at hsn hg0
   obtain ⟨l1, hl1⟩ : ∃ l, d1 + q.length = l := ⟨_, rfl⟩
   have hlen1 : HSt.len ⟨⟨q0, q1, q2, q3, q4, q5, q6, q7⟩, d1, q⟩ = l1 := hl1
   have hlb : l1 + 1 ≤ 1073741824 := by omega
   have hmi : min i b.length = i := by omega
   rw [hmi] at hqd
   rw [hq] at h15
   simp only at h15
   have hpf := pad64_full h15
   have hce : ((q.length : Nat) : Int) = 64 := by omega
   obtain ⟨⟨z0, z1, z2, z3, z4, z5, z6, z7⟩, hz⟩ : ∃ z, soakB ⟨q0, q1, q2, q3, q4, q5, q6, q7⟩ q (d1 + 64) false = z := ⟨_, rfl⟩
   have hst : stepB ⟨⟨q0, q1, q2, q3, q4, q5, q6, q7⟩, d1, q⟩ c = ⟨⟨z0, z1, z2, z3, z4, z5, z6, z7⟩, d1 + 64, [c]⟩ := by unfold stepB; rw [if_pos h15]; simp only [hz]
   rw [hst] at hsn
   have hl64 : d1 + 64 = l1 := by omega
   rw [hl64] at hz
   have hsq := squeeze_ q0 q1 q2 q3 q4 q5 q6 q7 q h15 64 l1 (by omega) false
   rw [hz] at hsq
   have hlen2 : HSt.len ⟨⟨z0, z1, z2, z3, z4, z5, z6, z7⟩, d1 + 64, [c]⟩ = l1 + 1 := by show d1 + 64 + 1 = _; omega
   have hput : List.drop 1 (List.replicate 64 (0 : UInt8)) = List.replicate 63 0 := rfl
   have hp1 : bytesC (c :: List.replicate 63 0) = L.pl (PL.u8 c) :: bytesC (List.replicate 63 0) := rfl
   obtain ⟨hs1, hs2, hs3⟩ : Go.RowKit.wrap64 (((i : Nat) : Int) + 1) = ((i + 1 : Nat) : Int) ∧ Go.RowKit.wrap64 (((l1 : Nat) : Int) + 1) = ((l1 + 1 : Nat) : Int) ∧ Go.RowKit.wrap64 1 = 1 := ⟨wnat (by omega) (by omega), wnat (by omega) (by omega), w64 (by decide)⟩
   have F10 := And.intro hlen1 <| And.intro hcq <| And.intro hc0 <| And.intro hg0 <| And.intro hpf <| And.intro h15 <| And.intro hce <| And.intro hput <| And.intro hs1 <| And.intro hs2 <| hs3
   iterate 30 first
    | refine zhK _ ?_
    | (refine sr_k fun zK zhK => ?_; simp only [go_sem, stB, hashC, H8.ls, F0, F10]; (repeat' (first | apply And.intro | intro _)))
    | (refine zhN _ ?_; clear zhN zhM)
    | (refine region_k fun zK zhK => ?_; simp only [go_sem, stB, hashC, H8.ls, F0, F10]; (repeat' (first | apply And.intro | intro _)))
    | refine skip_k ?_
    | refine block_k fun zB zbn zbx zbr zbi => ?_
    | (refine zbn _ ?_; clear zbn zbx zbr zbi)
    | ((all_goals (refine call_hand false [] (fun k => k) (fun _ _ => rfl) ?_ (by decide) ?_ hsq.told ?_; iterate 2 (focus (first | rfl | (simp only [go_sem, stB, hashC, H8.ls, F0, F10] <;> first | done | rfl | simp))))); (all_goals (rintro v m ⟨hR, hm⟩; subst hR; subst hm)); (all_goals (refine And.intro ?_ (And.intro ?_ (And.intro ?_ ?_)); iterate 3 (focus (first | rfl | (simp only [go_sem, stB, hashC, H8.ls, F0, F10]; done) | (simp [go_sem, look, stB, hashC, H8.ls, F0, F10]; done))))); (all_goals (try simp only [go_sem, stB, hashC, H8.ls, F0, F10])); (all_goals (try simp only [go_sem, stB, hashC, H8.ls, F0, F10])); (all_goals repeat' (first | apply And.intro | intro _)))
    | refine seq_k fun zN zM zhN zhM => ?_
    | (refine condT_k ?_ ?_; focus (first | rfl | (simp [go_sem, stB, hashC, H8.ls, F0, F10]; done)))
   refine zhN ⟨i + 1, hlt⟩ _ ?_ ?_ ?_
   · (exact Nat.sub_lt_sub_left hlt (Nat.lt_succ_self i))
   · (simp only [go_sem, leX, List.cons_append, List.nil_append]; try simp)
   · (simp only [hsn, stB, hlen2, pad64_one, hp1, hashC, H8.ls, go_sem, leX, List.cons_append, List.nil_append]; first | done | (simp [hsn, stB, hlen2, pad64_one, hashC, H8.ls, leX, look]; done) | rfl)
 · obtain ⟨⟨⟨q0, q1, q2, q3, q4, q5, q6, q7⟩, d1, q⟩, hq⟩ : ∃ q, absB ⟨⟨h0, h1, h2, h3, h4, h5, h6, h7⟩, d, r⟩ (b.take i) = q := ⟨_, rfl⟩
   have hal := absB_len (l := b.take i) (s := ⟨⟨h0, h1, h2, h3, h4, h5, h6, h7⟩, d, r⟩) hr
   rw [hq, List.length_take] at hal
   simp only at hal
   obtain ⟨hq64, hqd⟩ := hal
   have hsn := absB_snoc (s := ⟨⟨h0, h1, h2, h3, h4, h5, h6, h7⟩, d, r⟩) hlt
   rw [hq] at hsn
   have hpq := pad64_length (r := q) hq64
   simp only [hq, stB]
   have hcq : ((i : Nat) : Int) < ((b.length : Nat) : Int) := by omega
   have hc0 : (0 : Int) ≤ ((i : Nat) : Int) := by omega
   have hg0 := byteRows_get hlt
   obtain ⟨c, hc⟩ : ∃ c, b.getD i 0 = c := ⟨_, rfl⟩
   rw [hc] at hsn hg0
   obtain ⟨l1, hl1⟩ : ∃ l, d1 + q.length = l := ⟨_, rfl⟩
   have hlen1 : HSt.len ⟨⟨q0, q1, q2, q3, q4, q5, q6, q7⟩, d1, q⟩ = l1 := hl1
   have hlb : l1 + 1 ≤ 1073741824 := by omega
   have hmi : min i b.length = i := by omega
   rw [hmi] at hqd
   rw [hq] at h15
   simp only at h15
   have hce : (((q.length : Nat) : Int) = 64) = False := eq_false (by omega)
   have hst : stepB ⟨⟨q0, q1, q2, q3, q4, q5, q6, q7⟩, d1, q⟩ c = ⟨⟨q0, q1, q2, q3, q4, q5, q6, q7⟩, d1, q ++ [c]⟩ := by unfold stepB; rw [if_neg h15]
   rw [hst] at hsn
   have hc1 : (0 : Int) ≤ ((q.length : Nat) : Int) ∧ ((q.length : Nat) : Int) < 64 ∧ q.length + 1 ≤ 64 ∧ q.length < 64 := by omega
   have hpt := pad64_take q
   have hps := pad64_set (r := q) (by omega) c
   have hput : bytesC q ++ [L.pl (PL.u8 c)] ++ bytesC (List.drop (q.length + 1) (pad64 q)) = bytesC (pad64 (q ++ [c])) := by rw [← hps]; simp [bytesC]
   have hpl2 := pad64_length (r := q ++ [c]) (by simp; omega)
   have hle3 : (64 ≤ q.length + 1 + (List.drop (q.length + 1) (pad64 q)).length) = True := eq_true (by rw [List.length_drop, hpq]; omega)
   have hlen2 : HSt.len ⟨⟨q0, q1, q2, q3, q4, q5, q6, q7⟩, d1, q ++ [c]⟩ = l1 + 1 := by show d1 + (q ++ [c]).length = _; rw [List.length_append, List.length_cons, List.length_nil]; omega
   obtain ⟨hs1, hs2, hs3⟩ : Go.RowKit.wrap64 (((i : Nat) : Int) + 1) = ((i + 1 : Nat) : Int) ∧ Go.RowKit.wrap64 (((l1 : Nat) : Int) + 1) = ((l1 + 1 : Nat) : Int) ∧ Go.RowKit.wrap64 (((q.length : Nat) : Int) + 1) = ((q.length + 1 : Nat) : Int) := ⟨wnat (by omega) (by omega), wnat (by omega) (by omega), wnat (by omega) (by omega)⟩
   have F23 := And.intro hlen1 <| And.intro hcq <| And.intro hc0 <| And.intro hg0 <| And.intro hput <| And.intro hpl2 <| And.intro hle3 <| And.intro hpq <| And.intro hpt <| And.intro hce <| And.intro hc1 <| And.intro hs1 <| And.intro hs2 <| hs3
   iterate 26 first
    | refine zhK _ ?_
    | (refine sr_k fun zK zhK => ?_; simp only [go_sem, stB, hashC, H8.ls, F0, F23]; (repeat' (first | apply And.intro | intro _)))
    | (refine zhN _ ?_; clear zhN zhM)
    | refine skip_k ?_
    | (refine region_k fun zK zhK => ?_; simp only [go_sem, stB, hashC, H8.ls, F0, F23]; (repeat' (first | apply And.intro | intro _)))
    | refine block_k fun zB zbn zbx zbr zbi => ?_
    | (refine zbn _ ?_; clear zbn zbx zbr zbi)
    | refine seq_k fun zN zM zhN zhM => ?_
    | (refine condT_k ?_ ?_; focus (first | rfl | (simp [go_sem, stB, hashC, H8.ls, F0, F23]; done)))
    | (refine condF_k ?_ ?_; focus (first | rfl | (simp [go_sem, stB, hashC, H8.ls, F0, F23]; done)))
   refine zhN ⟨i + 1, hlt⟩ _ ?_ ?_ ?_
   · (exact Nat.sub_lt_sub_left hlt (Nat.lt_succ_self i))
   · (simp only [go_sem, leX, List.cons_append, List.nil_append]; try simp)
   · (simp only [hsn, stB, hlen2, hashC, H8.ls, go_sem, leX, List.cons_append, List.nil_append]; first | done | (simp [hsn, stB, hlen2, hashC, H8.ls, leX, look]; done) | rfl)
 · obtain ⟨⟨⟨q0, q1, q2, q3, q4, q5, q6, q7⟩, d1, q⟩, hq⟩ : ∃ q, absB ⟨⟨h0, h1, h2, h3, h4, h5, h6, h7⟩, d, r⟩ (b.take b.length) = q := ⟨_, rfl⟩
   simp only [hq, stB]
   rw [List.take_length] at hq
   have hal := absB_len (l := b) (s := ⟨⟨h0, h1, h2, h3, h4, h5, h6, h7⟩, d, r⟩) hr
   rw [hq] at hal
   have hpq := pad64_length (r := q) hal.1
   have hcq : ¬ ((b.length : Nat) : Int) < ((b.length : Nat) : Int) := by omega

   iterate 13 first
    | (refine sr_k fun zK zhK => ?_; simp only [go_sem, stB, hashC, H8.ls, F0, hcq, hpq]; (repeat' (first | apply And.intro | intro _)))
    | refine zhK _ ?_
    | (refine zhM _ _ ?_; clear zhN zhM)
    | refine exit_k ?_
    | (refine zbx _ ?_; clear zbn zbx zbr zbi)
    | (refine zhN _ ?_; clear zhN zhM)
    | refine ret_k ?_
    | (refine zhZ _ _ ?_; simp only [go_sem, stB, hashC, H8.ls, F0, hcq, hpq]; (all_goals (exact told_plain (by simp [plainV, plainW, bytesC]) ⟨by rw [hq], rfl⟩)))
    | refine seq_k fun zN zM zhN zhM => ?_
    | (refine condF_k ?_ ?_; focus (first | rfl | (simp [go_sem, stB, hashC, H8.ls, F0, hcq, hpq]; done)))
end Bk
end Go.Sy
