/- Bytes added to a sum, as the document tells it: the walk of what may be. -/
import Derived.Test.YtcmcnfjdfcianaaDoorvqgB16
import Derived.Test.YtcmcnfjdfcianaaDoorvqgB7
set_option linter.unusedVariables false
set_option linter.unusedSimpArgs false
namespace Go.Sy
namespace Bk
open Go.Proofs
attribute [local irreducible] atCall HT runOps runD onC onE onO onG goV goA goS onSt onGuard
set_option maxHeartbeats 3200000 in
set_option maxRecDepth 100000 in
theorem hadded_ok (h0 h1 h2 h3 h4 h5 h6 h7 : UInt32) (d : Nat) (r : List UInt8) (hs : HSt.ok ⟨⟨h0, h1, h2, h3, h4, h5, h6, h7⟩, d, r⟩) (b : List UInt8) (hbl : d + r.length + b.length ≤ 9223372036854775807) (ex : Bool) (hnb : ¬ 1073741824 < d + r.length + b.length) :
 CtM Tryd.prog 43 [.w (.agg (stB ⟨⟨h0, h1, h2, h3, h4, h5, h6, h7⟩, d, r⟩)), .w (.one (.pl (.R ex 1 (byteRows b))))] [(1000001, ⟨false, [.pl (.u32 1779033703), .pl (.u32 3144134277), .pl (.u32 1013904242), .pl (.u32 2773480762), .pl (.u32 1359893119), .pl (.u32 2600822924), .pl (.u32 528734635), .pl (.u32 1541459225)]⟩)] (Told (fun v m => v = .tup [.agg (stB (absB ⟨⟨h0, h1, h2, h3, h4, h5, h6, h7⟩, d, r⟩ b)), .one (.pl (.i 0))] ∧ m = [])) := by
 have hr : r.length ≤ 64 := hs.1
 have hd : d + r.length ≤ 1073741824 := hs.2.1
 have hpl := pad64_length hr
 have hok := stB_ok hs
 obtain ⟨l, hl⟩ : ∃ l, d + r.length = l := ⟨_, rfl⟩
 have hlen : HSt.len ⟨⟨h0, h1, h2, h3, h4, h5, h6, h7⟩, d, r⟩ = l := hl
 rw [hlen] at hok
 have he := herr_ok hok
 have hb := hbad_ok hok
 have n00 : (r ++ b).length ≤ r.length + b.length := by rw [List.length_append]; omega
 have n0 : d + (r ++ b).length = l + b.length := by rw [List.length_append]; omega
 have hc : ¬ (1073741824 : Int) < ((l + b.length : Nat) : Int) := by omega
 have hc1 : (0 : Int) ≤ ((r.length : Nat) : Int) := by omega
 have hc2 : ((r.length : Nat) : Int) ≤ 64 := by omega
 have hpt := pad64_take r
 have hml : r.length + b.length ≤ 9223372036854775807 := by omega
 obtain ⟨hw, hw2⟩ : Go.RowKit.wrap64 (((l : Nat) : Int) + ((b.length : Nat) : Int)) = ((l + b.length : Nat) : Int) ∧ Go.RowKit.wrap64 (((l : Nat) : Int) - ((r.length : Nat) : Int)) = ((d : Nat) : Int) := ⟨wnat (by omega) (by omega), wnat (by omega) (by omega)⟩
 have F0 := And.intro hlen <| And.intro hpl <| And.intro hb <| And.intro hw <| And.intro hw2 <| And.intro hc <| And.intro hc1 <| And.intro hc2 <| And.intro hpt <| And.intro hml <| hr
 refine CtM.k Tryd.func43 rfl Tryd.ntmps43 (congrArg Array.toList Tryd.results43) (by simp) fun w0 ro may fx => ?_
 refine top_k fun zZ zhZ => ?_
 iterate 23 first
  | (refine sr_k fun zK zhK => ?_; simp only [go_sem, stB, hashC, H8.ls, Nat.sub_zero, Nat.zero_add, F0]; (repeat' (first | apply And.intro | intro _)))
  | refine zhK _ ?_
  | refine skip_k ?_
  | (refine zhN _ ?_; clear zhN zhM)
  | (refine sd_k (id := 6) [22, 23, 24, 25, 26, 27, 28, 7] [0, 1, 3, 7, 0, 16, 63, 127] [] mixed (by kernel_rfl) (by simp only [go_sem]) fun zK zhK => ?_; simp only [go_sem, stB, hashC, H8.ls, Nat.sub_zero, Nat.zero_add, F0]; (repeat' (first | apply And.intro | intro _)))
  | refine zhK _ _ trivial ?_
  | refine block_k fun zB zbn zbx zbr zbi => ?_
  | ((all_goals (refine call_view (fun k => k) (fun _ _ => rfl) ?_ ((hash_bad h0 h1 h2 h3 h4 h5 h6 h7 (pad64 r) hpl ((r.length : Nat) : Int) ((l : Nat) : Int)).plain fun _ _ h => h) ?_; focus (first | rfl | (simp only [go_sem, stB, hashC, H8.ls, Nat.sub_zero, Nat.zero_add, F0] <;> rfl)))); (all_goals (rintro v m ⟨hR, hm⟩; subst hR; subst hm)); (all_goals refine And.intro (by first | rfl | simp only [go_sem, stB, hashC, H8.ls, Nat.sub_zero, Nat.zero_add, F0]) (And.intro (by first | rfl | simp only [go_sem, stB, hashC, H8.ls, Nat.sub_zero, Nat.zero_add, F0]) ?_)); (all_goals simp only [go_sem, stB, hashC, H8.ls, Nat.sub_zero, Nat.zero_add, F0]); (all_goals repeat' (first | apply And.intro | intro _)))
  | refine seq_k fun zN zM zhN zhM => ?_
  | (refine condF_k ?_ ?_; focus (first | rfl | (simp [go_sem, stB, hashC, H8.ls, Nat.sub_zero, Nat.zero_add, F0]; done)))
 refine ht_dropE [0, 6, 10, 11, 12, 13, 14, 15, 16, 17, 18, 19, 20, 21, 22, 23, 24, 25, 26, 27, 28, 29, 30, 31, 32, 33] ?_
 simp only [dropE_mk, fgt_nil, fgt_cons, List.contains_cons, List.contains_nil, Nat.reduceBEq, beq_self_eq_true, Bool.or_false, Bool.or_true, Bool.true_or, Bool.false_or, Bool.false_eq_true, reduceIte]
 refine loop_k (fun y => [(7, .w (.one (.pl (.str y.1.2.2)))), (8, .w (.one (.pl (.i ((y.1.2.1 : Nat) : Int)))))]) (fun y => [(2, ⟨false, hashC y.1.1 (pad64 r) ((r.length : Nat) : Int) ((l : Nat) : Int)⟩)]) (fun y => y.1.2.2.length) (⟨(⟨h0, h1, h2, h3, h4, h5, h6, h7⟩, d, r ++ b), rfl, n00, n0⟩ : {y : H8 × Nat × List UInt8 // absB ⟨y.1, y.2.1, []⟩ y.2.2 = absB ⟨⟨h0, h1, h2, h3, h4, h5, h6, h7⟩, d, []⟩ (r ++ b) ∧ y.2.2.length ≤ r.length + b.length ∧ y.2.1 + y.2.2.length = l + b.length}) ?_ ?_ ?_
 · (simp only [go_sem, leX, List.cons_append, List.nil_append]; try simp)
 · (simp only [hashC, H8.ls, go_sem, leX, List.cons_append, List.nil_append]; try simp [hashC, H8.ls, leX, look])
 intro yy zN zM zhN zhM
 simp only [List.cons_append, List.nil_append]
 obtain ⟨⟨⟨q0, q1, q2, q3, q4, q5, q6, q7⟩, k, t⟩, hv, ht, hkt⟩ := yy
 simp only at hv ht hkt
 rcases Nat.lt_or_ge 64 t.length with hlt | hge
 · have hcq : (64 : Int) < ((t.length : Nat) : Int) := by omega
   have hc0 : (64 : Int) ≤ ((t.length : Nat) : Int) := by omega
   have hc1 : ((t.length : Nat) : Int).toNat = t.length := Int.toNat_natCast _
   have htd : List.take (t.length - 64) (List.drop 64 t) = List.drop 64 t := List.take_of_length_le (by simp)
   have hbk := absB_block (l := t) (h := ⟨q0, q1, q2, q3, q4, q5, q6, q7⟩) (d := k) hlt
   obtain ⟨z, hz⟩ : ∃ z, soakB ⟨q0, q1, q2, q3, q4, q5, q6, q7⟩ (t.take 64) (k + 64) false = z := ⟨_, rfl⟩
   obtain ⟨z0, z1, z2, z3, z4, z5, z6, z7⟩ := z
   have hsq := squeezed_ q0 q1 q2 q3 q4 q5 q6 q7 (t.take 64) (by rw [List.length_take]; omega) (k + 64) (by omega) false
   rw [hz] at hsq hbk
   have n1 : absB ⟨⟨z0, z1, z2, z3, z4, z5, z6, z7⟩, k + 64, []⟩ (t.drop 64) = absB ⟨⟨h0, h1, h2, h3, h4, h5, h6, h7⟩, d, []⟩ (r ++ b) := by rw [← hbk, hv]
   have n2 : (t.drop 64).length ≤ r.length + b.length := by rw [List.length_drop]; omega
   have n3 : k + 64 + (t.drop 64).length = l + b.length := by rw [List.length_drop]; omega
   have n4 : (t.drop 64).length < t.length := by rw [List.length_drop]; omega
   have hs1 : Go.RowKit.wrap64 (((k : Nat) : Int) + 64) = ((k + 64 : Nat) : Int) := wnat (by omega) (by omega)
   have F11 := And.intro hcq <| And.intro hc0 <| And.intro hc1 <| And.intro htd <| hs1
   refine seq_k fun zN zM zhN zhM => ?_
   refine sr_k fun zK zhK => ?_
   simp only [go_sem, stB, hashC, H8.ls, Nat.sub_zero, Nat.zero_add, F0, F11]
   repeat' (first | apply And.intro | intro _)
   refine zhK _ ?_
   (refine condT_k ?_ ?_; focus (first | rfl | (simp [go_sem, stB, hashC, H8.ls, Nat.sub_zero, Nat.zero_add, F0, F11]; done)))
   refine skip_k ?_
   refine zhN _ ?_; clear zhN zhM
   refine block_k fun zB zbn zbx zbr zbi => ?_
   refine sr_k fun zK zhK => ?_
   simp only [go_sem, stB, hashC, H8.ls, Nat.sub_zero, Nat.zero_add, F0, F11]
   repeat' (first | apply And.intro | intro _)
   refine zhK _ ?_
   refine seq_k fun zN zM zhN zhM => ?_
   refine dr_k (id := 10) mixed fun zE zhE => ?_
   refine dr_piece_k (p := 0) 5 [39, 40, 41, 42, 43] [0, 1, 0, 4, 0, 31, 63, 127] [] rfl (by kernel_rfl) rfl (by simp only [go_sem]) fun zR zK zhR zhK => ?_
   simp only [go_sem, stB, hashC, H8.ls, Nat.sub_zero, Nat.zero_add, F0, F11]
   repeat' (first | apply And.intro | intro _)
   refine zhK _ _ trivial (zhR _ ?_)
   refine dr_runs_k 3 8 rfl (by kernel_rfl) rfl rfl fun zR zhR => ?_
   simp only [go_sem, stB, hashC, H8.ls, Nat.sub_zero, Nat.zero_add, F0, F11]
   repeat' (first | apply And.intro | intro _)
   all_goals (refine call_hand false [] (fun k => k) (fun _ _ => rfl) ?_ (by decide) ?_ hsq.told ?_; iterate 2 (focus (first | rfl | (simp only [go_sem, stB, hashC, H8.ls, Nat.sub_zero, Nat.zero_add, F0, F11] <;> first | done | rfl | simp))))
   all_goals (rintro v m ⟨hR, hm⟩; subst hR; subst hm)
   all_goals (refine And.intro ?_ (And.intro ?_ (And.intro ?_ ?_)); iterate 3 (focus (first | rfl | (simp only [go_sem, stB, hashC, H8.ls, Nat.sub_zero, Nat.zero_add, F0, F11]; done) | (simp [go_sem, look, stB, hashC, H8.ls, Nat.sub_zero, Nat.zero_add, F0, F11]; done))))
   all_goals (try simp only [go_sem, stB, hashC, H8.ls, Nat.sub_zero, Nat.zero_add, F0, F11])
   all_goals (try simp only [go_sem, stB, hashC, H8.ls, Nat.sub_zero, Nat.zero_add, F0, F11])
   all_goals repeat' (first | apply And.intro | intro _)
   refine zhR _ ?_
   refine dr_end rfl (zhE _ ?_)
   refine zhN _ ?_; clear zhN zhM
   refine region_k fun zK zhK => ?_
   simp only [go_sem, stB, hashC, H8.ls, Nat.sub_zero, Nat.zero_add, F0, F11]
   repeat' (first | apply And.intro | intro _)
   refine zhK _ ?_
   refine zbn _ ?_; clear zbn zbx zbr zbi
   refine zhN ⟨(⟨z0, z1, z2, z3, z4, z5, z6, z7⟩, k + 64, t.drop 64), n1, n2, n3⟩ _ ?_ ?_ ?_
   · (exact n4)
   · (simp only [go_sem, leX, List.cons_append, List.nil_append]; try simp)
   · (simp only [hashC, H8.ls, go_sem, leX, List.cons_append, List.nil_append]; first | done | (simp [hashC, H8.ls, leX, look]; done) | rfl)
 · have hcq : ¬ (64 : Int) < ((t.length : Nat) : Int) := by omega
   have hsh := absB_short (h := ⟨q0, q1, q2, q3, q4, q5, q6, q7⟩) (d := k) (r := []) (l := t) (by simp; omega)
   rw [List.nil_append, hv, ← absB_rest hr] at hsh
   have hlen2 : HSt.len ⟨⟨q0, q1, q2, q3, q4, q5, q6, q7⟩, k, t⟩ = l + b.length := hkt
   have hmi : min t.length 64 = t.length := by omega
   have hmi2 : min 64 t.length = t.length := by omega
   have htk : List.take t.length t = t := List.take_length
   have hdr : List.drop t.length (List.replicate 64 (0 : UInt8)) = List.replicate (64 - t.length) 0 := List.drop_replicate
   have hpt : t ++ List.replicate (64 - t.length) 0 = pad64 t := rfl
   have hpl2 := pad64_length (r := t) (by omega)
   have F20 := And.intro hcq <| And.intro hmi <| And.intro hmi2 <| And.intro htk <| And.intro hdr <| And.intro hpt <| hpl2
   refine seq_k fun zN zM zhN zhM => ?_
   iterate 10 first
    | (refine sr_k fun zK zhK => ?_; simp only [go_sem, stB, hashC, H8.ls, Nat.sub_zero, Nat.zero_add, F0, F20]; (repeat' (first | apply And.intro | intro _)))
    | refine zhK _ ?_
    | (refine zhM _ _ ?_; clear zhN zhM)
    | refine exit_k ?_
    | (refine zbx _ ?_; clear zbn zbx zbr zbi)
    | (refine zhN _ ?_; clear zhN zhM)
    | (refine condF_k ?_ ?_; focus (first | rfl | (simp [go_sem, stB, hashC, H8.ls, Nat.sub_zero, Nat.zero_add, F0, F20]; done)))
   refine seq_k fun zN zM zhN zhM => ?_
   refine text_k (id := 13) [58, 59, 60, 61] (by simp only [go_sem]) fun zK zhK => ?_
   simp only [go_sem, stB, hashC, H8.ls, Nat.sub_zero, Nat.zero_add, F0, F20]
   repeat' (first | apply And.intro | intro _)
   refine zhK _ _ ?_
   refine zhN _ ?_; clear zhN zhM
   refine sr_k fun zK zhK => ?_
   simp only [go_sem, stB, hashC, H8.ls, Nat.sub_zero, Nat.zero_add, F0, F20]
   repeat' (first | apply And.intro | intro _)
   refine zhK _ ?_
   refine ret_k ?_
   refine zhZ _ _ ?_
   simp only [go_sem, stB, hashC, H8.ls, Nat.sub_zero, Nat.zero_add, F0, F20]
   all_goals (exact told_plain (by simp [plainV, plainW, bytesC]) ⟨by rw [hsh]; first | rfl | (simp only [stB, hlen2, hashC, H8.ls]; rfl) | simp only [stB, hlen2, hashC, H8.ls], rfl⟩)
end Bk
end Go.Sy
