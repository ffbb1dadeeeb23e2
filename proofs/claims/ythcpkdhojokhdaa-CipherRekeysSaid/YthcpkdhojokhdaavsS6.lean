/- Walks: what was sealed is opened. -/
import Derived.Test.YthcpkdhojokhdaavsS5
set_option linter.unusedVariables false
set_option linter.unusedSimpArgs false
namespace Go.Sy
open Go.Proofs
attribute [local irreducible] atCall HT runOps runD onC onE onO onG goV goA goS onSt onGuard
def openE (key nonce ad b : List UInt8) : Int := if 200 < ad.length then 1 else if 816 < b.length then 1 else if b.length < 16 then 4 else if tagS key nonce ad (b.take (b.length - 16)) = b.drop (b.length - 16) then 0 else 10
def openB (key nonce ad b : List UInt8) : List UInt8 := if openE key nonce ad b = 0 then strV key 1 nonce (b.take (b.length - 16)) else []
def oddN (q t : List UInt8) : Nat → UInt8
 | 0 => 0
 | i + 1 => oddN q t i ||| (q.getD i 0 ^^^ t.getD i 0)
theorem oddN_zero (q t : List UInt8) : ∀ n, oddN q t n = 0 ↔ ∀ i, i < n → q.getD i 0 = t.getD i 0
 | 0 => ⟨fun _ i h => absurd h (Nat.not_lt_zero i), fun _ => rfl⟩
 | n + 1 => by
  rw [oddN, UInt8.or_eq_zero_iff, oddN_zero q t n, UInt8.xor_eq_zero_iff]
  constructor
  · intro ⟨h1, h2⟩ i hi
    rcases Nat.lt_succ_iff_lt_or_eq.mp hi with h | h
    · exact h1 i h
    · rw [h]; exact h2
  · intro h
    exact ⟨fun i hi => h i (by omega), h n (by omega)⟩
theorem odd_eq {q t : List UInt8} (hq : q.length = 16) (ht : t.length = 16) : oddN q t 16 = 0 ↔ t = q := by
 rw [oddN_zero]
 constructor
 · intro h
   refine List.ext_getElem (by omega) fun i h1 h2 => ?_
   have := h i (by omega)
   simpa [List.getD, List.getElem?_eq_getElem h1, List.getElem?_eq_getElem h2] using this.symm
 · intro h i _
   rw [h]
set_option maxHeartbeats 400000 in
theorem open_ad (key nonce ad b : List UInt8) (hk : key.length = 32) (hn : nonce.length = 12) (ex1 ex2 : Bool) (hcap : b.length ≤ 9223372036854775807) (h1 : 200 < ad.length) :
 CtM Try.prog 31 [.w (.agg (bytesC key)), .w (.agg (bytesC nonce)), .w (.one (.pl (.R ex1 1 (byteRows ad)))), .w (.one (.pl (.R ex2 1 (byteRows b))))] [] (Told (byV [] 1)) := by
 have g1 : (200 : Int) < ((ad.length : Nat) : Int) := by omega
 have hw : Go.RowKit.wrap64 (((b.length : Nat) : Int) - 16) = ((b.length : Nat) : Int) - 16 := w64 (by omega)
 have F0 := And.intro hk <| And.intro hn <| And.intro hw <| g1
 refine CtM.k Try.func31 rfl Try.ntmps31 (congrArg Array.toList Try.results31) (by simp) fun w0 ro may fx => ?_
 refine top_k fun zZ zhZ => ?_
 iterate 13 first
  | (refine sr_k fun zK zhK => ?_; simp only [go_sem, F0]; (repeat' (first | apply And.intro | intro _)))
  | refine zhK _ ?_
  | refine ret_k ?_
  | (refine zhM _ _ ?_; clear zhN zhM)
  | (refine zhZ _ _ ?_; simp only [go_sem, F0]; (all_goals (exact by_nil)))
  | refine seq_k fun zN zM zhN zhM => ?_
  | (refine condT_k ?_ ?_; focus (first | rfl | (simp [go_sem, F0]; done)))
set_option maxHeartbeats 400000 in
theorem open_long (key nonce ad b : List UInt8) (hk : key.length = 32) (hn : nonce.length = 12) (ex1 ex2 : Bool) (hcap : b.length ≤ 9223372036854775807) (h1 : ad.length ≤ 200) (h2 : 816 < b.length) :
 CtM Try.prog 31 [.w (.agg (bytesC key)), .w (.agg (bytesC nonce)), .w (.one (.pl (.R ex1 1 (byteRows ad)))), .w (.one (.pl (.R ex2 1 (byteRows b))))] [] (Told (byV [] 1)) := by
 have g1 : ¬ (200 : Int) < ((ad.length : Nat) : Int) := by omega
 have hw : Go.RowKit.wrap64 (((b.length : Nat) : Int) - 16) = ((b.length : Nat) : Int) - 16 := w64 (by omega)
 have g2 : (800 : Int) < ((b.length : Nat) : Int) - 16 := by omega
 have g2b : (816 : Int) < ((b.length : Nat) : Int) := by omega
 have F0 := And.intro hk <| And.intro hn <| And.intro hw <| And.intro g1 <| And.intro g2 <| g2b
 refine CtM.k Try.func31 rfl Try.ntmps31 (congrArg Array.toList Try.results31) (by simp) fun w0 ro may fx => ?_
 refine top_k fun zZ zhZ => ?_
 iterate 13 first
  | (refine sr_k fun zK zhK => ?_; simp only [go_sem, F0]; (repeat' (first | apply And.intro | intro _)))
  | refine zhK _ ?_
  | refine ret_k ?_
  | (refine zhM _ _ ?_; clear zhN zhM)
  | (refine zhZ _ _ ?_; simp only [go_sem, F0]; (all_goals (exact by_nil)))
  | refine seq_k fun zN zM zhN zhM => ?_
  | (refine condT_k ?_ ?_; focus (first | rfl | (simp [go_sem, F0]; done)))
set_option maxHeartbeats 400000 in
theorem open_short (key nonce ad b : List UInt8) (hk : key.length = 32) (hn : nonce.length = 12) (ex1 ex2 : Bool) (hcap : b.length ≤ 9223372036854775807) (h1 : ad.length ≤ 200) (h2 : b.length ≤ 816) (h3 : b.length < 16) :
 CtM Try.prog 31 [.w (.agg (bytesC key)), .w (.agg (bytesC nonce)), .w (.one (.pl (.R ex1 1 (byteRows ad)))), .w (.one (.pl (.R ex2 1 (byteRows b))))] [] (Told (byV [] 4)) := by
 have g1 : ¬ (200 : Int) < ((ad.length : Nat) : Int) := by omega
 have hw : Go.RowKit.wrap64 (((b.length : Nat) : Int) - 16) = ((b.length : Nat) : Int) - 16 := w64 (by omega)
 have g2 : ¬ (800 : Int) < ((b.length : Nat) : Int) - 16 := by omega
 have g2b : ¬ (816 : Int) < ((b.length : Nat) : Int) := by omega
 have g3 : ((b.length : Nat) : Int) - 16 < (0 : Int) := by omega
 have g3b : ((b.length : Nat) : Int) < (16 : Int) := by omega
 have F0 := And.intro hk <| And.intro hn <| And.intro hw <| And.intro g1 <| And.intro g2 <| And.intro g2b <| And.intro g3 <| g3b
 refine CtM.k Try.func31 rfl Try.ntmps31 (congrArg Array.toList Try.results31) (by simp) fun w0 ro may fx => ?_
 refine top_k fun zZ zhZ => ?_
 iterate 19 first
  | (refine sr_k fun zK zhK => ?_; simp only [go_sem, F0]; (repeat' (first | apply And.intro | intro _)))
  | refine zhK _ ?_
  | refine skip_k ?_
  | (refine zhN _ ?_; clear zhN zhM)
  | refine ret_k ?_
  | (refine zhM _ _ ?_; clear zhN zhM)
  | (refine zhZ _ _ ?_; simp only [go_sem, F0]; (all_goals (exact by_nil)))
  | refine seq_k fun zN zM zhN zhM => ?_
  | (refine condF_k ?_ ?_; focus (first | rfl | (simp [go_sem, F0]; done)))
  | (refine condT_k ?_ ?_; focus (first | rfl | (simp [go_sem, F0]; done)))
set_option maxHeartbeats 400000 in
theorem unsd_ad (key nonce ad b : List UInt8) (hk : key.length = 32) (hn : nonce.length = 12) (ex1 ex2 : Bool) (hcap : b.length ≤ 9223372036854775807) (h1 : 200 < ad.length) :
 CtM Try.prog 32 [.w (.agg (bytesC key)), .w (.agg (bytesC nonce)), .w (.one (.pl (.R ex1 1 (byteRows ad)))), .w (.one (.pl (.R ex2 1 (byteRows b))))] [] (Told (byV [] 1)) := by
 have g1 : (200 : Int) < ((ad.length : Nat) : Int) := by omega
 have hw : Go.RowKit.wrap64 (((b.length : Nat) : Int) - 16) = ((b.length : Nat) : Int) - 16 := w64 (by omega)
 have F0 := And.intro hk <| And.intro hn <| And.intro hw <| g1
 refine CtM.k Try.func32 rfl Try.ntmps32 (congrArg Array.toList Try.results32) (by simp) fun w0 ro may fx => ?_
 refine top_k fun zZ zhZ => ?_
 iterate 11 first
  | (refine sr_k fun zK zhK => ?_; simp only [go_sem, F0]; (repeat' (first | apply And.intro | intro _)))
  | refine zhK _ ?_
  | refine ret_k ?_
  | (refine zhM _ _ ?_; clear zhN zhM)
  | (refine zhZ _ _ ?_; simp only [go_sem, F0]; (all_goals (exact by_nil)))
  | refine seq_k fun zN zM zhN zhM => ?_
  | (refine condT_k ?_ ?_; focus (first | rfl | (simp [go_sem, F0]; done)))
set_option maxHeartbeats 400000 in
theorem unsd_long (key nonce ad b : List UInt8) (hk : key.length = 32) (hn : nonce.length = 12) (ex1 ex2 : Bool) (hcap : b.length ≤ 9223372036854775807) (h1 : ad.length ≤ 200) (h2 : 816 < b.length) :
 CtM Try.prog 32 [.w (.agg (bytesC key)), .w (.agg (bytesC nonce)), .w (.one (.pl (.R ex1 1 (byteRows ad)))), .w (.one (.pl (.R ex2 1 (byteRows b))))] [] (Told (byV [] 1)) := by
 have g1 : ¬ (200 : Int) < ((ad.length : Nat) : Int) := by omega
 have hw : Go.RowKit.wrap64 (((b.length : Nat) : Int) - 16) = ((b.length : Nat) : Int) - 16 := w64 (by omega)
 have g2 : (800 : Int) < ((b.length : Nat) : Int) - 16 := by omega
 have g2b : (816 : Int) < ((b.length : Nat) : Int) := by omega
 have F0 := And.intro hk <| And.intro hn <| And.intro hw <| And.intro g1 <| And.intro g2 <| g2b
 refine CtM.k Try.func32 rfl Try.ntmps32 (congrArg Array.toList Try.results32) (by simp) fun w0 ro may fx => ?_
 refine top_k fun zZ zhZ => ?_
 iterate 11 first
  | (refine sr_k fun zK zhK => ?_; simp only [go_sem, F0]; (repeat' (first | apply And.intro | intro _)))
  | refine zhK _ ?_
  | refine ret_k ?_
  | (refine zhM _ _ ?_; clear zhN zhM)
  | (refine zhZ _ _ ?_; simp only [go_sem, F0]; (all_goals (exact by_nil)))
  | refine seq_k fun zN zM zhN zhM => ?_
  | (refine condT_k ?_ ?_; focus (first | rfl | (simp [go_sem, F0]; done)))
set_option maxHeartbeats 400000 in
theorem unsd_short (key nonce ad b : List UInt8) (hk : key.length = 32) (hn : nonce.length = 12) (ex1 ex2 : Bool) (hcap : b.length ≤ 9223372036854775807) (h1 : ad.length ≤ 200) (h2 : b.length ≤ 816) (h3 : b.length < 16) :
 CtM Try.prog 32 [.w (.agg (bytesC key)), .w (.agg (bytesC nonce)), .w (.one (.pl (.R ex1 1 (byteRows ad)))), .w (.one (.pl (.R ex2 1 (byteRows b))))] [] (Told (byV [] 4)) := by
 have g1 : ¬ (200 : Int) < ((ad.length : Nat) : Int) := by omega
 have hw : Go.RowKit.wrap64 (((b.length : Nat) : Int) - 16) = ((b.length : Nat) : Int) - 16 := w64 (by omega)
 have g2 : ¬ (800 : Int) < ((b.length : Nat) : Int) - 16 := by omega
 have g2b : ¬ (816 : Int) < ((b.length : Nat) : Int) := by omega
 have g3 : ((b.length : Nat) : Int) - 16 < (0 : Int) := by omega
 have g3b : ((b.length : Nat) : Int) < (16 : Int) := by omega
 have F0 := And.intro hk <| And.intro hn <| And.intro hw <| And.intro g1 <| And.intro g2 <| And.intro g2b <| And.intro g3 <| g3b
 refine CtM.k Try.func32 rfl Try.ntmps32 (congrArg Array.toList Try.results32) (by simp) fun w0 ro may fx => ?_
 refine top_k fun zZ zhZ => ?_
 iterate 17 first
  | (refine sr_k fun zK zhK => ?_; simp only [go_sem, F0]; (repeat' (first | apply And.intro | intro _)))
  | refine zhK _ ?_
  | refine skip_k ?_
  | (refine zhN _ ?_; clear zhN zhM)
  | refine ret_k ?_
  | (refine zhM _ _ ?_; clear zhN zhM)
  | (refine zhZ _ _ ?_; simp only [go_sem, F0]; (all_goals (exact by_nil)))
  | refine seq_k fun zN zM zhN zhM => ?_
  | (refine condF_k ?_ ?_; focus (first | rfl | (simp [go_sem, F0]; done)))
  | (refine condT_k ?_ ?_; focus (first | rfl | (simp [go_sem, F0]; done)))
set_option maxHeartbeats 1600000 in
set_option maxRecDepth 100000 in
theorem open_bad (key nonce ad b : List UInt8) (hk : key.length = 32) (hn : nonce.length = 12) (ex1 ex2 : Bool) (h1 : ad.length ≤ 200) (h2 : b.length ≤ 816) (h3 : ¬ b.length < 16) (heq : ¬ tagS key nonce ad (b.take (b.length - 16)) = b.drop (b.length - 16)) :
 CtM Try.prog 31 [.w (.agg (bytesC key)), .w (.agg (bytesC nonce)), .w (.one (.pl (.R ex1 1 (byteRows ad)))), .w (.one (.pl (.R ex2 1 (byteRows b))))] [] (Told (byV [] 10)) := by
 have g1 : ¬ (200 : Int) < ((ad.length : Nat) : Int) := by omega
 have g2 : ¬ (800 : Int) < ((b.length : Nat) : Int) - 16 := by omega
 have g2b : ¬ (816 : Int) < ((b.length : Nat) : Int) := by omega
 have g3 : ¬ ((b.length : Nat) : Int) - 16 < (0 : Int) := by omega
 have g3b : ¬ ((b.length : Nat) : Int) < (16 : Int) := by omega
 obtain ⟨p, hp⟩ : ∃ q, b.take (b.length - 16) = q := ⟨_, rfl⟩
 obtain ⟨q, hq⟩ : ∃ q, b.drop (b.length - 16) = q := ⟨_, rfl⟩
 have hpl : p.length = (b.length - 16) := by rw [← hp, List.length_take]; omega
 have hql : q.length = 16 := by rw [← hq, List.length_drop]; omega
 have hp8 : p.length ≤ 800 := by omega
 rw [hp, hq] at heq
 have hT := tag_ key nonce ad p hk hn h1 hp8 ex1 false
 have hS := (strm_own key hk 1 nonce hn p false (by omega) (ho1 (by omega))).told
 have ht := tagS_length key nonce ad p
 have hsl := strV_length key 1 nonce p
 obtain ⟨tg, htg⟩ : ∃ q, tagS key nonce ad p = q := ⟨_, rfl⟩
 rw [htg] at ht hT heq
 obtain ⟨c, hc⟩ : ∃ q, strV key 1 nonce p = q := ⟨_, rfl⟩
 rw [hc] at hsl hS
 obtain ⟨n, hnn⟩ : ∃ q, (b.length - 16) = q := ⟨_, rfl⟩
 have hnb : b.length = n + 16 := by omega
 rw [hnn] at hp hq hpl
 have hw : Go.RowKit.wrap64 (((n + 16 : Nat) : Int) - 16) = ((n : Nat) : Int) := by rw [w64 (by omega)]; omega
 rw [hnb] at g2 g2b g3 g3b
 have hne : (n = n + 16) = False := eq_false (by omega)
 have hsub : n + 16 - n = 16 := by omega
 have htq : List.take 16 q = q := List.take_of_length_le (by omega)
 have htt : List.take 16 tg = tg := List.take_of_length_le (by omega)
 have hle : n ≤ n + 16 := by omega
 have z1 : (0 : Int) ≤ ((n : Nat) : Int) ∧ ((n : Nat) : Int) ≤ ((n + 16 : Nat) : Int) := by omega
 have z2 : ¬ (800 : Int) < ((n : Nat) : Int) ∧ ¬ ((n : Nat) : Int) < 0 := by omega
 have F0 := And.intro hk <| And.intro hn <| And.intro hw <| And.intro g1 <| And.intro g2 <| And.intro g2b <| And.intro g3 <| And.intro g3b <| And.intro hnb <| And.intro hp <| And.intro hq <| And.intro hpl <| And.intro hql <| And.intro ht <| And.intro hsl <| And.intro hne <| And.intro hsub <| And.intro htq <| And.intro htt <| And.intro hle <| And.intro z1 <| z2
 refine CtM.k Try.func31 rfl Try.ntmps31 (congrArg Array.toList Try.results31) (by simp) fun w0 ro may fx => ?_
 refine top_k fun zZ zhZ => ?_
 iterate 37 first
  | (refine zhN _ ?_; clear zhN zhM)
  | (refine region_k fun zK zhK => ?_; simp only [go_sem, Nat.sub_zero, Bool.and_false, F0]; (repeat' (first | apply And.intro | intro _)))
  | refine zhK _ ?_
  | refine skip_k ?_
  | refine block_k fun zB zbn zbx zbr zbi => ?_
  | (refine dr_k (id := 6) mixed fun zE zhE => ?_; refine dr_piece_k (p := 0) 8 [27, 28, 29, 30, 31, 32, 33, 11] [0, 0, 0, 0, 0, 24, 63, 0, 255] [] rfl (by kernel_rfl) rfl (by simp only [go_sem]) fun zR zK zhR zhK => ?_; simp only [go_sem, Nat.sub_zero, Bool.and_false, F0]; (repeat' (first | apply And.intro | intro _)); (all_goals (refine call_drawhand (fun k => k) (.w (.agg (bytesC tg))) [] (fun _ _ => rfl) ?_ ?_ ?_ hT ?_ ?_; (iterate 2 (focus (first | rfl | (simp only [go_sem, Nat.sub_zero, Bool.and_false, F0] <;> first | done | rfl | simp)))); (first | kernel_rfl | rfl | simp [fixO, fixL, pls]))); (all_goals try (refine And.intro ?_ (And.intro ?_ (And.intro ?_ ?_)) <;> (first | rfl | (simp only [go_sem, Nat.sub_zero, Bool.and_false, F0]; done) | (simp [go_sem, look, Nat.sub_zero, Bool.and_false, F0]; done)))); (all_goals (try simp only [go_sem, Nat.sub_zero, Bool.and_false, F0])); (all_goals (try simp only [go_sem, Nat.sub_zero, Bool.and_false, F0])); (all_goals repeat' (first | apply And.intro | intro _)); refine zhK _ _ trivial (zhR _ ?_); refine dr_runs_k 1 9 rfl (by kernel_rfl) rfl rfl fun zR zhR => ?_; simp only [go_sem, Nat.sub_zero, Bool.and_false, F0]; (repeat' (first | apply And.intro | intro _)); refine zhR _ ?_; refine dr_end rfl (zhE _ ?_))
  | refine seq_k fun zN zM zhN zhM => ?_
  | (refine condF_k ?_ ?_; focus (first | rfl | (simp [go_sem, Nat.sub_zero, Bool.and_false, F0]; done)))
 refine ht_dropE [0, 1, 2, 15, 16, 17, 18, 19, 20, 21, 22, 23, 24, 25, 26, 27, 28, 29, 30, 31, 32, 33, 34, 35] ?_
 simp only [dropE_mk, fgt_nil, fgt_cons, List.contains_cons, List.contains_nil, Nat.reduceBEq, beq_self_eq_true, Bool.or_false, Bool.or_true, Bool.true_or, Bool.false_or, Bool.false_eq_true, reduceIte]
 refine loop_k (fun y => [(12, .w (.one (.pl (.u8 (oddN q tg y.1))))), (38, .w (.one (.pl (.i ((y.1 : Nat) : Int)))))]) (fun _ => []) (fun y => 16 - y.1) (⟨0, Nat.zero_le _⟩ : {y : Nat // y ≤ 16}) ?_ ?_ ?_
 · (simp only [go_sem, oddN, leX, List.cons_append, List.nil_append]; try simp)
 · (simp only [go_sem, leX, List.cons_append, List.nil_append]; try simp)
 intro ⟨i, hi⟩ zN zM zhN zhM
 simp only [List.cons_append, List.nil_append]
 rcases Nat.lt_or_ge i 16 with hlt | hge
 · have hcq : ((i : Nat) : Int) < (16 : Int) := by clear hw F0; omega
   have hb1 := byteRows_get (bs := q) (n := i) (by clear hw F0; omega)
   have hb2 := u8_one (q := tg) (i := i) (by clear hw F0; omega)
   have d0 : (0 : Int) ≤ ((i : Nat) : Int) ∧ ((i : Nat) : Int) < (16 : Int) := by clear hw F0; omega
   have d1 : i + 1 ≤ 16 := by clear hw F0; omega
   have hs1 : Go.RowKit.wrap64 (((i : Nat) : Int) + 1) = ((i + 1 : Nat) : Int) := wnat (by clear hw F0; omega) (by clear hw F0; omega)
   have F21 := And.intro hcq <| And.intro hb1 <| And.intro hb2 <| And.intro d0 <| And.intro d1 <| hs1
   iterate 20 first
    | (refine region_k fun zK zhK => ?_; simp only [go_sem, Nat.sub_zero, Bool.and_false, F0, bytesC_1, F21]; (repeat' (first | apply And.intro | intro _)))
    | refine zhK _ ?_
    | (refine zhN _ ?_; clear zhN zhM)
    | refine skip_k ?_
    | refine block_k fun zB zbn zbx zbr zbi => ?_
    | (refine zbn _ ?_; clear zbn zbx zbr zbi)
    | refine seq_k fun zN zM zhN zhM => ?_
    | (refine condT_k ?_ ?_; focus (first | rfl | (simp [go_sem, Nat.sub_zero, Bool.and_false, F0, bytesC_1, F21]; done)))
   refine zhN ⟨i + 1, hlt⟩ _ ?_ ?_ ?_
   · (exact Nat.sub_lt_sub_left hlt (Nat.lt_succ_self i))
   · (simp only [go_sem, oddN, leX, List.cons_append, List.nil_append]; try simp)
   · (simp only [go_sem, leX, List.cons_append, List.nil_append]; try simp)
 · obtain rfl : i = 16 := by clear hw F0; omega
   have hcq : ¬ ((16 : Nat) : Int) < (16 : Int) := by clear hw F0; omega
   have hod : ¬ oddN q tg 16 = 0 := by rw [odd_eq hql ht]; exact heq
   iterate 24 first
    | (refine zhN _ ?_; clear zhN zhM)
    | (refine region_k fun zK zhK => ?_; simp only [go_sem, Nat.sub_zero, Bool.and_false, F0, hcq, hod]; (repeat' (first | apply And.intro | intro _)))
    | refine zhK _ ?_
    | (refine zhM _ _ ?_; clear zhN zhM)
    | refine exit_k ?_
    | (refine zbx _ ?_; clear zbn zbx zbr zbi)
    | refine ret_k ?_
    | (refine zhZ _ _ ?_; simp only [go_sem, Nat.sub_zero, Bool.and_false, F0, hcq, hod]; (all_goals (exact by_nil)))
    | refine seq_k fun zN zM zhN zhM => ?_
    | (refine condF_k ?_ ?_; focus (first | rfl | (simp [go_sem, Nat.sub_zero, Bool.and_false, F0, hcq, hod]; done)))
    | (refine condT_k ?_ ?_; focus (first | rfl | (simp [go_sem, Nat.sub_zero, Bool.and_false, F0, hcq, hod]; done)))
set_option maxHeartbeats 1600000 in
set_option maxRecDepth 100000 in
theorem open_ok (key nonce ad b : List UInt8) (hk : key.length = 32) (hn : nonce.length = 12) (ex1 ex2 : Bool) (h1 : ad.length ≤ 200) (h2 : b.length ≤ 816) (h3 : ¬ b.length < 16) (heq : tagS key nonce ad (b.take (b.length - 16)) = b.drop (b.length - 16)) :
 CtM Try.prog 31 [.w (.agg (bytesC key)), .w (.agg (bytesC nonce)), .w (.one (.pl (.R ex1 1 (byteRows ad)))), .w (.one (.pl (.R ex2 1 (byteRows b))))] [] (Told (byV (strV key 1 nonce (b.take (b.length - 16))) 0)) := by
 have g1 : ¬ (200 : Int) < ((ad.length : Nat) : Int) := by omega
 have g2 : ¬ (800 : Int) < ((b.length : Nat) : Int) - 16 := by omega
 have g2b : ¬ (816 : Int) < ((b.length : Nat) : Int) := by omega
 have g3 : ¬ ((b.length : Nat) : Int) - 16 < (0 : Int) := by omega
 have g3b : ¬ ((b.length : Nat) : Int) < (16 : Int) := by omega
 obtain ⟨p, hp⟩ : ∃ q, b.take (b.length - 16) = q := ⟨_, rfl⟩
 obtain ⟨q, hq⟩ : ∃ q, b.drop (b.length - 16) = q := ⟨_, rfl⟩
 have hpl : p.length = (b.length - 16) := by rw [← hp, List.length_take]; omega
 have hql : q.length = 16 := by rw [← hq, List.length_drop]; omega
 have hp8 : p.length ≤ 800 := by omega
 rw [hp, hq] at heq
 have hT := tag_ key nonce ad p hk hn h1 hp8 ex1 false
 have hS := (strm_own key hk 1 nonce hn p false (by omega) (ho1 (by omega))).told
 have ht := tagS_length key nonce ad p
 have hsl := strV_length key 1 nonce p
 obtain ⟨tg, htg⟩ : ∃ q, tagS key nonce ad p = q := ⟨_, rfl⟩
 rw [htg] at ht hT heq
 obtain ⟨c, hc⟩ : ∃ q, strV key 1 nonce p = q := ⟨_, rfl⟩
 rw [hc] at hsl hS
 obtain ⟨n, hnn⟩ : ∃ q, (b.length - 16) = q := ⟨_, rfl⟩
 have hnb : b.length = n + 16 := by omega
 rw [hnn] at hp hq hpl
 have hw : Go.RowKit.wrap64 (((n + 16 : Nat) : Int) - 16) = ((n : Nat) : Int) := by rw [w64 (by omega)]; omega
 rw [hnb] at g2 g2b g3 g3b
 have hne : (n = n + 16) = False := eq_false (by omega)
 have hsub : n + 16 - n = 16 := by omega
 have htq : List.take 16 q = q := List.take_of_length_le (by omega)
 have htt : List.take 16 tg = tg := List.take_of_length_le (by omega)
 have hle : n ≤ n + 16 := by omega
 have z1 : (0 : Int) ≤ ((n : Nat) : Int) ∧ ((n : Nat) : Int) ≤ ((n + 16 : Nat) : Int) := by omega
 have z2 : ¬ (800 : Int) < ((n : Nat) : Int) ∧ ¬ ((n : Nat) : Int) < 0 := by omega
 have hfin : strV key 1 nonce (b.take (b.length - 16)) = c := by rw [← hc, ← hp, hnn]
 rw [hfin]
 have F0 := And.intro hk <| And.intro hn <| And.intro hw <| And.intro g1 <| And.intro g2 <| And.intro g2b <| And.intro g3 <| And.intro g3b <| And.intro hnb <| And.intro hp <| And.intro hq <| And.intro hpl <| And.intro hql <| And.intro ht <| And.intro hsl <| And.intro hne <| And.intro hsub <| And.intro htq <| And.intro htt <| And.intro hle <| And.intro z1 <| z2
 refine CtM.k Try.func31 rfl Try.ntmps31 (congrArg Array.toList Try.results31) (by simp) fun w0 ro may fx => ?_
 refine top_k fun zZ zhZ => ?_
 iterate 37 first
  | (refine zhN _ ?_; clear zhN zhM)
  | (refine region_k fun zK zhK => ?_; simp only [go_sem, Nat.sub_zero, Bool.and_false, F0]; (repeat' (first | apply And.intro | intro _)))
  | refine zhK _ ?_
  | refine skip_k ?_
  | refine block_k fun zB zbn zbx zbr zbi => ?_
  | (refine dr_k (id := 6) mixed fun zE zhE => ?_; refine dr_piece_k (p := 0) 8 [27, 28, 29, 30, 31, 32, 33, 11] [0, 0, 0, 0, 0, 24, 63, 0, 255] [] rfl (by kernel_rfl) rfl (by simp only [go_sem]) fun zR zK zhR zhK => ?_; simp only [go_sem, Nat.sub_zero, Bool.and_false, F0]; (repeat' (first | apply And.intro | intro _)); (all_goals (refine call_drawhand (fun k => k) (.w (.agg (bytesC tg))) [] (fun _ _ => rfl) ?_ ?_ ?_ hT ?_ ?_; (iterate 2 (focus (first | rfl | (simp only [go_sem, Nat.sub_zero, Bool.and_false, F0] <;> first | done | rfl | simp)))); (first | kernel_rfl | rfl | simp [fixO, fixL, pls]))); (all_goals try (refine And.intro ?_ (And.intro ?_ (And.intro ?_ ?_)) <;> (first | rfl | (simp only [go_sem, Nat.sub_zero, Bool.and_false, F0]; done) | (simp [go_sem, look, Nat.sub_zero, Bool.and_false, F0]; done)))); (all_goals (try simp only [go_sem, Nat.sub_zero, Bool.and_false, F0])); (all_goals (try simp only [go_sem, Nat.sub_zero, Bool.and_false, F0])); (all_goals repeat' (first | apply And.intro | intro _)); refine zhK _ _ trivial (zhR _ ?_); refine dr_runs_k 1 9 rfl (by kernel_rfl) rfl rfl fun zR zhR => ?_; simp only [go_sem, Nat.sub_zero, Bool.and_false, F0]; (repeat' (first | apply And.intro | intro _)); refine zhR _ ?_; refine dr_end rfl (zhE _ ?_))
  | refine seq_k fun zN zM zhN zhM => ?_
  | (refine condF_k ?_ ?_; focus (first | rfl | (simp [go_sem, Nat.sub_zero, Bool.and_false, F0]; done)))
 refine ht_dropE [0, 1, 2, 15, 16, 17, 18, 19, 20, 21, 22, 23, 24, 25, 26, 27, 28, 29, 30, 31, 32, 33, 34, 35] ?_
 simp only [dropE_mk, fgt_nil, fgt_cons, List.contains_cons, List.contains_nil, Nat.reduceBEq, beq_self_eq_true, Bool.or_false, Bool.or_true, Bool.true_or, Bool.false_or, Bool.false_eq_true, reduceIte]
 refine loop_k (fun y => [(12, .w (.one (.pl (.u8 (oddN q tg y.1))))), (38, .w (.one (.pl (.i ((y.1 : Nat) : Int)))))]) (fun _ => []) (fun y => 16 - y.1) (⟨0, Nat.zero_le _⟩ : {y : Nat // y ≤ 16}) ?_ ?_ ?_
 · (simp only [go_sem, oddN, leX, List.cons_append, List.nil_append]; try simp)
 · (simp only [go_sem, leX, List.cons_append, List.nil_append]; try simp)
 intro ⟨i, hi⟩ zN zM zhN zhM
 simp only [List.cons_append, List.nil_append]
 rcases Nat.lt_or_ge i 16 with hlt | hge
 · have hcq : ((i : Nat) : Int) < (16 : Int) := by clear hw F0; omega
   have hb1 := byteRows_get (bs := q) (n := i) (by clear hw F0; omega)
   have hb2 := u8_one (q := tg) (i := i) (by clear hw F0; omega)
   have d0 : (0 : Int) ≤ ((i : Nat) : Int) ∧ ((i : Nat) : Int) < (16 : Int) := by clear hw F0; omega
   have d1 : i + 1 ≤ 16 := by clear hw F0; omega
   have hs1 : Go.RowKit.wrap64 (((i : Nat) : Int) + 1) = ((i + 1 : Nat) : Int) := wnat (by clear hw F0; omega) (by clear hw F0; omega)
   have F21 := And.intro hcq <| And.intro hb1 <| And.intro hb2 <| And.intro d0 <| And.intro d1 <| hs1
   iterate 20 first
    | (refine region_k fun zK zhK => ?_; simp only [go_sem, Nat.sub_zero, Bool.and_false, F0, bytesC_1, F21]; (repeat' (first | apply And.intro | intro _)))
    | refine zhK _ ?_
    | (refine zhN _ ?_; clear zhN zhM)
    | refine skip_k ?_
    | refine block_k fun zB zbn zbx zbr zbi => ?_
    | (refine zbn _ ?_; clear zbn zbx zbr zbi)
    | refine seq_k fun zN zM zhN zhM => ?_
    | (refine condT_k ?_ ?_; focus (first | rfl | (simp [go_sem, Nat.sub_zero, Bool.and_false, F0, bytesC_1, F21]; done)))
   refine zhN ⟨i + 1, hlt⟩ _ ?_ ?_ ?_
   · (exact Nat.sub_lt_sub_left hlt (Nat.lt_succ_self i))
   · (simp only [go_sem, oddN, leX, List.cons_append, List.nil_append]; try simp)
   · (simp only [go_sem, leX, List.cons_append, List.nil_append]; try simp)
 · obtain rfl : i = 16 := by clear hw F0; omega
   have hcq : ¬ ((16 : Nat) : Int) < (16 : Int) := by clear hw F0; omega
   have hod : oddN q tg 16 = 0 := by rw [odd_eq hql ht]; exact heq
   iterate 24 first
    | (refine zhN _ ?_; clear zhN zhM)
    | (refine region_k fun zK zhK => ?_; simp only [go_sem, Nat.sub_zero, Bool.and_false, F0, hcq, hod]; (repeat' (first | apply And.intro | intro _)))
    | refine zhK _ ?_
    | (refine zhM _ _ ?_; clear zhN zhM)
    | refine exit_k ?_
    | (refine zbx _ ?_; clear zbn zbx zbr zbi)
    | refine skip_k ?_
    | refine ret_k ?_
    | (refine zhZ _ _ ?_; simp only [go_sem, Nat.sub_zero, Bool.and_false, F0, hcq, hod]; (all_goals (exact by_obj (b := true) (by simp [look]) (by rw [hsl, hpl]))))
    | (refine dr_k (id := 15) mixed fun zE zhE => ?_; refine dr_piece_k (p := 0) 5 [53, 54, 55, 56, 57] [0, 0, 0, 0, 12, 31, 63, 63, 255, 511] [] rfl (by kernel_rfl) rfl (by simp only [go_sem]) fun zR zK zhR zhK => ?_; simp only [go_sem, Nat.sub_zero, Bool.and_false, F0, hcq, hod]; (repeat' (first | apply And.intro | intro _)); refine zhK _ _ trivial (zhR _ ?_); refine dr_runs_k 1 6 rfl (by kernel_rfl) rfl rfl fun zR zhR => ?_; simp only [go_sem, Nat.sub_zero, Bool.and_false, F0, hcq, hod]; (repeat' (first | apply And.intro | intro _)); (all_goals (refine call_hand false [] (fun _ => 58) (fun _ _ => rfl) ?_ (by decide) ?_ hS.hands ?_; iterate 2 (focus (first | rfl | (simp only [go_sem, Nat.sub_zero, Bool.and_false, F0, hcq, hod] <;> first | done | rfl | simp))))); (all_goals (rintro v m ⟨hR, hm⟩; subst hR; subst hm)); (all_goals (refine And.intro ?_ (And.intro ?_ (And.intro ?_ ?_)); iterate 3 (focus (first | rfl | (simp only [go_sem, Nat.sub_zero, Bool.and_false, F0, hcq, hod]; done) | (simp [go_sem, look, Nat.sub_zero, Bool.and_false, F0, hcq, hod]; done))))); (all_goals (try simp only [go_sem, Nat.sub_zero, Bool.and_false, F0, hcq, hod])); (all_goals (try simp only [go_sem, Nat.sub_zero, Bool.and_false, F0, hcq, hod])); (all_goals repeat' (first | apply And.intro | intro _)); refine zhR _ ?_; refine dr_piece_k (p := 6) 8 [59, 60] [0, 0, 0, 0, 12, 31, 63, 63, 255, 511] [] rfl (by kernel_rfl) rfl (by simp only [go_sem]) fun zR zK zhR zhK => ?_; simp only [go_sem, Nat.sub_zero, Bool.and_false, F0, hcq, hod]; (repeat' (first | apply And.intro | intro _)); refine zhK _ _ trivial (zhR _ ?_); refine dr_runs_k 2 10 rfl (by kernel_rfl) rfl rfl fun zR zhR => ?_; simp only [go_sem, Nat.sub_zero, Bool.and_false, F0, hcq, hod]; (repeat' (first | apply And.intro | intro _)); refine zhR _ ?_; refine dr_end rfl (zhE _ ?_))
    | refine seq_k fun zN zM zhN zhM => ?_
    | (refine condF_k ?_ ?_; focus (first | rfl | (simp [go_sem, Nat.sub_zero, Bool.and_false, F0, hcq, hod]; done)))
set_option maxHeartbeats 1600000 in
set_option maxRecDepth 100000 in
theorem unsd_bad (key nonce ad b : List UInt8) (hk : key.length = 32) (hn : nonce.length = 12) (ex1 ex2 : Bool) (h1 : ad.length ≤ 200) (h2 : b.length ≤ 816) (h3 : ¬ b.length < 16) (heq : ¬ tagS key nonce ad (b.take (b.length - 16)) = b.drop (b.length - 16)) :
 CtM Try.prog 32 [.w (.agg (bytesC key)), .w (.agg (bytesC nonce)), .w (.one (.pl (.R ex1 1 (byteRows ad)))), .w (.one (.pl (.R ex2 1 (byteRows b))))] [] (Told (byV [] 10)) := by
 have g1 : ¬ (200 : Int) < ((ad.length : Nat) : Int) := by omega
 have g2 : ¬ (800 : Int) < ((b.length : Nat) : Int) - 16 := by omega
 have g2b : ¬ (816 : Int) < ((b.length : Nat) : Int) := by omega
 have g3 : ¬ ((b.length : Nat) : Int) - 16 < (0 : Int) := by omega
 have g3b : ¬ ((b.length : Nat) : Int) < (16 : Int) := by omega
 obtain ⟨p, hp⟩ : ∃ q, b.take (b.length - 16) = q := ⟨_, rfl⟩
 obtain ⟨q, hq⟩ : ∃ q, b.drop (b.length - 16) = q := ⟨_, rfl⟩
 have hpl : p.length = (b.length - 16) := by rw [← hp, List.length_take]; omega
 have hql : q.length = 16 := by rw [← hq, List.length_drop]; omega
 have hp8 : p.length ≤ 800 := by omega
 rw [hp, hq] at heq
 have hT := tag_of key nonce ad p hk hn h1 hp8
 have hS := (strd_ok key hk 1 nonce hn p false (by omega) (ho1 (by omega))).told
 have ht := tagS_length key nonce ad p
 have hsl := strV_length key 1 nonce p
 obtain ⟨tg, htg⟩ : ∃ q, tagS key nonce ad p = q := ⟨_, rfl⟩
 rw [htg] at ht hT heq
 obtain ⟨c, hc⟩ : ∃ q, strV key 1 nonce p = q := ⟨_, rfl⟩
 rw [hc] at hsl hS
 obtain ⟨n, hnn⟩ : ∃ q, (b.length - 16) = q := ⟨_, rfl⟩
 have hnb : b.length = n + 16 := by omega
 rw [hnn] at hp hq hpl
 have hw : Go.RowKit.wrap64 (((n + 16 : Nat) : Int) - 16) = ((n : Nat) : Int) := by rw [w64 (by omega)]; omega
 rw [hnb] at g2 g2b g3 g3b
 have hne : (n = n + 16) = False := eq_false (by omega)
 have hsub : n + 16 - n = 16 := by omega
 have htq : List.take 16 q = q := List.take_of_length_le (by omega)
 have htt : List.take 16 tg = tg := List.take_of_length_le (by omega)
 have hle : n ≤ n + 16 := by omega
 have z1 : (0 : Int) ≤ ((n : Nat) : Int) ∧ ((n : Nat) : Int) ≤ ((n + 16 : Nat) : Int) := by omega
 have z2 : ¬ (800 : Int) < ((n : Nat) : Int) ∧ ¬ ((n : Nat) : Int) < 0 := by omega
 have hsq : (tg = q) = False := eq_false heq
 have F0 := And.intro hk <| And.intro hn <| And.intro hw <| And.intro g1 <| And.intro g2 <| And.intro g2b <| And.intro g3 <| And.intro g3b <| And.intro hnb <| And.intro hp <| And.intro hq <| And.intro hpl <| And.intro hql <| And.intro ht <| And.intro hsl <| And.intro hne <| And.intro hsub <| And.intro htq <| And.intro htt <| And.intro hle <| And.intro z1 <| And.intro z2 <| hsq
 refine CtM.k Try.func32 rfl Try.ntmps32 (congrArg Array.toList Try.results32) (by simp) fun w0 ro may fx => ?_
 refine top_k fun zZ zhZ => ?_
 iterate 36 first
  | (refine zhN _ ?_; clear zhN zhM)
  | (refine region_k fun zK zhK => ?_; simp only [go_sem, Nat.sub_zero, Bool.and_false, not_true_eq_false, F0]; (repeat' (first | apply And.intro | intro _)))
  | refine zhK _ ?_
  | refine skip_k ?_
  | refine ret_k ?_
  | (refine zhM _ _ ?_; clear zhN zhM)
  | (refine zhZ _ _ ?_; simp only [go_sem, Nat.sub_zero, Bool.and_false, not_true_eq_false, F0]; (all_goals (exact by_nil)))
  | (refine dr_k (id := 6) mixed fun zE zhE => ?_; refine dr_piece_k (p := 0) 13 [25, 26, 27, 28, 29, 30, 31, 32, 33, 34, 35, 36, 37] [0, 0, 0, 4, 0, 0, 48, 112, 255, 0, 0, 1536, 3584, 8191] [] rfl (by kernel_rfl) rfl (by simp only [go_sem]) fun zR zK zhR zhK => ?_; simp only [go_sem, Nat.sub_zero, Bool.and_false, not_true_eq_false, F0]; (repeat' (first | apply And.intro | intro _)); (all_goals (refine call_draw (fun k => k) (.w (.one (.pl (.str tg)))) [] (fun _ _ => rfl) ?_ (hT.plain fun _ _ h => h) ?_ ?_; focus (first | rfl | (simp only [go_sem, Nat.sub_zero, Bool.and_false, not_true_eq_false, F0] <;> rfl)))); (all_goals try (refine And.intro ?_ (And.intro ?_ (And.intro ?_ ?_)) <;> first | rfl | simp only [go_sem])); (all_goals simp only [go_sem, Nat.sub_zero, Bool.and_false, not_true_eq_false, F0]); (all_goals repeat' (first | apply And.intro | intro _)); refine zhK _ _ trivial (zhR _ ?_); refine dr_runs_k 1 14 rfl (by kernel_rfl) rfl rfl fun zR zhR => ?_; simp only [go_sem, Nat.sub_zero, Bool.and_false, not_true_eq_false, F0]; (repeat' (first | apply And.intro | intro _)); refine zhR _ ?_; refine dr_end rfl (zhE _ ?_))
  | refine seq_k fun zN zM zhN zhM => ?_
  | (refine condF_k ?_ ?_; focus (first | rfl | (simp [go_sem, Nat.sub_zero, Bool.and_false, not_true_eq_false, F0]; done)))
  | (refine condT_k ?_ ?_; focus (first | rfl | (simp [go_sem, Nat.sub_zero, Bool.and_false, not_true_eq_false, F0]; done)))
set_option maxHeartbeats 1600000 in
set_option maxRecDepth 100000 in
theorem unsd_ok (key nonce ad b : List UInt8) (hk : key.length = 32) (hn : nonce.length = 12) (ex1 ex2 : Bool) (h1 : ad.length ≤ 200) (h2 : b.length ≤ 816) (h3 : ¬ b.length < 16) (heq : tagS key nonce ad (b.take (b.length - 16)) = b.drop (b.length - 16)) :
 CtM Try.prog 32 [.w (.agg (bytesC key)), .w (.agg (bytesC nonce)), .w (.one (.pl (.R ex1 1 (byteRows ad)))), .w (.one (.pl (.R ex2 1 (byteRows b))))] [] (Told (byV (strV key 1 nonce (b.take (b.length - 16))) 0)) := by
 have g1 : ¬ (200 : Int) < ((ad.length : Nat) : Int) := by omega
 have g2 : ¬ (800 : Int) < ((b.length : Nat) : Int) - 16 := by omega
 have g2b : ¬ (816 : Int) < ((b.length : Nat) : Int) := by omega
 have g3 : ¬ ((b.length : Nat) : Int) - 16 < (0 : Int) := by omega
 have g3b : ¬ ((b.length : Nat) : Int) < (16 : Int) := by omega
 obtain ⟨p, hp⟩ : ∃ q, b.take (b.length - 16) = q := ⟨_, rfl⟩
 obtain ⟨q, hq⟩ : ∃ q, b.drop (b.length - 16) = q := ⟨_, rfl⟩
 have hpl : p.length = (b.length - 16) := by rw [← hp, List.length_take]; omega
 have hql : q.length = 16 := by rw [← hq, List.length_drop]; omega
 have hp8 : p.length ≤ 800 := by omega
 rw [hp, hq] at heq
 have hT := tag_of key nonce ad p hk hn h1 hp8
 have hS := (strd_ok key hk 1 nonce hn p false (by omega) (ho1 (by omega))).told
 have ht := tagS_length key nonce ad p
 have hsl := strV_length key 1 nonce p
 obtain ⟨tg, htg⟩ : ∃ q, tagS key nonce ad p = q := ⟨_, rfl⟩
 rw [htg] at ht hT heq
 obtain ⟨c, hc⟩ : ∃ q, strV key 1 nonce p = q := ⟨_, rfl⟩
 rw [hc] at hsl hS
 obtain ⟨n, hnn⟩ : ∃ q, (b.length - 16) = q := ⟨_, rfl⟩
 have hnb : b.length = n + 16 := by omega
 rw [hnn] at hp hq hpl
 have hw : Go.RowKit.wrap64 (((n + 16 : Nat) : Int) - 16) = ((n : Nat) : Int) := by rw [w64 (by omega)]; omega
 rw [hnb] at g2 g2b g3 g3b
 have hne : (n = n + 16) = False := eq_false (by omega)
 have hsub : n + 16 - n = 16 := by omega
 have htq : List.take 16 q = q := List.take_of_length_le (by omega)
 have htt : List.take 16 tg = tg := List.take_of_length_le (by omega)
 have hle : n ≤ n + 16 := by omega
 have z1 : (0 : Int) ≤ ((n : Nat) : Int) ∧ ((n : Nat) : Int) ≤ ((n + 16 : Nat) : Int) := by omega
 have z2 : ¬ (800 : Int) < ((n : Nat) : Int) ∧ ¬ ((n : Nat) : Int) < 0 := by omega
 have hfin : strV key 1 nonce (b.take (b.length - 16)) = c := by rw [← hc, ← hp, hnn]
 rw [hfin]
 have hsq : (tg = q) = True := eq_true heq
 have F0 := And.intro hk <| And.intro hn <| And.intro hw <| And.intro g1 <| And.intro g2 <| And.intro g2b <| And.intro g3 <| And.intro g3b <| And.intro hnb <| And.intro hp <| And.intro hq <| And.intro hpl <| And.intro hql <| And.intro ht <| And.intro hsl <| And.intro hne <| And.intro hsub <| And.intro htq <| And.intro htt <| And.intro hle <| And.intro z1 <| And.intro z2 <| hsq
 refine CtM.k Try.func32 rfl Try.ntmps32 (congrArg Array.toList Try.results32) (by simp) fun w0 ro may fx => ?_
 refine top_k fun zZ zhZ => ?_
 iterate 36 first
  | (refine zhN _ ?_; clear zhN zhM)
  | (refine region_k fun zK zhK => ?_; simp only [go_sem, Nat.sub_zero, Bool.and_false, not_true_eq_false, F0]; (repeat' (first | apply And.intro | intro _)))
  | refine zhK _ ?_
  | refine skip_k ?_
  | refine ret_k ?_
  | (refine zhZ _ _ ?_; simp only [go_sem, Nat.sub_zero, Bool.and_false, not_true_eq_false, F0]; (all_goals (exact by_same _)))
  | (refine dr_k (id := 6) mixed fun zE zhE => ?_; refine dr_piece_k (p := 0) 13 [25, 26, 27, 28, 29, 30, 31, 32, 33, 34, 35, 36, 37] [0, 0, 0, 4, 0, 0, 48, 112, 255, 0, 0, 1536, 3584, 8191] [] rfl (by kernel_rfl) rfl (by simp only [go_sem]) fun zR zK zhR zhK => ?_; simp only [go_sem, Nat.sub_zero, Bool.and_false, not_true_eq_false, F0]; (repeat' (first | apply And.intro | intro _)); (all_goals (refine call_draw (fun k => k) (.w (.one (.pl (.str tg)))) [] (fun _ _ => rfl) ?_ (hT.plain fun _ _ h => h) ?_ ?_; focus (first | rfl | (simp only [go_sem, Nat.sub_zero, Bool.and_false, not_true_eq_false, F0] <;> rfl)))); (all_goals try (refine And.intro ?_ (And.intro ?_ (And.intro ?_ ?_)) <;> first | rfl | simp only [go_sem])); (all_goals simp only [go_sem, Nat.sub_zero, Bool.and_false, not_true_eq_false, F0]); (all_goals repeat' (first | apply And.intro | intro _)); refine zhK _ _ trivial (zhR _ ?_); refine dr_runs_k 1 14 rfl (by kernel_rfl) rfl rfl fun zR zhR => ?_; simp only [go_sem, Nat.sub_zero, Bool.and_false, not_true_eq_false, F0]; (repeat' (first | apply And.intro | intro _)); refine zhR _ ?_; refine dr_end rfl (zhE _ ?_))
  | (refine dr_k (id := 8) mixed fun zE zhE => ?_; refine dr_piece_k (p := 0) 5 [39, 40, 41, 42, 43] [0, 0, 0, 0, 12, 31, 63, 63, 255, 511] [] rfl (by kernel_rfl) rfl (by simp only [go_sem]) fun zR zK zhR zhK => ?_; simp only [go_sem, Nat.sub_zero, Bool.and_false, not_true_eq_false, F0]; (repeat' (first | apply And.intro | intro _)); refine zhK _ _ trivial (zhR _ ?_); refine dr_runs_k 1 6 rfl (by kernel_rfl) rfl rfl fun zR zhR => ?_; simp only [go_sem, Nat.sub_zero, Bool.and_false, not_true_eq_false, F0]; (repeat' (first | apply And.intro | intro _)); (all_goals (refine call_hand false [] (fun k => k) (fun _ _ => rfl) ?_ (by decide) ?_ hS.hands ?_; iterate 2 (focus (first | rfl | (simp only [go_sem, Nat.sub_zero, Bool.and_false, not_true_eq_false, F0] <;> first | done | rfl | simp))))); (all_goals (rintro v m ⟨hR, hm⟩; subst hR; subst hm)); (all_goals (refine And.intro ?_ (And.intro ?_ (And.intro ?_ ?_)); iterate 3 (focus (first | rfl | (simp only [go_sem, Nat.sub_zero, Bool.and_false, not_true_eq_false, F0]; done) | (simp [go_sem, look, Nat.sub_zero, Bool.and_false, not_true_eq_false, F0]; done))))); (all_goals (try simp only [go_sem, Nat.sub_zero, Bool.and_false, not_true_eq_false, F0])); (all_goals (try simp only [go_sem, Nat.sub_zero, Bool.and_false, not_true_eq_false, F0])); (all_goals repeat' (first | apply And.intro | intro _)); refine zhR _ ?_; refine dr_piece_k (p := 6) 8 [45, 46] [0, 0, 0, 0, 12, 31, 63, 63, 255, 511] [] rfl (by kernel_rfl) rfl (by simp only [go_sem]) fun zR zK zhR zhK => ?_; simp only [go_sem, Nat.sub_zero, Bool.and_false, not_true_eq_false, F0]; (repeat' (first | apply And.intro | intro _)); refine zhK _ _ trivial (zhR _ ?_); refine dr_runs_k 2 10 rfl (by kernel_rfl) rfl rfl fun zR zhR => ?_; simp only [go_sem, Nat.sub_zero, Bool.and_false, not_true_eq_false, F0]; (repeat' (first | apply And.intro | intro _)); refine zhR _ ?_; refine dr_end rfl (zhE _ ?_))
  | refine seq_k fun zN zM zhN zhM => ?_
  | (refine condF_k ?_ ?_; focus (first | rfl | (simp [go_sem, Nat.sub_zero, Bool.and_false, not_true_eq_false, F0]; done)))
theorem open_ (key nonce ad b : List UInt8) (hk : key.length = 32) (hn : nonce.length = 12) (ex1 ex2 : Bool) (hcap : b.length ≤ 9223372036854775807) : CtM Try.prog 31 [.w (.agg (bytesC key)), .w (.agg (bytesC nonce)), .w (.one (.pl (.R ex1 1 (byteRows ad)))), .w (.one (.pl (.R ex2 1 (byteRows b))))] [] (byV (openB key nonce ad b) (openE key nonce ad b)) := by
 by_cases h1 : 200 < ad.length
 · have e : openE key nonce ad b = 1 := if_pos h1
   rw [openB, e, if_neg (by decide)]
   exact (open_ad key nonce ad b hk hn ex1 ex2 hcap h1).told
 · by_cases h2 : 816 < b.length
   · have e : openE key nonce ad b = 1 := by unfold openE; rw [if_neg h1, if_pos h2]
     rw [openB, e, if_neg (by decide)]
     exact (open_long key nonce ad b hk hn ex1 ex2 hcap (by omega) h2).told
   · by_cases h3 : b.length < 16
     · have e : openE key nonce ad b = 4 := by unfold openE; rw [if_neg h1, if_neg h2, if_pos h3]
       rw [openB, e, if_neg (by decide)]
       exact (open_short key nonce ad b hk hn ex1 ex2 hcap (by omega) (by omega) h3).told
     · by_cases heq : tagS key nonce ad (b.take (b.length - 16)) = b.drop (b.length - 16)
       · have e : openE key nonce ad b = 0 := by unfold openE; rw [if_neg h1, if_neg h2, if_neg h3, if_pos heq]
         rw [openB, e, if_pos rfl]
         exact (open_ok key nonce ad b hk hn ex1 ex2 (by omega) (by omega) h3 heq).told
       · have e : openE key nonce ad b = 10 := by unfold openE; rw [if_neg h1, if_neg h2, if_neg h3, if_neg heq]
         rw [openB, e, if_neg (by decide)]
         exact (open_bad key nonce ad b hk hn ex1 ex2 (by omega) (by omega) h3 heq).told
theorem unsd_ (key nonce ad b : List UInt8) (hk : key.length = 32) (hn : nonce.length = 12) (ex1 ex2 : Bool) (hcap : b.length ≤ 9223372036854775807) : CtM Try.prog 32 [.w (.agg (bytesC key)), .w (.agg (bytesC nonce)), .w (.one (.pl (.R ex1 1 (byteRows ad)))), .w (.one (.pl (.R ex2 1 (byteRows b))))] [] (byV (openB key nonce ad b) (openE key nonce ad b)) := by
 by_cases h1 : 200 < ad.length
 · have e : openE key nonce ad b = 1 := if_pos h1
   rw [openB, e, if_neg (by decide)]
   exact (unsd_ad key nonce ad b hk hn ex1 ex2 hcap h1).told
 · by_cases h2 : 816 < b.length
   · have e : openE key nonce ad b = 1 := by unfold openE; rw [if_neg h1, if_pos h2]
     rw [openB, e, if_neg (by decide)]
     exact (unsd_long key nonce ad b hk hn ex1 ex2 hcap (by omega) h2).told
   · by_cases h3 : b.length < 16
     · have e : openE key nonce ad b = 4 := by unfold openE; rw [if_neg h1, if_neg h2, if_pos h3]
       rw [openB, e, if_neg (by decide)]
       exact (unsd_short key nonce ad b hk hn ex1 ex2 hcap (by omega) (by omega) h3).told
     · by_cases heq : tagS key nonce ad (b.take (b.length - 16)) = b.drop (b.length - 16)
       · have e : openE key nonce ad b = 0 := by unfold openE; rw [if_neg h1, if_neg h2, if_neg h3, if_pos heq]
         rw [openB, e, if_pos rfl]
         exact (unsd_ok key nonce ad b hk hn ex1 ex2 (by omega) (by omega) h3 heq).told
       · have e : openE key nonce ad b = 10 := by unfold openE; rw [if_neg h1, if_neg h2, if_neg h3, if_neg heq]
         rw [openB, e, if_neg (by decide)]
         exact (unsd_bad key nonce ad b hk hn ex1 ex2 (by omega) (by omega) h3 heq).told
end Go.Sy

