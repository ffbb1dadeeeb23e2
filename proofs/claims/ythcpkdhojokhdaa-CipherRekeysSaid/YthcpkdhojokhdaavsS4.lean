/- The tag: all cases; as the document tells it. -/
import Derived.Test.YthcpkdhojokhdaavsS3
import Derived.Test.YthcpkdhojokhdaaveC8
import Derived.Test.YthcpkdhojokhdaaveE19
set_option linter.unusedVariables false
set_option linter.unusedSimpArgs false
namespace Go.Sy
open Go.Proofs
attribute [local irreducible] atCall HT runOps runD onC onE onO onG goV goA goS onSt onGuard
def tagS (key nonce ad text : List UInt8) : List UInt8 := tagV ((blockV (initW key 0 nonce)).take 32) (padB ad ++ padB text ++ eightB ad.length ++ eightB text.length)
theorem tagS_length (key nonce ad text : List UInt8) : (tagS key nonce ad text).length = 16 := tagV_length _ _
theorem eight_low : ∀ n : Fin 1000, lowB (UInt64.ofNat n.val) 8 = eightB n.val := by decide +kernel
theorem all_len {ad text : List UInt8} (h1 : ad.length ≤ 200) (h2 : text.length ≤ 800) : (padB ad ++ padB text ++ eightB ad.length ++ eightB text.length).length ≤ 140737488355328 := by
 simp only [List.length_append, padB, List.length_replicate, padN, eightB, List.length_cons, List.length_nil]; omega
theorem tag_ (key nonce ad text : List UInt8) (hk : key.length = 32) (hn : nonce.length = 12) (h1 : ad.length ≤ 200) (h2 : text.length ≤ 800) (ex1 ex2 : Bool) : CtM Try.prog 52 [.w (.agg (bytesC key)), .w (.agg (bytesC nonce)), .w (.one (.pl (.R ex1 1 (byteRows ad)))), .w (.one (.pl (.R ex2 1 (byteRows text))))] [] (fun v m => v = .w (.agg (bytesC (tagS key nonce ad text))) ∧ m = []) := by
 have h64 : (blockV (initW key 0 nonce)).length = 64 := blockV_length _
 have hB := block_ key hk 0 nonce hn
 have hT := poly_tag ((blockV (initW key 0 nonce)).take 32) (by rw [List.length_take]; omega) (padB ad ++ padB text ++ eightB ad.length ++ eightB text.length) (all_len h1 h2) false
 have ht := tagS_length key nonce ad text
 by_cases p1 : padN ad = 0
 · by_cases p2 : padN text = 0
   · by_cases q2 : text.length = 0
     · exact (tag_0e key nonce ad text _ hk hn h64 h1 h2 ex1 ex2 _ ht p1 p2 q2 hB hT).told
     · exact (tag_00 key nonce ad text _ hk hn h64 h1 h2 ex1 ex2 _ ht p1 p2 q2 hB hT).told
   · exact (tag_0n key nonce ad text _ hk hn h64 h1 h2 ex1 ex2 _ ht p1 p2 hB hT).told
 · by_cases p2 : padN text = 0
   · exact (tag_n0 key nonce ad text _ hk hn h64 h1 h2 ex1 ex2 _ ht p1 p2 hB hT).told
   · exact (tag_nn key nonce ad text _ hk hn h64 h1 h2 ex1 ex2 _ ht p1 p2 hB hT).told
set_option maxHeartbeats 1600000 in
set_option maxRecDepth 100000 in
theorem tag_of (key nonce ad text : List UInt8) (hk : key.length = 32) (hn : nonce.length = 12) (h1 : ad.length ≤ 200) (h2 : text.length ≤ 800) :
 Ct Try.prog 53 [.w (.agg (bytesC key)), .w (.agg (bytesC nonce)), .w (.one (.pl (.str ad))), .w (.one (.pl (.str text)))] (fun v m => v = .w (.one (.pl (.str (tagS key nonce ad text))))) := by
 have h64 : (blockV (initW key 0 nonce)).length = 64 := blockV_length _
 have hB := block_of key hk 0 nonce hn
 have hT := poly_tag_ref ((blockV (initW key 0 nonce)).take 32) (by rw [List.length_take]; omega) (padB ad ++ padB text ++ eightB ad.length ++ eightB text.length) (all_len h1 h2)
 have ht := tagS_length key nonce ad text
 have hF1 := fill_ ad (by omega)
 have hF2 := fill_ text (by omega)
 have hL1 := low_ (UInt64.ofNat ad.length) 8 (by omega)
 have hL2 := low_ (UInt64.ofNat text.length) 8 (by omega)
 rw [eight_low ⟨ad.length, by omega⟩] at hL1
 rw [eight_low ⟨text.length, by omega⟩] at hL2
 have hu1 : UInt64.ofNat (((ad.length : Nat) : Int) % 18446744073709551616).toNat = UInt64.ofNat ad.length := by rw [show (((ad.length : Nat) : Int) % 18446744073709551616).toNat = ad.length from by omega]
 have hu2 : UInt64.ofNat (((text.length : Nat) : Int) % 18446744073709551616).toNat = UInt64.ofNat text.length := by rw [show (((text.length : Nat) : Int) % 18446744073709551616).toNat = text.length from by omega]
 have hts : tagV ((blockV (initW key 0 nonce)).take 32) (padB ad ++ padB text ++ eightB ad.length ++ eightB text.length) = tagS key nonce ad text := rfl
 rw [hts] at hT
 obtain ⟨tg, htg⟩ : ∃ q, tagS key nonce ad text = q := ⟨_, rfl⟩
 rw [htg] at hT ht
 obtain ⟨once, hoo⟩ : ∃ q, blockV (initW key 0 nonce) = q := ⟨_, rfl⟩
 rw [hoo] at hB hT h64
 obtain ⟨o32, ho⟩ : ∃ q, once.take 32 = q := ⟨_, rfl⟩
 have hol : o32.length = 32 := by rw [← ho, List.length_take]; omega
 rw [ho] at hT
 obtain ⟨e, he⟩ : ∃ q, eightB ad.length = q := ⟨_, rfl⟩
 have hel : e.length = 8 := by rw [← he]; rfl
 obtain ⟨f, hf⟩ : ∃ q, eightB text.length = q := ⟨_, rfl⟩
 have hfl : f.length = 8 := by rw [← hf]; rfl
 rw [he] at hL1 hT
 rw [hf] at hL2 hT
 obtain ⟨pa, hpa⟩ : ∃ q, padB ad = q := ⟨_, rfl⟩
 have hpl : pa.length ≤ 300 := by rw [← hpa]; simp [padB]; unfold padN; omega
 obtain ⟨pb, hpb⟩ : ∃ q, padB text = q := ⟨_, rfl⟩
 have hbl : pb.length ≤ 900 := by rw [← hpb]; simp [padB]; unfold padN; omega
 rw [hpa] at hF1 hT
 rw [hpb] at hF2 hT
 have hq1 : pa.length + pb.length ≤ 9223372036854775807 := by omega
 have hq2 : pa.length + pb.length + 8 ≤ 9223372036854775807 := by omega
 have hq3 : pa.length + pb.length + 8 + 8 ≤ 9223372036854775807 := by omega
 have hm0 : min 32 32 = 32 := rfl
 have htk : List.take 32 o32 = o32 := List.take_of_length_le (by omega)
 have hm1 : min 64 32 = 32 := rfl
 have hm2 : min 32 64 = 32 := rfl
 have hdr : List.drop 32 (List.replicate 32 (0 : UInt8)) = [] := rfl
 have F0 := And.intro hk <| And.intro hn <| And.intro h64 <| And.intro ht <| And.intro hu1 <| And.intro hu2 <| And.intro ho <| And.intro hol <| And.intro hel <| And.intro hfl <| And.intro hq1 <| And.intro hq2 <| And.intro hq3 <| And.intro hm0 <| And.intro htk <| And.intro hm1 <| And.intro hm2 <| hdr
 refine Ct.k Try.func53 rfl Try.ntmps53 (congrArg Array.toList Try.results53) (by simp) fun w0 ro => ?_
 refine top_k fun zZ zhZ => ?_
 refine sr_k fun zK zhK => ?_
 simp only [go_sem, F0]
 repeat' (first | apply And.intro | intro _)
 refine zhK _ ?_
 refine sr_k fun zK zhK => ?_
 simp only [go_sem, F0]
 repeat' (first | apply And.intro | intro _)
 all_goals (refine call_view (fun k => k) (fun _ _ => rfl) ?_ (hB.plain fun _ _ h => h) ?_; focus (first | rfl | (simp only [go_sem, F0] <;> rfl)))
 all_goals (rintro v m ⟨hR, hm⟩; subst hR; subst hm)
 all_goals refine And.intro (by first | rfl | simp only [go_sem, F0]) (And.intro (by first | rfl | simp only [go_sem, F0]) ?_)
 all_goals simp only [go_sem, F0]
 all_goals repeat' (first | apply And.intro | intro _)
 refine zhK _ ?_
 refine sr_k fun zK zhK => ?_
 simp only [go_sem, F0]
 repeat' (first | apply And.intro | intro _)
 refine zhK _ ?_
 refine seq_k fun zN zM zhN zhM => ?_
 refine draw_k (id := 3) [15, 16, 17] [0, 0, 3] [] mixed (by kernel_rfl) (by simp only [go_sem]) fun zK zhK => ?_
 simp only [go_sem, F0]
 repeat' (first | apply And.intro | intro _)
 refine zhK _ _ trivial ?_
 refine zhN _ ?_; clear zhN zhM
 refine seq_k fun zN zM zhN zhM => ?_
 refine dr_k (id := 4) mixed fun zE zhE => ?_
 refine dr_piece_k (p := 0) 18 [18, 19, 20, 21, 22, 23, 24, 25, 26, 27, 28, 29, 30, 31, 32, 33, 34, 11] [0, 0, 2, 0, 14, 30, 0, 64, 192, 478, 1022, 0, 2048, 6144, 15326, 32766, 65535, 0, 262143] [] rfl (by kernel_rfl) rfl (by simp only [go_sem]) fun zR zK zhR zhK => ?_
 simp only [go_sem, F0]
 repeat' (first | apply And.intro | intro _)
 all_goals (refine call_draw (fun k => k) (.w (.one (.pl (.str pa)))) [] (fun _ _ => rfl) ?_ (hF1.plain fun _ _ h => h) ?_ ?_; focus (first | rfl | (simp only [go_sem, F0] <;> rfl)))
 all_goals try (refine And.intro ?_ (And.intro ?_ (And.intro ?_ ?_)) <;> first | rfl | simp only [go_sem])
 all_goals simp only [go_sem, F0]
 all_goals repeat' (first | apply And.intro | intro _)
 all_goals (refine call_draw (fun k => k) (.w (.one (.pl (.str pb)))) [] (fun _ _ => rfl) ?_ (hF2.plain fun _ _ h => h) ?_ ?_; focus (first | rfl | (simp only [go_sem, F0] <;> rfl)))
 all_goals try (refine And.intro ?_ (And.intro ?_ (And.intro ?_ ?_)) <;> first | rfl | simp only [go_sem])
 all_goals simp only [go_sem, F0]
 all_goals repeat' (first | apply And.intro | intro _)
 all_goals (refine call_draw (fun k => k) (.w (.one (.pl (.str e)))) [] (fun _ _ => rfl) ?_ (hL1.plain fun _ _ h => h) ?_ ?_; focus (first | rfl | (simp only [go_sem, F0] <;> rfl)))
 all_goals try (refine And.intro ?_ (And.intro ?_ (And.intro ?_ ?_)) <;> first | rfl | simp only [go_sem])
 all_goals simp only [go_sem, F0]
 all_goals repeat' (first | apply And.intro | intro _)
 all_goals (refine call_draw (fun k => k) (.w (.one (.pl (.str f)))) [] (fun _ _ => rfl) ?_ (hL2.plain fun _ _ h => h) ?_ ?_; focus (first | rfl | (simp only [go_sem, F0] <;> rfl)))
 all_goals try (refine And.intro ?_ (And.intro ?_ (And.intro ?_ ?_)) <;> first | rfl | simp only [go_sem])
 all_goals simp only [go_sem, F0]
 all_goals repeat' (first | apply And.intro | intro _)
 all_goals (refine call_draw (fun k => k) (.w (.agg (bytesC tg))) [] (fun _ _ => rfl) ?_ (hT.plain fun _ _ h => h) ?_ ?_; focus (first | rfl | (simp only [go_sem, F0] <;> rfl)))
 all_goals try (refine And.intro ?_ (And.intro ?_ (And.intro ?_ ?_)) <;> first | rfl | simp only [go_sem])
 all_goals simp only [go_sem, F0]
 all_goals repeat' (first | apply And.intro | intro _)
 refine zhK _ _ trivial (zhR _ ?_)
 refine dr_runs_k 1 19 rfl (by kernel_rfl) rfl rfl fun zR zhR => ?_
 simp only [go_sem, F0]
 repeat' (first | apply And.intro | intro _)
 refine zhR _ ?_
 refine dr_end rfl (zhE _ ?_)
 refine zhN _ ?_; clear zhN zhM
 refine sr_k fun zK zhK => ?_
 simp only [go_sem, F0]
 repeat' (first | apply And.intro | intro _)
 refine zhK _ ?_
 refine ret_k ?_
 refine zhZ _ _ ?_
 simp only [go_sem, F0]
 all_goals (rw [htg])
end Go.Sy

