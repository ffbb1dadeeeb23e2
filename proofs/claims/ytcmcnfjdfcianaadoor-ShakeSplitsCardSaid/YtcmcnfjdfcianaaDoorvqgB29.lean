/- States of a handshake, as the document tells them. -/
import Derived.Test.YtcmcnfjdfcianaaDoorvqgB28
set_option linter.unusedVariables false
set_option linter.unusedSimpArgs false
namespace Go.Sy
namespace Bk
open Go.Proofs
attribute [local irreducible] atCall HT runOps runD onC onE onO onG goV goA goS onSt onGuard
set_option maxHeartbeats 1600000 in
set_option maxRecDepth 100000 in
theorem rsymhash_ (st : Bool) (key : List UInt8) (n : UInt64) (ch h b : List UInt8) (hk : key.length = 32) (hc : ch.length = 32) (hh : h.length = 32) (hb : b.length ≤ 140737488351232) :
 CtM Tryd.prog 17 [.w (.agg (symS st key n ch h)), .w (.one (.pl (.str b)))] [(1000001, ⟨false, [.pl (.u32 1779033703), .pl (.u32 3144134277), .pl (.u32 1013904242), .pl (.u32 2773480762), .pl (.u32 1359893119), .pl (.u32 2600822924), .pl (.u32 528734635), .pl (.u32 1541459225)]⟩)] (Told (fun v m => v = .w (.agg (symS st key n ch (sumB (h ++ b)))) ∧ m = [])) := by
 obtain ⟨z, hz⟩ : ∃ z, sumB (h ++ b) = z := ⟨_, rfl⟩
 have hzl : z.length = 32 := by rw [← hz]; exact sumB_length _
 have hn2 : (h ++ b).length ≤ 9223372036854775807 := by simp [hh]; omega
 rw [hz]
 have hT1 := text_ h hh
 have hS := hashof_ (h ++ b) hn2
 rw [hz] at hS
 have hle : 32 + b.length ≤ 9223372036854775807 := by omega
 have F0 := And.intro hk <| And.intro hc <| And.intro hh <| And.intro hzl <| hle
 refine CtM.k Tryd.func17 rfl Tryd.ntmps17 (congrArg Array.toList Tryd.results17) (by simp) fun w0 ro may fx => ?_
 refine top_k fun zZ zhZ => ?_
 refine sr_k fun zK zhK => ?_
 simp only [go_sem, symS, cipC, F0]
 repeat' (first | apply And.intro | intro _)
 refine zhK _ ?_
 refine sr_k fun zK zhK => ?_
 simp only [go_sem, symS, cipC, F0]
 repeat' (first | apply And.intro | intro _)
 all_goals (refine call_view (fun k => k) (fun _ _ => rfl) ?_ (hT1.plain fun _ _ h => h) ?_; focus (first | rfl | (simp only [go_sem, symS, cipC, F0] <;> rfl)))
 all_goals (rintro v m ⟨hR, hm⟩; subst hR; subst hm)
 all_goals refine And.intro (by first | rfl | simp only [go_sem, symS, cipC, F0]) (And.intro (by first | rfl | simp only [go_sem, symS, cipC, F0]) ?_)
 all_goals simp only [go_sem, symS, cipC, F0]
 all_goals repeat' (first | apply And.intro | intro _)
 all_goals (refine call_hand false [] (fun k => k) (fun _ _ => rfl) ?_ (by decide) ?_ hS.told ?_; iterate 2 (focus (first | rfl | (simp only [go_sem, symS, cipC, F0] <;> first | done | rfl | simp))))
 all_goals (rintro v m ⟨hR, hm⟩; subst hR; subst hm)
 all_goals (refine And.intro ?_ (And.intro ?_ (And.intro ?_ ?_)); iterate 3 (focus (first | rfl | (simp only [go_sem, symS, cipC, F0]; done) | (simp [go_sem, look, symS, cipC, F0]; done))))
 all_goals (try simp only [go_sem, symS, cipC, F0])
 all_goals (try simp only [go_sem, symS, cipC, F0])
 all_goals repeat' (first | apply And.intro | intro _)
 refine zhK _ ?_
 refine sr_k fun zK zhK => ?_
 simp only [go_sem, symS, cipC, F0]
 repeat' (first | apply And.intro | intro _)
 refine zhK _ ?_
 refine ret_k ?_
 refine zhZ _ _ ?_
 simp only [go_sem, symS, cipC, F0]
 all_goals (exact told_plain (by simp [plainV, plainW, bytesC]) ⟨by first | (simp; done) | (simp [symS, cipC, bytesC]; done), rfl⟩)
theorem kinds_sym {st : Bool} {key : List UInt8} {n : UInt64} {ch h : List UInt8} (hk : key.length = 32) (hc : ch.length = 32) (hh : h.length = 32) : (symS st key n ch h).map kindL = ((Kd.b :: List.replicate 32 (Kd.int .u8) ++ (Kd.int .u64 :: List.replicate 32 (Kd.int .u8) ++ (List.replicate 32 (Kd.int .u8))) : List Kd)).map some := by
 have e := kinds_bytes hk
 have e1 := kinds_bytes hc
 have e2 := kinds_bytes hh
 rw [symS, List.map_cons, List.map_append, List.map_cons, List.map_append, e, e1, e2]; rfl
theorem same54 {st : Bool} {key : List UInt8} {n : UInt64} {ch h : List UInt8} (hk : key.length = 32) (hc : ch.length = 32) (hh : h.length = 32) : aggEq Tryd.prog 28 (symS st key n ch h) (symS st key n ch h) = some true := by
 rw [ae28 (kinds_sym hk hc hh) (kinds_sym hk hc hh), symS, eqC_cons, eqC_seg rfl, eqC_cons, eqC_seg rfl, eqC_bytes rfl]; simp [eqL]
end Bk
end Go.Sy
