/- A handshake that is done, and split; the law. -/
import Derived.Test.YtcmcnfjdfcianaaDoorvqgB30
import Derived.Test.YtcmcnfjdfcianaaDoorvE3
set_option linter.unusedVariables false
set_option linter.unusedSimpArgs false
namespace Go.Sy
namespace Bk
open Go.Proofs
attribute [local irreducible] atCall HT runOps runD onC onE onO onG goV goA goS onSt onGuard
@[go_sem] theorem bin_eql_bool {P : Program} {t : TypeId} (ht : P.underlying t = some .bool) (a b : Bool) : binV P .eql t (.w (.one (.pl (.b a)))) (.w (.one (.pl (.b b)))) = some (.w (.one (.pl (.b (a == b))))) := by simp [binV, ht]
theorem list_of_len2 {α : Type} {l : List α} (h : l.length = 2) : ∃ a b, l = [a, b] := by
 match l, h with
 | [a, b], _ => exact ⟨a, b, rfl⟩
def shakeC (bs : List UInt8) (lt : Bool) (ps p0 p1 tr : List (List PL)) (fi : Bool) (tu : Int) (de st : Bool) (key : List UInt8) (n : UInt64) (ch h ow fr : List UInt8) (ha : Bool) (th : List UInt8) (kn : Bool) (ne : List UInt8) (sa : Bool) (ks : List (List PL)) (us : Int) : List L :=
 .pl (.str bs) :: .pl (.b lt) :: .pl (.R false 1 ps) :: .pl (.R false 1 p0) :: .pl (.R false 1 p1) :: .pl (.R false 1 tr) :: .pl (.b fi) :: .pl (.i tu) :: .pl (.b de) :: .pl (.b st) :: (bytesC key ++ (.pl (.u64 n) :: (bytesC ch ++ (bytesC h ++ (bytesC ow ++ (bytesC fr ++ (.pl (.b ha) :: (bytesC th ++ (.pl (.b kn) :: (bytesC ne ++ (.pl (.b sa) :: .pl (.R false 32 ks) :: .pl (.i us) :: [])))))))))))
set_option maxHeartbeats 1600000 in
set_option maxRecDepth 100000 in
theorem done_d (bs : List UInt8) (lt : Bool) (ps p0 p1 tr : List (List PL)) (fi : Bool) (tu : Int) (st : Bool) (key : List UInt8) (n : UInt64) (ch h ow fr : List UInt8) (ha : Bool) (th : List UInt8) (kn : Bool) (ne : List UInt8) (sa : Bool) (ks : List (List PL)) (us : Int) (hk : key.length = 32) (hc : ch.length = 32) (hh : h.length = 32) (hw : ow.length = 32) (hf : fr.length = 32) (ht : th.length = 32) (hn : ne.length = 32) :
 Ct Tryd.prog 9 [.w (.agg (shakeC bs lt ps p0 p1 tr fi tu true st key n ch h ow fr ha th kn ne sa ks us))] (fun v m => v = .w (.one (.pl (.b false)))) := by
 have F0 := And.intro hk <| And.intro hc <| And.intro hh <| And.intro hw <| And.intro hf <| And.intro ht <| hn
 refine Ct.k Tryd.func9 rfl Tryd.ntmps9 (congrArg Array.toList Tryd.results9) (by simp) fun w0 ro => ?_
 refine top_k fun zZ zhZ => ?_
 iterate 6 first
  | (refine sr_k fun zK zhK => ?_; simp only [go_sem, shakeC, symS, cipC, F0]; (repeat' (first | apply And.intro | intro _)))
  | refine zhK _ ?_
  | refine ret_k ?_
  | (refine zhZ _ _ ?_; simp only [go_sem, shakeC, symS, cipC, F0]; (all_goals (rfl)))
set_option maxHeartbeats 1600000 in
set_option maxRecDepth 100000 in
theorem shsplit_d (bs : List UInt8) (lt : Bool) (ps p0 p1 tr : List (List PL)) (fi : Bool) (tu : Int) (st : Bool) (key : List UInt8) (n : UInt64) (ch h ow fr : List UInt8) (ha : Bool) (th : List UInt8) (kn : Bool) (ne : List UInt8) (sa : Bool) (ks : List (List PL)) (us : Int) (hk : key.length = 32) (hc : ch.length = 32) (hh : h.length = 32) (hw : ow.length = 32) (hf : fr.length = 32) (ht : th.length = 32) (hn : ne.length = 32) :
 CtM Tryd.prog 10 [.w (.agg (shakeC bs lt ps p0 p1 tr fi tu true st key n ch h ow fr ha th kn ne sa ks us))] [(1000000, ⟨false, [.pl (.u32 1779033703), .pl (.u32 3144134277), .pl (.u32 1013904242), .pl (.u32 2773480762), .pl (.u32 1359893119), .pl (.u32 2600822924), .pl (.u32 528734635), .pl (.u32 1541459225)]⟩), (1000002, ⟨false, ordC⟩)] (Told (fun v m => v = .tup [.agg (cipC false Z32 0 ++ cipC false Z32 0), .one (.pl (.i 9))] ∧ m = [])) := by
 have F0 := And.intro hk <| And.intro hc <| And.intro hh <| And.intro hw <| And.intro hf <| And.intro ht <| hn
 refine CtM.k Tryd.func10 rfl Tryd.ntmps10 (congrArg Array.toList Tryd.results10) (by simp) fun w0 ro may fx => ?_
 refine top_k fun zZ zhZ => ?_
 iterate 12 first
  | (refine sr_k fun zK zhK => ?_; simp only [go_sem, shakeC, symS, cipC, F0]; (repeat' (first | apply And.intro | intro _)))
  | refine zhK _ ?_
  | refine ret_k ?_
  | (refine zhM _ _ ?_; clear zhN zhM)
  | (refine zhZ _ _ ?_; simp only [go_sem, shakeC, symS, cipC, F0]; (all_goals (exact told_plain (by simp [plainV, plainW, bytesC]) ⟨by first | (simp; done) | (simp [symS, cipC, Z32, bytesC]; done), rfl⟩)))
  | ((all_goals (refine call_view (fun k => k) (fun _ _ => rfl) ?_ ((done_d bs lt ps p0 p1 tr fi tu st key n ch h ow fr ha th kn ne sa ks us hk hc hh hw hf ht hn).plain fun _ _ h => h) ?_; focus (first | rfl | (simp only [go_sem, shakeC, symS, cipC, F0] <;> rfl)))); (all_goals (rintro v m ⟨hR, hm⟩; subst hR; subst hm)); (all_goals refine And.intro (by first | rfl | simp only [go_sem, shakeC, symS, cipC, F0]) (And.intro (by first | rfl | simp only [go_sem, shakeC, symS, cipC, F0]) ?_)); (all_goals simp only [go_sem, shakeC, symS, cipC, F0]); (all_goals repeat' (first | apply And.intro | intro _)))
  | refine seq_k fun zN zM zhN zhM => ?_
  | (refine condT_k ?_ ?_; focus (first | rfl | (simp [go_sem, shakeC, symS, cipC, F0]; done)))
set_option maxHeartbeats 1600000 in
set_option maxRecDepth 100000 in
theorem sdone_d (bs : List UInt8) (lt : Bool) (ps p0 p1 tr : List (List PL)) (fi : Bool) (tu : Int) (st : Bool) (key : List UInt8) (n : UInt64) (ch h ow fr : List UInt8) (ha : Bool) (th : List UInt8) (kn : Bool) (ne : List UInt8) (sa : Bool) (ks : List (List PL)) (us : Int) (hk : key.length = 32) (hc : ch.length = 32) (hh : h.length = 32) (hw : ow.length = 32) (hf : fr.length = 32) (ht : th.length = 32) (hn : ne.length = 32) :
 Ct Tryd.prog 11 [.w (.agg (shakeC bs lt ps p0 p1 tr fi tu true st key n ch h ow fr ha th kn ne sa ks us))] (fun v m => v = .w (.one (.pl (.b false)))) := by
 have F0 := And.intro hk <| And.intro hc <| And.intro hh <| And.intro hw <| And.intro hf <| And.intro ht <| hn
 refine Ct.k Tryd.func11 rfl Tryd.ntmps11 (congrArg Array.toList Tryd.results11) (by simp) fun w0 ro => ?_
 refine top_k fun zZ zhZ => ?_
 iterate 6 first
  | (refine sr_k fun zK zhK => ?_; simp only [go_sem, shakeC, symS, cipC, F0]; (repeat' (first | apply And.intro | intro _)))
  | refine zhK _ ?_
  | refine ret_k ?_
  | (refine zhZ _ _ ?_; simp only [go_sem, shakeC, symS, cipC, F0]; (all_goals (rfl)))
set_option maxHeartbeats 1600000 in
set_option maxRecDepth 100000 in
theorem shssplit_d (bs : List UInt8) (lt : Bool) (ps p0 p1 tr : List (List PL)) (fi : Bool) (tu : Int) (st : Bool) (key : List UInt8) (n : UInt64) (ch h ow fr : List UInt8) (ha : Bool) (th : List UInt8) (kn : Bool) (ne : List UInt8) (sa : Bool) (ks : List (List PL)) (us : Int) (hk : key.length = 32) (hc : ch.length = 32) (hh : h.length = 32) (hw : ow.length = 32) (hf : fr.length = 32) (ht : th.length = 32) (hn : ne.length = 32) :
 CtM Tryd.prog 12 [.w (.agg (shakeC bs lt ps p0 p1 tr fi tu true st key n ch h ow fr ha th kn ne sa ks us))] [(1000001, ⟨false, [.pl (.u32 1779033703), .pl (.u32 3144134277), .pl (.u32 1013904242), .pl (.u32 2773480762), .pl (.u32 1359893119), .pl (.u32 2600822924), .pl (.u32 528734635), .pl (.u32 1541459225)]⟩)] (Told (fun v m => v = .tup [.agg (cipC false Z32 0 ++ cipC false Z32 0), .one (.pl (.i 9))] ∧ m = [])) := by
 have F0 := And.intro hk <| And.intro hc <| And.intro hh <| And.intro hw <| And.intro hf <| And.intro ht <| hn
 refine CtM.k Tryd.func12 rfl Tryd.ntmps12 (congrArg Array.toList Tryd.results12) (by simp) fun w0 ro may fx => ?_
 refine top_k fun zZ zhZ => ?_
 iterate 12 first
  | (refine sr_k fun zK zhK => ?_; simp only [go_sem, shakeC, symS, cipC, F0]; (repeat' (first | apply And.intro | intro _)))
  | refine zhK _ ?_
  | refine ret_k ?_
  | (refine zhM _ _ ?_; clear zhN zhM)
  | (refine zhZ _ _ ?_; simp only [go_sem, shakeC, symS, cipC, F0]; (all_goals (exact told_plain (by simp [plainV, plainW, bytesC]) ⟨by first | (simp; done) | (simp [symS, cipC, Z32, bytesC]; done), rfl⟩)))
  | ((all_goals (refine call_view (fun k => k) (fun _ _ => rfl) ?_ ((sdone_d bs lt ps p0 p1 tr fi tu st key n ch h ow fr ha th kn ne sa ks us hk hc hh hw hf ht hn).plain fun _ _ h => h) ?_; focus (first | rfl | (simp only [go_sem, shakeC, symS, cipC, F0] <;> rfl)))); (all_goals (rintro v m ⟨hR, hm⟩; subst hR; subst hm)); (all_goals refine And.intro (by first | rfl | simp only [go_sem, shakeC, symS, cipC, F0]) (And.intro (by first | rfl | simp only [go_sem, shakeC, symS, cipC, F0]) ?_)); (all_goals simp only [go_sem, shakeC, symS, cipC, F0]); (all_goals repeat' (first | apply And.intro | intro _)))
  | refine seq_k fun zN zM zhN zhM => ?_
  | (refine condT_k ?_ ?_; focus (first | rfl | (simp [go_sem, shakeC, symS, cipC, F0]; done)))
set_option maxHeartbeats 1600000 in
set_option maxRecDepth 100000 in
theorem shakesplits_d (bs : List UInt8) (lt : Bool) (ps p0 p1 tr : List (List PL)) (fi : Bool) (tu : Int) (st : Bool) (key : List UInt8) (n : UInt64) (ch h ow fr : List UInt8) (ha : Bool) (th : List UInt8) (kn : Bool) (ne : List UInt8) (sa : Bool) (ks : List (List PL)) (us : Int) (hk : key.length = 32) (hc : ch.length = 32) (hh : h.length = 32) (hw : ow.length = 32) (hf : fr.length = 32) (ht : th.length = 32) (hn : ne.length = 32) :
 CtM Tryd.prog 4 [.w (.agg (shakeC bs lt ps p0 p1 tr fi tu true st key n ch h ow fr ha th kn ne sa ks us))] [(1000000, ⟨false, [.pl (.u32 1779033703), .pl (.u32 3144134277), .pl (.u32 1013904242), .pl (.u32 2773480762), .pl (.u32 1359893119), .pl (.u32 2600822924), .pl (.u32 528734635), .pl (.u32 1541459225)]⟩), (1000001, ⟨false, [.pl (.u32 1779033703), .pl (.u32 3144134277), .pl (.u32 1013904242), .pl (.u32 2773480762), .pl (.u32 1359893119), .pl (.u32 2600822924), .pl (.u32 528734635), .pl (.u32 1541459225)]⟩), (1000002, ⟨false, ordC⟩)] (Told (fun v m => v = .w (.one (.pl (.b true))) ∧ m = [])) := by
 have hA1 := shsplit_d bs lt ps p0 p1 tr fi tu st key n ch h ow fr ha th kn ne sa ks us hk hc hh hw hf ht hn
 have hA2 := shssplit_d bs lt ps p0 p1 tr fi tu st key n ch h ow fr ha th kn ne sa ks us hk hc hh hw hf ht hn
 have hs2 := same56 (s1 := false) (s2 := false) (n1 := 0) (n2 := 0) Z32_length Z32_length
 rw [cip_norm] at hs2
 obtain ⟨q, hq⟩ : ∃ q, Z32 = q := ⟨_, rfl⟩
 have hql : q.length = 32 := by rw [← hq]; rfl
 rw [hq] at hA1 hA2 hs2
 have F0 := And.intro hk <| And.intro hc <| And.intro hh <| And.intro hw <| And.intro hf <| And.intro ht <| And.intro hn <| And.intro hql <| hs2
 refine CtM.k Tryd.func4 rfl Tryd.ntmps4 (congrArg Array.toList Tryd.results4) (by simp) fun w0 ro may fx => ?_
 refine top_k fun zZ zhZ => ?_
 iterate 18 first
  | (refine sr_k fun zK zhK => ?_; simp only [go_sem, shakeC, symS, cipC, beq_self_eq_true, F0]; (repeat' (first | apply And.intro | intro _)))
  | refine zhK _ ?_
  | refine ret_k ?_
  | (refine zhZ _ _ ?_; simp only [go_sem, shakeC, symS, cipC, beq_self_eq_true, F0]; (all_goals (exact told_plain rfl ⟨rfl, rfl⟩)))
  | ((all_goals (refine call_view (fun k => k) (fun _ _ => rfl) ?_ ((done_d bs lt ps p0 p1 tr fi tu st key n ch h ow fr ha th kn ne sa ks us hk hc hh hw hf ht hn).plain fun _ _ h => h) ?_; focus (first | rfl | (simp only [go_sem, shakeC, symS, cipC, beq_self_eq_true, F0] <;> rfl)))); (all_goals (rintro v m ⟨hR, hm⟩; subst hR; subst hm)); (all_goals refine And.intro (by first | rfl | simp only [go_sem, shakeC, symS, cipC, beq_self_eq_true, F0]) (And.intro (by first | rfl | simp only [go_sem, shakeC, symS, cipC, beq_self_eq_true, F0]) ?_)); (all_goals simp only [go_sem, shakeC, symS, cipC, beq_self_eq_true, F0]); (all_goals repeat' (first | apply And.intro | intro _)))
  | ((all_goals (refine call_hand false [] (fun k => k) (fun _ _ => rfl) ?_ (by decide) ?_ hA1.told ?_; iterate 2 (focus (first | rfl | (simp only [go_sem, shakeC, symS, cipC, beq_self_eq_true, F0] <;> first | done | rfl | simp))))); (all_goals (rintro v m ⟨hR, hm⟩; subst hR; subst hm)); (all_goals (refine And.intro ?_ (And.intro ?_ (And.intro ?_ ?_)); iterate 3 (focus (first | rfl | (simp only [go_sem, shakeC, symS, cipC, beq_self_eq_true, F0]; done) | (simp [go_sem, look, shakeC, symS, cipC, beq_self_eq_true, F0]; done))))); (all_goals (try simp only [go_sem, shakeC, symS, cipC, beq_self_eq_true, F0])); (all_goals (try simp only [go_sem, shakeC, symS, cipC, beq_self_eq_true, F0])); (all_goals repeat' (first | apply And.intro | intro _)))
  | ((all_goals (refine call_view (fun k => k) (fun _ _ => rfl) ?_ ((sdone_d bs lt ps p0 p1 tr fi tu st key n ch h ow fr ha th kn ne sa ks us hk hc hh hw hf ht hn).plain fun _ _ h => h) ?_; focus (first | rfl | (simp only [go_sem, shakeC, symS, cipC, beq_self_eq_true, F0] <;> rfl)))); (all_goals (rintro v m ⟨hR, hm⟩; subst hR; subst hm)); (all_goals refine And.intro (by first | rfl | simp only [go_sem, shakeC, symS, cipC, beq_self_eq_true, F0]) (And.intro (by first | rfl | simp only [go_sem, shakeC, symS, cipC, beq_self_eq_true, F0]) ?_)); (all_goals simp only [go_sem, shakeC, symS, cipC, beq_self_eq_true, F0]); (all_goals repeat' (first | apply And.intro | intro _)))
  | ((all_goals (refine call_hand false [] (fun k => k) (fun _ _ => rfl) ?_ (by decide) ?_ hA2.told ?_; iterate 2 (focus (first | rfl | (simp only [go_sem, shakeC, symS, cipC, beq_self_eq_true, F0] <;> first | done | rfl | simp))))); (all_goals (rintro v m ⟨hR, hm⟩; subst hR; subst hm)); (all_goals (refine And.intro ?_ (And.intro ?_ (And.intro ?_ ?_)); iterate 3 (focus (first | rfl | (simp only [go_sem, shakeC, symS, cipC, beq_self_eq_true, F0]; done) | (simp [go_sem, look, shakeC, symS, cipC, beq_self_eq_true, F0]; done))))); (all_goals (try simp only [go_sem, shakeC, symS, cipC, beq_self_eq_true, F0])); (all_goals (try simp only [go_sem, shakeC, symS, cipC, beq_self_eq_true, F0])); (all_goals repeat' (first | apply And.intro | intro _)))
set_option maxHeartbeats 1600000 in
set_option maxRecDepth 100000 in
theorem done_n (bs : List UInt8) (lt : Bool) (ps p0 p1 tr : List (List PL)) (fi : Bool) (tu : Int) (st : Bool) (key : List UInt8) (n : UInt64) (ch h ow fr : List UInt8) (ha : Bool) (th : List UInt8) (kn : Bool) (ne : List UInt8) (sa : Bool) (ks : List (List PL)) (us : Int) (hk : key.length = 32) (hc : ch.length = 32) (hh : h.length = 32) (hw : ow.length = 32) (hf : fr.length = 32) (ht : th.length = 32) (hn : ne.length = 32) (hle : ¬ ((tr.length : Nat) : Int) ≤ tu) :
 Ct Tryd.prog 9 [.w (.agg (shakeC bs lt ps p0 p1 tr fi tu false st key n ch h ow fr ha th kn ne sa ks us))] (fun v m => v = .w (.one (.pl (.b false)))) := by
 have F0 := And.intro hk <| And.intro hc <| And.intro hh <| And.intro hw <| And.intro hf <| And.intro ht <| And.intro hn <| hle
 refine Ct.k Tryd.func9 rfl Tryd.ntmps9 (congrArg Array.toList Tryd.results9) (by simp) fun w0 ro => ?_
 refine top_k fun zZ zhZ => ?_
 iterate 6 first
  | (refine sr_k fun zK zhK => ?_; simp only [go_sem, shakeC, symS, cipC, F0]; (repeat' (first | apply And.intro | intro _)))
  | refine zhK _ ?_
  | refine ret_k ?_
  | (refine zhZ _ _ ?_; simp only [go_sem, shakeC, symS, cipC, F0]; (all_goals (rfl)))
set_option maxHeartbeats 1600000 in
set_option maxRecDepth 100000 in
theorem shsplit_n (bs : List UInt8) (lt : Bool) (ps p0 p1 tr : List (List PL)) (fi : Bool) (tu : Int) (st : Bool) (key : List UInt8) (n : UInt64) (ch h ow fr : List UInt8) (ha : Bool) (th : List UInt8) (kn : Bool) (ne : List UInt8) (sa : Bool) (ks : List (List PL)) (us : Int) (hk : key.length = 32) (hc : ch.length = 32) (hh : h.length = 32) (hw : ow.length = 32) (hf : fr.length = 32) (ht : th.length = 32) (hn : ne.length = 32) (hle : ¬ ((tr.length : Nat) : Int) ≤ tu) :
 CtM Tryd.prog 10 [.w (.agg (shakeC bs lt ps p0 p1 tr fi tu false st key n ch h ow fr ha th kn ne sa ks us))] [(1000000, ⟨false, [.pl (.u32 1779033703), .pl (.u32 3144134277), .pl (.u32 1013904242), .pl (.u32 2773480762), .pl (.u32 1359893119), .pl (.u32 2600822924), .pl (.u32 528734635), .pl (.u32 1541459225)]⟩), (1000002, ⟨false, ordC⟩)] (Told (fun v m => v = .tup [.agg (cipC false Z32 0 ++ cipC false Z32 0), .one (.pl (.i 9))] ∧ m = [])) := by
 have F0 := And.intro hk <| And.intro hc <| And.intro hh <| And.intro hw <| And.intro hf <| And.intro ht <| And.intro hn <| hle
 refine CtM.k Tryd.func10 rfl Tryd.ntmps10 (congrArg Array.toList Tryd.results10) (by simp) fun w0 ro may fx => ?_
 refine top_k fun zZ zhZ => ?_
 iterate 12 first
  | (refine sr_k fun zK zhK => ?_; simp only [go_sem, shakeC, symS, cipC, F0]; (repeat' (first | apply And.intro | intro _)))
  | refine zhK _ ?_
  | refine ret_k ?_
  | (refine zhM _ _ ?_; clear zhN zhM)
  | (refine zhZ _ _ ?_; simp only [go_sem, shakeC, symS, cipC, F0]; (all_goals (exact told_plain (by simp [plainV, plainW, bytesC]) ⟨by first | (simp; done) | (simp [symS, cipC, Z32, bytesC]; done), rfl⟩)))
  | ((all_goals (refine call_view (fun k => k) (fun _ _ => rfl) ?_ ((done_n bs lt ps p0 p1 tr fi tu st key n ch h ow fr ha th kn ne sa ks us hk hc hh hw hf ht hn hle).plain fun _ _ h => h) ?_; focus (first | rfl | (simp only [go_sem, shakeC, symS, cipC, F0] <;> rfl)))); (all_goals (rintro v m ⟨hR, hm⟩; subst hR; subst hm)); (all_goals refine And.intro (by first | rfl | simp only [go_sem, shakeC, symS, cipC, F0]) (And.intro (by first | rfl | simp only [go_sem, shakeC, symS, cipC, F0]) ?_)); (all_goals simp only [go_sem, shakeC, symS, cipC, F0]); (all_goals repeat' (first | apply And.intro | intro _)))
  | refine seq_k fun zN zM zhN zhM => ?_
  | (refine condT_k ?_ ?_; focus (first | rfl | (simp [go_sem, shakeC, symS, cipC, F0]; done)))
set_option maxHeartbeats 1600000 in
set_option maxRecDepth 100000 in
theorem sdone_n (bs : List UInt8) (lt : Bool) (ps p0 p1 tr : List (List PL)) (fi : Bool) (tu : Int) (st : Bool) (key : List UInt8) (n : UInt64) (ch h ow fr : List UInt8) (ha : Bool) (th : List UInt8) (kn : Bool) (ne : List UInt8) (sa : Bool) (ks : List (List PL)) (us : Int) (hk : key.length = 32) (hc : ch.length = 32) (hh : h.length = 32) (hw : ow.length = 32) (hf : fr.length = 32) (ht : th.length = 32) (hn : ne.length = 32) (hle : ¬ ((tr.length : Nat) : Int) ≤ tu) :
 Ct Tryd.prog 11 [.w (.agg (shakeC bs lt ps p0 p1 tr fi tu false st key n ch h ow fr ha th kn ne sa ks us))] (fun v m => v = .w (.one (.pl (.b false)))) := by
 have F0 := And.intro hk <| And.intro hc <| And.intro hh <| And.intro hw <| And.intro hf <| And.intro ht <| And.intro hn <| hle
 refine Ct.k Tryd.func11 rfl Tryd.ntmps11 (congrArg Array.toList Tryd.results11) (by simp) fun w0 ro => ?_
 refine top_k fun zZ zhZ => ?_
 iterate 6 first
  | (refine sr_k fun zK zhK => ?_; simp only [go_sem, shakeC, symS, cipC, F0]; (repeat' (first | apply And.intro | intro _)))
  | refine zhK _ ?_
  | refine ret_k ?_
  | (refine zhZ _ _ ?_; simp only [go_sem, shakeC, symS, cipC, F0]; (all_goals (rfl)))
set_option maxHeartbeats 1600000 in
set_option maxRecDepth 100000 in
theorem shssplit_n (bs : List UInt8) (lt : Bool) (ps p0 p1 tr : List (List PL)) (fi : Bool) (tu : Int) (st : Bool) (key : List UInt8) (n : UInt64) (ch h ow fr : List UInt8) (ha : Bool) (th : List UInt8) (kn : Bool) (ne : List UInt8) (sa : Bool) (ks : List (List PL)) (us : Int) (hk : key.length = 32) (hc : ch.length = 32) (hh : h.length = 32) (hw : ow.length = 32) (hf : fr.length = 32) (ht : th.length = 32) (hn : ne.length = 32) (hle : ¬ ((tr.length : Nat) : Int) ≤ tu) :
 CtM Tryd.prog 12 [.w (.agg (shakeC bs lt ps p0 p1 tr fi tu false st key n ch h ow fr ha th kn ne sa ks us))] [(1000001, ⟨false, [.pl (.u32 1779033703), .pl (.u32 3144134277), .pl (.u32 1013904242), .pl (.u32 2773480762), .pl (.u32 1359893119), .pl (.u32 2600822924), .pl (.u32 528734635), .pl (.u32 1541459225)]⟩)] (Told (fun v m => v = .tup [.agg (cipC false Z32 0 ++ cipC false Z32 0), .one (.pl (.i 9))] ∧ m = [])) := by
 have F0 := And.intro hk <| And.intro hc <| And.intro hh <| And.intro hw <| And.intro hf <| And.intro ht <| And.intro hn <| hle
 refine CtM.k Tryd.func12 rfl Tryd.ntmps12 (congrArg Array.toList Tryd.results12) (by simp) fun w0 ro may fx => ?_
 refine top_k fun zZ zhZ => ?_
 iterate 12 first
  | (refine sr_k fun zK zhK => ?_; simp only [go_sem, shakeC, symS, cipC, F0]; (repeat' (first | apply And.intro | intro _)))
  | refine zhK _ ?_
  | refine ret_k ?_
  | (refine zhM _ _ ?_; clear zhN zhM)
  | (refine zhZ _ _ ?_; simp only [go_sem, shakeC, symS, cipC, F0]; (all_goals (exact told_plain (by simp [plainV, plainW, bytesC]) ⟨by first | (simp; done) | (simp [symS, cipC, Z32, bytesC]; done), rfl⟩)))
  | ((all_goals (refine call_view (fun k => k) (fun _ _ => rfl) ?_ ((sdone_n bs lt ps p0 p1 tr fi tu st key n ch h ow fr ha th kn ne sa ks us hk hc hh hw hf ht hn hle).plain fun _ _ h => h) ?_; focus (first | rfl | (simp only [go_sem, shakeC, symS, cipC, F0] <;> rfl)))); (all_goals (rintro v m ⟨hR, hm⟩; subst hR; subst hm)); (all_goals refine And.intro (by first | rfl | simp only [go_sem, shakeC, symS, cipC, F0]) (And.intro (by first | rfl | simp only [go_sem, shakeC, symS, cipC, F0]) ?_)); (all_goals simp only [go_sem, shakeC, symS, cipC, F0]); (all_goals repeat' (first | apply And.intro | intro _)))
  | refine seq_k fun zN zM zhN zhM => ?_
  | (refine condT_k ?_ ?_; focus (first | rfl | (simp [go_sem, shakeC, symS, cipC, F0]; done)))
set_option maxHeartbeats 1600000 in
set_option maxRecDepth 100000 in
theorem shakesplits_n (bs : List UInt8) (lt : Bool) (ps p0 p1 tr : List (List PL)) (fi : Bool) (tu : Int) (st : Bool) (key : List UInt8) (n : UInt64) (ch h ow fr : List UInt8) (ha : Bool) (th : List UInt8) (kn : Bool) (ne : List UInt8) (sa : Bool) (ks : List (List PL)) (us : Int) (hk : key.length = 32) (hc : ch.length = 32) (hh : h.length = 32) (hw : ow.length = 32) (hf : fr.length = 32) (ht : th.length = 32) (hn : ne.length = 32) (hle : ¬ ((tr.length : Nat) : Int) ≤ tu) :
 CtM Tryd.prog 4 [.w (.agg (shakeC bs lt ps p0 p1 tr fi tu false st key n ch h ow fr ha th kn ne sa ks us))] [(1000000, ⟨false, [.pl (.u32 1779033703), .pl (.u32 3144134277), .pl (.u32 1013904242), .pl (.u32 2773480762), .pl (.u32 1359893119), .pl (.u32 2600822924), .pl (.u32 528734635), .pl (.u32 1541459225)]⟩), (1000001, ⟨false, [.pl (.u32 1779033703), .pl (.u32 3144134277), .pl (.u32 1013904242), .pl (.u32 2773480762), .pl (.u32 1359893119), .pl (.u32 2600822924), .pl (.u32 528734635), .pl (.u32 1541459225)]⟩), (1000002, ⟨false, ordC⟩)] (Told (fun v m => v = .w (.one (.pl (.b true))) ∧ m = [])) := by
 have hA1 := shsplit_n bs lt ps p0 p1 tr fi tu st key n ch h ow fr ha th kn ne sa ks us hk hc hh hw hf ht hn hle
 have hA2 := shssplit_n bs lt ps p0 p1 tr fi tu st key n ch h ow fr ha th kn ne sa ks us hk hc hh hw hf ht hn hle
 have hs2 := same56 (s1 := false) (s2 := false) (n1 := 0) (n2 := 0) Z32_length Z32_length
 rw [cip_norm] at hs2
 obtain ⟨q, hq⟩ : ∃ q, Z32 = q := ⟨_, rfl⟩
 have hql : q.length = 32 := by rw [← hq]; rfl
 rw [hq] at hA1 hA2 hs2
 have F0 := And.intro hk <| And.intro hc <| And.intro hh <| And.intro hw <| And.intro hf <| And.intro ht <| And.intro hn <| And.intro hql <| hs2
 refine CtM.k Tryd.func4 rfl Tryd.ntmps4 (congrArg Array.toList Tryd.results4) (by simp) fun w0 ro may fx => ?_
 refine top_k fun zZ zhZ => ?_
 iterate 18 first
  | (refine sr_k fun zK zhK => ?_; simp only [go_sem, shakeC, symS, cipC, beq_self_eq_true, F0]; (repeat' (first | apply And.intro | intro _)))
  | refine zhK _ ?_
  | refine ret_k ?_
  | (refine zhZ _ _ ?_; simp only [go_sem, shakeC, symS, cipC, beq_self_eq_true, F0]; (all_goals (exact told_plain rfl ⟨rfl, rfl⟩)))
  | ((all_goals (refine call_view (fun k => k) (fun _ _ => rfl) ?_ ((done_n bs lt ps p0 p1 tr fi tu st key n ch h ow fr ha th kn ne sa ks us hk hc hh hw hf ht hn hle).plain fun _ _ h => h) ?_; focus (first | rfl | (simp only [go_sem, shakeC, symS, cipC, beq_self_eq_true, F0] <;> rfl)))); (all_goals (rintro v m ⟨hR, hm⟩; subst hR; subst hm)); (all_goals refine And.intro (by first | rfl | simp only [go_sem, shakeC, symS, cipC, beq_self_eq_true, F0]) (And.intro (by first | rfl | simp only [go_sem, shakeC, symS, cipC, beq_self_eq_true, F0]) ?_)); (all_goals simp only [go_sem, shakeC, symS, cipC, beq_self_eq_true, F0]); (all_goals repeat' (first | apply And.intro | intro _)))
  | ((all_goals (refine call_hand false [] (fun k => k) (fun _ _ => rfl) ?_ (by decide) ?_ hA1.told ?_; iterate 2 (focus (first | rfl | (simp only [go_sem, shakeC, symS, cipC, beq_self_eq_true, F0] <;> first | done | rfl | simp))))); (all_goals (rintro v m ⟨hR, hm⟩; subst hR; subst hm)); (all_goals (refine And.intro ?_ (And.intro ?_ (And.intro ?_ ?_)); iterate 3 (focus (first | rfl | (simp only [go_sem, shakeC, symS, cipC, beq_self_eq_true, F0]; done) | (simp [go_sem, look, shakeC, symS, cipC, beq_self_eq_true, F0]; done))))); (all_goals (try simp only [go_sem, shakeC, symS, cipC, beq_self_eq_true, F0])); (all_goals (try simp only [go_sem, shakeC, symS, cipC, beq_self_eq_true, F0])); (all_goals repeat' (first | apply And.intro | intro _)))
  | ((all_goals (refine call_view (fun k => k) (fun _ _ => rfl) ?_ ((sdone_n bs lt ps p0 p1 tr fi tu st key n ch h ow fr ha th kn ne sa ks us hk hc hh hw hf ht hn hle).plain fun _ _ h => h) ?_; focus (first | rfl | (simp only [go_sem, shakeC, symS, cipC, beq_self_eq_true, F0] <;> rfl)))); (all_goals (rintro v m ⟨hR, hm⟩; subst hR; subst hm)); (all_goals refine And.intro (by first | rfl | simp only [go_sem, shakeC, symS, cipC, beq_self_eq_true, F0]) (And.intro (by first | rfl | simp only [go_sem, shakeC, symS, cipC, beq_self_eq_true, F0]) ?_)); (all_goals simp only [go_sem, shakeC, symS, cipC, beq_self_eq_true, F0]); (all_goals repeat' (first | apply And.intro | intro _)))
  | ((all_goals (refine call_hand false [] (fun k => k) (fun _ _ => rfl) ?_ (by decide) ?_ hA2.told ?_; iterate 2 (focus (first | rfl | (simp only [go_sem, shakeC, symS, cipC, beq_self_eq_true, F0] <;> first | done | rfl | simp))))); (all_goals (rintro v m ⟨hR, hm⟩; subst hR; subst hm)); (all_goals (refine And.intro ?_ (And.intro ?_ (And.intro ?_ ?_)); iterate 3 (focus (first | rfl | (simp only [go_sem, shakeC, symS, cipC, beq_self_eq_true, F0]; done) | (simp [go_sem, look, shakeC, symS, cipC, beq_self_eq_true, F0]; done))))); (all_goals (try simp only [go_sem, shakeC, symS, cipC, beq_self_eq_true, F0])); (all_goals (try simp only [go_sem, shakeC, symS, cipC, beq_self_eq_true, F0])); (all_goals repeat' (first | apply And.intro | intro _)))
set_option maxHeartbeats 1600000 in
set_option maxRecDepth 100000 in
theorem done_y (bs : List UInt8) (lt : Bool) (ps p0 p1 tr : List (List PL)) (fi : Bool) (tu : Int) (st : Bool) (key : List UInt8) (n : UInt64) (ch h ow fr : List UInt8) (ha : Bool) (th : List UInt8) (kn : Bool) (ne : List UInt8) (sa : Bool) (ks : List (List PL)) (us : Int) (hk : key.length = 32) (hc : ch.length = 32) (hh : h.length = 32) (hw : ow.length = 32) (hf : fr.length = 32) (ht : th.length = 32) (hn : ne.length = 32) (hle : ((tr.length : Nat) : Int) ≤ tu) :
 Ct Tryd.prog 9 [.w (.agg (shakeC bs lt ps p0 p1 tr fi tu false st key n ch h ow fr ha th kn ne sa ks us))] (fun v m => v = .w (.one (.pl (.b true)))) := by
 have F0 := And.intro hk <| And.intro hc <| And.intro hh <| And.intro hw <| And.intro hf <| And.intro ht <| And.intro hn <| hle
 refine Ct.k Tryd.func9 rfl Tryd.ntmps9 (congrArg Array.toList Tryd.results9) (by simp) fun w0 ro => ?_
 refine top_k fun zZ zhZ => ?_
 iterate 6 first
  | (refine sr_k fun zK zhK => ?_; simp only [go_sem, shakeC, symS, cipC, F0]; (repeat' (first | apply And.intro | intro _)))
  | refine zhK _ ?_
  | refine ret_k ?_
  | (refine zhZ _ _ ?_; simp only [go_sem, shakeC, symS, cipC, F0]; (all_goals (rfl)))
set_option maxHeartbeats 1600000 in
set_option maxRecDepth 100000 in
theorem shsplit_y (bs : List UInt8) (lt : Bool) (ps p0 p1 tr : List (List PL)) (fi : Bool) (tu : Int) (st : Bool) (key : List UInt8) (n : UInt64) (ch h ow fr : List UInt8) (ha : Bool) (th : List UInt8) (kn : Bool) (ne : List UInt8) (sa : Bool) (ks : List (List PL)) (us : Int) (hk : key.length = 32) (hc : ch.length = 32) (hh : h.length = 32) (hw : ow.length = 32) (hf : fr.length = 32) (ht : th.length = 32) (hn : ne.length = 32) (hle : ((tr.length : Nat) : Int) ≤ tu) :
 CtM Tryd.prog 10 [.w (.agg (shakeC bs lt ps p0 p1 tr fi tu false st key n ch h ow fr ha th kn ne sa ks us))] [(1000000, ⟨false, [.pl (.u32 1779033703), .pl (.u32 3144134277), .pl (.u32 1013904242), .pl (.u32 2773480762), .pl (.u32 1359893119), .pl (.u32 2600822924), .pl (.u32 528734635), .pl (.u32 1541459225)]⟩), (1000002, ⟨false, ordC⟩)] (Told (fun v m => v = .tup [.agg (cipC true (key1 ch []) 0 ++ cipC true (key2 ch []) 0), .one (.pl (.i 0))] ∧ m = [])) := by
 have hG := split_ st key n ch h hk hc hh
 obtain ⟨k1, hk1⟩ : ∃ k, key1 ch [] = k := ⟨_, rfl⟩
 have hl1 : k1.length = 32 := by rw [← hk1]; exact key1_length _ _
 obtain ⟨k2, hk2⟩ : ∃ k, key2 ch [] = k := ⟨_, rfl⟩
 have hl2 : k2.length = 32 := by rw [← hk2]; exact key2_length _ _
 rw [hk1, hk2] at hG ⊢
 have F0 := And.intro hk <| And.intro hc <| And.intro hh <| And.intro hw <| And.intro hf <| And.intro ht <| And.intro hn <| And.intro hle <| And.intro hl1 <| hl2
 refine CtM.k Tryd.func10 rfl Tryd.ntmps10 (congrArg Array.toList Tryd.results10) (by simp) fun w0 ro may fx => ?_
 refine top_k fun zZ zhZ => ?_
 refine sr_k fun zK zhK => ?_
 simp only [go_sem, shakeC, symS, cipC, F0]
 repeat' (first | apply And.intro | intro _)
 refine zhK _ ?_
 refine seq_k fun zN zM zhN zhM => ?_
 refine sr_k fun zK zhK => ?_
 simp only [go_sem, shakeC, symS, cipC, F0]
 repeat' (first | apply And.intro | intro _)
 all_goals (refine call_view (fun k => k) (fun _ _ => rfl) ?_ ((done_y bs lt ps p0 p1 tr fi tu st key n ch h ow fr ha th kn ne sa ks us hk hc hh hw hf ht hn hle).plain fun _ _ h => h) ?_; focus (first | rfl | (simp only [go_sem, shakeC, symS, cipC, F0] <;> rfl)))
 all_goals (rintro v m ⟨hR, hm⟩; subst hR; subst hm)
 all_goals refine And.intro (by first | rfl | simp only [go_sem, shakeC, symS, cipC, F0]) (And.intro (by first | rfl | simp only [go_sem, shakeC, symS, cipC, F0]) ?_)
 all_goals simp only [go_sem, shakeC, symS, cipC, F0]
 all_goals repeat' (first | apply And.intro | intro _)
 refine zhK _ ?_
 (refine condF_k ?_ ?_; focus (first | rfl | (simp [go_sem, shakeC, symS, cipC, F0]; done)))
 refine skip_k ?_
 refine zhN _ ?_; clear zhN zhM
 refine sr_k fun zK zhK => ?_
 simp only [go_sem, shakeC, symS, cipC, F0]
 repeat' (first | apply And.intro | intro _)
 all_goals (refine call_hand false [] (fun k => k) (fun _ _ => rfl) ?_ (by decide) ?_ hG.told ?_; iterate 2 (focus (first | rfl | (simp only [go_sem, shakeC, symS, cipC, F0] <;> first | done | rfl | simp))))
 all_goals (rintro v m ⟨hR, hm⟩; subst hR; subst hm)
 all_goals (refine And.intro ?_ (And.intro ?_ (And.intro ?_ ?_)); iterate 3 (focus (first | rfl | (simp only [go_sem, shakeC, symS, cipC, F0]; done) | (simp [go_sem, look, shakeC, symS, cipC, F0]; done))))
 all_goals (try simp only [go_sem, shakeC, symS, cipC, F0])
 all_goals (try simp only [go_sem, shakeC, symS, cipC, F0])
 all_goals repeat' (first | apply And.intro | intro _)
 refine zhK _ ?_
 refine ret_k ?_
 refine zhZ _ _ ?_
 simp only [go_sem, shakeC, symS, cipC, F0]
 all_goals (exact told_plain (by simp [plainV, plainW, bytesC]) ⟨by first | (simp; done) | (simp [symS, cipC, Z32, bytesC]; done), rfl⟩)
set_option maxHeartbeats 1600000 in
set_option maxRecDepth 100000 in
theorem sdone_y (bs : List UInt8) (lt : Bool) (ps p0 p1 tr : List (List PL)) (fi : Bool) (tu : Int) (st : Bool) (key : List UInt8) (n : UInt64) (ch h ow fr : List UInt8) (ha : Bool) (th : List UInt8) (kn : Bool) (ne : List UInt8) (sa : Bool) (ks : List (List PL)) (us : Int) (hk : key.length = 32) (hc : ch.length = 32) (hh : h.length = 32) (hw : ow.length = 32) (hf : fr.length = 32) (ht : th.length = 32) (hn : ne.length = 32) (hle : ((tr.length : Nat) : Int) ≤ tu) :
 Ct Tryd.prog 11 [.w (.agg (shakeC bs lt ps p0 p1 tr fi tu false st key n ch h ow fr ha th kn ne sa ks us))] (fun v m => v = .w (.one (.pl (.b true)))) := by
 have F0 := And.intro hk <| And.intro hc <| And.intro hh <| And.intro hw <| And.intro hf <| And.intro ht <| And.intro hn <| hle
 refine Ct.k Tryd.func11 rfl Tryd.ntmps11 (congrArg Array.toList Tryd.results11) (by simp) fun w0 ro => ?_
 refine top_k fun zZ zhZ => ?_
 iterate 6 first
  | (refine sr_k fun zK zhK => ?_; simp only [go_sem, shakeC, symS, cipC, F0]; (repeat' (first | apply And.intro | intro _)))
  | refine zhK _ ?_
  | refine ret_k ?_
  | (refine zhZ _ _ ?_; simp only [go_sem, shakeC, symS, cipC, F0]; (all_goals (rfl)))
set_option maxHeartbeats 1600000 in
set_option maxRecDepth 100000 in
theorem shssplit_y (bs : List UInt8) (lt : Bool) (ps p0 p1 tr : List (List PL)) (fi : Bool) (tu : Int) (st : Bool) (key : List UInt8) (n : UInt64) (ch h ow fr : List UInt8) (ha : Bool) (th : List UInt8) (kn : Bool) (ne : List UInt8) (sa : Bool) (ks : List (List PL)) (us : Int) (hk : key.length = 32) (hc : ch.length = 32) (hh : h.length = 32) (hw : ow.length = 32) (hf : fr.length = 32) (ht : th.length = 32) (hn : ne.length = 32) (hle : ((tr.length : Nat) : Int) ≤ tu) :
 CtM Tryd.prog 12 [.w (.agg (shakeC bs lt ps p0 p1 tr fi tu false st key n ch h ow fr ha th kn ne sa ks us))] [(1000001, ⟨false, [.pl (.u32 1779033703), .pl (.u32 3144134277), .pl (.u32 1013904242), .pl (.u32 2773480762), .pl (.u32 1359893119), .pl (.u32 2600822924), .pl (.u32 528734635), .pl (.u32 1541459225)]⟩)] (Told (fun v m => v = .tup [.agg (cipC true (key1 ch []) 0 ++ cipC true (key2 ch []) 0), .one (.pl (.i 0))] ∧ m = [])) := by
 have hG := rsplit_ st key n ch h hk hc hh
 obtain ⟨k1, hk1⟩ : ∃ k, key1 ch [] = k := ⟨_, rfl⟩
 have hl1 : k1.length = 32 := by rw [← hk1]; exact key1_length _ _
 obtain ⟨k2, hk2⟩ : ∃ k, key2 ch [] = k := ⟨_, rfl⟩
 have hl2 : k2.length = 32 := by rw [← hk2]; exact key2_length _ _
 rw [hk1, hk2] at hG ⊢
 have F0 := And.intro hk <| And.intro hc <| And.intro hh <| And.intro hw <| And.intro hf <| And.intro ht <| And.intro hn <| And.intro hle <| And.intro hl1 <| hl2
 refine CtM.k Tryd.func12 rfl Tryd.ntmps12 (congrArg Array.toList Tryd.results12) (by simp) fun w0 ro may fx => ?_
 refine top_k fun zZ zhZ => ?_
 refine sr_k fun zK zhK => ?_
 simp only [go_sem, shakeC, symS, cipC, F0]
 repeat' (first | apply And.intro | intro _)
 refine zhK _ ?_
 refine seq_k fun zN zM zhN zhM => ?_
 refine sr_k fun zK zhK => ?_
 simp only [go_sem, shakeC, symS, cipC, F0]
 repeat' (first | apply And.intro | intro _)
 all_goals (refine call_view (fun k => k) (fun _ _ => rfl) ?_ ((sdone_y bs lt ps p0 p1 tr fi tu st key n ch h ow fr ha th kn ne sa ks us hk hc hh hw hf ht hn hle).plain fun _ _ h => h) ?_; focus (first | rfl | (simp only [go_sem, shakeC, symS, cipC, F0] <;> rfl)))
 all_goals (rintro v m ⟨hR, hm⟩; subst hR; subst hm)
 all_goals refine And.intro (by first | rfl | simp only [go_sem, shakeC, symS, cipC, F0]) (And.intro (by first | rfl | simp only [go_sem, shakeC, symS, cipC, F0]) ?_)
 all_goals simp only [go_sem, shakeC, symS, cipC, F0]
 all_goals repeat' (first | apply And.intro | intro _)
 refine zhK _ ?_
 (refine condF_k ?_ ?_; focus (first | rfl | (simp [go_sem, shakeC, symS, cipC, F0]; done)))
 refine skip_k ?_
 refine zhN _ ?_; clear zhN zhM
 refine sr_k fun zK zhK => ?_
 simp only [go_sem, shakeC, symS, cipC, F0]
 repeat' (first | apply And.intro | intro _)
 all_goals (refine call_hand false [] (fun k => k) (fun _ _ => rfl) ?_ (by decide) ?_ hG.told ?_; iterate 2 (focus (first | rfl | (simp only [go_sem, shakeC, symS, cipC, F0] <;> first | done | rfl | simp))))
 all_goals (rintro v m ⟨hR, hm⟩; subst hR; subst hm)
 all_goals (refine And.intro ?_ (And.intro ?_ (And.intro ?_ ?_)); iterate 3 (focus (first | rfl | (simp only [go_sem, shakeC, symS, cipC, F0]; done) | (simp [go_sem, look, shakeC, symS, cipC, F0]; done))))
 all_goals (try simp only [go_sem, shakeC, symS, cipC, F0])
 all_goals (try simp only [go_sem, shakeC, symS, cipC, F0])
 all_goals repeat' (first | apply And.intro | intro _)
 refine zhK _ ?_
 refine ret_k ?_
 refine zhZ _ _ ?_
 simp only [go_sem, shakeC, symS, cipC, F0]
 all_goals (exact told_plain (by simp [plainV, plainW, bytesC]) ⟨by first | (simp; done) | (simp [symS, cipC, Z32, bytesC]; done), rfl⟩)
set_option maxHeartbeats 1600000 in
set_option maxRecDepth 100000 in
theorem shakesplits_y (bs : List UInt8) (lt : Bool) (ps p0 p1 tr : List (List PL)) (fi : Bool) (tu : Int) (st : Bool) (key : List UInt8) (n : UInt64) (ch h ow fr : List UInt8) (ha : Bool) (th : List UInt8) (kn : Bool) (ne : List UInt8) (sa : Bool) (ks : List (List PL)) (us : Int) (hk : key.length = 32) (hc : ch.length = 32) (hh : h.length = 32) (hw : ow.length = 32) (hf : fr.length = 32) (ht : th.length = 32) (hn : ne.length = 32) (hle : ((tr.length : Nat) : Int) ≤ tu) :
 CtM Tryd.prog 4 [.w (.agg (shakeC bs lt ps p0 p1 tr fi tu false st key n ch h ow fr ha th kn ne sa ks us))] [(1000000, ⟨false, [.pl (.u32 1779033703), .pl (.u32 3144134277), .pl (.u32 1013904242), .pl (.u32 2773480762), .pl (.u32 1359893119), .pl (.u32 2600822924), .pl (.u32 528734635), .pl (.u32 1541459225)]⟩), (1000001, ⟨false, [.pl (.u32 1779033703), .pl (.u32 3144134277), .pl (.u32 1013904242), .pl (.u32 2773480762), .pl (.u32 1359893119), .pl (.u32 2600822924), .pl (.u32 528734635), .pl (.u32 1541459225)]⟩), (1000002, ⟨false, ordC⟩)] (Told (fun v m => v = .w (.one (.pl (.b true))) ∧ m = [])) := by
 obtain ⟨k1, hk1⟩ : ∃ k, key1 ch [] = k := ⟨_, rfl⟩
 have hl1 : k1.length = 32 := by rw [← hk1]; exact key1_length _ _
 obtain ⟨k2, hk2⟩ : ∃ k, key2 ch [] = k := ⟨_, rfl⟩
 have hl2 : k2.length = 32 := by rw [← hk2]; exact key2_length _ _
 have hA1 := shsplit_y bs lt ps p0 p1 tr fi tu st key n ch h ow fr ha th kn ne sa ks us hk hc hh hw hf ht hn hle
 have hA2 := shssplit_y bs lt ps p0 p1 tr fi tu st key n ch h ow fr ha th kn ne sa ks us hk hc hh hw hf ht hn hle
 rw [hk1, hk2] at hA1 hA2
 have hs2 := same56 (s1 := true) (s2 := true) (n1 := 0) (n2 := 0) hl1 hl2
 rw [cip_norm] at hs2
 have F0 := And.intro hk <| And.intro hc <| And.intro hh <| And.intro hw <| And.intro hf <| And.intro ht <| And.intro hn <| And.intro hl1 <| And.intro hl2 <| hs2
 refine CtM.k Tryd.func4 rfl Tryd.ntmps4 (congrArg Array.toList Tryd.results4) (by simp) fun w0 ro may fx => ?_
 refine top_k fun zZ zhZ => ?_
 iterate 18 first
  | (refine sr_k fun zK zhK => ?_; simp only [go_sem, shakeC, symS, cipC, beq_self_eq_true, F0]; (repeat' (first | apply And.intro | intro _)))
  | refine zhK _ ?_
  | refine ret_k ?_
  | (refine zhZ _ _ ?_; simp only [go_sem, shakeC, symS, cipC, beq_self_eq_true, F0]; (all_goals (exact told_plain rfl ⟨rfl, rfl⟩)))
  | ((all_goals (refine call_view (fun k => k) (fun _ _ => rfl) ?_ ((done_y bs lt ps p0 p1 tr fi tu st key n ch h ow fr ha th kn ne sa ks us hk hc hh hw hf ht hn hle).plain fun _ _ h => h) ?_; focus (first | rfl | (simp only [go_sem, shakeC, symS, cipC, beq_self_eq_true, F0] <;> rfl)))); (all_goals (rintro v m ⟨hR, hm⟩; subst hR; subst hm)); (all_goals refine And.intro (by first | rfl | simp only [go_sem, shakeC, symS, cipC, beq_self_eq_true, F0]) (And.intro (by first | rfl | simp only [go_sem, shakeC, symS, cipC, beq_self_eq_true, F0]) ?_)); (all_goals simp only [go_sem, shakeC, symS, cipC, beq_self_eq_true, F0]); (all_goals repeat' (first | apply And.intro | intro _)))
  | ((all_goals (refine call_hand false [] (fun k => k) (fun _ _ => rfl) ?_ (by decide) ?_ hA1.told ?_; iterate 2 (focus (first | rfl | (simp only [go_sem, shakeC, symS, cipC, beq_self_eq_true, F0] <;> first | done | rfl | simp))))); (all_goals (rintro v m ⟨hR, hm⟩; subst hR; subst hm)); (all_goals (refine And.intro ?_ (And.intro ?_ (And.intro ?_ ?_)); iterate 3 (focus (first | rfl | (simp only [go_sem, shakeC, symS, cipC, beq_self_eq_true, F0]; done) | (simp [go_sem, look, shakeC, symS, cipC, beq_self_eq_true, F0]; done))))); (all_goals (try simp only [go_sem, shakeC, symS, cipC, beq_self_eq_true, F0])); (all_goals (try simp only [go_sem, shakeC, symS, cipC, beq_self_eq_true, F0])); (all_goals repeat' (first | apply And.intro | intro _)))
  | ((all_goals (refine call_view (fun k => k) (fun _ _ => rfl) ?_ ((sdone_y bs lt ps p0 p1 tr fi tu st key n ch h ow fr ha th kn ne sa ks us hk hc hh hw hf ht hn hle).plain fun _ _ h => h) ?_; focus (first | rfl | (simp only [go_sem, shakeC, symS, cipC, beq_self_eq_true, F0] <;> rfl)))); (all_goals (rintro v m ⟨hR, hm⟩; subst hR; subst hm)); (all_goals refine And.intro (by first | rfl | simp only [go_sem, shakeC, symS, cipC, beq_self_eq_true, F0]) (And.intro (by first | rfl | simp only [go_sem, shakeC, symS, cipC, beq_self_eq_true, F0]) ?_)); (all_goals simp only [go_sem, shakeC, symS, cipC, beq_self_eq_true, F0]); (all_goals repeat' (first | apply And.intro | intro _)))
  | ((all_goals (refine call_hand false [] (fun k => k) (fun _ _ => rfl) ?_ (by decide) ?_ hA2.told ?_; iterate 2 (focus (first | rfl | (simp only [go_sem, shakeC, symS, cipC, beq_self_eq_true, F0] <;> first | done | rfl | simp))))); (all_goals (rintro v m ⟨hR, hm⟩; subst hR; subst hm)); (all_goals (refine And.intro ?_ (And.intro ?_ (And.intro ?_ ?_)); iterate 3 (focus (first | rfl | (simp only [go_sem, shakeC, symS, cipC, beq_self_eq_true, F0]; done) | (simp [go_sem, look, shakeC, symS, cipC, beq_self_eq_true, F0]; done))))); (all_goals (try simp only [go_sem, shakeC, symS, cipC, beq_self_eq_true, F0])); (all_goals (try simp only [go_sem, shakeC, symS, cipC, beq_self_eq_true, F0])); (all_goals repeat' (first | apply And.intro | intro _)))
theorem shakesplits_gs (bs : List UInt8) (lt : Bool) (ps p0 p1 tr : List (List PL)) (fi : Bool) (tu : Int) (de : Bool) (st : Bool) (key : List UInt8) (n : UInt64) (ch h ow fr : List UInt8) (ha : Bool) (th : List UInt8) (kn : Bool) (ne : List UInt8) (sa : Bool) (ks : List (List PL)) (us : Int) (hk : key.length = 32) (hc : ch.length = 32) (hh : h.length = 32) (hw : ow.length = 32) (hf : fr.length = 32) (ht : th.length = 32) (hn : ne.length = 32) : CtM Tryd.prog 4 [.w (.agg (shakeC bs lt ps p0 p1 tr fi tu de st key n ch h ow fr ha th kn ne sa ks us))] (globM [(1000000, firstU.map PL.u32), (1000001, firstU.map PL.u32), (1000002, ordZ.flatten.map PL.i)]) (Told (fun v m => v = .w (.one (.pl (.b true))) ∧ m = [])) := by
 cases de with
 | true => exact shakesplits_d bs lt ps p0 p1 tr fi tu st key n ch h ow fr ha th kn ne sa ks us hk hc hh hw hf ht hn
 | false =>
  by_cases hle : ((tr.length : Nat) : Int) ≤ tu
  · exact shakesplits_y bs lt ps p0 p1 tr fi tu st key n ch h ow fr ha th kn ne sa ks us hk hc hh hw hf ht hn hle
  · exact shakesplits_n bs lt ps p0 p1 tr fi tu st key n ch h ow fr ha th kn ne sa ks us hk hc hh hw hf ht hn hle
end Bk
end Go.Sy
