/- Bytes added to a sum: the walks of a beginning and of what may not be. -/
import Derived.Test.YtcmcnfjdfcianaaDoorvqgB14
import Derived.Test.YtcmcnfjdfcianaaDoorvqgB4
set_option linter.unusedVariables false
set_option linter.unusedSimpArgs false
namespace Go.Sy
namespace Bk
open Go.Proofs
attribute [local irreducible] atCall HT runOps runD onC onE onO onG goV goA goS onSt onGuard
theorem plain_hash (h : H8) (l : List UInt8) (n len e : Int) : plainV (.tup [.agg (hashC h l n len), .one (.pl (.i e))]) = true := by
 simp [plainV, plainW, hashC, H8.ls, bytesC]
theorem plain_hash1 (h : H8) (l : List UInt8) (n len : Int) : plainV (.w (.agg (hashC h l n len))) = true := by
 simp [plainV, plainW, hashC, H8.ls, bytesC]
set_option maxHeartbeats 800000 in
set_option maxRecDepth 100000 in
theorem hbegin  :
 CtM Tryd.prog 38 [] [(1000000, ⟨false, [.pl (.u32 1779033703), .pl (.u32 3144134277), .pl (.u32 1013904242), .pl (.u32 2773480762), .pl (.u32 1359893119), .pl (.u32 2600822924), .pl (.u32 528734635), .pl (.u32 1541459225)]⟩), (1000002, ⟨false, ordC⟩)] (Told (fun v m => v = .w (.agg (hashC (⟨(1779033703 ^^^ 16842784), 3144134277, 1013904242, 2773480762, 1359893119, 2600822924, 528734635, 1541459225⟩ : H8) (List.replicate 64 0) 0 0)) ∧ m = [])) := by
 refine CtM.k Tryd.func38 rfl Tryd.ntmps38 (congrArg Array.toList Tryd.results38) (by simp) fun w0 ro may fx => ?_
 refine top_k fun zZ zhZ => ?_
 iterate 10 first
  | (refine sr_k fun zK zhK => ?_; simp only [go_sem, hashC, H8.ls]; (repeat' (first | apply And.intro | intro _)))
  | refine zhK _ ?_
  | refine ret_k ?_
  | (refine zhZ _ _ ?_; simp only [go_sem, hashC, H8.ls]; (all_goals (exact told_plain (by simp [plainV, plainW, bytesC]) ⟨rfl, rfl⟩)))
set_option maxHeartbeats 800000 in
set_option maxRecDepth 100000 in
theorem hbegun  :
 CtM Tryd.prog 44 [] [(1000001, ⟨false, [.pl (.u32 1779033703), .pl (.u32 3144134277), .pl (.u32 1013904242), .pl (.u32 2773480762), .pl (.u32 1359893119), .pl (.u32 2600822924), .pl (.u32 528734635), .pl (.u32 1541459225)]⟩)] (Told (fun v m => v = .w (.agg (hashC (⟨(1779033703 ^^^ 16842784), 3144134277, 1013904242, 2773480762, 1359893119, 2600822924, 528734635, 1541459225⟩ : H8) (List.replicate 64 0) 0 0)) ∧ m = [])) := by
 refine CtM.k Tryd.func44 rfl Tryd.ntmps44 (congrArg Array.toList Tryd.results44) (by simp) fun w0 ro may fx => ?_
 refine top_k fun zZ zhZ => ?_
 iterate 10 first
  | (refine sr_k fun zK zhK => ?_; simp only [go_sem, hashC, H8.ls]; (repeat' (first | apply And.intro | intro _)))
  | refine zhK _ ?_
  | refine ret_k ?_
  | (refine zhZ _ _ ?_; simp only [go_sem, hashC, H8.ls]; (all_goals (exact told_plain (by simp [plainV, plainW, bytesC]) ⟨rfl, rfl⟩)))
set_option maxHeartbeats 800000 in
set_option maxRecDepth 100000 in
theorem hadd_bad (h0 h1 h2 h3 h4 h5 h6 h7 : UInt32) (held : List UInt8) (hh : held.length = 64) (n len : Int) (b : List UInt8) (hbl : b.length ≤ 140737488355328) (ex : Bool) (hno : ¬ HashOk held n len) :
 CtM Tryd.prog 37 [.w (.agg (hashC ⟨h0, h1, h2, h3, h4, h5, h6, h7⟩ held n len)), .w (.one (.pl (.R ex 1 (byteRows b))))] [(1000000, ⟨false, [.pl (.u32 1779033703), .pl (.u32 3144134277), .pl (.u32 1013904242), .pl (.u32 2773480762), .pl (.u32 1359893119), .pl (.u32 2600822924), .pl (.u32 528734635), .pl (.u32 1541459225)]⟩), (1000002, ⟨false, ordC⟩)] (Told (fun v m => v = .tup [.agg (hashC ⟨0, 0, 0, 0, 0, 0, 0, 0⟩ (List.replicate 64 0) 0 0), .one (.pl (.i 9))] ∧ m = [])) := by
 have he := herr_no hno
 refine CtM.k Tryd.func37 rfl Tryd.ntmps37 (congrArg Array.toList Tryd.results37) (by simp) fun w0 ro may fx => ?_
 refine top_k fun zZ zhZ => ?_
 iterate 14 first
  | (refine sr_k fun zK zhK => ?_; simp only [go_sem, hashC, H8.ls, hh, he]; (repeat' (first | apply And.intro | intro _)))
  | refine zhK _ ?_
  | refine ret_k ?_
  | (refine zhM _ _ ?_; clear zhN zhM)
  | (refine zhZ _ _ ?_; simp only [go_sem, hashC, H8.ls, hh, he]; (all_goals (exact told_plain (by simp [plainV, plainW, bytesC]) ⟨rfl, rfl⟩)))
  | ((all_goals (refine call_view (fun k => k) (fun _ _ => rfl) ?_ ((hash_check h0 h1 h2 h3 h4 h5 h6 h7 held hh n len).plain fun _ _ h => h) ?_; focus (first | rfl | (simp only [go_sem, hashC, H8.ls, hh, he] <;> rfl)))); (all_goals (rintro v m ⟨hR, hm⟩; subst hR; subst hm)); (all_goals refine And.intro (by first | rfl | simp only [go_sem, hashC, H8.ls, hh, he]) (And.intro (by first | rfl | simp only [go_sem, hashC, H8.ls, hh, he]) ?_)); (all_goals simp only [go_sem, hashC, H8.ls, hh, he]); (all_goals repeat' (first | apply And.intro | intro _)))
  | refine seq_k fun zN zM zhN zhM => ?_
  | (refine condT_k ?_ ?_; focus (first | rfl | (simp [go_sem, hashC, H8.ls, hh, he]; done)))
set_option maxHeartbeats 800000 in
set_option maxRecDepth 100000 in
theorem hadded_bad (h0 h1 h2 h3 h4 h5 h6 h7 : UInt32) (held : List UInt8) (hh : held.length = 64) (n len : Int) (b : List UInt8) (hbl : b.length ≤ 140737488355328) (ex : Bool) (hno : ¬ HashOk held n len) :
 CtM Tryd.prog 43 [.w (.agg (hashC ⟨h0, h1, h2, h3, h4, h5, h6, h7⟩ held n len)), .w (.one (.pl (.R ex 1 (byteRows b))))] [(1000001, ⟨false, [.pl (.u32 1779033703), .pl (.u32 3144134277), .pl (.u32 1013904242), .pl (.u32 2773480762), .pl (.u32 1359893119), .pl (.u32 2600822924), .pl (.u32 528734635), .pl (.u32 1541459225)]⟩)] (Told (fun v m => v = .tup [.agg (hashC ⟨0, 0, 0, 0, 0, 0, 0, 0⟩ (List.replicate 64 0) 0 0), .one (.pl (.i 9))] ∧ m = [])) := by
 have he := hbad_no hno
 refine CtM.k Tryd.func43 rfl Tryd.ntmps43 (congrArg Array.toList Tryd.results43) (by simp) fun w0 ro may fx => ?_
 refine top_k fun zZ zhZ => ?_
 iterate 12 first
  | (refine sr_k fun zK zhK => ?_; simp only [go_sem, hashC, H8.ls, hh, he]; (repeat' (first | apply And.intro | intro _)))
  | refine zhK _ ?_
  | refine ret_k ?_
  | (refine zhM _ _ ?_; clear zhN zhM)
  | (refine zhZ _ _ ?_; simp only [go_sem, hashC, H8.ls, hh, he]; (all_goals (exact told_plain (by simp [plainV, plainW, bytesC]) ⟨rfl, rfl⟩)))
  | ((all_goals (refine call_view (fun k => k) (fun _ _ => rfl) ?_ ((hash_bad h0 h1 h2 h3 h4 h5 h6 h7 held hh n len).plain fun _ _ h => h) ?_; focus (first | rfl | (simp only [go_sem, hashC, H8.ls, hh, he] <;> rfl)))); (all_goals (rintro v m ⟨hR, hm⟩; subst hR; subst hm)); (all_goals refine And.intro (by first | rfl | simp only [go_sem, hashC, H8.ls, hh, he]) (And.intro (by first | rfl | simp only [go_sem, hashC, H8.ls, hh, he]) ?_)); (all_goals simp only [go_sem, hashC, H8.ls, hh, he]); (all_goals repeat' (first | apply And.intro | intro _)))
  | refine seq_k fun zN zM zhN zhM => ?_
  | (refine condT_k ?_ ?_; focus (first | rfl | (simp [go_sem, hashC, H8.ls, hh, he]; done)))
set_option maxHeartbeats 800000 in
set_option maxRecDepth 100000 in
theorem hadd_big (h0 h1 h2 h3 h4 h5 h6 h7 : UInt32) (d : Nat) (r : List UInt8) (hs : HSt.ok ⟨⟨h0, h1, h2, h3, h4, h5, h6, h7⟩, d, r⟩) (b : List UInt8) (hbl : d + r.length + b.length ≤ 9223372036854775807) (ex : Bool) (hbig : 1073741824 < d + r.length + b.length) :
 CtM Tryd.prog 37 [.w (.agg (stB ⟨⟨h0, h1, h2, h3, h4, h5, h6, h7⟩, d, r⟩)), .w (.one (.pl (.R ex 1 (byteRows b))))] [(1000000, ⟨false, [.pl (.u32 1779033703), .pl (.u32 3144134277), .pl (.u32 1013904242), .pl (.u32 2773480762), .pl (.u32 1359893119), .pl (.u32 2600822924), .pl (.u32 528734635), .pl (.u32 1541459225)]⟩), (1000002, ⟨false, ordC⟩)] (Told (fun v m => v = .tup [.agg (hashC ⟨0, 0, 0, 0, 0, 0, 0, 0⟩ (List.replicate 64 0) 0 0), .one (.pl (.i 1))] ∧ m = [])) := by
 have hr : r.length ≤ 64 := hs.1
 have hd : d + r.length ≤ 1073741824 := hs.2.1
 have hpl := pad64_length hr
 have hok := stB_ok hs
 obtain ⟨l, hl⟩ : ∃ l, d + r.length = l := ⟨_, rfl⟩
 have hlen : HSt.len ⟨⟨h0, h1, h2, h3, h4, h5, h6, h7⟩, d, r⟩ = l := hl
 rw [hlen] at hok
 have he := herr_ok hok
 have hb := hbad_ok hok
 have hw : Go.RowKit.wrap64 (1073741824 - ((l : Nat) : Int)) = 1073741824 - ((l : Nat) : Int) := w64 (by omega)
 have hc : 1073741824 - ((l : Nat) : Int) < ((b.length : Nat) : Int) := by clear hw; omega
 have F0 := And.intro hlen <| And.intro hpl <| And.intro he <| And.intro hw <| hc
 refine CtM.k Tryd.func37 rfl Tryd.ntmps37 (congrArg Array.toList Tryd.results37) (by simp) fun w0 ro may fx => ?_
 refine top_k fun zZ zhZ => ?_
 iterate 20 first
  | (refine sr_k fun zK zhK => ?_; simp only [go_sem, stB, hashC, H8.ls, F0]; (repeat' (first | apply And.intro | intro _)))
  | refine zhK _ ?_
  | refine skip_k ?_
  | (refine zhN _ ?_; clear zhN zhM)
  | refine ret_k ?_
  | (refine zhM _ _ ?_; clear zhN zhM)
  | (refine zhZ _ _ ?_; simp only [go_sem, stB, hashC, H8.ls, F0]; (all_goals (exact told_plain (by simp [plainV, plainW, bytesC]) ⟨rfl, rfl⟩)))
  | ((all_goals (refine call_view (fun k => k) (fun _ _ => rfl) ?_ ((hash_check h0 h1 h2 h3 h4 h5 h6 h7 (pad64 r) hpl ((r.length : Nat) : Int) ((l : Nat) : Int)).plain fun _ _ h => h) ?_; focus (first | rfl | (simp only [go_sem, stB, hashC, H8.ls, F0] <;> rfl)))); (all_goals (rintro v m ⟨hR, hm⟩; subst hR; subst hm)); (all_goals refine And.intro (by first | rfl | simp only [go_sem, stB, hashC, H8.ls, F0]) (And.intro (by first | rfl | simp only [go_sem, stB, hashC, H8.ls, F0]) ?_)); (all_goals simp only [go_sem, stB, hashC, H8.ls, F0]); (all_goals repeat' (first | apply And.intro | intro _)))
  | refine seq_k fun zN zM zhN zhM => ?_
  | (refine condF_k ?_ ?_; focus (first | rfl | (simp [go_sem, stB, hashC, H8.ls, F0]; done)))
  | (refine condT_k ?_ ?_; focus (first | rfl | (simp [go_sem, stB, hashC, H8.ls, F0]; done)))
set_option maxHeartbeats 800000 in
set_option maxRecDepth 100000 in
theorem hadded_big (h0 h1 h2 h3 h4 h5 h6 h7 : UInt32) (d : Nat) (r : List UInt8) (hs : HSt.ok ⟨⟨h0, h1, h2, h3, h4, h5, h6, h7⟩, d, r⟩) (b : List UInt8) (hbl : d + r.length + b.length ≤ 9223372036854775807) (ex : Bool) (hbig : 1073741824 < d + r.length + b.length) :
 CtM Tryd.prog 43 [.w (.agg (stB ⟨⟨h0, h1, h2, h3, h4, h5, h6, h7⟩, d, r⟩)), .w (.one (.pl (.R ex 1 (byteRows b))))] [(1000001, ⟨false, [.pl (.u32 1779033703), .pl (.u32 3144134277), .pl (.u32 1013904242), .pl (.u32 2773480762), .pl (.u32 1359893119), .pl (.u32 2600822924), .pl (.u32 528734635), .pl (.u32 1541459225)]⟩)] (Told (fun v m => v = .tup [.agg (hashC ⟨0, 0, 0, 0, 0, 0, 0, 0⟩ (List.replicate 64 0) 0 0), .one (.pl (.i 1))] ∧ m = [])) := by
 have hr : r.length ≤ 64 := hs.1
 have hd : d + r.length ≤ 1073741824 := hs.2.1
 have hpl := pad64_length hr
 have hok := stB_ok hs
 obtain ⟨l, hl⟩ : ∃ l, d + r.length = l := ⟨_, rfl⟩
 have hlen : HSt.len ⟨⟨h0, h1, h2, h3, h4, h5, h6, h7⟩, d, r⟩ = l := hl
 rw [hlen] at hok
 have he := herr_ok hok
 have hb := hbad_ok hok
 have hc : (1073741824 : Int) < ((l + b.length : Nat) : Int) := by omega
 have hw : Go.RowKit.wrap64 (((l : Nat) : Int) + ((b.length : Nat) : Int)) = ((l + b.length : Nat) : Int) := wnat (by omega) (by omega)
 have F0 := And.intro hlen <| And.intro hpl <| And.intro hb <| And.intro hw <| hc
 refine CtM.k Tryd.func43 rfl Tryd.ntmps43 (congrArg Array.toList Tryd.results43) (by simp) fun w0 ro may fx => ?_
 refine top_k fun zZ zhZ => ?_
 iterate 18 first
  | (refine sr_k fun zK zhK => ?_; simp only [go_sem, stB, hashC, H8.ls, F0]; (repeat' (first | apply And.intro | intro _)))
  | refine zhK _ ?_
  | refine skip_k ?_
  | (refine zhN _ ?_; clear zhN zhM)
  | refine ret_k ?_
  | (refine zhM _ _ ?_; clear zhN zhM)
  | (refine zhZ _ _ ?_; simp only [go_sem, stB, hashC, H8.ls, F0]; (all_goals (exact told_plain (by simp [plainV, plainW, bytesC]) ⟨rfl, rfl⟩)))
  | ((all_goals (refine call_view (fun k => k) (fun _ _ => rfl) ?_ ((hash_bad h0 h1 h2 h3 h4 h5 h6 h7 (pad64 r) hpl ((r.length : Nat) : Int) ((l : Nat) : Int)).plain fun _ _ h => h) ?_; focus (first | rfl | (simp only [go_sem, stB, hashC, H8.ls, F0] <;> rfl)))); (all_goals (rintro v m ⟨hR, hm⟩; subst hR; subst hm)); (all_goals refine And.intro (by first | rfl | simp only [go_sem, stB, hashC, H8.ls, F0]) (And.intro (by first | rfl | simp only [go_sem, stB, hashC, H8.ls, F0]) ?_)); (all_goals simp only [go_sem, stB, hashC, H8.ls, F0]); (all_goals repeat' (first | apply And.intro | intro _)))
  | refine seq_k fun zN zM zhN zhM => ?_
  | (refine condF_k ?_ ?_; focus (first | rfl | (simp [go_sem, stB, hashC, H8.ls, F0]; done)))
  | (refine condT_k ?_ ?_; focus (first | rfl | (simp [go_sem, stB, hashC, H8.ls, F0]; done)))
end Bk
end Go.Sy
