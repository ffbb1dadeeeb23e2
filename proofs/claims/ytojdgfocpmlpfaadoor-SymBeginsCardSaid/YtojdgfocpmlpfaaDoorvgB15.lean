/- Bytes added to a sum: the walks of a beginning and of what may not be. -/
import Derived.Test.YtojdgfocpmlpfaaDoorvgB14
import Derived.Test.YtojdgfocpmlpfaaDoorvgB4
set_option linter.unusedVariables false
set_option linter.unusedSimpArgs false
namespace Go.Sy
open Go.Proofs
attribute [local irreducible] atCall HT runOps runD onC onE onO onG goV goA goS onSt onGuard
set_option maxHeartbeats 800000 in
theorem hbegin  :
 CtM Tryd.prog 14 [] [(1000000, ⟨false, [.pl (.u32 1779033703), .pl (.u32 3144134277), .pl (.u32 1013904242), .pl (.u32 2773480762), .pl (.u32 1359893119), .pl (.u32 2600822924), .pl (.u32 528734635), .pl (.u32 1541459225)]⟩), (1000002, ⟨false, ordC⟩)] (Told (fun v m => v = .w (.agg (hashC (⟨(1779033703 ^^^ 16842784), 3144134277, 1013904242, 2773480762, 1359893119, 2600822924, 528734635, 1541459225⟩ : H8) (List.replicate 64 0) 0 0)) ∧ m = [])) := by
 refine CtM.k Tryd.func14 rfl Tryd.ntmps14 (congrArg Array.toList Tryd.results14) (by simp) fun w0 ro may fx => ?_
 refine sr_k fun K1 hK1 => ?_
 simp only [go_sem, hashC, H8.ls]
 repeat' (first | apply And.intro | intro _)
 refine hK1 _ ?_
 refine sr_k fun K2 hK2 => ?_
 simp only [go_sem, hashC, H8.ls]
 repeat' (first | apply And.intro | intro _)
 refine hK2 _ ?_
 refine sr_k fun K3 hK3 => ?_
 simp only [go_sem, hashC, H8.ls]
 repeat' (first | apply And.intro | intro _)
 refine hK3 _ ?_
 refine sr_k fun K4 hK4 => ?_
 simp only [go_sem, hashC, H8.ls]
 repeat' (first | apply And.intro | intro _)
 refine hK4 _ ?_
 refine ret_k ?_
 simp only [go_sem, hashC, H8.ls]
 all_goals (exact told_plain (by simp [plainV, plainW, bytesC]) ⟨rfl, rfl⟩)
set_option maxHeartbeats 800000 in
theorem hbegun  :
 CtM Tryd.prog 15 [] [(1000001, ⟨false, [.pl (.u32 1779033703), .pl (.u32 3144134277), .pl (.u32 1013904242), .pl (.u32 2773480762), .pl (.u32 1359893119), .pl (.u32 2600822924), .pl (.u32 528734635), .pl (.u32 1541459225)]⟩)] (Told (fun v m => v = .w (.agg (hashC (⟨(1779033703 ^^^ 16842784), 3144134277, 1013904242, 2773480762, 1359893119, 2600822924, 528734635, 1541459225⟩ : H8) (List.replicate 64 0) 0 0)) ∧ m = [])) := by
 refine CtM.k Tryd.func15 rfl Tryd.ntmps15 (congrArg Array.toList Tryd.results15) (by simp) fun w0 ro may fx => ?_
 refine sr_k fun K1 hK1 => ?_
 simp only [go_sem, hashC, H8.ls]
 repeat' (first | apply And.intro | intro _)
 refine hK1 _ ?_
 refine sr_k fun K2 hK2 => ?_
 simp only [go_sem, hashC, H8.ls]
 repeat' (first | apply And.intro | intro _)
 refine hK2 _ ?_
 refine sr_k fun K3 hK3 => ?_
 simp only [go_sem, hashC, H8.ls]
 repeat' (first | apply And.intro | intro _)
 refine hK3 _ ?_
 refine sr_k fun K4 hK4 => ?_
 simp only [go_sem, hashC, H8.ls]
 repeat' (first | apply And.intro | intro _)
 refine hK4 _ ?_
 refine ret_k ?_
 simp only [go_sem, hashC, H8.ls]
 all_goals (exact told_plain (by simp [plainV, plainW, bytesC]) ⟨rfl, rfl⟩)
set_option maxHeartbeats 800000 in
theorem hadd_big (h0 h1 h2 h3 h4 h5 h6 h7 : UInt32) (d : Nat) (r : List UInt8) (hs : HSt.ok ⟨⟨h0, h1, h2, h3, h4, h5, h6, h7⟩, d, r⟩) (b : List UInt8) (hbl : d + r.length + b.length ≤ 9223372036854775807) (ex : Bool) (hbig : 1073741824 < d + r.length + b.length) :
 CtM Tryd.prog 12 [.w (.agg (stB ⟨⟨h0, h1, h2, h3, h4, h5, h6, h7⟩, d, r⟩)), .w (.one (.pl (.R ex 1 (byteRows b))))] [(1000000, ⟨false, [.pl (.u32 1779033703), .pl (.u32 3144134277), .pl (.u32 1013904242), .pl (.u32 2773480762), .pl (.u32 1359893119), .pl (.u32 2600822924), .pl (.u32 528734635), .pl (.u32 1541459225)]⟩), (1000002, ⟨false, ordC⟩)] (Told (fun v m => v = .tup [.agg (hashC ⟨0, 0, 0, 0, 0, 0, 0, 0⟩ (List.replicate 64 0) 0 0), .one (.pl (.i 1))] ∧ m = [])) := by
 have hr : r.length ≤ 64 := hs.1
 have hd : d + r.length ≤ 1073741824 := hs.2.1
 have hpl := pad64_length hr
 have hok := stB_ok hs
 obtain ⟨l, hl⟩ : ∃ l, d + r.length = l := ⟨_, rfl⟩
 have hlen : HSt.len ⟨⟨h0, h1, h2, h3, h4, h5, h6, h7⟩, d, r⟩ = l := hl
 rw [hlen] at hok
 have he := herr_ok hok
 have hb := hbad_ok hok
 have hw : Go.RowKit.wrap64 (1073741824 - ((l : Nat) : Int)) = 1073741824 - ((l : Nat) : Int) := w64 (by omega)
 have hc : 1073741824 - ((l : Nat) : Int) < ((b.length : Nat) : Int) := by clear hw; omega
 have F0 := And.intro hlen <| And.intro hpl <| And.intro he <| And.intro hw <| hc
 refine CtM.k Tryd.func12 rfl Tryd.ntmps12 (congrArg Array.toList Tryd.results12) (by simp) fun w0 ro may fx => ?_
 refine sr_k fun K1 hK1 => ?_
 simp only [go_sem, stB, hashC, H8.ls, F0]
 repeat' (first | apply And.intro | intro _)
 refine hK1 _ ?_
 refine seq_k fun N2 M2 hN2 hM2 => ?_
 refine sr_k fun K3 hK3 => ?_
 simp only [go_sem, stB, hashC, H8.ls, F0]
 repeat' (first | apply And.intro | intro _)
 all_goals refine call_view (fun k => k) (fun _ _ => rfl) (by first | rfl | (simp only [go_sem, stB, hashC, H8.ls, F0] <;> rfl)) ((hash_check h0 h1 h2 h3 h4 h5 h6 h7 (pad64 r) hpl ((r.length : Nat) : Int) ((l : Nat) : Int)).plain fun _ _ h => h) ?_
 all_goals (rintro v m ⟨hR, hm⟩; subst hR; subst hm)
 all_goals refine And.intro (by first | rfl | simp only [go_sem, stB, hashC, H8.ls, F0]) (And.intro (by first | rfl | simp only [go_sem, stB, hashC, H8.ls, F0]) ?_)
 all_goals simp only [go_sem, stB, hashC, H8.ls, F0]
 all_goals repeat' (first | apply And.intro | intro _)
 refine hK3 _ ?_
 refine sr_k fun K4 hK4 => ?_
 simp only [go_sem, stB, hashC, H8.ls, F0]
 repeat' (first | apply And.intro | intro _)
 refine hK4 _ ?_
 refine condF_k (by first | rfl | (simp [go_sem, stB, hashC, H8.ls, F0]; done)) ?_
 refine skip_k ?_
 refine hN2 _ ?_
 refine seq_k fun N5 M5 hN5 hM5 => ?_
 refine sr_k fun K6 hK6 => ?_
 simp only [go_sem, stB, hashC, H8.ls, F0]
 repeat' (first | apply And.intro | intro _)
 refine hK6 _ ?_
 refine condT_k (by first | rfl | (simp [go_sem, stB, hashC, H8.ls, F0]; done)) ?_
 refine sr_k fun K7 hK7 => ?_
 simp only [go_sem, stB, hashC, H8.ls, F0]
 repeat' (first | apply And.intro | intro _)
 refine hK7 _ ?_
 refine ret_k ?_
 refine hM5 _ _ ?_
 simp only [go_sem, stB, hashC, H8.ls, F0]
 all_goals (exact told_plain (by simp [plainV, plainW, bytesC]) ⟨rfl, rfl⟩)
set_option maxHeartbeats 800000 in
theorem hadded_big (h0 h1 h2 h3 h4 h5 h6 h7 : UInt32) (d : Nat) (r : List UInt8) (hs : HSt.ok ⟨⟨h0, h1, h2, h3, h4, h5, h6, h7⟩, d, r⟩) (b : List UInt8) (hbl : d + r.length + b.length ≤ 9223372036854775807) (ex : Bool) (hbig : 1073741824 < d + r.length + b.length) :
 CtM Tryd.prog 13 [.w (.agg (stB ⟨⟨h0, h1, h2, h3, h4, h5, h6, h7⟩, d, r⟩)), .w (.one (.pl (.R ex 1 (byteRows b))))] [(1000001, ⟨false, [.pl (.u32 1779033703), .pl (.u32 3144134277), .pl (.u32 1013904242), .pl (.u32 2773480762), .pl (.u32 1359893119), .pl (.u32 2600822924), .pl (.u32 528734635), .pl (.u32 1541459225)]⟩)] (Told (fun v m => v = .tup [.agg (hashC ⟨0, 0, 0, 0, 0, 0, 0, 0⟩ (List.replicate 64 0) 0 0), .one (.pl (.i 1))] ∧ m = [])) := by
 have hr : r.length ≤ 64 := hs.1
 have hd : d + r.length ≤ 1073741824 := hs.2.1
 have hpl := pad64_length hr
 have hok := stB_ok hs
 obtain ⟨l, hl⟩ : ∃ l, d + r.length = l := ⟨_, rfl⟩
 have hlen : HSt.len ⟨⟨h0, h1, h2, h3, h4, h5, h6, h7⟩, d, r⟩ = l := hl
 rw [hlen] at hok
 have he := herr_ok hok
 have hb := hbad_ok hok
 have hc : (1073741824 : Int) < ((l + b.length : Nat) : Int) := by omega
 have hw : Go.RowKit.wrap64 (((l : Nat) : Int) + ((b.length : Nat) : Int)) = ((l + b.length : Nat) : Int) := wnat (by omega) (by omega)
 have F0 := And.intro hlen <| And.intro hpl <| And.intro hb <| And.intro hw <| hc
 refine CtM.k Tryd.func13 rfl Tryd.ntmps13 (congrArg Array.toList Tryd.results13) (by simp) fun w0 ro may fx => ?_
 refine sr_k fun K1 hK1 => ?_
 simp only [go_sem, stB, hashC, H8.ls, F0]
 repeat' (first | apply And.intro | intro _)
 refine hK1 _ ?_
 refine seq_k fun N2 M2 hN2 hM2 => ?_
 refine sr_k fun K3 hK3 => ?_
 simp only [go_sem, stB, hashC, H8.ls, F0]
 repeat' (first | apply And.intro | intro _)
 all_goals refine call_view (fun k => k) (fun _ _ => rfl) (by first | rfl | (simp only [go_sem, stB, hashC, H8.ls, F0] <;> rfl)) ((hash_bad h0 h1 h2 h3 h4 h5 h6 h7 (pad64 r) hpl ((r.length : Nat) : Int) ((l : Nat) : Int)).plain fun _ _ h => h) ?_
 all_goals (rintro v m ⟨hR, hm⟩; subst hR; subst hm)
 all_goals refine And.intro (by first | rfl | simp only [go_sem, stB, hashC, H8.ls, F0]) (And.intro (by first | rfl | simp only [go_sem, stB, hashC, H8.ls, F0]) ?_)
 all_goals simp only [go_sem, stB, hashC, H8.ls, F0]
 all_goals repeat' (first | apply And.intro | intro _)
 refine hK3 _ ?_
 refine condF_k (by first | rfl | (simp [go_sem, stB, hashC, H8.ls, F0]; done)) ?_
 refine skip_k ?_
 refine hN2 _ ?_
 refine seq_k fun N4 M4 hN4 hM4 => ?_
 refine sr_k fun K5 hK5 => ?_
 simp only [go_sem, stB, hashC, H8.ls, F0]
 repeat' (first | apply And.intro | intro _)
 refine hK5 _ ?_
 refine condT_k (by first | rfl | (simp [go_sem, stB, hashC, H8.ls, F0]; done)) ?_
 refine sr_k fun K6 hK6 => ?_
 simp only [go_sem, stB, hashC, H8.ls, F0]
 repeat' (first | apply And.intro | intro _)
 refine hK6 _ ?_
 refine ret_k ?_
 refine hM4 _ _ ?_
 simp only [go_sem, stB, hashC, H8.ls, F0]
 all_goals (exact told_plain (by simp [plainV, plainW, bytesC]) ⟨rfl, rfl⟩)
end Go.Sy

