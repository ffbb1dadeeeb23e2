/- States of a handshake, as the document tells them. -/
import Derived.Test.YtojdgfocpmlpfaaDoorvgB28
set_option linter.unusedVariables false
set_option linter.unusedSimpArgs false
namespace Go.Sy
open Go.Proofs
attribute [local irreducible] atCall HT runOps runD onC onE onO onG goV goA goS onSt onGuard
set_option maxHeartbeats 1600000 in
set_option maxRecDepth 100000 in
theorem rsymkey_ (st : Bool) (key : List UInt8) (n : UInt64) (ch h b : List UInt8) (hk : key.length = 32) (hc : ch.length = 32) (hh : h.length = 32) (hb : b.length ≤ 140737488351232) :
 CtM Tryd.prog 30 [.w (.agg (symS st key n ch h)), .w (.one (.pl (.str b)))] [(1000001, ⟨false, [.pl (.u32 1779033703), .pl (.u32 3144134277), .pl (.u32 1013904242), .pl (.u32 2773480762), .pl (.u32 1359893119), .pl (.u32 2600822924), .pl (.u32 528734635), .pl (.u32 1541459225)]⟩)] (Told (fun v m => v = .w (.agg (symS true (key2 ch b) 0 (key1 ch b) h)) ∧ m = [])) := by
 have hT := keysof_ ch b hc hb
 obtain ⟨k1, hk1⟩ : ∃ k, key1 ch b = k := ⟨_, rfl⟩
 have hl1 : k1.length = 32 := by rw [← hk1]; exact key1_length _ _
 obtain ⟨k2, hk2⟩ : ∃ k, key2 ch b = k := ⟨_, rfl⟩
 have hl2 : k2.length = 32 := by rw [← hk2]; exact key2_length _ _
 obtain ⟨k3, hk3⟩ : ∃ k, key3 ch b = k := ⟨_, rfl⟩
 have hl3 : k3.length = 32 := by rw [← hk3]; exact key3_length _ _
 rw [hk1, hk2, hk3] at hT
 rw [hk1, hk2]
 have F0 := And.intro hk <| And.intro hc <| And.intro hh <| And.intro hl1 <| And.intro hl2 <| hl3
 refine CtM.k Tryd.func30 rfl Tryd.ntmps30 (congrArg Array.toList Tryd.results30) (by simp) fun w0 ro may fx => ?_
 refine sr_k fun K1 hK1 => ?_
 simp only [go_sem, symS, cipC, F0]
 repeat' (first | apply And.intro | intro _)
 refine hK1 _ ?_
 refine sr_k fun K2 hK2 => ?_
 simp only [go_sem, symS, cipC, F0]
 repeat' (first | apply And.intro | intro _)
 all_goals (refine call_hand false [] (fun k => k) (fun _ _ => rfl) ?_ (by decide) ?_ hT.told ?_; iterate 2 (focus (first | rfl | (simp only [go_sem, symS, cipC, F0] <;> first | done | rfl | simp))))
 all_goals (rintro v m ⟨hR, hm⟩; subst hR; subst hm)
 all_goals (refine And.intro ?_ (And.intro ?_ (And.intro ?_ ?_)); iterate 3 (focus (first | rfl | (simp only [go_sem, symS, cipC, F0]; done) | (simp [go_sem, look, symS, cipC, F0]; done))))
 all_goals (try simp only [go_sem, symS, cipC, F0])
 all_goals (try simp only [go_sem, symS, cipC, F0])
 all_goals repeat' (first | apply And.intro | intro _)
 refine hK2 _ ?_
 refine sr_k fun K3 hK3 => ?_
 simp only [go_sem, symS, cipC, F0]
 repeat' (first | apply And.intro | intro _)
 refine hK3 _ ?_
 refine ret_k ?_
 simp only [go_sem, symS, cipC, F0]
 all_goals (exact told_plain (by simp [plainV, plainW, bytesC]) ⟨by first | (simp; done) | (simp [symS, cipC, bytesC]; done), rfl⟩)
set_option maxHeartbeats 1600000 in
set_option maxRecDepth 100000 in
theorem rsymhash_ (st : Bool) (key : List UInt8) (n : UInt64) (ch h b : List UInt8) (hk : key.length = 32) (hc : ch.length = 32) (hh : h.length = 32) (hb : b.length ≤ 140737488351232) :
 CtM Tryd.prog 31 [.w (.agg (symS st key n ch h)), .w (.one (.pl (.str b)))] [(1000001, ⟨false, [.pl (.u32 1779033703), .pl (.u32 3144134277), .pl (.u32 1013904242), .pl (.u32 2773480762), .pl (.u32 1359893119), .pl (.u32 2600822924), .pl (.u32 528734635), .pl (.u32 1541459225)]⟩)] (Told (fun v m => v = .w (.agg (symS st key n ch (sumB (h ++ b)))) ∧ m = [])) := by
 obtain ⟨z, hz⟩ : ∃ z, sumB (h ++ b) = z := ⟨_, rfl⟩
 have hzl : z.length = 32 := by rw [← hz]; exact sumB_length _
 have hn2 : (h ++ b).length ≤ 9223372036854775807 := by simp [hh]; omega
 rw [hz]
 have hT1 := text_ h hh
 have hS := hashof_ (h ++ b) hn2
 rw [hz] at hS
 have hle : 32 + b.length ≤ 9223372036854775807 := by omega
 have F0 := And.intro hk <| And.intro hc <| And.intro hh <| And.intro hzl <| hle
 refine CtM.k Tryd.func31 rfl Tryd.ntmps31 (congrArg Array.toList Tryd.results31) (by simp) fun w0 ro may fx => ?_
 refine sr_k fun K1 hK1 => ?_
 simp only [go_sem, symS, cipC, F0]
 repeat' (first | apply And.intro | intro _)
 refine hK1 _ ?_
 refine sr_k fun K2 hK2 => ?_
 simp only [go_sem, symS, cipC, F0]
 repeat' (first | apply And.intro | intro _)
 all_goals refine call_view (fun k => k) (fun _ _ => rfl) (by first | rfl | (simp only [go_sem, symS, cipC, F0] <;> rfl)) (hT1.plain fun _ _ h => h) ?_
 all_goals (rintro v m ⟨hR, hm⟩; subst hR; subst hm)
 all_goals refine And.intro (by first | rfl | simp only [go_sem, symS, cipC, F0]) (And.intro (by first | rfl | simp only [go_sem, symS, cipC, F0]) ?_)
 all_goals simp only [go_sem, symS, cipC, F0]
 all_goals repeat' (first | apply And.intro | intro _)
 all_goals (refine call_hand false [] (fun k => k) (fun _ _ => rfl) ?_ (by decide) ?_ hS.told ?_; iterate 2 (focus (first | rfl | (simp only [go_sem, symS, cipC, F0] <;> first | done | rfl | simp))))
 all_goals (rintro v m ⟨hR, hm⟩; subst hR; subst hm)
 all_goals (refine And.intro ?_ (And.intro ?_ (And.intro ?_ ?_)); iterate 3 (focus (first | rfl | (simp only [go_sem, symS, cipC, F0]; done) | (simp [go_sem, look, symS, cipC, F0]; done))))
 all_goals (try simp only [go_sem, symS, cipC, F0])
 all_goals (try simp only [go_sem, symS, cipC, F0])
 all_goals repeat' (first | apply And.intro | intro _)
 refine hK2 _ ?_
 refine sr_k fun K3 hK3 => ?_
 simp only [go_sem, symS, cipC, F0]
 repeat' (first | apply And.intro | intro _)
 refine hK3 _ ?_
 refine ret_k ?_
 simp only [go_sem, symS, cipC, F0]
 all_goals (exact told_plain (by simp [plainV, plainW, bytesC]) ⟨by first | (simp; done) | (simp [symS, cipC, bytesC]; done), rfl⟩)
set_option maxHeartbeats 1600000 in
set_option maxRecDepth 100000 in
theorem rsymboth_ (st : Bool) (key : List UInt8) (n : UInt64) (ch h b : List UInt8) (hk : key.length = 32) (hc : ch.length = 32) (hh : h.length = 32) (hb : b.length ≤ 140737488351232) :
 CtM Tryd.prog 32 [.w (.agg (symS st key n ch h)), .w (.one (.pl (.str b)))] [(1000001, ⟨false, [.pl (.u32 1779033703), .pl (.u32 3144134277), .pl (.u32 1013904242), .pl (.u32 2773480762), .pl (.u32 1359893119), .pl (.u32 2600822924), .pl (.u32 528734635), .pl (.u32 1541459225)]⟩)] (Told (fun v m => v = .w (.agg (symS true (key3 ch b) 0 (key1 ch b) (sumB (h ++ key2 ch b)))) ∧ m = [])) := by
 have hT := keysof_ ch b hc hb
 obtain ⟨k1, hk1⟩ : ∃ k, key1 ch b = k := ⟨_, rfl⟩
 have hl1 : k1.length = 32 := by rw [← hk1]; exact key1_length _ _
 obtain ⟨k2, hk2⟩ : ∃ k, key2 ch b = k := ⟨_, rfl⟩
 have hl2 : k2.length = 32 := by rw [← hk2]; exact key2_length _ _
 obtain ⟨k3, hk3⟩ : ∃ k, key3 ch b = k := ⟨_, rfl⟩
 have hl3 : k3.length = 32 := by rw [← hk3]; exact key3_length _ _
 rw [hk1, hk2, hk3] at hT ⊢
 obtain ⟨z, hz⟩ : ∃ z, sumB (h ++ k2) = z := ⟨_, rfl⟩
 have hzl : z.length = 32 := by rw [← hz]; exact sumB_length _
 have hT2 := text_ k2 hl2
 have hS := rsymhash_ st key n ch h k2 hk hc hh (by omega)
 rw [hz] at hS ⊢
 have F0 := And.intro hk <| And.intro hc <| And.intro hh <| And.intro hl1 <| And.intro hl2 <| And.intro hl3 <| hzl
 refine CtM.k Tryd.func32 rfl Tryd.ntmps32 (congrArg Array.toList Tryd.results32) (by simp) fun w0 ro may fx => ?_
 refine sr_k fun K1 hK1 => ?_
 simp only [go_sem, symS, cipC, F0]
 repeat' (first | apply And.intro | intro _)
 refine hK1 _ ?_
 refine sr_k fun K2 hK2 => ?_
 simp only [go_sem, symS, cipC, F0]
 repeat' (first | apply And.intro | intro _)
 all_goals (refine call_hand false [] (fun k => k) (fun _ _ => rfl) ?_ (by decide) ?_ hT.told ?_; iterate 2 (focus (first | rfl | (simp only [go_sem, symS, cipC, F0] <;> first | done | rfl | simp))))
 all_goals (rintro v m ⟨hR, hm⟩; subst hR; subst hm)
 all_goals (refine And.intro ?_ (And.intro ?_ (And.intro ?_ ?_)); iterate 3 (focus (first | rfl | (simp only [go_sem, symS, cipC, F0]; done) | (simp [go_sem, look, symS, cipC, F0]; done))))
 all_goals (try simp only [go_sem, symS, cipC, F0])
 all_goals (try simp only [go_sem, symS, cipC, F0])
 all_goals repeat' (first | apply And.intro | intro _)
 refine hK2 _ ?_
 refine seq_k fun N3 M3 hN3 hM3 => ?_
 refine dr_k mixed fun K4 hK4 => ?_
 refine dr_piece_k 11 [10, 11, 12, 13, 14, 15, 16, 17, 18, 19, 20] [0, 1, 0, 4, 12, 0, 0, 64, 192, 480, 992, 2047, 4095] [] rfl (by kernel_rfl) rfl (by simp only [go_sem]) fun N5 K5 hN5 hK5 => ?_
 simp only [go_sem, symS, cipC, F0]
 repeat' (first | apply And.intro | intro _)
 all_goals refine call_draw (fun k => k) (.w (.one (.pl (.str k2)))) [] (fun _ _ => rfl) (by first | rfl | (simp only [go_sem, symS, cipC, F0] <;> rfl)) (hT2.plain fun _ _ h => h) ?_ ?_
 all_goals try (refine And.intro ?_ (And.intro ?_ (And.intro ?_ ?_)) <;> first | rfl | simp only [go_sem])
 all_goals simp only [go_sem, symS, cipC, F0]
 all_goals repeat' (first | apply And.intro | intro _)
 all_goals (refine call_drawhand (fun k => k) (.w (.agg (symS st key n ch z))) [] (fun _ _ => rfl) ?_ ?_ ?_ hS.told ?_ ?_; (iterate 2 (focus (first | rfl | (simp only [go_sem, symS, cipC, F0] <;> first | done | rfl | simp)))); (first | kernel_rfl | rfl | simp [fixO, fixL, pls]))
 all_goals try (refine And.intro ?_ (And.intro ?_ (And.intro ?_ ?_)) <;> (first | rfl | (simp only [go_sem, symS, cipC, F0]; done) | (simp [go_sem, look, symS, cipC, F0]; done)))
 all_goals (try simp only [go_sem, symS, cipC, F0])
 all_goals (try simp only [go_sem, symS, cipC, F0])
 all_goals repeat' (first | apply And.intro | intro _)
 all_goals
  refine hK5 _ _ trivial (hN5 _ ?_)
  refine dr_runs_k 2 13 rfl (by kernel_rfl) rfl rfl fun N6 hN6 => ?_
  simp only [go_sem, symS, cipC, F0]
  repeat' (first | apply And.intro | intro _)
  all_goals
   refine hN6 _ ?_
   refine dr_end rfl (hK4 _ ?_)
   refine hN3 _ ?_
   refine ret_k ?_
   simp only [go_sem, symS, cipC, F0]
   all_goals (exact told_plain (by simp [plainV, plainW, bytesC]) ⟨by first | (simp; done) | (simp [symS, cipC, bytesC]; done), rfl⟩)
theorem kinds_sym {st : Bool} {key : List UInt8} {n : UInt64} {ch h : List UInt8} (hk : key.length = 32) (hc : ch.length = 32) (hh : h.length = 32) : (symS st key n ch h).map kindL = ((Kd.b :: List.replicate 32 (Kd.int .u8) ++ (Kd.int .u64 :: List.replicate 32 (Kd.int .u8) ++ (List.replicate 32 (Kd.int .u8))) : List Kd)).map some := by
 have e := kinds_bytes hk
 have e1 := kinds_bytes hc
 have e2 := kinds_bytes hh
 rw [symS, List.map_cons, List.map_append, List.map_cons, List.map_append, e, e1, e2]; rfl
theorem same54 {st : Bool} {key : List UInt8} {n : UInt64} {ch h : List UInt8} (hk : key.length = 32) (hc : ch.length = 32) (hh : h.length = 32) : aggEq Tryd.prog 54 (symS st key n ch h) (symS st key n ch h) = some true := by
 rw [ae54 (kinds_sym hk hc hh) (kinds_sym hk hc hh), symS, eqC_cons, eqC_seg rfl, eqC_cons, eqC_seg rfl, eqC_bytes rfl]; simp [eqL]
set_option maxHeartbeats 1600000 in
set_option maxRecDepth 100000 in
theorem symmixes (st : Bool) (key : List UInt8) (n : UInt64) (ch h b : List UInt8) (hk : key.length = 32) (hc : ch.length = 32) (hh : h.length = 32) (hb : b.length ≤ 140737488351232) (ex : Bool) :
 CtM Tryd.prog 9 [.w (.agg (symS st key n ch h)), .w (.one (.pl (.R ex 1 (byteRows b))))] [(1000000, ⟨false, [.pl (.u32 1779033703), .pl (.u32 3144134277), .pl (.u32 1013904242), .pl (.u32 2773480762), .pl (.u32 1359893119), .pl (.u32 2600822924), .pl (.u32 528734635), .pl (.u32 1541459225)]⟩), (1000001, ⟨false, [.pl (.u32 1779033703), .pl (.u32 3144134277), .pl (.u32 1013904242), .pl (.u32 2773480762), .pl (.u32 1359893119), .pl (.u32 2600822924), .pl (.u32 528734635), .pl (.u32 1541459225)]⟩), (1000002, ⟨false, ordC⟩)] (Told (fun v m => v = .w (.one (.pl (.b true))) ∧ m = [])) := by
 obtain ⟨k1, hk1⟩ : ∃ k, key1 ch b = k := ⟨_, rfl⟩
 have hl1 : k1.length = 32 := by rw [← hk1]; exact key1_length _ _
 obtain ⟨k2, hk2⟩ : ∃ k, key2 ch b = k := ⟨_, rfl⟩
 have hl2 : k2.length = 32 := by rw [← hk2]; exact key2_length _ _
 obtain ⟨k3, hk3⟩ : ∃ k, key3 ch b = k := ⟨_, rfl⟩
 have hl3 : k3.length = 32 := by rw [← hk3]; exact key3_length _ _
 obtain ⟨z1, hz1⟩ : ∃ z, sumB (h ++ b) = z := ⟨_, rfl⟩
 have hzl1 : z1.length = 32 := by rw [← hz1]; exact sumB_length _
 obtain ⟨z2, hz2⟩ : ∃ z, sumB (h ++ k2) = z := ⟨_, rfl⟩
 have hzl2 : z2.length = 32 := by rw [← hz2]; exact sumB_length _
 have hs1 := same54 (st := true) (n := 0) hl2 hl1 hh
 have hs2 := same54 (st := st) (n := n) hk hc hzl1
 have hs3 := same54 (st := true) (n := 0) hl3 hl1 hzl2
 rw [symS_norm] at hs1 hs2 hs3
 have hbl2 : b.length ≤ 9223372036854775807 := by omega
 have hGKey := symkey_ st key n ch h b hk hc hh hb ex
 have hRKey := rsymkey_ st key n ch h b hk hc hh hb
 rw [hk2, hk1] at hGKey hRKey
 have hGHash := symhash_ st key n ch h b hk hc hh hb ex
 have hRHash := rsymhash_ st key n ch h b hk hc hh hb
 rw [hz1] at hGHash hRHash
 have hGBoth := symboth_ st key n ch h b hk hc hh hb ex
 have hRBoth := rsymboth_ st key n ch h b hk hc hh hb
 rw [hk3, hk1, hk2, hz2] at hGBoth hRBoth
 have F0 := And.intro hk <| And.intro hc <| And.intro hh <| And.intro hl1 <| And.intro hl2 <| And.intro hl3 <| And.intro hzl1 <| And.intro hzl2 <| And.intro hs1 <| And.intro hs2 <| And.intro hs3 <| hbl2
 refine CtM.k Tryd.func9 rfl Tryd.ntmps9 (congrArg Array.toList Tryd.results9) (by simp) fun w0 ro may fx => ?_
 refine sr_k fun K1 hK1 => ?_
 simp only [go_sem, symS, cipC, F0]
 repeat' (first | apply And.intro | intro _)
 refine hK1 _ ?_
 refine seq_k fun N2 M2 hN2 hM2 => ?_
 refine dr_k mixed fun K3 hK3 => ?_
 refine dr_piece_k 12 [11, 12, 13, 14, 15, 16, 17, 18, 19, 5, 6, 7] [0, 0, 3, 0, 0, 31, 0, 0, 255, 0, 0, 0, 4095, 8191, 16383] [] rfl (by kernel_rfl) rfl (by simp only [go_sem]) fun N4 K4 hN4 hK4 => ?_
 simp only [go_sem, symS, cipC, F0]
 repeat' (first | apply And.intro | intro _)
 all_goals (refine call_drawhand (fun k => k) (.w (.agg (symS true k2 0 k1 h))) [] (fun _ _ => rfl) ?_ ?_ ?_ hGKey.told ?_ ?_; (iterate 2 (focus (first | rfl | (simp only [go_sem, symS, cipC, F0] <;> first | done | rfl | simp)))); (first | kernel_rfl | rfl | simp [fixO, fixL, pls]))
 all_goals try (refine And.intro ?_ (And.intro ?_ (And.intro ?_ ?_)) <;> (first | rfl | (simp only [go_sem, symS, cipC, F0]; done) | (simp [go_sem, look, symS, cipC, F0]; done)))
 all_goals (try simp only [go_sem, symS, cipC, F0])
 all_goals (try simp only [go_sem, symS, cipC, F0])
 all_goals repeat' (first | apply And.intro | intro _)
 all_goals (refine call_drawhand (fun k => k) (.w (.agg (symS st key n ch z1))) [] (fun _ _ => rfl) ?_ ?_ ?_ hGHash.told ?_ ?_; (iterate 2 (focus (first | rfl | (simp only [go_sem, symS, cipC, F0] <;> first | done | rfl | simp)))); (first | kernel_rfl | rfl | simp [fixO, fixL, pls]))
 all_goals try (refine And.intro ?_ (And.intro ?_ (And.intro ?_ ?_)) <;> (first | rfl | (simp only [go_sem, symS, cipC, F0]; done) | (simp [go_sem, look, symS, cipC, F0]; done)))
 all_goals (try simp only [go_sem, symS, cipC, F0])
 all_goals (try simp only [go_sem, symS, cipC, F0])
 all_goals repeat' (first | apply And.intro | intro _)
 all_goals (refine call_drawhand (fun k => k) (.w (.agg (symS true k3 0 k1 z2))) [] (fun _ _ => rfl) ?_ ?_ ?_ hGBoth.told ?_ ?_; (iterate 2 (focus (first | rfl | (simp only [go_sem, symS, cipC, F0] <;> first | done | rfl | simp)))); (first | kernel_rfl | rfl | simp [fixO, fixL, pls]))
 all_goals try (refine And.intro ?_ (And.intro ?_ (And.intro ?_ ?_)) <;> (first | rfl | (simp only [go_sem, symS, cipC, F0]; done) | (simp [go_sem, look, symS, cipC, F0]; done)))
 all_goals (try simp only [go_sem, symS, cipC, F0])
 all_goals (try simp only [go_sem, symS, cipC, F0])
 all_goals repeat' (first | apply And.intro | intro _)
 all_goals
  refine hK4 _ _ trivial (hN4 _ ?_)
  refine dr_runs_k 3 15 rfl (by kernel_rfl) rfl rfl fun N5 hN5 => ?_
  simp only [go_sem, symS, cipC, F0]
  repeat' (first | apply And.intro | intro _)
  all_goals
   refine hN5 _ ?_
   refine dr_end rfl (hK3 _ ?_)
   refine hN2 _ ?_
   refine seq_k fun N6 M6 hN6 hM6 => ?_
   refine dr_k mixed fun K7 hK7 => ?_
   refine dr_piece_k 15 [20, 21, 22, 23, 24, 25, 26, 27, 28, 29, 30, 31, 8, 9, 10] [0, 0, 2, 7, 0, 0, 32, 127, 0, 0, 512, 2047, 0, 0, 0, 32767, 65535, 131071] [] rfl (by kernel_rfl) rfl (by simp only [go_sem]) fun N8 K8 hN8 hK8 => ?_
   simp only [go_sem, symS, cipC, F0]
   repeat' (first | apply And.intro | intro _)
   all_goals (refine call_drawhand (fun k => k) (.w (.agg (symS true k2 0 k1 h))) [] (fun _ _ => rfl) ?_ ?_ ?_ hRKey.told ?_ ?_; (iterate 2 (focus (first | rfl | (simp only [go_sem, symS, cipC, F0] <;> first | done | rfl | simp)))); (first | kernel_rfl | rfl | simp [fixO, fixL, pls]))
   all_goals try (refine And.intro ?_ (And.intro ?_ (And.intro ?_ ?_)) <;> (first | rfl | (simp only [go_sem, symS, cipC, F0]; done) | (simp [go_sem, look, symS, cipC, F0]; done)))
   all_goals (try simp only [go_sem, symS, cipC, F0])
   all_goals (try simp only [go_sem, symS, cipC, F0])
   all_goals repeat' (first | apply And.intro | intro _)
   all_goals (refine call_drawhand (fun k => k) (.w (.agg (symS st key n ch z1))) [] (fun _ _ => rfl) ?_ ?_ ?_ hRHash.told ?_ ?_; (iterate 2 (focus (first | rfl | (simp only [go_sem, symS, cipC, F0] <;> first | done | rfl | simp)))); (first | kernel_rfl | rfl | simp [fixO, fixL, pls]))
   all_goals try (refine And.intro ?_ (And.intro ?_ (And.intro ?_ ?_)) <;> (first | rfl | (simp only [go_sem, symS, cipC, F0]; done) | (simp [go_sem, look, symS, cipC, F0]; done)))
   all_goals (try simp only [go_sem, symS, cipC, F0])
   all_goals (try simp only [go_sem, symS, cipC, F0])
   all_goals repeat' (first | apply And.intro | intro _)
   all_goals (refine call_drawhand (fun k => k) (.w (.agg (symS true k3 0 k1 z2))) [] (fun _ _ => rfl) ?_ ?_ ?_ hRBoth.told ?_ ?_; (iterate 2 (focus (first | rfl | (simp only [go_sem, symS, cipC, F0] <;> first | done | rfl | simp)))); (first | kernel_rfl | rfl | simp [fixO, fixL, pls]))
   all_goals try (refine And.intro ?_ (And.intro ?_ (And.intro ?_ ?_)) <;> (first | rfl | (simp only [go_sem, symS, cipC, F0]; done) | (simp [go_sem, look, symS, cipC, F0]; done)))
   all_goals (try simp only [go_sem, symS, cipC, F0])
   all_goals (try simp only [go_sem, symS, cipC, F0])
   all_goals repeat' (first | apply And.intro | intro _)
   all_goals
    refine hK8 _ _ trivial (hN8 _ ?_)
    refine dr_runs_k 3 18 rfl (by kernel_rfl) rfl rfl fun N9 hN9 => ?_
    simp only [go_sem, symS, cipC, F0]
    repeat' (first | apply And.intro | intro _)
    all_goals
     refine hN9 _ ?_
     refine dr_end rfl (hK7 _ ?_)
     refine hN6 _ ?_
     refine sr_k fun K10 hK10 => ?_
     simp only [go_sem, symS, cipC, F0]
     repeat' (first | apply And.intro | intro _)
     refine hK10 _ ?_
     refine ret_k ?_
     simp only [go_sem, symS, cipC, F0]
     all_goals (exact told_plain rfl ⟨rfl, rfl⟩)
theorem symmixes_gs (st : Bool) (key : List UInt8) (n : UInt64) (ch h b : List UInt8) (hk : key.length = 32) (hc : ch.length = 32) (hh : h.length = 32) (hb : b.length ≤ 140737488351232) (ex : Bool) : CtM Tryd.prog 9 [.w (.agg (symS st key n ch h)), .w (.one (.pl (.R ex 1 (byteRows b))))] (globM [(1000000, firstU.map PL.u32), (1000001, firstU.map PL.u32), (1000002, ordZ.flatten.map PL.i)]) (Told (fun v m => v = .w (.one (.pl (.b true))) ∧ m = [])) := symmixes st key n ch h b hk hc hh hb ex
end Go.Sy

