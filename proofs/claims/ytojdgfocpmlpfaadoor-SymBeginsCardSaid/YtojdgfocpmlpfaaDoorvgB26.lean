/- Keys made of keys: the walks. -/
import Derived.Test.YtojdgfocpmlpfaaDoorvgB25
set_option linter.unusedVariables false
set_option linter.unusedSimpArgs false
namespace Go.Sy
open Go.Proofs
attribute [local irreducible] atCall HT runOps runD onC onE onO onG goV goA goS onSt onGuard
def key1 (c b : List UInt8) : List UInt8 := macB (macB c b) [1]
def key2 (c b : List UInt8) : List UInt8 := macB (macB c b) (key1 c b ++ [2])
def key3 (c b : List UInt8) : List UInt8 := macB (macB c b) (key2 c b ++ [3])
theorem key1_length (c b : List UInt8) : (key1 c b).length = 32 := macB_length _ _
theorem key2_length (c b : List UInt8) : (key2 c b).length = 32 := macB_length _ _
theorem key3_length (c b : List UInt8) : (key3 c b).length = 32 := macB_length _ _
set_option maxHeartbeats 3200000 in
set_option maxRecDepth 100000 in
theorem three_ (c b : List UInt8) (hc : c.length = 32) (hb : b.length ≤ 140737488351232) (ex : Bool) :
 CtM Tryd.prog 20 [.w (.agg (bytesC c)), .w (.one (.pl (.R ex 1 (byteRows b))))] [(1000000, ⟨false, [.pl (.u32 1779033703), .pl (.u32 3144134277), .pl (.u32 1013904242), .pl (.u32 2773480762), .pl (.u32 1359893119), .pl (.u32 2600822924), .pl (.u32 528734635), .pl (.u32 1541459225)]⟩), (1000002, ⟨false, ordC⟩)] (Told (fun v m => v = .w (.agg (bytesC (key1 c b) ++ (bytesC (key2 c b) ++ bytesC (key3 c b)))) ∧ m = [])) := by
 obtain ⟨t, ht⟩ : ∃ t, macB c b = t := ⟨_, rfl⟩
 obtain ⟨k1, hk1⟩ : ∃ k, key1 c b = k := ⟨_, rfl⟩
 obtain ⟨k2, hk2⟩ : ∃ k, key2 c b = k := ⟨_, rfl⟩
 obtain ⟨k3, hk3⟩ : ∃ k, key3 c b = k := ⟨_, rfl⟩
 have e1 : macB t (([] : List UInt8) ++ [1]) = k1 := by rw [← ht, ← hk1]; rfl
 have e2 : macB t (k1 ++ [2]) = k2 := by rw [← ht, ← hk1, ← hk2]; rfl
 have e3 : macB t (k2 ++ [3]) = k3 := by rw [← ht, ← hk2, ← hk3]; rfl
 have htl : t.length = 32 := by rw [← ht]; exact macB_length _ _
 have hl1 : k1.length = 32 := by rw [← hk1]; exact key1_length _ _
 have hl2 : k2.length = 32 := by rw [← hk2]; exact key2_length _ _
 have hl3 : k3.length = 32 := by rw [← hk3]; exact key3_length _ _
 have hM0 := mac_ c b false ex (by omega) hb
 rw [ht] at hM0
 have hC1 : CtM Tryd.prog 40 _ [] (Told (ownB (([] : List UInt8) ++ [1]))) := flat_two true false ([] : List UInt8) [1] ▸ cat_ [(true, ([] : List UInt8)), (false, [1])] false (by rw [flat_two]; simp) (by rw [flat_two, List.length_append]; simp) (by simp)
 have hM1 := mac_ t (([] : List UInt8) ++ [1]) false false (by omega) (by simp)
 rw [e1] at hM1
 obtain ⟨z1, hz1⟩ : ∃ z, ([] : List UInt8) ++ [(1 : UInt8)] = z := ⟨_, rfl⟩
 have hzl1 : z1.length = 1 := by rw [← hz1]; simp
 rw [hz1] at hM1 hC1
 have hC2 : CtM Tryd.prog 40 _ [] (Told (ownB (k1 ++ [2]))) := flat_two false false k1 [2] ▸ cat_ [(false, k1), (false, [2])] false (by rw [flat_two]; simp) (by rw [flat_two, List.length_append]; simp [hl1]) (by simp)
 have hM2 := mac_ t (k1 ++ [2]) false false (by omega) (by simp [hl1])
 rw [e2] at hM2
 obtain ⟨z2, hz2⟩ : ∃ z, k1 ++ [(2 : UInt8)] = z := ⟨_, rfl⟩
 have hzl2 : z2.length = 33 := by rw [← hz2]; simp [hl1]
 rw [hz2] at hM2 hC2
 have hC3 : CtM Tryd.prog 40 _ [] (Told (ownB (k2 ++ [3]))) := flat_two false false k2 [3] ▸ cat_ [(false, k2), (false, [3])] false (by rw [flat_two]; simp) (by rw [flat_two, List.length_append]; simp [hl2]) (by simp)
 have hM3 := mac_ t (k2 ++ [3]) false false (by omega) (by simp [hl2])
 rw [e3] at hM3
 obtain ⟨z3, hz3⟩ : ∃ z, k2 ++ [(3 : UInt8)] = z := ⟨_, rfl⟩
 have hzl3 : z3.length = 33 := by rw [← hz3]; simp [hl2]
 rw [hz3] at hM3 hC3
 have hu : UInt8.ofNat ((1 : Int) % 256).toNat = 1 ∧ UInt8.ofNat ((2 : Int) % 256).toNat = 2 ∧ UInt8.ofNat ((3 : Int) % 256).toNat = 3 := ⟨rfl, rfl, rfl⟩
 have hbz : bytesC [1] = [L.pl (.u8 1)] ∧ byteRows [1] = [[PL.u8 1]] ∧ byteRows [2] = [[PL.u8 2]] ∧ byteRows [3] = [[PL.u8 3]] := ⟨rfl, rfl, rfl, rfl⟩
 have F0 := And.intro hc <| And.intro htl <| And.intro hl1 <| And.intro hl2 <| And.intro hl3 <| And.intro hzl1 <| And.intro hzl2 <| And.intro hzl3 <| And.intro hu <| hbz
 refine CtM.k Tryd.func20 rfl Tryd.ntmps20 (congrArg Array.toList Tryd.results20) (by simp) fun w0 ro may fx => ?_
 refine sr_k fun K1 hK1 => ?_
 simp only [go_sem, nest, List.drop_replicate, List.take_replicate, Nat.zero_min, Nat.min_self, List.replicate_zero, F0]
 repeat' (first | apply And.intro | intro _)
 refine hK1 _ ?_
 refine sr_k fun K2 hK2 => ?_
 simp only [go_sem, nest, List.drop_replicate, List.take_replicate, Nat.zero_min, Nat.min_self, List.replicate_zero, F0]
 repeat' (first | apply And.intro | intro _)
 all_goals (refine call_hand true [] (fun k => k) (fun _ _ => rfl) ?_ (by decide) ?_ hM0.told ?_; iterate 2 (focus (first | rfl | (simp only [go_sem, nest, List.drop_replicate, List.take_replicate, Nat.zero_min, Nat.min_self, List.replicate_zero, F0] <;> first | done | rfl | simp))))
 all_goals (rintro v m ⟨hR, hm⟩; subst hR; subst hm)
 all_goals (refine And.intro ?_ (And.intro ?_ (And.intro ?_ ?_)); iterate 3 (focus (first | rfl | (simp only [go_sem, nest, List.drop_replicate, List.take_replicate, Nat.zero_min, Nat.min_self, List.replicate_zero, F0]; done) | (simp [go_sem, look, nest, List.drop_replicate, List.take_replicate, Nat.zero_min, Nat.min_self, List.replicate_zero, F0]; done))))
 all_goals (try simp only [go_sem, nest, List.drop_replicate, List.take_replicate, Nat.zero_min, Nat.min_self, List.replicate_zero, F0])
 all_goals (try simp only [go_sem, nest, List.drop_replicate, List.take_replicate, Nat.zero_min, Nat.min_self, List.replicate_zero, F0])
 all_goals repeat' (first | apply And.intro | intro _)
 refine hK2 _ ?_
 refine sr_k fun K3 hK3 => ?_
 simp only [go_sem, nest, List.drop_replicate, List.take_replicate, Nat.zero_min, Nat.min_self, List.replicate_zero, F0]
 repeat' (first | apply And.intro | intro _)
 refine hK3 _ ?_
 refine sr_k fun K4 hK4 => ?_
 simp only [go_sem, nest, List.drop_replicate, List.take_replicate, Nat.zero_min, Nat.min_self, List.replicate_zero, F0]
 repeat' (first | apply And.intro | intro _)
 refine hK4 _ ?_
 refine seq_k fun N5 M5 hN5 hM5 => ?_
 refine sr_k fun K6 hK6 => ?_
 simp only [go_sem, nest, List.drop_replicate, List.take_replicate, Nat.zero_min, Nat.min_self, List.replicate_zero, F0]
 repeat' (first | apply And.intro | intro _)
 refine hK6 _ ?_
 refine block_k fun B7 bn7 bx7 br7 bi7 => ?_
 refine rounds_k 4 ?_
 refine rnd_k fun N9 M9 hN9 hM9 => ?_
 refine sr_k fun K10 hK10 => ?_
 simp only [go_sem, nest, List.drop_replicate, List.take_replicate, Nat.zero_min, Nat.min_self, List.replicate_zero, F0]
 repeat' (first | apply And.intro | intro _)
 refine hK10 _ ?_
 refine seq_k fun N11 M11 hN11 hM11 => ?_
 refine condT_k (by first | rfl | (simp [go_sem, nest, List.drop_replicate, List.take_replicate, Nat.zero_min, Nat.min_self, List.replicate_zero, F0]; done)) ?_
 refine skip_k ?_
 refine hN11 _ ?_
 refine seq_k fun N12 M12 hN12 hM12 => ?_
 refine block_k fun B13 bn13 bx13 br13 bi13 => ?_
 refine sr_k fun K14 hK14 => ?_
 simp only [go_sem, nest, List.drop_replicate, List.take_replicate, Nat.zero_min, Nat.min_self, List.replicate_zero, F0]
 repeat' (first | apply And.intro | intro _)
 refine hK14 _ ?_
 refine seq_k fun N15 M15 hN15 hM15 => ?_
 refine dr_k mixed fun K16 hK16 => ?_
 refine dr_piece_k 10 [15, 16, 17, 18, 19, 20, 21, 22, 23, 24] [0, 0, 0, 0, 8, 24, 56, 124, 252, 510, 1023, 2047] [] rfl (by kernel_rfl) rfl (by simp only [go_sem]) fun N17 K17 hN17 hK17 => ?_
 simp only [go_sem, nest, List.drop_replicate, List.take_replicate, Nat.zero_min, Nat.min_self, List.replicate_zero, F0]
 repeat' (first | apply And.intro | intro _)
 all_goals (refine call_drawdeep rfl (fun _ => 23) (.w (.one (.s 0 [] z1.length 1))) [(0, ⟨true, bytesC z1⟩)] (fun _ _ => rfl) ?_ ?_ ?_ hC1.told ?_ ?_; (iterate 2 (focus (first | rfl | (simp only [go_sem, nest, List.drop_replicate, List.take_replicate, Nat.zero_min, Nat.min_self, List.replicate_zero, F0] <;> first | done | rfl | simp)))); (first | kernel_rfl | rfl | simp [fixO, fixL, pls]))
 all_goals try (refine And.intro ?_ (And.intro ?_ (And.intro ?_ ?_)) <;> (first | rfl | (simp only [go_sem, nest, List.drop_replicate, List.take_replicate, Nat.zero_min, Nat.min_self, List.replicate_zero, F0]; done) | (simp [go_sem, look, nest, List.drop_replicate, List.take_replicate, Nat.zero_min, Nat.min_self, List.replicate_zero, F0]; done)))
 all_goals (try simp only [go_sem, nest, List.drop_replicate, List.take_replicate, Nat.zero_min, Nat.min_self, List.replicate_zero, F0])
 all_goals (try simp only [go_sem, nest, List.drop_replicate, List.take_replicate, Nat.zero_min, Nat.min_self, List.replicate_zero, F0])
 all_goals repeat' (first | apply And.intro | intro _)
 all_goals (refine call_drawhand (fun k => k) (.w (.agg (bytesC k1))) [] (fun _ _ => rfl) ?_ ?_ ?_ hM1.told ?_ ?_; (iterate 2 (focus (first | rfl | (simp only [go_sem, nest, List.drop_replicate, List.take_replicate, Nat.zero_min, Nat.min_self, List.replicate_zero, F0] <;> first | done | rfl | simp)))); (first | kernel_rfl | rfl | simp [fixO, fixL, pls]))
 all_goals try (refine And.intro ?_ (And.intro ?_ (And.intro ?_ ?_)) <;> (first | rfl | (simp only [go_sem, nest, List.drop_replicate, List.take_replicate, Nat.zero_min, Nat.min_self, List.replicate_zero, F0]; done) | (simp [go_sem, look, nest, List.drop_replicate, List.take_replicate, Nat.zero_min, Nat.min_self, List.replicate_zero, F0]; done)))
 all_goals (try simp only [go_sem, nest, List.drop_replicate, List.take_replicate, Nat.zero_min, Nat.min_self, List.replicate_zero, F0])
 all_goals (try simp only [go_sem, nest, List.drop_replicate, List.take_replicate, Nat.zero_min, Nat.min_self, List.replicate_zero, F0])
 all_goals repeat' (first | apply And.intro | intro _)
 all_goals
  refine hK17 _ _ trivial (hN17 _ ?_)
  refine dr_runs_k 2 12 rfl (by kernel_rfl) rfl rfl fun N18 hN18 => ?_
  simp only [go_sem, nest, List.drop_replicate, List.take_replicate, Nat.zero_min, Nat.min_self, List.replicate_zero, F0]
  repeat' (first | apply And.intro | intro _)
  all_goals
   refine hN18 _ ?_
   refine dr_end rfl (hK16 _ ?_)
   refine hN15 _ ?_
   refine region_k fun K19 hK19 => ?_
   simp only [go_sem, nest, List.drop_replicate, List.take_replicate, Nat.zero_min, Nat.min_self, List.replicate_zero, F0]
   repeat' (first | apply And.intro | intro _)
   refine hK19 _ ?_
   refine bn13 _ ?_
   refine hN12 _ ?_
   refine region_k fun K20 hK20 => ?_
   simp only [go_sem, nest, List.drop_replicate, List.take_replicate, Nat.zero_min, Nat.min_self, List.replicate_zero, F0]
   repeat' (first | apply And.intro | intro _)
   refine hK20 _ ?_
   refine hN9 _ ?_
   refine rnd_forget [8, 13, 14, 15, 16, 17, 18, 19, 20, 21, 22, 23, 24, 25, 26, 27, 28, 29] ?_
   simp only [go_sem, St.forget, fgt]
   refine rnd_k fun N21 M21 hN21 hM21 => ?_
   refine sr_k fun K22 hK22 => ?_
   simp only [go_sem, nest, List.drop_replicate, List.take_replicate, Nat.zero_min, Nat.min_self, List.replicate_zero, F0]
   repeat' (first | apply And.intro | intro _)
   refine hK22 _ ?_
   refine seq_k fun N23 M23 hN23 hM23 => ?_
   refine condT_k (by first | rfl | (simp [go_sem, nest, List.drop_replicate, List.take_replicate, Nat.zero_min, Nat.min_self, List.replicate_zero, F0]; done)) ?_
   refine skip_k ?_
   refine hN23 _ ?_
   refine seq_k fun N24 M24 hN24 hM24 => ?_
   refine block_k fun B25 bn25 bx25 br25 bi25 => ?_
   refine sr_k fun K26 hK26 => ?_
   simp only [go_sem, nest, List.drop_replicate, List.take_replicate, Nat.zero_min, Nat.min_self, List.replicate_zero, F0]
   repeat' (first | apply And.intro | intro _)
   refine hK26 _ ?_
   refine seq_k fun N27 M27 hN27 hM27 => ?_
   refine dr_k mixed fun K28 hK28 => ?_
   refine dr_piece_k 10 [15, 16, 17, 18, 19, 20, 21, 22, 23, 24] [0, 0, 0, 0, 8, 24, 56, 124, 252, 510, 1023, 2047] [] rfl (by kernel_rfl) rfl (by simp only [go_sem]) fun N29 K29 hN29 hK29 => ?_
   simp only [go_sem, nest, List.drop_replicate, List.take_replicate, Nat.zero_min, Nat.min_self, List.replicate_zero, F0]
   repeat' (first | apply And.intro | intro _)
   all_goals (refine call_drawdeep rfl (fun _ => 23) (.w (.one (.s 0 [] z2.length 1))) [(0, ⟨true, bytesC z2⟩)] (fun _ _ => rfl) ?_ ?_ ?_ hC2.told ?_ ?_; (iterate 2 (focus (first | rfl | (simp only [go_sem, nest, List.drop_replicate, List.take_replicate, Nat.zero_min, Nat.min_self, List.replicate_zero, F0] <;> first | done | rfl | simp)))); (first | kernel_rfl | rfl | simp [fixO, fixL, pls]))
   all_goals try (refine And.intro ?_ (And.intro ?_ (And.intro ?_ ?_)) <;> (first | rfl | (simp only [go_sem, nest, List.drop_replicate, List.take_replicate, Nat.zero_min, Nat.min_self, List.replicate_zero, F0]; done) | (simp [go_sem, look, nest, List.drop_replicate, List.take_replicate, Nat.zero_min, Nat.min_self, List.replicate_zero, F0]; done)))
   all_goals (try simp only [go_sem, nest, List.drop_replicate, List.take_replicate, Nat.zero_min, Nat.min_self, List.replicate_zero, F0])
   all_goals (try simp only [go_sem, nest, List.drop_replicate, List.take_replicate, Nat.zero_min, Nat.min_self, List.replicate_zero, F0])
   all_goals repeat' (first | apply And.intro | intro _)
   all_goals (refine call_drawhand (fun k => k) (.w (.agg (bytesC k2))) [] (fun _ _ => rfl) ?_ ?_ ?_ hM2.told ?_ ?_; (iterate 2 (focus (first | rfl | (simp only [go_sem, nest, List.drop_replicate, List.take_replicate, Nat.zero_min, Nat.min_self, List.replicate_zero, F0] <;> first | done | rfl | simp)))); (first | kernel_rfl | rfl | simp [fixO, fixL, pls]))
   all_goals try (refine And.intro ?_ (And.intro ?_ (And.intro ?_ ?_)) <;> (first | rfl | (simp only [go_sem, nest, List.drop_replicate, List.take_replicate, Nat.zero_min, Nat.min_self, List.replicate_zero, F0]; done) | (simp [go_sem, look, nest, List.drop_replicate, List.take_replicate, Nat.zero_min, Nat.min_self, List.replicate_zero, F0]; done)))
   all_goals (try simp only [go_sem, nest, List.drop_replicate, List.take_replicate, Nat.zero_min, Nat.min_self, List.replicate_zero, F0])
   all_goals (try simp only [go_sem, nest, List.drop_replicate, List.take_replicate, Nat.zero_min, Nat.min_self, List.replicate_zero, F0])
   all_goals repeat' (first | apply And.intro | intro _)
   all_goals
    refine hK29 _ _ trivial (hN29 _ ?_)
    refine dr_runs_k 2 12 rfl (by kernel_rfl) rfl rfl fun N30 hN30 => ?_
    simp only [go_sem, nest, List.drop_replicate, List.take_replicate, Nat.zero_min, Nat.min_self, List.replicate_zero, F0]
    repeat' (first | apply And.intro | intro _)
    all_goals
     refine hN30 _ ?_
     refine dr_end rfl (hK28 _ ?_)
     refine hN27 _ ?_
     refine region_k fun K31 hK31 => ?_
     simp only [go_sem, nest, List.drop_replicate, List.take_replicate, Nat.zero_min, Nat.min_self, List.replicate_zero, F0]
     repeat' (first | apply And.intro | intro _)
     refine hK31 _ ?_
     refine bn25 _ ?_
     refine hN24 _ ?_
     refine region_k fun K32 hK32 => ?_
     simp only [go_sem, nest, List.drop_replicate, List.take_replicate, Nat.zero_min, Nat.min_self, List.replicate_zero, F0]
     repeat' (first | apply And.intro | intro _)
     refine hK32 _ ?_
     refine hN21 _ ?_
     refine rnd_forget [8, 13, 14, 15, 16, 17, 18, 19, 20, 21, 22, 23, 24, 25, 26, 27, 28, 29] ?_
     simp only [go_sem, St.forget, fgt]
     refine rnd_k fun N33 M33 hN33 hM33 => ?_
     refine sr_k fun K34 hK34 => ?_
     simp only [go_sem, nest, List.drop_replicate, List.take_replicate, Nat.zero_min, Nat.min_self, List.replicate_zero, F0]
     repeat' (first | apply And.intro | intro _)
     refine hK34 _ ?_
     refine seq_k fun N35 M35 hN35 hM35 => ?_
     refine condT_k (by first | rfl | (simp [go_sem, nest, List.drop_replicate, List.take_replicate, Nat.zero_min, Nat.min_self, List.replicate_zero, F0]; done)) ?_
     refine skip_k ?_
     refine hN35 _ ?_
     refine seq_k fun N36 M36 hN36 hM36 => ?_
     refine block_k fun B37 bn37 bx37 br37 bi37 => ?_
     refine sr_k fun K38 hK38 => ?_
     simp only [go_sem, nest, List.drop_replicate, List.take_replicate, Nat.zero_min, Nat.min_self, List.replicate_zero, F0]
     repeat' (first | apply And.intro | intro _)
     refine hK38 _ ?_
     refine seq_k fun N39 M39 hN39 hM39 => ?_
     refine dr_k mixed fun K40 hK40 => ?_
     refine dr_piece_k 10 [15, 16, 17, 18, 19, 20, 21, 22, 23, 24] [0, 0, 0, 0, 8, 24, 56, 124, 252, 510, 1023, 2047] [] rfl (by kernel_rfl) rfl (by simp only [go_sem]) fun N41 K41 hN41 hK41 => ?_
     simp only [go_sem, nest, List.drop_replicate, List.take_replicate, Nat.zero_min, Nat.min_self, List.replicate_zero, F0]
     repeat' (first | apply And.intro | intro _)
     all_goals (refine call_drawdeep rfl (fun _ => 23) (.w (.one (.s 0 [] z3.length 1))) [(0, ⟨true, bytesC z3⟩)] (fun _ _ => rfl) ?_ ?_ ?_ hC3.told ?_ ?_; (iterate 2 (focus (first | rfl | (simp only [go_sem, nest, List.drop_replicate, List.take_replicate, Nat.zero_min, Nat.min_self, List.replicate_zero, F0] <;> first | done | rfl | simp)))); (first | kernel_rfl | rfl | simp [fixO, fixL, pls]))
     all_goals try (refine And.intro ?_ (And.intro ?_ (And.intro ?_ ?_)) <;> (first | rfl | (simp only [go_sem, nest, List.drop_replicate, List.take_replicate, Nat.zero_min, Nat.min_self, List.replicate_zero, F0]; done) | (simp [go_sem, look, nest, List.drop_replicate, List.take_replicate, Nat.zero_min, Nat.min_self, List.replicate_zero, F0]; done)))
     all_goals (try simp only [go_sem, nest, List.drop_replicate, List.take_replicate, Nat.zero_min, Nat.min_self, List.replicate_zero, F0])
     all_goals (try simp only [go_sem, nest, List.drop_replicate, List.take_replicate, Nat.zero_min, Nat.min_self, List.replicate_zero, F0])
     all_goals repeat' (first | apply And.intro | intro _)
     all_goals (refine call_drawhand (fun k => k) (.w (.agg (bytesC k3))) [] (fun _ _ => rfl) ?_ ?_ ?_ hM3.told ?_ ?_; (iterate 2 (focus (first | rfl | (simp only [go_sem, nest, List.drop_replicate, List.take_replicate, Nat.zero_min, Nat.min_self, List.replicate_zero, F0] <;> first | done | rfl | simp)))); (first | kernel_rfl | rfl | simp [fixO, fixL, pls]))
     all_goals try (refine And.intro ?_ (And.intro ?_ (And.intro ?_ ?_)) <;> (first | rfl | (simp only [go_sem, nest, List.drop_replicate, List.take_replicate, Nat.zero_min, Nat.min_self, List.replicate_zero, F0]; done) | (simp [go_sem, look, nest, List.drop_replicate, List.take_replicate, Nat.zero_min, Nat.min_self, List.replicate_zero, F0]; done)))
     all_goals (try simp only [go_sem, nest, List.drop_replicate, List.take_replicate, Nat.zero_min, Nat.min_self, List.replicate_zero, F0])
     all_goals (try simp only [go_sem, nest, List.drop_replicate, List.take_replicate, Nat.zero_min, Nat.min_self, List.replicate_zero, F0])
     all_goals repeat' (first | apply And.intro | intro _)
     all_goals
      refine hK41 _ _ trivial (hN41 _ ?_)
      refine dr_runs_k 2 12 rfl (by kernel_rfl) rfl rfl fun N42 hN42 => ?_
      simp only [go_sem, nest, List.drop_replicate, List.take_replicate, Nat.zero_min, Nat.min_self, List.replicate_zero, F0]
      repeat' (first | apply And.intro | intro _)
      all_goals
       refine hN42 _ ?_
       refine dr_end rfl (hK40 _ ?_)
       refine hN39 _ ?_
       refine region_k fun K43 hK43 => ?_
       simp only [go_sem, nest, List.drop_replicate, List.take_replicate, Nat.zero_min, Nat.min_self, List.replicate_zero, F0]
       repeat' (first | apply And.intro | intro _)
       refine hK43 _ ?_
       refine bn37 _ ?_
       refine hN36 _ ?_
       refine region_k fun K44 hK44 => ?_
       simp only [go_sem, nest, List.drop_replicate, List.take_replicate, Nat.zero_min, Nat.min_self, List.replicate_zero, F0]
       repeat' (first | apply And.intro | intro _)
       refine hK44 _ ?_
       refine hN33 _ ?_
       refine rnd_forget [8, 13, 14, 15, 16, 17, 18, 19, 20, 21, 22, 23, 24, 25, 26, 27, 28, 29] ?_
       simp only [go_sem, St.forget, fgt]
       refine rnd_k fun N45 M45 hN45 hM45 => ?_
       refine sr_k fun K46 hK46 => ?_
       simp only [go_sem, nest, List.drop_replicate, List.take_replicate, Nat.zero_min, Nat.min_self, List.replicate_zero, F0]
       repeat' (first | apply And.intro | intro _)
       refine hK46 _ ?_
       refine seq_k fun N47 M47 hN47 hM47 => ?_
       refine condF_k (by first | rfl | (simp [go_sem, nest, List.drop_replicate, List.take_replicate, Nat.zero_min, Nat.min_self, List.replicate_zero, F0]; done)) ?_
       refine exit_k ?_
       refine hM47 _ _ ?_
       refine hM45 _ _ ?_
       refine bx7 _ ?_
       refine hN5 _ ?_
       refine sr_k fun K48 hK48 => ?_
       simp only [go_sem, nest, List.drop_replicate, List.take_replicate, Nat.zero_min, Nat.min_self, List.replicate_zero, F0]
       repeat' (first | apply And.intro | intro _)
       refine hK48 _ ?_
       refine ret_k ?_
       simp only [go_sem, nest, List.drop_replicate, List.take_replicate, Nat.zero_min, Nat.min_self, List.replicate_zero, F0]
       all_goals (rw [hk1, hk2, hk3]; exact told_plain (by simp [plainV, plainW, bytesC]) ⟨by simp, rfl⟩)
end Go.Sy

