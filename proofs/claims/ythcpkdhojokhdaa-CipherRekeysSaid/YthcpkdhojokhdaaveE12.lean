/- Walks: a block taken in. -/
import Derived.Test.YthcpkdhojokhdaaveE10
import Derived.Test.YthcpkdhojokhdaaveE11
import Derived.Test.YthcpkdhojokhdaaveE4
import Derived.Test.YthcpkdhojokhdaavP6
set_option linter.unusedVariables false
set_option linter.unusedSimpArgs false
namespace Go.Sy
open Go.Proofs
attribute [local irreducible] atCall HT runOps runD onC onE onO onG goV goA goS onSt onGuard
set_option maxHeartbeats 1600000 in
set_option maxRecDepth 100000 in
theorem soak_full (r0 r1 p0 p1 a0 a1 a2 : UInt64) (held : List UInt8) (hh : held.length = 16) (ha : val3 a0 a1 a2 < pP) (hr : r1.toNat < 1152921504606846976) :
 Ct Try.prog 44 [.w (.agg (polyC r0 r1 p0 p1 a0 a1 a2 held 16))] (fun v m => v = .w (.agg (polyC r0 r1 p0 p1 (sp0 (soakV a0 a1 a2 r0 r1 held)) (sp1 (soakV a0 a1 a2 r0 r1 held)) (sp2 (soakV a0 a1 a2 r0 r1 held)) (List.replicate 16 0) 0))) := by
 have hm : ∀ l : List UInt8, l.length = 8 → chunks 1 8 (List.map PL.u8 l) = byteRows l := fun l h => chunks_bytes' h
 have hm0 := hm (held.take 8) (by simp [hh])
 have hm1 := hm ((held.drop 8).take 8) (by simp [hh])
 have ha4 : a2.toNat < 4 := by have h0 := a0.toNat_lt; have h1 := a1.toNat_lt; simp only [val3, pP] at ha; omega
 have hab : ∀ x y z : UInt64, ∀ l : List UInt8, l.length ≤ 16 → val3 x y z = leN l + 256 ^ l.length → (T3.plus ⟨a0, a1, a2⟩ ⟨x, y, z⟩).val < 2722258935367507707706996859454145691648 := fun x y z l hl hn => by
  have hb := blk_lt hl
  have ha3 : val3 a0 a1 a2 < 1361129467683753853853498429727072845819 := ha
  rw [plus_val _ _ (by show val3 a0 a1 a2 + val3 x y z < _; rw [hn]; omega)]
  show val3 a0 a1 a2 + val3 x y z < _
  rw [hn]; omega
 have hlen : held.length ≤ 16 := by omega
 have hn := full_val hh
 obtain ⟨hs0, hs1, hs2⟩ := soak_of (x := (lev (held.take 8))) (y := (lev ((held.drop 8).take 8))) (z := 1) hn hlen ha hr
 have F0 := And.intro hh <| And.intro hm0 <| And.intro hm1 <| And.intro hs0 <| And.intro hs1 <| hs2
 refine Ct.k Try.func44 rfl Try.ntmps44 (congrArg Array.toList Try.results44) (by simp) fun w0 ro => ?_
 refine top_k fun zZ zhZ => ?_
 iterate 24 first
  | (refine sr_k fun zK zhK => ?_; simp only [go_sem, polyC, W3, F0]; (repeat' (first | apply And.intro | intro _)))
  | refine zhK _ ?_
  | refine zhK _ _ trivial ?_
  | (refine sd_k (id := 2) [7, 8, 9, 10, 11, 4] [0, 1, 0, 7, 15, 0, 63] [] mixed (by kernel_rfl) (by simp only [go_sem]) fun zK zhK => ?_; simp only [go_sem, polyC, W3, F0]; (repeat' (first | apply And.intro | intro _)))
  | refine skip_k ?_
  | (refine zhN _ ?_; clear zhN zhM)
  | (refine sd_k (id := 6) [28, 29, 30, 31, 32, 33, 34, 35] [0, 1, 0, 7, 0, 16, 63, 127, 255] [] mixed (by kernel_rfl) (by simp only [go_sem]) fun zK zhK => ?_; simp only [go_sem, polyC, W3, F0]; (repeat' (first | apply And.intro | intro _)))
  | refine ret_k ?_
  | (refine zhZ _ _ ?_; simp only [go_sem, polyC, W3, F0]; (all_goals (rw [hs0, hs1, hs2])))
  | ((all_goals refine call_draw (fun k => k) _ [] (fun _ _ => rfl) (by first | rfl | (simp only [go_sem, polyC, W3, F0] <;> rfl)) ((half_ _ (by first | (simp [List.length_take, List.length_drop, hh]; done) | (simp [List.length_take, List.length_drop, hh]; omega)) _).plain fun _ _ h => h) ?_ ?_); (all_goals try (refine And.intro ?_ (And.intro ?_ (And.intro ?_ ?_)) <;> first | rfl | simp only [go_sem])); (all_goals simp only [go_sem, polyC, W3, F0]); (all_goals repeat' (first | apply And.intro | intro _)))
  | ((all_goals (refine call_draw (fun k => k) _ [] (fun _ _ => rfl) ?_ ((plus_ ⟨a0, a1, a2⟩ ⟨(lev (held.take 8)), (lev ((held.drop 8).take 8)), 1⟩).plain fun _ _ h => h) ?_ ?_; focus (first | rfl | (simp only [go_sem, polyC, W3, F0] <;> rfl)))); (all_goals try (refine And.intro ?_ (And.intro ?_ (And.intro ?_ ?_)) <;> first | rfl | simp only [go_sem])); (all_goals simp only [go_sem, polyC, W3, F0]); (all_goals repeat' (first | apply And.intro | intro _)))
  | ((all_goals refine call_draw (fun k => k) _ [] (fun _ _ => rfl) (by first | rfl | (simp only [go_sem, polyC, W3, F0] <;> rfl)) ((times_ (T3.plus ⟨a0, a1, a2⟩ ⟨(lev (held.take 8)), (lev ((held.drop 8).take 8)), 1⟩) r0 r1 (hab _ _ _ _ hlen hn) hr).plain fun _ _ h => h) ?_ ?_); (all_goals try (refine And.intro ?_ (And.intro ?_ (And.intro ?_ ?_)) <;> first | rfl | simp only [go_sem])); (all_goals simp only [go_sem, polyC, W3, F0]); (all_goals repeat' (first | apply And.intro | intro _)))
  | refine seq_k fun zN zM zhN zhM => ?_
  | (refine condF_k ?_ ?_; focus (first | rfl | (simp [go_sem, polyC, W3, F0]; done)))
set_option maxHeartbeats 1600000 in
set_option maxRecDepth 100000 in
theorem soak_lo (r0 r1 p0 p1 a0 a1 a2 : UInt64) (held : List UInt8) (hh : held.length = 16) (ha : val3 a0 a1 a2 < pP) (hr : r1.toNat < 1152921504606846976) (k : Nat) (hk : k < 16) (hz : ∀ j, k ≤ j → j < 16 → held.getD j 0 = 0) (h8 : k < 8) :
 Ct Try.prog 44 [.w (.agg (polyC r0 r1 p0 p1 a0 a1 a2 held (k : Int)))] (fun v m => v = .w (.agg (polyC r0 r1 p0 p1 (sp0 (soakV a0 a1 a2 r0 r1 (held.take k))) (sp1 (soakV a0 a1 a2 r0 r1 (held.take k))) (sp2 (soakV a0 a1 a2 r0 r1 (held.take k))) (List.replicate 16 0) 0))) := by
 have hm : ∀ l : List UInt8, l.length = 8 → chunks 1 8 (List.map PL.u8 l) = byteRows l := fun l h => chunks_bytes' h
 have hm0 := hm (held.take 8) (by simp [hh])
 have hm1 := hm ((held.drop 8).take 8) (by simp [hh])
 have ha4 : a2.toNat < 4 := by have h0 := a0.toNat_lt; have h1 := a1.toNat_lt; simp only [val3, pP] at ha; omega
 have hab : ∀ x y z : UInt64, ∀ l : List UInt8, l.length ≤ 16 → val3 x y z = leN l + 256 ^ l.length → (T3.plus ⟨a0, a1, a2⟩ ⟨x, y, z⟩).val < 2722258935367507707706996859454145691648 := fun x y z l hl hn => by
  have hb := blk_lt hl
  have ha3 : val3 a0 a1 a2 < 1361129467683753853853498429727072845819 := ha
  rw [plus_val _ _ (by show val3 a0 a1 a2 + val3 x y z < _; rw [hn]; omega)]
  show val3 a0 a1 a2 + val3 x y z < _
  rw [hn]; omega
 have hlen : (held.take k).length ≤ 16 := by rw [List.length_take]; omega
 have hc1 : ((k : Nat) : Int) < 16 := by omega
 have hq0 : ¬ (8 : Int) = 0 := by omega
 have hn := (short_val hh hk hz).1 h8
 have hq1 : ((k : Nat) : Int).tdiv 8 = 0 := by rw [show ((k : Nat) : Int).tdiv 8 = ((k / 8 : Nat) : Int) from rfl]; omega
 have hq2 : ((k : Nat) : Int).tmod 8 = ((k : Nat) : Int) := by rw [show ((k : Nat) : Int).tmod 8 = ((k % 8 : Nat) : Int) from rfl]; omega
 have hq3 : Go.RowKit.wrap64 (8 * ((k : Nat) : Int)) = ((8 * k : Nat) : Int) := wnat (by omega) (by omega)
 have hq4 : (0 : Int) ≤ ((8 * k : Nat) : Int) := by omega
 obtain ⟨hs0, hs1, hs2⟩ := soak_of (x := (lev (held.take 8)) ||| shl64 1 (8 * k)) (y := (lev ((held.drop 8).take 8))) (z := 0) hn hlen ha hr
 have F0 := And.intro hh <| And.intro hm0 <| And.intro hm1 <| And.intro hs0 <| And.intro hs1 <| And.intro hs2 <| And.intro hc1 <| And.intro hq0 <| And.intro hq1 <| And.intro hq2 <| And.intro hq3 <| hq4
 refine Ct.k Try.func44 rfl Try.ntmps44 (congrArg Array.toList Try.results44) (by simp) fun w0 ro => ?_
 refine top_k fun zZ zhZ => ?_
 iterate 27 first
  | (refine sr_k fun zK zhK => ?_; simp only [go_sem, polyC, W3, Int.toNat_one, F0]; (repeat' (first | apply And.intro | intro _)))
  | refine zhK _ ?_
  | refine zhK _ _ trivial ?_
  | (refine sd_k (id := 2) [7, 8, 9, 10, 11, 4] [0, 1, 0, 7, 15, 0, 63] [] mixed (by kernel_rfl) (by simp only [go_sem]) fun zK zhK => ?_; simp only [go_sem, polyC, W3, Int.toNat_one, F0]; (repeat' (first | apply And.intro | intro _)))
  | (refine draw_k (id := 5) [16, 17, 18, 19, 20, 21, 22, 23, 24, 25, 26, 27] [0, 1, 3, 7, 15, 0, 32, 96, 224, 480, 1023, 2047, 4095] [] mixed (by kernel_rfl) (by simp only [go_sem]) fun zK zhK => ?_; simp only [go_sem, polyC, W3, Int.toNat_one, F0]; (repeat' (first | apply And.intro | intro _)))
  | (refine zhN _ ?_; clear zhN zhM)
  | (refine sd_k (id := 6) [28, 29, 30, 31, 32, 33, 34, 35] [0, 1, 0, 7, 0, 16, 63, 127, 255] [] mixed (by kernel_rfl) (by simp only [go_sem]) fun zK zhK => ?_; simp only [go_sem, polyC, W3, Int.toNat_one, F0]; (repeat' (first | apply And.intro | intro _)))
  | refine ret_k ?_
  | (refine zhZ _ _ ?_; simp only [go_sem, polyC, W3, Int.toNat_one, F0]; (all_goals (rw [hs0, hs1, hs2])))
  | ((all_goals refine call_draw (fun k => k) _ [] (fun _ _ => rfl) (by first | rfl | (simp only [go_sem, polyC, W3, Int.toNat_one, F0] <;> rfl)) ((half_ _ (by first | (simp [List.length_take, List.length_drop, hh]; done) | (simp [List.length_take, List.length_drop, hh]; omega)) _).plain fun _ _ h => h) ?_ ?_); (all_goals try (refine And.intro ?_ (And.intro ?_ (And.intro ?_ ?_)) <;> first | rfl | simp only [go_sem])); (all_goals simp only [go_sem, polyC, W3, Int.toNat_one, F0]); (all_goals repeat' (first | apply And.intro | intro _)))
  | ((all_goals (refine call_draw (fun k => k) _ [] (fun _ _ => rfl) ?_ ((plus_ ⟨a0, a1, a2⟩ ⟨(lev (held.take 8)) ||| shl64 1 (8 * k), (lev ((held.drop 8).take 8)), 0⟩).plain fun _ _ h => h) ?_ ?_; focus (first | rfl | (simp only [go_sem, polyC, W3, Int.toNat_one, F0] <;> rfl)))); (all_goals try (refine And.intro ?_ (And.intro ?_ (And.intro ?_ ?_)) <;> first | rfl | simp only [go_sem])); (all_goals simp only [go_sem, polyC, W3, Int.toNat_one, F0]); (all_goals repeat' (first | apply And.intro | intro _)))
  | ((all_goals refine call_draw (fun k => k) _ [] (fun _ _ => rfl) (by first | rfl | (simp only [go_sem, polyC, W3, Int.toNat_one, F0] <;> rfl)) ((times_ (T3.plus ⟨a0, a1, a2⟩ ⟨(lev (held.take 8)) ||| shl64 1 (8 * k), (lev ((held.drop 8).take 8)), 0⟩) r0 r1 (hab _ _ _ _ hlen hn) hr).plain fun _ _ h => h) ?_ ?_); (all_goals try (refine And.intro ?_ (And.intro ?_ (And.intro ?_ ?_)) <;> first | rfl | simp only [go_sem])); (all_goals simp only [go_sem, polyC, W3, Int.toNat_one, F0]); (all_goals repeat' (first | apply And.intro | intro _)))
  | refine seq_k fun zN zM zhN zhM => ?_
  | (refine condT_k ?_ ?_; focus (first | rfl | (simp [go_sem, polyC, W3, Int.toNat_one, F0]; done)))
set_option maxHeartbeats 1600000 in
set_option maxRecDepth 100000 in
theorem soak_hi (r0 r1 p0 p1 a0 a1 a2 : UInt64) (held : List UInt8) (hh : held.length = 16) (ha : val3 a0 a1 a2 < pP) (hr : r1.toNat < 1152921504606846976) (k : Nat) (hk : k < 16) (hz : ∀ j, k ≤ j → j < 16 → held.getD j 0 = 0) (h8 : 8 ≤ k) :
 Ct Try.prog 44 [.w (.agg (polyC r0 r1 p0 p1 a0 a1 a2 held (k : Int)))] (fun v m => v = .w (.agg (polyC r0 r1 p0 p1 (sp0 (soakV a0 a1 a2 r0 r1 (held.take k))) (sp1 (soakV a0 a1 a2 r0 r1 (held.take k))) (sp2 (soakV a0 a1 a2 r0 r1 (held.take k))) (List.replicate 16 0) 0))) := by
 have hm : ∀ l : List UInt8, l.length = 8 → chunks 1 8 (List.map PL.u8 l) = byteRows l := fun l h => chunks_bytes' h
 have hm0 := hm (held.take 8) (by simp [hh])
 have hm1 := hm ((held.drop 8).take 8) (by simp [hh])
 have ha4 : a2.toNat < 4 := by have h0 := a0.toNat_lt; have h1 := a1.toNat_lt; simp only [val3, pP] at ha; omega
 have hab : ∀ x y z : UInt64, ∀ l : List UInt8, l.length ≤ 16 → val3 x y z = leN l + 256 ^ l.length → (T3.plus ⟨a0, a1, a2⟩ ⟨x, y, z⟩).val < 2722258935367507707706996859454145691648 := fun x y z l hl hn => by
  have hb := blk_lt hl
  have ha3 : val3 a0 a1 a2 < 1361129467683753853853498429727072845819 := ha
  rw [plus_val _ _ (by show val3 a0 a1 a2 + val3 x y z < _; rw [hn]; omega)]
  show val3 a0 a1 a2 + val3 x y z < _
  rw [hn]; omega
 have hlen : (held.take k).length ≤ 16 := by rw [List.length_take]; omega
 have hc1 : ((k : Nat) : Int) < 16 := by omega
 have hq0 : ¬ (8 : Int) = 0 := by omega
 have hn := (short_val hh hk hz).2 h8
 have hq1 : ((k : Nat) : Int).tdiv 8 = 1 := by rw [show ((k : Nat) : Int).tdiv 8 = ((k / 8 : Nat) : Int) from rfl]; omega
 have hq2 : ((k : Nat) : Int).tmod 8 = ((k - 8 : Nat) : Int) := by rw [show ((k : Nat) : Int).tmod 8 = ((k % 8 : Nat) : Int) from rfl]; omega
 have hq3 : Go.RowKit.wrap64 (8 * ((k - 8 : Nat) : Int)) = ((8 * (k - 8) : Nat) : Int) := wnat (by omega) (by omega)
 have hq4 : (0 : Int) ≤ ((8 * (k - 8) : Nat) : Int) := by omega
 obtain ⟨hs0, hs1, hs2⟩ := soak_of (x := (lev (held.take 8))) (y := (lev ((held.drop 8).take 8)) ||| shl64 1 (8 * (k - 8))) (z := 0) hn hlen ha hr
 have F0 := And.intro hh <| And.intro hm0 <| And.intro hm1 <| And.intro hs0 <| And.intro hs1 <| And.intro hs2 <| And.intro hc1 <| And.intro hq0 <| And.intro hq1 <| And.intro hq2 <| And.intro hq3 <| hq4
 refine Ct.k Try.func44 rfl Try.ntmps44 (congrArg Array.toList Try.results44) (by simp) fun w0 ro => ?_
 refine top_k fun zZ zhZ => ?_
 iterate 27 first
  | (refine sr_k fun zK zhK => ?_; simp only [go_sem, polyC, W3, Int.toNat_one, F0]; (repeat' (first | apply And.intro | intro _)))
  | refine zhK _ ?_
  | refine zhK _ _ trivial ?_
  | (refine sd_k (id := 2) [7, 8, 9, 10, 11, 4] [0, 1, 0, 7, 15, 0, 63] [] mixed (by kernel_rfl) (by simp only [go_sem]) fun zK zhK => ?_; simp only [go_sem, polyC, W3, Int.toNat_one, F0]; (repeat' (first | apply And.intro | intro _)))
  | (refine draw_k (id := 5) [16, 17, 18, 19, 20, 21, 22, 23, 24, 25, 26, 27] [0, 1, 3, 7, 15, 0, 32, 96, 224, 480, 1023, 2047, 4095] [] mixed (by kernel_rfl) (by simp only [go_sem]) fun zK zhK => ?_; simp only [go_sem, polyC, W3, Int.toNat_one, F0]; (repeat' (first | apply And.intro | intro _)))
  | (refine zhN _ ?_; clear zhN zhM)
  | (refine sd_k (id := 6) [28, 29, 30, 31, 32, 33, 34, 35] [0, 1, 0, 7, 0, 16, 63, 127, 255] [] mixed (by kernel_rfl) (by simp only [go_sem]) fun zK zhK => ?_; simp only [go_sem, polyC, W3, Int.toNat_one, F0]; (repeat' (first | apply And.intro | intro _)))
  | refine ret_k ?_
  | (refine zhZ _ _ ?_; simp only [go_sem, polyC, W3, Int.toNat_one, F0]; (all_goals (rw [hs0, hs1, hs2])))
  | ((all_goals refine call_draw (fun k => k) _ [] (fun _ _ => rfl) (by first | rfl | (simp only [go_sem, polyC, W3, Int.toNat_one, F0] <;> rfl)) ((half_ _ (by first | (simp [List.length_take, List.length_drop, hh]; done) | (simp [List.length_take, List.length_drop, hh]; omega)) _).plain fun _ _ h => h) ?_ ?_); (all_goals try (refine And.intro ?_ (And.intro ?_ (And.intro ?_ ?_)) <;> first | rfl | simp only [go_sem])); (all_goals simp only [go_sem, polyC, W3, Int.toNat_one, F0]); (all_goals repeat' (first | apply And.intro | intro _)))
  | ((all_goals (refine call_draw (fun k => k) _ [] (fun _ _ => rfl) ?_ ((plus_ ⟨a0, a1, a2⟩ ⟨(lev (held.take 8)), (lev ((held.drop 8).take 8)) ||| shl64 1 (8 * (k - 8)), 0⟩).plain fun _ _ h => h) ?_ ?_; focus (first | rfl | (simp only [go_sem, polyC, W3, Int.toNat_one, F0] <;> rfl)))); (all_goals try (refine And.intro ?_ (And.intro ?_ (And.intro ?_ ?_)) <;> first | rfl | simp only [go_sem])); (all_goals simp only [go_sem, polyC, W3, Int.toNat_one, F0]); (all_goals repeat' (first | apply And.intro | intro _)))
  | ((all_goals refine call_draw (fun k => k) _ [] (fun _ _ => rfl) (by first | rfl | (simp only [go_sem, polyC, W3, Int.toNat_one, F0] <;> rfl)) ((times_ (T3.plus ⟨a0, a1, a2⟩ ⟨(lev (held.take 8)), (lev ((held.drop 8).take 8)) ||| shl64 1 (8 * (k - 8)), 0⟩) r0 r1 (hab _ _ _ _ hlen hn) hr).plain fun _ _ h => h) ?_ ?_); (all_goals try (refine And.intro ?_ (And.intro ?_ (And.intro ?_ ?_)) <;> first | rfl | simp only [go_sem])); (all_goals simp only [go_sem, polyC, W3, Int.toNat_one, F0]); (all_goals repeat' (first | apply And.intro | intro _)))
  | refine seq_k fun zN zM zhN zhM => ?_
  | (refine condT_k ?_ ?_; focus (first | rfl | (simp [go_sem, polyC, W3, Int.toNat_one, F0]; done)))
end Go.Sy

