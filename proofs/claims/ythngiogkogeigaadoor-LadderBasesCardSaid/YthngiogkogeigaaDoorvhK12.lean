/- Products in sixteen digits: the walk. -/
import Derived.Test.YthngiogkogeigaaDoorvhK8
import Derived.Test.YthngiogkogeigaaDoorvE3
import Derived.Test.YthngiogkogeigaaDoorvQ7
set_option linter.unusedVariables false
set_option linter.unusedSimpArgs false
namespace Go.Sy
open Go.Proofs
attribute [local irreducible] atCall HT runOps runD onC onE onO onG goV goA goS onSt onGuard
def z16 : List UInt64 := List.replicate 16 0
theorem z16_length : z16.length = 16 := rfl
set_option maxHeartbeats 3200000 in
set_option maxRecDepth 100000 in
theorem product_ (x y : List UInt64) (hx : x.length = 16) (hy : y.length = 16) (h1 : ∀ i, i < 16 → (fL x i).toNat < 65536) (h2 : ∀ i, i < 16 → (fL y i).toNat < 65536) :
 CtM Tryd.prog 22 [.w (.agg (u64C x)), .w (.agg (u64C y))] [(1000000, ⟨false, u64C prdL⟩)] (Told (fun v m => v = .w (.agg (u64C (D16 ((valB 65536 x * valB 65536 y) % p25)))) ∧ m = [])) := by
 refine CtM.k Tryd.func22 rfl Tryd.ntmps22 (congrArg Array.toList Tryd.results22) (by simp) fun w0 ro may fx => ?_
 refine sr_k fun K1 hK1 => ?_
 simp only [go_sem, hx, hy]
 repeat' (first | apply And.intro | intro _)
 refine hK1 _ ?_
 refine sr_k fun K2 hK2 => ?_
 simp only [go_sem, hx, hy]
 repeat' (first | apply And.intro | intro _)
 refine hK2 _ ?_
 refine seq_k fun N3 M3 hN3 hM3 => ?_
 refine sr_k fun K4 hK4 => ?_
 simp only [go_sem, hx, hy]
 repeat' (first | apply And.intro | intro _)
 refine hK4 _ ?_
 refine block_k fun B5 bn5 bx5 br5 bi5 => ?_
 refine ht_dropE [0, 1, 2] ?_
 simp only [dropE_mk, fgt_nil, fgt_cons, List.contains_cons, List.contains_nil, Nat.reduceBEq, beq_self_eq_true, Bool.or_false, Bool.or_true, Bool.true_or, Bool.false_or, Bool.false_eq_true, reduceIte]
 refine loop_k (fun y => [(13, .w (.one (.pl (.i ((y.1.1 : Nat) : Int)))))]) (fun y => [(5, ⟨false, u64C y.1.2⟩)]) (fun y => 16 - y.1.1) (⟨(0, z32), Nat.zero_le _, pri_zero x y⟩ : {p : Nat × List UInt64 // p.1 ≤ 16 ∧ PrI x y p.1 p.2}) ?_ ?_ ?_
 · (simp only [go_sem, leX, List.cons_append, List.nil_append]; first | done | rfl | (simp; done))
 · (first | rfl | (simp only [go_sem, leX, List.cons_append, List.nil_append]; first | done | rfl | (simp [leX, look]; done)))
 intro yy N6 M6 hN6 hM6
 simp only [List.cons_append, List.nil_append]
 obtain ⟨⟨i, z⟩, hi9, hpz⟩ := yy
 simp only at hi9 hpz
 rcases Nat.lt_or_ge i 16 with hil | hig
 · have hci : ((i : Nat) : Int) < 16 := by omega
   have hci0 : (0 : Int) ≤ ((i : Nat) : Int) := by omega
   have hi1 : i + 1 ≤ 16 := by omega
   have hzl := hpz.len
   have ox := u64_one (l := x) (i := i) (by omega)
   change _ = [L.pl (PL.u64 (fL x i))] at ox
   have hsi : Go.RowKit.wrap64 (((i : Nat) : Int) + 1) = ((i + 1 : Nat) : Int) := wnat (by omega) (by omega)
   have F6 := And.intro hci <| And.intro hci0 <| And.intro hi1 <| And.intro hzl <| And.intro ox <| hsi
   refine sr_k fun K7 hK7 => ?_
   simp only [go_sem, hx, hy, F6]
   repeat' (first | apply And.intro | intro _)
   refine hK7 _ ?_
   refine seq_k fun N8 M8 hN8 hM8 => ?_
   refine condT_k (by first | rfl | (simp [go_sem, hx, hy, F6]; done)) ?_
   refine skip_k ?_
   refine hN8 _ ?_
   refine seq_k fun N9 M9 hN9 hM9 => ?_
   refine block_k fun B10 bn10 bx10 br10 bi10 => ?_
   refine sr_k fun K11 hK11 => ?_
   simp only [go_sem, hx, hy, F6]
   repeat' (first | apply And.intro | intro _)
   refine hK11 _ ?_
   refine sr_k fun K12 hK12 => ?_
   simp only [go_sem, hx, hy, F6]
   repeat' (first | apply And.intro | intro _)
   refine hK12 _ ?_
   refine block_k fun B13 bn13 bx13 br13 bi13 => ?_
   refine loop_k (fun y => [(18, .w (.one (.pl (.i ((y.1.1 : Nat) : Int)))))]) (fun y => [(5, ⟨false, u64C y.1.2⟩)]) (fun y => 16 - y.1.1) (⟨(0, z), Nat.zero_le _, prj_zero hpz⟩ : {p : Nat × List UInt64 // p.1 ≤ 16 ∧ PrJ x y i p.1 p.2}) ?_ ?_ ?_
   · (simp only [go_sem, leX, List.cons_append, List.nil_append]; first | done | rfl | (simp; done))
   · (first | rfl | (simp only [go_sem, leX, List.cons_append, List.nil_append]; first | done | rfl | (simp [leX, look]; done)))
   intro y2 N14 M14 hN14 hM14
   simp only [List.cons_append, List.nil_append]
   obtain ⟨⟨j, zz⟩, hj9, hpj⟩ := y2
   simp only at hj9 hpj
   rcases Nat.lt_or_ge j 16 with hjl | hjg
   · have hcj : ((j : Nat) : Int) < 16 := by omega
     have hcj0 : (0 : Int) ≤ ((j : Nat) : Int) := by omega
     have hj1 : j + 1 ≤ 16 := by omega
     have hzl2 := hpj.len
     have oy := u64_one (l := y) (i := j) (by omega)
     change _ = [L.pl (PL.u64 (fL y j))] at oy
     have oz := u64_one (l := zz) (i := i + j) (by omega)
     change _ = [L.pl (PL.u64 (fL zz (i + j)))] at oz
     have hij0 : (0 : Int) ≤ ((i + j : Nat) : Int) := by omega
     have hij1 : ((i + j : Nat) : Int) < 32 := by omega
     have hij2 : i + j + 1 ≤ 32 := by omega
     have hstep := prj_step h1 h2 hil hjl hpj
     have p0 := put_set64 (q := zz) (j := i + j) (fL zz (i + j) + fL x i * fL y j) (by omega)
     obtain ⟨z3, hz3⟩ : ∃ q, zz.set (i + j) (fL zz (i + j) + fL x i * fL y j) = q := ⟨_, rfl⟩
     rw [hz3] at p0 hstep
     obtain ⟨hsj, hwij⟩ : Go.RowKit.wrap64 (((j : Nat) : Int) + 1) = ((j + 1 : Nat) : Int) ∧ Go.RowKit.wrap64 (((i : Nat) : Int) + ((j : Nat) : Int)) = ((i + j : Nat) : Int) := ⟨wnat (by omega) (by omega), wnat (by omega) (by omega)⟩
     have F14 := And.intro hcj <| And.intro hcj0 <| And.intro hj1 <| And.intro hzl2 <| And.intro oy <| And.intro oz <| And.intro hij0 <| And.intro hij1 <| And.intro hij2 <| And.intro p0 <| And.intro hsj <| hwij
     refine sr_k fun K15 hK15 => ?_
     simp only [go_sem, hx, hy, F6, F14]
     repeat' (first | apply And.intro | intro _)
     refine hK15 _ ?_
     refine seq_k fun N16 M16 hN16 hM16 => ?_
     refine condT_k (by first | rfl | (simp [go_sem, hx, hy, F6, F14]; done)) ?_
     refine skip_k ?_
     refine hN16 _ ?_
     refine seq_k fun N17 M17 hN17 hM17 => ?_
     refine block_k fun B18 bn18 bx18 br18 bi18 => ?_
     refine sr_k fun K19 hK19 => ?_
     simp only [go_sem, hx, hy, F6, F14]
     repeat' (first | apply And.intro | intro _)
     refine hK19 _ ?_
     refine region_k fun K20 hK20 => ?_
     simp only [go_sem, hx, hy, F6, F14]
     repeat' (first | apply And.intro | intro _)
     refine hK20 _ ?_
     refine bn18 _ ?_
     refine hN17 _ ?_
     refine region_k fun K21 hK21 => ?_
     simp only [go_sem, hx, hy, F6, F14]
     repeat' (first | apply And.intro | intro _)
     refine hK21 _ ?_
     refine hN14 ⟨(j + 1, z3), hjl, hstep⟩ _ ?_ ?_ ?_
     · (exact Nat.sub_lt_sub_left hjl (Nat.lt_succ_self j))
     · (simp only [go_sem, leX, List.cons_append, List.nil_append]; try simp)
     · (simp only [go_sem, leX, List.cons_append, List.nil_append]; try simp)
   · obtain rfl : j = 16 := by omega
     have hcq : ¬ ((16 : Nat) : Int) < 16 := by omega
     have hfull := prj_full hpj
     refine sr_k fun K22 hK22 => ?_
     simp only [go_sem, hx, hy, F6, hcq]
     repeat' (first | apply And.intro | intro _)
     refine hK22 _ ?_
     refine seq_k fun N23 M23 hN23 hM23 => ?_
     refine condF_k (by first | rfl | (simp [go_sem, hx, hy, F6, hcq]; done)) ?_
     refine exit_k ?_
     refine hM23 _ _ ?_
     refine hM14 _ _ ?_
     refine bx13 _ ?_
     refine bn10 _ ?_
     refine hN9 _ ?_
     refine region_k fun K24 hK24 => ?_
     simp only [go_sem, hx, hy, F6, hcq]
     repeat' (first | apply And.intro | intro _)
     refine hK24 _ ?_
     refine hN6 ⟨(i + 1, zz), hil, hfull⟩ _ ?_ ?_ ?_
     · (exact Nat.sub_lt_sub_left hil (Nat.lt_succ_self i))
     · (simp only [go_sem, leX, List.cons_append, List.nil_append]; try simp)
     · (simp only [go_sem, leX, List.cons_append, List.nil_append]; try simp)
 · obtain rfl : i = 16 := by omega
   have hcq : ¬ ((16 : Nat) : Int) < 16 := by omega
   have hzl := hpz.len
   refine sr_k fun K25 hK25 => ?_
   simp only [go_sem, hx, hy, hcq, hzl]
   repeat' (first | apply And.intro | intro _)
   refine hK25 _ ?_
   refine seq_k fun N26 M26 hN26 hM26 => ?_
   refine condF_k (by first | rfl | (simp [go_sem, hx, hy, hcq, hzl]; done)) ?_
   refine exit_k ?_
   refine hM26 _ _ ?_
   refine hM6 _ _ ?_
   refine bx5 _ ?_
   refine hN3 _ ?_
   refine sr_k fun K27 hK27 => ?_
   simp only [go_sem, hx, hy, hcq, hzl]
   repeat' (first | apply And.intro | intro _)
   refine hK27 _ ?_
   refine seq_k fun N28 M28 hN28 hM28 => ?_
   refine sr_k fun K29 hK29 => ?_
   simp only [go_sem, hx, hy, hcq, hzl]
   repeat' (first | apply And.intro | intro _)
   refine hK29 _ ?_
   refine block_k fun B30 bn30 bx30 br30 bi30 => ?_
   refine ht_dropE [0, 1, 2, 3, 6, 7, 8, 9, 12, 13, 14, 15, 16, 17, 18, 19, 20, 21, 22, 23, 24, 25, 26, 27, 28, 29, 30, 31, 32, 33] ?_
   simp only [dropE_mk, fgt_nil, fgt_cons, List.contains_cons, List.contains_nil, Nat.reduceBEq, beq_self_eq_true, Bool.or_false, Bool.or_true, Bool.true_or, Bool.false_or, Bool.false_eq_true, reduceIte]
   refine loop_k (fun y => [(34, .w (.one (.pl (.i ((y.1 : Nat) : Int)))))]) (fun k => [(10, ⟨false, u64C (preL (fun i => fL z i + 38 * fL z (16 + i)) k.1 z16)⟩)]) (fun y => 16 - y.1) (⟨0, Nat.zero_le _⟩ : {y : Nat // y ≤ 16}) ?_ ?_ ?_
   · (simp only [go_sem, leX, List.cons_append, List.nil_append]; first | done | rfl | (simp; done))
   · (simp only [preL_zero]; (first | rfl | (simp only [go_sem, leX, List.cons_append, List.nil_append]; first | done | rfl | (simp [leX, look]; done))))
   intro y3 N31 M31 hN31 hM31
   simp only [List.cons_append, List.nil_append]
   obtain ⟨k, hk9⟩ := y3
   rcases Nat.lt_or_ge k 16 with hlt | hge
   · have hcq : ((k : Nat) : Int) < 16 := by omega
     have hc0 : (0 : Int) ≤ ((k : Nat) : Int) := by omega
     have hk1 : k + 1 ≤ 16 := by omega
     have g5 : ((k : Nat) : Int) < 32 ∧ k + 1 ≤ 32 ∧ (0 : Int) ≤ ((16 + k : Nat) : Int) ∧ ((16 + k : Nat) : Int) < 32 ∧ 16 + k + 1 ≤ 32 := by omega
     obtain ⟨w, hw⟩ : ∃ q, preL (fun i => fL z i + 38 * fL z (16 + i)) k z16 = q := ⟨_, rfl⟩
     have hwl : w.length = 16 := by rw [← hw, preL_length (by rw [z16_length]; omega), z16_length]
     have hset : w.set k (fL z k + 38 * fL z (16 + k)) = preL (fun i => fL z i + 38 * fL z (16 + i)) (k + 1) z16 := by rw [← hw]; exact preL_set (f := fun i => fL z i + 38 * fL z (16 + i)) (by rw [z16_length]; omega)
     have o1 := u64_one (l := z) (i := k) (by omega)
     change _ = [L.pl (PL.u64 (fL z k))] at o1
     have o2 := u64_one (l := z) (i := 16 + k) (by omega)
     change _ = [L.pl (PL.u64 (fL z (16 + k)))] at o2
     have p0 := put_set64 (q := w) (j := k) (fL z k + 38 * fL z (16 + k)) (by omega)
     rw [hset] at p0
     simp only [hw]
     obtain ⟨hs1, hw2⟩ : Go.RowKit.wrap64 (((k : Nat) : Int) + 1) = ((k + 1 : Nat) : Int) ∧ Go.RowKit.wrap64 (((k : Nat) : Int) + 16) = ((16 + k : Nat) : Int) := ⟨wnat (by omega) (by omega), wnat (by omega) (by omega)⟩
     have F31 := And.intro hcq <| And.intro hc0 <| And.intro hk1 <| And.intro g5 <| And.intro hwl <| And.intro o1 <| And.intro o2 <| And.intro p0 <| And.intro hs1 <| hw2
     refine sr_k fun K32 hK32 => ?_
     simp only [go_sem, hx, hy, hcq, hzl, F31]
     repeat' (first | apply And.intro | intro _)
     refine hK32 _ ?_
     refine seq_k fun N33 M33 hN33 hM33 => ?_
     refine condT_k (by first | rfl | (simp [go_sem, hx, hy, hcq, hzl, F31]; done)) ?_
     refine skip_k ?_
     refine hN33 _ ?_
     refine seq_k fun N34 M34 hN34 hM34 => ?_
     refine block_k fun B35 bn35 bx35 br35 bi35 => ?_
     refine sr_k fun K36 hK36 => ?_
     simp only [go_sem, hx, hy, hcq, hzl, F31]
     repeat' (first | apply And.intro | intro _)
     refine hK36 _ ?_
     refine draw_k [37, 38, 39, 40, 41, 42, 43, 44, 45, 46, 47] [0, 0, 2, 6, 0, 16, 48, 112, 240, 510, 1023, 2047] [] mixed (by kernel_rfl) (by simp only [go_sem]) fun K37 hK37 => ?_
     simp only [go_sem, hx, hy, hcq, hzl, F31]
     repeat' (first | apply And.intro | intro _)
     refine hK37 _ _ trivial ?_
     refine bn35 _ ?_
     refine hN34 _ ?_
     refine region_k fun K38 hK38 => ?_
     simp only [go_sem, hx, hy, hcq, hzl, F31]
     repeat' (first | apply And.intro | intro _)
     refine hK38 _ ?_
     refine hN31 ⟨k + 1, hlt⟩ _ ?_ ?_ ?_
     · (exact Nat.sub_lt_sub_left hlt (Nat.lt_succ_self k))
     · (simp only [go_sem, leX, List.cons_append, List.nil_append]; try simp)
     · (simp only [go_sem, leX, List.cons_append, List.nil_append]; try simp)
   · obtain rfl : k = 16 := by omega
     have hcq : ¬ ((16 : Nat) : Int) < 16 := by omega
     obtain ⟨hwv, hwd⟩ := folD_val hx hy hpz
     obtain ⟨w, hw⟩ : ∃ w, folD z = w := ⟨_, rfl⟩
     have hwl : w.length = 16 := by rw [← hw]; exact folD_length z
     rw [hw] at hwv hwd
     have hpw : preL (fun i => fL z i + 38 * fL z (16 + i)) 16 z16 = w := by rw [← hw]; exact preL_full rfl
     simp only [hpw]
     have hC := carried_ w hwl hwd
     rw [hwv] at hC
     obtain ⟨r, hr⟩ : ∃ q9, D16 ((valB 65536 x * valB 65536 y) % p25) = q9 := ⟨_, rfl⟩
     have hrl : r.length = 16 := by rw [← hr]; rfl
     rw [hr] at hC
     have hfin : u64C (D16 ((valB 65536 x * valB 65536 y) % p25)) = u64C r := by rw [hr]
     have F38 := And.intro hcq <| And.intro hwl <| hrl
     refine sr_k fun K39 hK39 => ?_
     simp only [go_sem, hx, hy, hcq, hzl, F38]
     repeat' (first | apply And.intro | intro _)
     refine hK39 _ ?_
     refine seq_k fun N40 M40 hN40 hM40 => ?_
     refine condF_k (by first | rfl | (simp [go_sem, hx, hy, hcq, hzl, F38]; done)) ?_
     refine exit_k ?_
     refine hM40 _ _ ?_
     refine hM31 _ _ ?_
     refine bx30 _ ?_
     refine hN28 _ ?_
     refine sr_k fun K41 hK41 => ?_
     simp only [go_sem, hx, hy, hcq, hzl, F38]
     repeat' (first | apply And.intro | intro _)
     all_goals (refine call_hand false [] (fun k => k) (fun _ _ => rfl) ?_ (by decide) ?_ hC.told ?_; iterate 2 (focus (first | rfl | (simp only [go_sem, hx, hy, hcq, hzl, F38] <;> first | done | rfl | simp))))
     all_goals (rintro v m ⟨hR, hm⟩; subst hR; subst hm)
     all_goals (refine And.intro ?_ (And.intro ?_ (And.intro ?_ ?_)); iterate 3 (focus (first | rfl | (simp only [go_sem, hx, hy, hcq, hzl, F38]; done) | (simp [go_sem, look, hx, hy, hcq, hzl, F38]; done))))
     all_goals (try simp only [go_sem, hx, hy, hcq, hzl, F38])
     all_goals (try simp only [go_sem, hx, hy, hcq, hzl, F38])
     all_goals repeat' (first | apply And.intro | intro _)
     refine hK41 _ ?_
     refine ret_k ?_
     simp only [go_sem, hx, hy, hcq, hzl, F38]
     all_goals (exact told_plain (plain_u64 _) ⟨by rw [hfin], rfl⟩)
end Go.Sy

