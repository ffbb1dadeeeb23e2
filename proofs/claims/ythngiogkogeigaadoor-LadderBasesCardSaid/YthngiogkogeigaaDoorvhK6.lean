/- Sixteen digits: compared with the prime; taken from words, put back. -/
import Derived.Test.YthngiogkogeigaaDoorvhK5
import Derived.Test.YthngiogkogeigaaDoorvQ4
set_option linter.unusedVariables false
set_option linter.unusedSimpArgs false
namespace Go.Sy
open Go.Proofs
attribute [local irreducible] atCall HT runOps runD onC onE onO onG goV goA goS onSt onGuard
theorem u64_any (k : Nat) (l : List UInt64) : (u64C l).any (L.has k) = false := by
 rw [List.any_eq_false]
 intro x hx
 obtain ⟨y, _, rfl⟩ := List.mem_map.mp hx
 simp [L.has]
theorem u64_ren (e : Nat → Nat) (l : List UInt64) : (u64C l).map (L.ren e) = u64C l := by simp only [u64C, List.map_map]; rfl
theorem nz_65536 : ((65536 : UInt64) = 0) = False := eq_false (by decide)
theorem nz_256 : ((256 : UInt64) = 0) = False := eq_false (by decide)
theorem nz_128 : ((128 : UInt64) = 0) = False := eq_false (by decide)
theorem nz_2 : ((2 : UInt64) = 0) = False := eq_false (by decide)
theorem leavesIn_u64 (vw : Bool) (S : St) (hd : Hand) : ∀ l : List UInt64, leavesIn vw S hd (u64C l) = some (u64C l)
 | [] => rfl
 | x :: l => by
  have ih := leavesIn_u64 vw S hd l
  simp only [u64C] at ih
  simp only [u64C, List.map_cons, leavesIn, leafIn, ih]
theorem leafOut_u64 (vw : Bool) (m : List (Nat × Ob)) (l : List UInt64) : (u64C l).all (leafOut vw m) = true := by
 simp only [u64C, List.all_eq_true, List.mem_map]
 rintro x ⟨y, _, rfl⟩
 simp [leafOut, strictL]
theorem res_u64 (m : List (Nat × Ob)) (l : List UInt64) : (u64C l).all (resL m) = true := by
 simp only [u64C, List.all_eq_true, List.mem_map]
 rintro x ⟨y, _, rfl⟩
 rfl
theorem viewLs_u64 (S : St) : ∀ l : List UInt64, viewLs S (u64C l) = some (u64C l)
 | [] => rfl
 | x :: r => by
  have ih := viewLs_u64 S r
  simp only [u64C] at ih
  simp only [u64C, List.map_cons, viewLs, viewL, ih]
attribute [go_sem] res_u64 viewLs_u64 leavesIn_u64 leafOut_u64 nz_65536 nz_256 nz_128 nz_2 u64_any u64_ren u64_len
theorem plain_u64 (l : List UInt64) : plainV (.w (.agg (u64C l))) = true := by
 simp [plainV, plainW, u64C]
def dn (y : Nat) : Int := (y : Int) - 1
theorem wnat {a : Int} {n : Nat} (h : a = (n : Int)) (hn : n ≤ 9223372036854775807) : Go.RowKit.wrap64 a = (n : Int) := by subst h; exact w64 (by omega)
theorem wdn {k : Nat} (hk : k ≤ 16) : Go.RowKit.wrap64 (((k : Nat) : Int) - 1) = dn k := by
 unfold dn; exact w64 (by omega)
set_option maxHeartbeats 1600000 in
set_option maxRecDepth 100000 in
theorem nb_ (x : List UInt64) (hx : x.length = 16) (hl : ∀ i, i < 16 → (fL x i).toNat < 65536) :
 CtM Tryd.prog 45 [.w (.agg (u64C x))] [(1000000, ⟨false, u64C prdL⟩)] (Told (fun v m => v = .w (.one (.pl (.b (decide (p25 ≤ valB 65536 x))))) ∧ m = [])) := by
 refine CtM.k Tryd.func45 rfl Tryd.ntmps45 (congrArg Array.toList Tryd.results45) (by simp) fun w0 ro may fx => ?_
 refine sr_k fun K1 hK1 => ?_
 simp only [go_sem, hx]
 repeat' (first | apply And.intro | intro _)
 refine hK1 _ ?_
 refine seq_k fun N2 M2 hN2 hM2 => ?_
 refine sr_k fun K3 hK3 => ?_
 simp only [go_sem, hx]
 repeat' (first | apply And.intro | intro _)
 refine hK3 _ ?_
 refine block_k fun B4 bn4 bx4 br4 bi4 => ?_
 refine ht_dropE [0] ?_
 simp only [dropE_mk, fgt_nil, fgt_cons, List.contains_cons, List.contains_nil, Nat.reduceBEq, beq_self_eq_true, Bool.or_false, Bool.or_true, Bool.true_or, Bool.false_or, Bool.false_eq_true, reduceIte]
 refine loop_k (fun y => [(3, .w (.one (.pl (.i (dn y.1)))))]) (fun _ => []) (fun y => y.1) (⟨16, Nat.le_refl _, fun j h1 h2 => absurd h2 (by omega)⟩ : {y : Nat // y ≤ 16 ∧ ∀ j, y ≤ j → j < 16 → fL x j = fL prdL j}) ?_ ?_ ?_
 · (simp only [go_sem, leX, List.cons_append, List.nil_append]; first | done | rfl | (simp [dn]; done))
 · (simp only [go_sem, leX, List.cons_append, List.nil_append]; try simp)
 intro yy N5 M5 hN5 hM5
 simp only [List.cons_append, List.nil_append]
 obtain ⟨y, hy, he⟩ := yy
 have hd : (y = 0) ∨ (∃ k, y = k + 1 ∧ ¬ fL x k = fL prdL k) ∨ (∃ k, y = k + 1 ∧ fL x k = fL prdL k) := by
  cases y with
  | zero => exact .inl rfl
  | succ k =>
   by_cases h : fL x k = fL prdL k
   · exact .inr (.inr ⟨k, rfl, h⟩)
   · exact .inr (.inl ⟨k, rfl, h⟩)
 rcases hd with rfl | ⟨k, rfl, hb⟩ | ⟨k, rfl, hb⟩
 · have hi : dn 0 = -1 := rfl
   have hfin : decide (p25 ≤ valB 65536 x) = true := decide_eq_true (nb_same hx (fun j hj => he j (Nat.zero_le _) hj))
   refine seq_k fun N6 M6 hN6 hM6 => ?_
   refine sr_k fun K7 hK7 => ?_
   simp only [go_sem, hx, hi]
   repeat' (first | apply And.intro | intro _)
   refine hK7 _ ?_
   refine condF_k (by first | rfl | (simp [go_sem, hx, hi]; done)) ?_
   refine exit_k ?_
   refine hM6 _ _ ?_
   refine hM5 _ _ ?_
   refine bx4 _ ?_
   refine hN2 _ ?_
   refine sr_k fun K8 hK8 => ?_
   simp only [go_sem, hx, hi]
   repeat' (first | apply And.intro | intro _)
   refine hK8 _ ?_
   refine ret_k ?_
   simp only [go_sem, hx, hi]
   all_goals (exact told_plain rfl ⟨by rw [hfin], rfl⟩)
 · have hk : k < 16 := by omega
   have hi : dn (k + 1) = ((k : Nat) : Int) := by unfold dn; omega
   have g0 : (0 : Int) ≤ ((k : Nat) : Int) := by omega
   have g1 : ((k : Nat) : Int) < 16 := by omega
   have g2 : k + 1 ≤ 16 := by omega
   have o1 := u64_one (l := x) (i := k) (by omega)
   have o2 := u64_one (l := prdL) (i := k) (by rw [prd_length]; exact hk)
   have hfin : decide (fL prdL k < fL x k) = decide (p25 ≤ valB 65536 x) := decide_eq_decide.mpr (nb_diff hx hl hk (fun j h1 h2 => he j (by omega) h2) hb)
   have hq := eq_false hb
   rw [fL, fL] at hq hfin
   have F8 := And.intro hi <| And.intro g0 <| And.intro g1 <| And.intro g2 <| And.intro o1 <| And.intro o2 <| hq
   refine seq_k fun N9 M9 hN9 hM9 => ?_
   refine sr_k fun K10 hK10 => ?_
   simp only [go_sem, hx, prd_length, F8]
   repeat' (first | apply And.intro | intro _)
   refine hK10 _ ?_
   refine condT_k (by first | rfl | (simp [go_sem, hx, prd_length, F8]; done)) ?_
   refine skip_k ?_
   refine hN9 _ ?_
   refine seq_k fun N11 M11 hN11 hM11 => ?_
   refine block_k fun B12 bn12 bx12 br12 bi12 => ?_
   refine sd_k [8, 9, 10, 11, 12, 13, 14] [0, 1, 3, 0, 8, 24, 63] [] mixed (by kernel_rfl) (by simp only [go_sem]) fun K13 hK13 => ?_
   simp only [go_sem, hx, prd_length, F8]
   repeat' (first | apply And.intro | intro _)
   refine hK13 _ _ trivial ?_
   refine condT_k (by first | rfl | (simp [go_sem, hx, prd_length, F8]; done)) ?_
   refine sd_k [15, 16, 17, 18, 19, 20, 21, 2] [0, 1, 3, 0, 8, 24, 63, 127] [] mixed (by kernel_rfl) (by simp only [go_sem]) fun K14 hK14 => ?_
   simp only [go_sem, hx, prd_length, F8]
   repeat' (first | apply And.intro | intro _)
   refine hK14 _ _ trivial ?_
   refine ret_k ?_
   refine br12 _ ?_
   refine hM11 _ _ ?_
   refine hM5 _ _ ?_
   refine br4 _ ?_
   refine hM2 _ _ ?_
   simp only [go_sem, hx, prd_length, F8]
   all_goals (exact told_plain rfl ⟨by rw [← hfin], rfl⟩)
 · have hk : k < 16 := by omega
   have hi : dn (k + 1) = ((k : Nat) : Int) := by unfold dn; omega
   have g0 : (0 : Int) ≤ ((k : Nat) : Int) := by omega
   have g1 : ((k : Nat) : Int) < 16 := by omega
   have g2 : k + 1 ≤ 16 := by omega
   have o1 := u64_one (l := x) (i := k) (by omega)
   have o2 := u64_one (l := prdL) (i := k) (by rw [prd_length]; exact hk)
   have hq := eq_true hb
   rw [fL, fL] at hq
   have he2 : ∀ j, k ≤ j → j < 16 → fL x j = fL prdL j := fun j h1 h2 => by
    rcases Nat.eq_or_lt_of_le h1 with h | h
    · subst h; exact hb
    · exact he j (by omega) h2
   have hs1 := wdn (k := k) (by omega)
   have F14 := And.intro hi <| And.intro g0 <| And.intro g1 <| And.intro g2 <| And.intro o1 <| And.intro o2 <| And.intro hq <| hs1
   refine seq_k fun N15 M15 hN15 hM15 => ?_
   refine sr_k fun K16 hK16 => ?_
   simp only [go_sem, hx, prd_length, F14]
   repeat' (first | apply And.intro | intro _)
   refine hK16 _ ?_
   refine condT_k (by first | rfl | (simp [go_sem, hx, prd_length, F14]; done)) ?_
   refine skip_k ?_
   refine hN15 _ ?_
   refine seq_k fun N17 M17 hN17 hM17 => ?_
   refine block_k fun B18 bn18 bx18 br18 bi18 => ?_
   refine sd_k [8, 9, 10, 11, 12, 13, 14] [0, 1, 3, 0, 8, 24, 63] [] mixed (by kernel_rfl) (by simp only [go_sem]) fun K19 hK19 => ?_
   simp only [go_sem, hx, prd_length, F14]
   repeat' (first | apply And.intro | intro _)
   refine hK19 _ _ trivial ?_
   refine condF_k (by first | rfl | (simp [go_sem, hx, prd_length, F14]; done)) ?_
   refine skip_k ?_
   refine bn18 _ ?_
   refine hN17 _ ?_
   refine region_k fun K20 hK20 => ?_
   simp only [go_sem, hx, prd_length, F14]
   repeat' (first | apply And.intro | intro _)
   refine hK20 _ ?_
   refine hN5 ⟨k, by omega, he2⟩ _ ?_ ?_ ?_
   · (exact Nat.lt_succ_self k)
   · (simp only [go_sem, leX, List.cons_append, List.nil_append]; try simp)
   · (simp only [go_sem, leX, List.cons_append, List.nil_append]; try simp)
end Go.Sy

