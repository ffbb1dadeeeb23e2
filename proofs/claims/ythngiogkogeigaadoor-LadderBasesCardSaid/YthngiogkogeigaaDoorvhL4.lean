/- Points of the document: doubled; with another. -/
import Derived.Test.YthngiogkogeigaaDoorvhK15
import Derived.Test.YthngiogkogeigaaDoorvE3
import Derived.Test.YthngiogkogeigaaDoorvR1
set_option linter.unusedVariables false
set_option linter.unusedSimpArgs false
namespace Go.Sy
open Go.Proofs
attribute [local irreducible] atCall HT runOps runD onC onE onO onG goV goA goS onSt onGuard
theorem leavesIn_useg (vw : Bool) (S : St) (hd : Hand) (r : List L) : ∀ l : List UInt64, leavesIn vw S hd (u64C l ++ r) = (leavesIn vw S hd r).map (u64C l ++ ·)
 | [] => by simp [u64C]
 | x :: l => by
  have ih := leavesIn_useg vw S hd r l
  simp only [u64C] at ih
  simp only [u64C, List.map_cons, List.cons_append, leavesIn, leafIn, ih]
  cases leavesIn vw S hd r <;> rfl
attribute [go_sem] leavesIn_useg
theorem fS_of {n m : Nat} (hn : n < p25) (hm : m < p25) : (n + (p25 - m) % p25) % p25 = fS n m := dif_mod hn hm
theorem lt_m4 {n : Nat} (h : n < p25) : n < m4 := by
 have := p25_is
 have := m4_is
 omega
def ptC (p : Pt) : List L := u64C (D16 p.x) ++ u64C (D16 p.z)
theorem k_dig : u64C (D16 121666) = [.pl (.u64 56130), .pl (.u64 1), .pl (.u64 0), .pl (.u64 0), .pl (.u64 0), .pl (.u64 0), .pl (.u64 0), .pl (.u64 0), .pl (.u64 0), .pl (.u64 0), .pl (.u64 0), .pl (.u64 0), .pl (.u64 0), .pl (.u64 0), .pl (.u64 0), .pl (.u64 0)] := by rw [show D16 121666 = [56130, 1, 0, 0, 0, 0, 0, 0, 0, 0, 0, 0, 0, 0, 0, 0] from by decide +kernel]; rfl
set_option maxHeartbeats 3200000 in
set_option maxRecDepth 100000 in
theorem rdouble (X0 Z0 : Nat) (l0 : X0 < p25) (l1 : Z0 < p25) :
 CtM Tryd.prog 32 [.w (.agg (ptC ⟨X0, Z0⟩))] [(1000000, ⟨false, u64C prdL⟩)] (Told (fun v m => v = .w (.agg (ptC (dblR ⟨X0, Z0⟩))) ∧ m = [])) := by
 have lkk : (121666 : Nat) < p25 := by decide
 obtain ⟨lxx, lzz⟩ : X0 < p25 ∧ Z0 < p25 := ⟨l0, l1⟩
 obtain ⟨xx, hxx⟩ : ∃ q, D16 X0 = q := ⟨_, rfl⟩
 have hxxl : xx.length = 16 := by rw [← hxx]; rfl
 have hxxd : ∀ i, i < 16 → (fL xx i).toNat < 65536 := by rw [← hxx]; exact D16_lt _
 have hxxv : valB 65536 xx = X0 := by rw [← hxx]; exact D16_val (lt_m4 lxx)
 obtain ⟨zz, hzz⟩ : ∃ q, D16 Z0 = q := ⟨_, rfl⟩
 have hzzl : zz.length = 16 := by rw [← hzz]; rfl
 have hzzd : ∀ i, i < 16 → (fL zz i).toNat < 65536 := by rw [← hzz]; exact D16_lt _
 have hzzv : valB 65536 zz = Z0 := by rw [← hzz]; exact D16_val (lt_m4 lzz)
 obtain ⟨kk, hkk⟩ : ∃ q, D16 121666 = q := ⟨_, rfl⟩
 have hkkl : kk.length = 16 := by rw [← hkk]; rfl
 have hkkd : ∀ i, i < 16 → (fL kk i).toNat < 65536 := by rw [← hkk]; exact D16_lt _
 have hkkv : valB 65536 kk = 121666 := by rw [← hkk]; exact D16_val (lt_m4 lkk)
 obtain ⟨nra, hnra⟩ : ∃ n, fA X0 Z0 = n := ⟨_, rfl⟩
 have lra : nra < p25 := by rw [← hnra]; exact fA_lt _ _
 have k0 := sum_ xx zz hxxl hzzl hxxd hzzd
 rw [hxxv, hzzv] at k0
 rw [show (X0 + Z0) % p25 = fA X0 Z0 from rfl] at k0
 rw [hnra] at k0
 obtain ⟨ra, hra⟩ : ∃ q, D16 nra = q := ⟨_, rfl⟩
 have hral : ra.length = 16 := by rw [← hra]; rfl
 have hrad : ∀ i, i < 16 → (fL ra i).toNat < 65536 := by rw [← hra]; exact D16_lt _
 have hrav : valB 65536 ra = nra := by rw [← hra]; exact D16_val (lt_m4 lra)
 rw [hra] at k0
 obtain ⟨noz, hnoz⟩ : ∃ n, (p25 - Z0) % p25 = n := ⟨_, rfl⟩
 have loz : noz < p25 := by rw [← hnoz]; exact Nat.mod_lt _ p25_pos
 have k1 := opposite_ zz hzzl hzzd (by rw [hzzv]; exact Nat.le_of_lt lzz)
 rw [hzzv, hnoz] at k1
 obtain ⟨oz, hoz⟩ : ∃ q, D16 noz = q := ⟨_, rfl⟩
 have hozl : oz.length = 16 := by rw [← hoz]; rfl
 have hozd : ∀ i, i < 16 → (fL oz i).toNat < 65536 := by rw [← hoz]; exact D16_lt _
 have hozv : valB 65536 oz = noz := by rw [← hoz]; exact D16_val (lt_m4 loz)
 rw [hoz] at k1
 obtain ⟨nrb, hnrb⟩ : ∃ n, fS X0 Z0 = n := ⟨_, rfl⟩
 have lrb : nrb < p25 := by rw [← hnrb]; exact fS_lt _ _
 have k2 := sum_ xx oz hxxl hozl hxxd hozd
 rw [hxxv, hozv, ← hnoz, fS_of lxx lzz] at k2
 rw [hnrb] at k2
 obtain ⟨rb, hrb⟩ : ∃ q, D16 nrb = q := ⟨_, rfl⟩
 have hrbl : rb.length = 16 := by rw [← hrb]; rfl
 have hrbd : ∀ i, i < 16 → (fL rb i).toNat < 65536 := by rw [← hrb]; exact D16_lt _
 have hrbv : valB 65536 rb = nrb := by rw [← hrb]; exact D16_val (lt_m4 lrb)
 rw [hrb] at k2
 obtain ⟨nrs, hnrs⟩ : ∃ n, fM nra nra = n := ⟨_, rfl⟩
 have lrs : nrs < p25 := by rw [← hnrs]; exact fM_lt _ _
 have k3 := product_ ra ra hral hral hrad hrad
 rw [hrav] at k3
 rw [show (nra * nra) % p25 = fM nra nra from rfl] at k3
 rw [hnrs] at k3
 obtain ⟨rs, hrs⟩ : ∃ q, D16 nrs = q := ⟨_, rfl⟩
 have hrsl : rs.length = 16 := by rw [← hrs]; rfl
 have hrsd : ∀ i, i < 16 → (fL rs i).toNat < 65536 := by rw [← hrs]; exact D16_lt _
 have hrsv : valB 65536 rs = nrs := by rw [← hrs]; exact D16_val (lt_m4 lrs)
 rw [hrs] at k3
 obtain ⟨nrd, hnrd⟩ : ∃ n, fM nrb nrb = n := ⟨_, rfl⟩
 have lrd : nrd < p25 := by rw [← hnrd]; exact fM_lt _ _
 have k4 := product_ rb rb hrbl hrbl hrbd hrbd
 rw [hrbv] at k4
 rw [show (nrb * nrb) % p25 = fM nrb nrb from rfl] at k4
 rw [hnrd] at k4
 obtain ⟨rd, hrd⟩ : ∃ q, D16 nrd = q := ⟨_, rfl⟩
 have hrdl : rd.length = 16 := by rw [← hrd]; rfl
 have hrdd : ∀ i, i < 16 → (fL rd i).toNat < 65536 := by rw [← hrd]; exact D16_lt _
 have hrdv : valB 65536 rd = nrd := by rw [← hrd]; exact D16_val (lt_m4 lrd)
 rw [hrd] at k4
 obtain ⟨nod, hnod⟩ : ∃ n, (p25 - nrd) % p25 = n := ⟨_, rfl⟩
 have lod : nod < p25 := by rw [← hnod]; exact Nat.mod_lt _ p25_pos
 have k5 := opposite_ rd hrdl hrdd (by rw [hrdv]; exact Nat.le_of_lt lrd)
 rw [hrdv, hnod] at k5
 obtain ⟨od, hod⟩ : ∃ q, D16 nod = q := ⟨_, rfl⟩
 have hodl : od.length = 16 := by rw [← hod]; rfl
 have hodd : ∀ i, i < 16 → (fL od i).toNat < 65536 := by rw [← hod]; exact D16_lt _
 have hodv : valB 65536 od = nod := by rw [← hod]; exact D16_val (lt_m4 lod)
 rw [hod] at k5
 obtain ⟨nre, hnre⟩ : ∃ n, fS nrs nrd = n := ⟨_, rfl⟩
 have lre : nre < p25 := by rw [← hnre]; exact fS_lt _ _
 have k6 := sum_ rs od hrsl hodl hrsd hodd
 rw [hrsv, hodv, ← hnod, fS_of lrs lrd] at k6
 rw [hnre] at k6
 obtain ⟨re, hre⟩ : ∃ q, D16 nre = q := ⟨_, rfl⟩
 have hrel : re.length = 16 := by rw [← hre]; rfl
 have hred : ∀ i, i < 16 → (fL re i).toNat < 65536 := by rw [← hre]; exact D16_lt _
 have hrev : valB 65536 re = nre := by rw [← hre]; exact D16_val (lt_m4 lre)
 rw [hre] at k6
 obtain ⟨nrX, hnrX⟩ : ∃ n, fM nrs nrd = n := ⟨_, rfl⟩
 have lrX : nrX < p25 := by rw [← hnrX]; exact fM_lt _ _
 have k7 := product_ rs rd hrsl hrdl hrsd hrdd
 rw [hrsv, hrdv] at k7
 rw [show (nrs * nrd) % p25 = fM nrs nrd from rfl] at k7
 rw [hnrX] at k7
 obtain ⟨rX, hrX⟩ : ∃ q, D16 nrX = q := ⟨_, rfl⟩
 have hrXl : rX.length = 16 := by rw [← hrX]; rfl
 have hrXd : ∀ i, i < 16 → (fL rX i).toNat < 65536 := by rw [← hrX]; exact D16_lt _
 have hrXv : valB 65536 rX = nrX := by rw [← hrX]; exact D16_val (lt_m4 lrX)
 rw [hrX] at k7
 obtain ⟨nrk, hnrk⟩ : ∃ n, fM 121666 nre = n := ⟨_, rfl⟩
 have lrk : nrk < p25 := by rw [← hnrk]; exact fM_lt _ _
 have k8 := product_ kk re hkkl hrel hkkd hred
 rw [hkkv, hrev] at k8
 rw [show (121666 * nre) % p25 = fM 121666 nre from rfl] at k8
 rw [hnrk] at k8
 obtain ⟨rk, hrk⟩ : ∃ q, D16 nrk = q := ⟨_, rfl⟩
 have hrkl : rk.length = 16 := by rw [← hrk]; rfl
 have hrkd : ∀ i, i < 16 → (fL rk i).toNat < 65536 := by rw [← hrk]; exact D16_lt _
 have hrkv : valB 65536 rk = nrk := by rw [← hrk]; exact D16_val (lt_m4 lrk)
 rw [hrk] at k8
 obtain ⟨nrt, hnrt⟩ : ∃ n, fA nrd nrk = n := ⟨_, rfl⟩
 have lrt : nrt < p25 := by rw [← hnrt]; exact fA_lt _ _
 have k9 := sum_ rd rk hrdl hrkl hrdd hrkd
 rw [hrdv, hrkv] at k9
 rw [show (nrd + nrk) % p25 = fA nrd nrk from rfl] at k9
 rw [hnrt] at k9
 obtain ⟨rt, hrt⟩ : ∃ q, D16 nrt = q := ⟨_, rfl⟩
 have hrtl : rt.length = 16 := by rw [← hrt]; rfl
 have hrtd : ∀ i, i < 16 → (fL rt i).toNat < 65536 := by rw [← hrt]; exact D16_lt _
 have hrtv : valB 65536 rt = nrt := by rw [← hrt]; exact D16_val (lt_m4 lrt)
 rw [hrt] at k9
 obtain ⟨nrZ, hnrZ⟩ : ∃ n, fM nre nrt = n := ⟨_, rfl⟩
 have lrZ : nrZ < p25 := by rw [← hnrZ]; exact fM_lt _ _
 have k10 := product_ re rt hrel hrtl hred hrtd
 rw [hrev, hrtv] at k10
 rw [show (nre * nrt) % p25 = fM nre nrt from rfl] at k10
 rw [hnrZ] at k10
 obtain ⟨rZ, hrZ⟩ : ∃ q, D16 nrZ = q := ⟨_, rfl⟩
 have hrZl : rZ.length = 16 := by rw [← hrZ]; rfl
 have hrZd : ∀ i, i < 16 → (fL rZ i).toNat < 65536 := by rw [← hrZ]; exact D16_lt _
 have hrZv : valB 65536 rZ = nrZ := by rw [← hrZ]; exact D16_val (lt_m4 lrZ)
 rw [hrZ] at k10
 have hkc := k_dig
 rw [hkk] at hkc
 rw [hkc] at k8
 have hfin : ptC (dblR ⟨X0, Z0⟩) = u64C rX ++ u64C rZ := by simp only [ptC, dblR, hnra, hnrb, hnrs, hnrd, hnre, hnrX, hnrk, hnrt, hnrZ, hrX, hrZ]
 rw [hfin]
 simp only [ptC, hxx, hzz]
 have F0 := And.intro hxxl <| And.intro hzzl <| And.intro hkkl <| And.intro hral <| And.intro hozl <| And.intro hrbl <| And.intro hrsl <| And.intro hrdl <| And.intro hodl <| And.intro hrel <| And.intro hrXl <| And.intro hrkl <| And.intro hrtl <| hrZl
 refine CtM.k Tryd.func32 rfl Tryd.ntmps32 (congrArg Array.toList Tryd.results32) (by simp) fun w0 ro may fx => ?_
 refine sr_k fun K1 hK1 => ?_
 simp only [go_sem, F0]
 repeat' (first | apply And.intro | intro _)
 refine hK1 _ ?_
 refine seq_k fun N2 M2 hN2 hM2 => ?_
 refine dr_k mixed fun K3 hK3 => ?_
 refine dr_piece_k 13 [8, 9, 10, 11, 12, 13, 14, 15, 16, 17, 18, 3, 4] [0, 1, 0, 4, 15, 0, 32, 0, 128, 415, 1023, 0, 0, 8191, 16383] [] rfl (by kernel_rfl) rfl (by simp only [go_sem]) fun N4 K4 hN4 hK4 => ?_
 simp only [go_sem, F0]
 repeat' (first | apply And.intro | intro _)
 all_goals (refine call_drawhand (fun k => k) (.w (.agg (u64C ra))) [] (fun _ _ => rfl) ?_ ?_ ?_ k0.told ?_ ?_; (iterate 2 (focus (first | rfl | (simp only [go_sem, F0] <;> first | done | rfl | simp)))); (first | kernel_rfl | rfl | simp [fixO, fixL, pls]))
 all_goals try (refine And.intro ?_ (And.intro ?_ (And.intro ?_ ?_)) <;> (first | rfl | (simp only [go_sem, F0]; done) | (simp [go_sem, look, F0]; done)))
 all_goals (try simp only [go_sem, F0])
 all_goals (try simp only [go_sem, F0])
 all_goals repeat' (first | apply And.intro | intro _)
 all_goals (refine call_drawhand (fun k => k) (.w (.agg (u64C oz))) [] (fun _ _ => rfl) ?_ ?_ ?_ k1.told ?_ ?_; (iterate 2 (focus (first | rfl | (simp only [go_sem, F0] <;> first | done | rfl | simp)))); (first | kernel_rfl | rfl | simp [fixO, fixL, pls]))
 all_goals try (refine And.intro ?_ (And.intro ?_ (And.intro ?_ ?_)) <;> (first | rfl | (simp only [go_sem, F0]; done) | (simp [go_sem, look, F0]; done)))
 all_goals (try simp only [go_sem, F0])
 all_goals (try simp only [go_sem, F0])
 all_goals repeat' (first | apply And.intro | intro _)
 all_goals (refine call_drawhand (fun k => k) (.w (.agg (u64C rb))) [] (fun _ _ => rfl) ?_ ?_ ?_ k2.told ?_ ?_; (iterate 2 (focus (first | rfl | (simp only [go_sem, F0] <;> first | done | rfl | simp)))); (first | kernel_rfl | rfl | simp [fixO, fixL, pls]))
 all_goals try (refine And.intro ?_ (And.intro ?_ (And.intro ?_ ?_)) <;> (first | rfl | (simp only [go_sem, F0]; done) | (simp [go_sem, look, F0]; done)))
 all_goals (try simp only [go_sem, F0])
 all_goals (try simp only [go_sem, F0])
 all_goals repeat' (first | apply And.intro | intro _)
 all_goals
  refine hK4 _ _ trivial (hN4 _ ?_)
  refine dr_runs_k 2 15 rfl (by kernel_rfl) rfl rfl fun N5 hN5 => ?_
  simp only [go_sem, F0]
  repeat' (first | apply And.intro | intro _)
  all_goals
   refine hN5 _ ?_
   refine dr_end rfl (hK3 _ ?_)
   refine hN2 _ ?_
   refine seq_k fun N6 M6 hN6 hM6 => ?_
   refine dr_k mixed fun K7 hK7 => ?_
   refine dr_piece_k 8 [19, 20, 21, 22, 23, 24, 5, 6] [0, 0, 3, 0, 0, 31, 0, 0, 255, 511] [] rfl (by kernel_rfl) rfl (by simp only [go_sem]) fun N8 K8 hN8 hK8 => ?_
   simp only [go_sem, F0]
   repeat' (first | apply And.intro | intro _)
   all_goals (refine call_drawhand (fun k => k) (.w (.agg (u64C rs))) [] (fun _ _ => rfl) ?_ ?_ ?_ k3.told ?_ ?_; (iterate 2 (focus (first | rfl | (simp only [go_sem, F0] <;> first | done | rfl | simp)))); (first | kernel_rfl | rfl | simp [fixO, fixL, pls]))
   all_goals try (refine And.intro ?_ (And.intro ?_ (And.intro ?_ ?_)) <;> (first | rfl | (simp only [go_sem, F0]; done) | (simp [go_sem, look, F0]; done)))
   all_goals (try simp only [go_sem, F0])
   all_goals (try simp only [go_sem, F0])
   all_goals repeat' (first | apply And.intro | intro _)
   all_goals (refine call_drawhand (fun k => k) (.w (.agg (u64C rd))) [] (fun _ _ => rfl) ?_ ?_ ?_ k4.told ?_ ?_; (iterate 2 (focus (first | rfl | (simp only [go_sem, F0] <;> first | done | rfl | simp)))); (first | kernel_rfl | rfl | simp [fixO, fixL, pls]))
   all_goals try (refine And.intro ?_ (And.intro ?_ (And.intro ?_ ?_)) <;> (first | rfl | (simp only [go_sem, F0]; done) | (simp [go_sem, look, F0]; done)))
   all_goals (try simp only [go_sem, F0])
   all_goals (try simp only [go_sem, F0])
   all_goals repeat' (first | apply And.intro | intro _)
   all_goals
    refine hK8 _ _ trivial (hN8 _ ?_)
    refine dr_runs_k 2 10 rfl (by kernel_rfl) rfl rfl fun N9 hN9 => ?_
    simp only [go_sem, F0]
    repeat' (first | apply And.intro | intro _)
    all_goals
     refine hN9 _ ?_
     refine dr_end rfl (hK7 _ ?_)
     refine hN6 _ ?_
     refine seq_k fun N10 M10 hN10 hM10 => ?_
     refine dr_k mixed fun K11 hK11 => ?_
     refine dr_piece_k 5 [25, 26, 27, 28, 7] [0, 0, 2, 7, 0, 31] [] rfl (by kernel_rfl) rfl (by simp only [go_sem]) fun N12 K12 hN12 hK12 => ?_
     simp only [go_sem, F0]
     repeat' (first | apply And.intro | intro _)
     all_goals (refine call_drawhand (fun k => k) (.w (.agg (u64C od))) [] (fun _ _ => rfl) ?_ ?_ ?_ k5.told ?_ ?_; (iterate 2 (focus (first | rfl | (simp only [go_sem, F0] <;> first | done | rfl | simp)))); (first | kernel_rfl | rfl | simp [fixO, fixL, pls]))
     all_goals try (refine And.intro ?_ (And.intro ?_ (And.intro ?_ ?_)) <;> (first | rfl | (simp only [go_sem, F0]; done) | (simp [go_sem, look, F0]; done)))
     all_goals (try simp only [go_sem, F0])
     all_goals (try simp only [go_sem, F0])
     all_goals repeat' (first | apply And.intro | intro _)
     all_goals (refine call_drawhand (fun k => k) (.w (.agg (u64C re))) [] (fun _ _ => rfl) ?_ ?_ ?_ k6.told ?_ ?_; (iterate 2 (focus (first | rfl | (simp only [go_sem, F0] <;> first | done | rfl | simp)))); (first | kernel_rfl | rfl | simp [fixO, fixL, pls]))
     all_goals try (refine And.intro ?_ (And.intro ?_ (And.intro ?_ ?_)) <;> (first | rfl | (simp only [go_sem, F0]; done) | (simp [go_sem, look, F0]; done)))
     all_goals (try simp only [go_sem, F0])
     all_goals (try simp only [go_sem, F0])
     all_goals repeat' (first | apply And.intro | intro _)
     all_goals
      refine hK12 _ _ trivial (hN12 _ ?_)
      refine dr_runs_k 1 6 rfl (by kernel_rfl) rfl rfl fun N13 hN13 => ?_
      simp only [go_sem, F0]
      repeat' (first | apply And.intro | intro _)
      all_goals
       refine hN13 _ ?_
       refine dr_end rfl (hK11 _ ?_)
       refine hN10 _ ?_
       refine seq_k fun N14 M14 hN14 hM14 => ?_
       refine dr_k mixed fun K15 hK15 => ?_
       refine dr_piece_k 9 [29, 30, 31, 32, 33, 34, 35, 36, 37] [0, 0, 3, 0, 0, 0, 0, 103, 247, 511, 1023, 2047] [] rfl (by kernel_rfl) rfl (by simp only [go_sem]) fun N16 K16 hN16 hK16 => ?_
       simp only [go_sem, F0]
       repeat' (first | apply And.intro | intro _)
       all_goals (refine call_drawhand (fun k => k) (.w (.agg (u64C rX))) [] (fun _ _ => rfl) ?_ ?_ ?_ k7.told ?_ ?_; (iterate 2 (focus (first | rfl | (simp only [go_sem, F0] <;> first | done | rfl | simp)))); (first | kernel_rfl | rfl | simp [fixO, fixL, pls]))
       all_goals try (refine And.intro ?_ (And.intro ?_ (And.intro ?_ ?_)) <;> (first | rfl | (simp only [go_sem, F0]; done) | (simp [go_sem, look, F0]; done)))
       all_goals (try simp only [go_sem, F0])
       all_goals (try simp only [go_sem, F0])
       all_goals repeat' (first | apply And.intro | intro _)
       all_goals (refine call_drawhand (fun k => k) (.w (.agg (u64C rk))) [] (fun _ _ => rfl) ?_ ?_ ?_ k8.told ?_ ?_; (iterate 2 (focus (first | rfl | (simp only [go_sem, F0] <;> first | done | rfl | simp)))); (first | kernel_rfl | rfl | simp [fixO, fixL, pls]))
       all_goals try (refine And.intro ?_ (And.intro ?_ (And.intro ?_ ?_)) <;> (first | rfl | (simp only [go_sem, F0]; done) | (simp [go_sem, look, F0]; done)))
       all_goals (try simp only [go_sem, F0])
       all_goals (try simp only [go_sem, F0])
       all_goals repeat' (first | apply And.intro | intro _)
       all_goals (refine call_drawhand (fun k => k) (.w (.agg (u64C rt))) [] (fun _ _ => rfl) ?_ ?_ ?_ k9.told ?_ ?_; (iterate 2 (focus (first | rfl | (simp only [go_sem, F0] <;> first | done | rfl | simp)))); (first | kernel_rfl | rfl | simp [fixO, fixL, pls]))
       all_goals try (refine And.intro ?_ (And.intro ?_ (And.intro ?_ ?_)) <;> (first | rfl | (simp only [go_sem, F0]; done) | (simp [go_sem, look, F0]; done)))
       all_goals (try simp only [go_sem, F0])
       all_goals (try simp only [go_sem, F0])
       all_goals repeat' (first | apply And.intro | intro _)
       all_goals
        refine hK16 _ _ trivial (hN16 _ ?_)
        refine dr_runs_k 3 12 rfl (by kernel_rfl) rfl rfl fun N17 hN17 => ?_
        simp only [go_sem, F0]
        repeat' (first | apply And.intro | intro _)
        all_goals (refine call_hand false [] (fun k => k) (fun _ _ => rfl) ?_ (by decide) ?_ k10.told ?_; iterate 2 (focus (first | rfl | (simp only [go_sem, F0] <;> first | done | rfl | simp))))
        all_goals (rintro v m ⟨hR, hm⟩; subst hR; subst hm)
        all_goals (refine And.intro ?_ (And.intro ?_ (And.intro ?_ ?_)); iterate 3 (focus (first | rfl | (simp only [go_sem, F0]; done) | (simp [go_sem, look, F0]; done))))
        all_goals (try simp only [go_sem, F0])
        all_goals (try simp only [go_sem, F0])
        all_goals repeat' (first | apply And.intro | intro _)
        all_goals
         refine hN17 _ ?_
         refine dr_end rfl (hK15 _ ?_)
         refine hN14 _ ?_
         refine ret_k ?_
         simp only [go_sem, F0]
         all_goals (exact told_plain (by simp [plainV, plainW, u64C]) ⟨by first | rfl | simp, rfl⟩)
set_option maxHeartbeats 3200000 in
set_option maxRecDepth 100000 in
theorem rwith (X0 Z0 X1 Z1 U : Nat) (l0 : X0 < p25) (l1 : Z0 < p25) (l2 : X1 < p25) (l3 : Z1 < p25) (l4 : U < p25) :
 CtM Tryd.prog 31 [.w (.agg (ptC ⟨X0, Z0⟩)), .w (.agg (ptC ⟨X1, Z1⟩)), .w (.agg (u64C (D16 U)))] [(1000000, ⟨false, u64C prdL⟩)] (Told (fun v m => v = .w (.agg (ptC (withR ⟨X0, Z0⟩ ⟨X1, Z1⟩ U))) ∧ m = [])) := by
 obtain ⟨lxx, lzz, lyy, lvv, luu⟩ : X0 < p25 ∧ Z0 < p25 ∧ X1 < p25 ∧ Z1 < p25 ∧ U < p25 := ⟨l0, l1, l2, l3, l4⟩
 obtain ⟨xx, hxx⟩ : ∃ q, D16 X0 = q := ⟨_, rfl⟩
 have hxxl : xx.length = 16 := by rw [← hxx]; rfl
 have hxxd : ∀ i, i < 16 → (fL xx i).toNat < 65536 := by rw [← hxx]; exact D16_lt _
 have hxxv : valB 65536 xx = X0 := by rw [← hxx]; exact D16_val (lt_m4 lxx)
 obtain ⟨zz, hzz⟩ : ∃ q, D16 Z0 = q := ⟨_, rfl⟩
 have hzzl : zz.length = 16 := by rw [← hzz]; rfl
 have hzzd : ∀ i, i < 16 → (fL zz i).toNat < 65536 := by rw [← hzz]; exact D16_lt _
 have hzzv : valB 65536 zz = Z0 := by rw [← hzz]; exact D16_val (lt_m4 lzz)
 obtain ⟨yy, hyy⟩ : ∃ q, D16 X1 = q := ⟨_, rfl⟩
 have hyyl : yy.length = 16 := by rw [← hyy]; rfl
 have hyyd : ∀ i, i < 16 → (fL yy i).toNat < 65536 := by rw [← hyy]; exact D16_lt _
 have hyyv : valB 65536 yy = X1 := by rw [← hyy]; exact D16_val (lt_m4 lyy)
 obtain ⟨vv, hvv⟩ : ∃ q, D16 Z1 = q := ⟨_, rfl⟩
 have hvvl : vv.length = 16 := by rw [← hvv]; rfl
 have hvvd : ∀ i, i < 16 → (fL vv i).toNat < 65536 := by rw [← hvv]; exact D16_lt _
 have hvvv : valB 65536 vv = Z1 := by rw [← hvv]; exact D16_val (lt_m4 lvv)
 obtain ⟨uu, huu⟩ : ∃ q, D16 U = q := ⟨_, rfl⟩
 have huul : uu.length = 16 := by rw [← huu]; rfl
 have huud : ∀ i, i < 16 → (fL uu i).toNat < 65536 := by rw [← huu]; exact D16_lt _
 have huuv : valB 65536 uu = U := by rw [← huu]; exact D16_val (lt_m4 luu)
 obtain ⟨nopz, hnopz⟩ : ∃ n, (p25 - Z0) % p25 = n := ⟨_, rfl⟩
 have lopz : nopz < p25 := by rw [← hnopz]; exact Nat.mod_lt _ p25_pos
 have k0 := opposite_ zz hzzl hzzd (by rw [hzzv]; exact Nat.le_of_lt lzz)
 rw [hzzv, hnopz] at k0
 obtain ⟨opz, hopz⟩ : ∃ q, D16 nopz = q := ⟨_, rfl⟩
 have hopzl : opz.length = 16 := by rw [← hopz]; rfl
 have hopzd : ∀ i, i < 16 → (fL opz i).toNat < 65536 := by rw [← hopz]; exact D16_lt _
 have hopzv : valB 65536 opz = nopz := by rw [← hopz]; exact D16_val (lt_m4 lopz)
 rw [hopz] at k0
 obtain ⟨nrb, hnrb⟩ : ∃ n, fS X0 Z0 = n := ⟨_, rfl⟩
 have lrb : nrb < p25 := by rw [← hnrb]; exact fS_lt _ _
 have k1 := sum_ xx opz hxxl hopzl hxxd hopzd
 rw [hxxv, hopzv, ← hnopz, fS_of lxx lzz] at k1
 rw [hnrb] at k1
 obtain ⟨rb, hrb⟩ : ∃ q, D16 nrb = q := ⟨_, rfl⟩
 have hrbl : rb.length = 16 := by rw [← hrb]; rfl
 have hrbd : ∀ i, i < 16 → (fL rb i).toNat < 65536 := by rw [← hrb]; exact D16_lt _
 have hrbv : valB 65536 rb = nrb := by rw [← hrb]; exact D16_val (lt_m4 lrb)
 rw [hrb] at k1
 obtain ⟨nrc, hnrc⟩ : ∃ n, fA X1 Z1 = n := ⟨_, rfl⟩
 have lrc : nrc < p25 := by rw [← hnrc]; exact fA_lt _ _
 have k2 := sum_ yy vv hyyl hvvl hyyd hvvd
 rw [hyyv, hvvv] at k2
 rw [show (X1 + Z1) % p25 = fA X1 Z1 from rfl] at k2
 rw [hnrc] at k2
 obtain ⟨rc, hrc⟩ : ∃ q, D16 nrc = q := ⟨_, rfl⟩
 have hrcl : rc.length = 16 := by rw [← hrc]; rfl
 have hrcd : ∀ i, i < 16 → (fL rc i).toNat < 65536 := by rw [← hrc]; exact D16_lt _
 have hrcv : valB 65536 rc = nrc := by rw [← hrc]; exact D16_val (lt_m4 lrc)
 rw [hrc] at k2
 obtain ⟨nrA, hnrA⟩ : ∃ n, fM nrb nrc = n := ⟨_, rfl⟩
 have lrA : nrA < p25 := by rw [← hnrA]; exact fM_lt _ _
 have k3 := product_ rb rc hrbl hrcl hrbd hrcd
 rw [hrbv, hrcv] at k3
 rw [show (nrb * nrc) % p25 = fM nrb nrc from rfl] at k3
 rw [hnrA] at k3
 obtain ⟨rA, hrA⟩ : ∃ q, D16 nrA = q := ⟨_, rfl⟩
 have hrAl : rA.length = 16 := by rw [← hrA]; rfl
 have hrAd : ∀ i, i < 16 → (fL rA i).toNat < 65536 := by rw [← hrA]; exact D16_lt _
 have hrAv : valB 65536 rA = nrA := by rw [← hrA]; exact D16_val (lt_m4 lrA)
 rw [hrA] at k3
 obtain ⟨nra, hnra⟩ : ∃ n, fA X0 Z0 = n := ⟨_, rfl⟩
 have lra : nra < p25 := by rw [← hnra]; exact fA_lt _ _
 have k4 := sum_ xx zz hxxl hzzl hxxd hzzd
 rw [hxxv, hzzv] at k4
 rw [show (X0 + Z0) % p25 = fA X0 Z0 from rfl] at k4
 rw [hnra] at k4
 obtain ⟨ra, hra⟩ : ∃ q, D16 nra = q := ⟨_, rfl⟩
 have hral : ra.length = 16 := by rw [← hra]; rfl
 have hrad : ∀ i, i < 16 → (fL ra i).toNat < 65536 := by rw [← hra]; exact D16_lt _
 have hrav : valB 65536 ra = nra := by rw [← hra]; exact D16_val (lt_m4 lra)
 rw [hra] at k4
 obtain ⟨noqz, hnoqz⟩ : ∃ n, (p25 - Z1) % p25 = n := ⟨_, rfl⟩
 have loqz : noqz < p25 := by rw [← hnoqz]; exact Nat.mod_lt _ p25_pos
 have k5 := opposite_ vv hvvl hvvd (by rw [hvvv]; exact Nat.le_of_lt lvv)
 rw [hvvv, hnoqz] at k5
 obtain ⟨oqz, hoqz⟩ : ∃ q, D16 noqz = q := ⟨_, rfl⟩
 have hoqzl : oqz.length = 16 := by rw [← hoqz]; rfl
 have hoqzd : ∀ i, i < 16 → (fL oqz i).toNat < 65536 := by rw [← hoqz]; exact D16_lt _
 have hoqzv : valB 65536 oqz = noqz := by rw [← hoqz]; exact D16_val (lt_m4 loqz)
 rw [hoqz] at k5
 obtain ⟨nrd, hnrd⟩ : ∃ n, fS X1 Z1 = n := ⟨_, rfl⟩
 have lrd : nrd < p25 := by rw [← hnrd]; exact fS_lt _ _
 have k6 := sum_ yy oqz hyyl hoqzl hyyd hoqzd
 rw [hyyv, hoqzv, ← hnoqz, fS_of lyy lvv] at k6
 rw [hnrd] at k6
 obtain ⟨rd, hrd⟩ : ∃ q, D16 nrd = q := ⟨_, rfl⟩
 have hrdl : rd.length = 16 := by rw [← hrd]; rfl
 have hrdd : ∀ i, i < 16 → (fL rd i).toNat < 65536 := by rw [← hrd]; exact D16_lt _
 have hrdv : valB 65536 rd = nrd := by rw [← hrd]; exact D16_val (lt_m4 lrd)
 rw [hrd] at k6
 obtain ⟨nrB, hnrB⟩ : ∃ n, fM nra nrd = n := ⟨_, rfl⟩
 have lrB : nrB < p25 := by rw [← hnrB]; exact fM_lt _ _
 have k7 := product_ ra rd hral hrdl hrad hrdd
 rw [hrav, hrdv] at k7
 rw [show (nra * nrd) % p25 = fM nra nrd from rfl] at k7
 rw [hnrB] at k7
 obtain ⟨rB, hrB⟩ : ∃ q, D16 nrB = q := ⟨_, rfl⟩
 have hrBl : rB.length = 16 := by rw [← hrB]; rfl
 have hrBd : ∀ i, i < 16 → (fL rB i).toNat < 65536 := by rw [← hrB]; exact D16_lt _
 have hrBv : valB 65536 rB = nrB := by rw [← hrB]; exact D16_val (lt_m4 lrB)
 rw [hrB] at k7
 obtain ⟨nrs, hnrs⟩ : ∃ n, fA nrA nrB = n := ⟨_, rfl⟩
 have lrs : nrs < p25 := by rw [← hnrs]; exact fA_lt _ _
 have k8 := sum_ rA rB hrAl hrBl hrAd hrBd
 rw [hrAv, hrBv] at k8
 rw [show (nrA + nrB) % p25 = fA nrA nrB from rfl] at k8
 rw [hnrs] at k8
 obtain ⟨rs, hrs⟩ : ∃ q, D16 nrs = q := ⟨_, rfl⟩
 have hrsl : rs.length = 16 := by rw [← hrs]; rfl
 have hrsd : ∀ i, i < 16 → (fL rs i).toNat < 65536 := by rw [← hrs]; exact D16_lt _
 have hrsv : valB 65536 rs = nrs := by rw [← hrs]; exact D16_val (lt_m4 lrs)
 rw [hrs] at k8
 obtain ⟨noB, hnoB⟩ : ∃ n, (p25 - nrB) % p25 = n := ⟨_, rfl⟩
 have loB : noB < p25 := by rw [← hnoB]; exact Nat.mod_lt _ p25_pos
 have k9 := opposite_ rB hrBl hrBd (by rw [hrBv]; exact Nat.le_of_lt lrB)
 rw [hrBv, hnoB] at k9
 obtain ⟨oB, hoB⟩ : ∃ q, D16 noB = q := ⟨_, rfl⟩
 have hoBl : oB.length = 16 := by rw [← hoB]; rfl
 have hoBd : ∀ i, i < 16 → (fL oB i).toNat < 65536 := by rw [← hoB]; exact D16_lt _
 have hoBv : valB 65536 oB = noB := by rw [← hoB]; exact D16_val (lt_m4 loB)
 rw [hoB] at k9
 obtain ⟨nre, hnre⟩ : ∃ n, fS nrA nrB = n := ⟨_, rfl⟩
 have lre : nre < p25 := by rw [← hnre]; exact fS_lt _ _
 have k10 := sum_ rA oB hrAl hoBl hrAd hoBd
 rw [hrAv, hoBv, ← hnoB, fS_of lrA lrB] at k10
 rw [hnre] at k10
 obtain ⟨re, hre⟩ : ∃ q, D16 nre = q := ⟨_, rfl⟩
 have hrel : re.length = 16 := by rw [← hre]; rfl
 have hred : ∀ i, i < 16 → (fL re i).toNat < 65536 := by rw [← hre]; exact D16_lt _
 have hrev : valB 65536 re = nre := by rw [← hre]; exact D16_val (lt_m4 lre)
 rw [hre] at k10
 obtain ⟨nrX, hnrX⟩ : ∃ n, fM nrs nrs = n := ⟨_, rfl⟩
 have lrX : nrX < p25 := by rw [← hnrX]; exact fM_lt _ _
 have k11 := product_ rs rs hrsl hrsl hrsd hrsd
 rw [hrsv] at k11
 rw [show (nrs * nrs) % p25 = fM nrs nrs from rfl] at k11
 rw [hnrX] at k11
 obtain ⟨rX, hrX⟩ : ∃ q, D16 nrX = q := ⟨_, rfl⟩
 have hrXl : rX.length = 16 := by rw [← hrX]; rfl
 have hrXd : ∀ i, i < 16 → (fL rX i).toNat < 65536 := by rw [← hrX]; exact D16_lt _
 have hrXv : valB 65536 rX = nrX := by rw [← hrX]; exact D16_val (lt_m4 lrX)
 rw [hrX] at k11
 obtain ⟨nrf, hnrf⟩ : ∃ n, fM nre nre = n := ⟨_, rfl⟩
 have lrf : nrf < p25 := by rw [← hnrf]; exact fM_lt _ _
 have k12 := product_ re re hrel hrel hred hred
 rw [hrev] at k12
 rw [show (nre * nre) % p25 = fM nre nre from rfl] at k12
 rw [hnrf] at k12
 obtain ⟨rf, hrf⟩ : ∃ q, D16 nrf = q := ⟨_, rfl⟩
 have hrfl : rf.length = 16 := by rw [← hrf]; rfl
 have hrfd : ∀ i, i < 16 → (fL rf i).toNat < 65536 := by rw [← hrf]; exact D16_lt _
 have hrfv : valB 65536 rf = nrf := by rw [← hrf]; exact D16_val (lt_m4 lrf)
 rw [hrf] at k12
 obtain ⟨nrZ, hnrZ⟩ : ∃ n, fM U nrf = n := ⟨_, rfl⟩
 have lrZ : nrZ < p25 := by rw [← hnrZ]; exact fM_lt _ _
 have k13 := product_ uu rf huul hrfl huud hrfd
 rw [huuv, hrfv] at k13
 rw [show (U * nrf) % p25 = fM U nrf from rfl] at k13
 rw [hnrZ] at k13
 obtain ⟨rZ, hrZ⟩ : ∃ q, D16 nrZ = q := ⟨_, rfl⟩
 have hrZl : rZ.length = 16 := by rw [← hrZ]; rfl
 have hrZd : ∀ i, i < 16 → (fL rZ i).toNat < 65536 := by rw [← hrZ]; exact D16_lt _
 have hrZv : valB 65536 rZ = nrZ := by rw [← hrZ]; exact D16_val (lt_m4 lrZ)
 rw [hrZ] at k13
 have hfin : ptC (withR ⟨X0, Z0⟩ ⟨X1, Z1⟩ U) = u64C rX ++ u64C rZ := by simp only [ptC, withR, hnra, hnrb, hnrc, hnrA, hnrd, hnrB, hnrs, hnre, hnrX, hnrf, hnrZ, hrX, hrZ]
 rw [hfin]
 simp only [ptC, hxx, hzz, hyy, hvv, huu]
 have F0 := And.intro hxxl <| And.intro hzzl <| And.intro hyyl <| And.intro hvvl <| And.intro huul <| And.intro hopzl <| And.intro hrbl <| And.intro hrcl <| And.intro hrAl <| And.intro hral <| And.intro hoqzl <| And.intro hrdl <| And.intro hrBl <| And.intro hrsl <| And.intro hoBl <| And.intro hrel <| And.intro hrXl <| And.intro hrfl <| hrZl
 refine CtM.k Tryd.func31 rfl Tryd.ntmps31 (congrArg Array.toList Tryd.results31) (by simp) fun w0 ro may fx => ?_
 refine sr_k fun K1 hK1 => ?_
 simp only [go_sem, F0]
 repeat' (first | apply And.intro | intro _)
 refine hK1 _ ?_
 refine seq_k fun N2 M2 hN2 hM2 => ?_
 refine dr_k mixed fun K3 hK3 => ?_
 refine dr_piece_k 13 [11, 12, 13, 14, 15, 16, 17, 18, 19, 20, 21, 22, 7] [0, 1, 0, 4, 12, 31, 0, 64, 0, 256, 1023, 2047, 0, 8191] [] rfl (by kernel_rfl) rfl (by simp only [go_sem]) fun N4 K4 hN4 hK4 => ?_
 simp only [go_sem, F0]
 repeat' (first | apply And.intro | intro _)
 all_goals (refine call_drawhand (fun k => k) (.w (.agg (u64C opz))) [] (fun _ _ => rfl) ?_ ?_ ?_ k0.told ?_ ?_; (iterate 2 (focus (first | rfl | (simp only [go_sem, F0] <;> first | done | rfl | simp)))); (first | kernel_rfl | rfl | simp [fixO, fixL, pls]))
 all_goals try (refine And.intro ?_ (And.intro ?_ (And.intro ?_ ?_)) <;> (first | rfl | (simp only [go_sem, F0]; done) | (simp [go_sem, look, F0]; done)))
 all_goals (try simp only [go_sem, F0])
 all_goals (try simp only [go_sem, F0])
 all_goals repeat' (first | apply And.intro | intro _)
 all_goals (refine call_drawhand (fun k => k) (.w (.agg (u64C rb))) [] (fun _ _ => rfl) ?_ ?_ ?_ k1.told ?_ ?_; (iterate 2 (focus (first | rfl | (simp only [go_sem, F0] <;> first | done | rfl | simp)))); (first | kernel_rfl | rfl | simp [fixO, fixL, pls]))
 all_goals try (refine And.intro ?_ (And.intro ?_ (And.intro ?_ ?_)) <;> (first | rfl | (simp only [go_sem, F0]; done) | (simp [go_sem, look, F0]; done)))
 all_goals (try simp only [go_sem, F0])
 all_goals (try simp only [go_sem, F0])
 all_goals repeat' (first | apply And.intro | intro _)
 all_goals (refine call_drawhand (fun k => k) (.w (.agg (u64C rc))) [] (fun _ _ => rfl) ?_ ?_ ?_ k2.told ?_ ?_; (iterate 2 (focus (first | rfl | (simp only [go_sem, F0] <;> first | done | rfl | simp)))); (first | kernel_rfl | rfl | simp [fixO, fixL, pls]))
 all_goals try (refine And.intro ?_ (And.intro ?_ (And.intro ?_ ?_)) <;> (first | rfl | (simp only [go_sem, F0]; done) | (simp [go_sem, look, F0]; done)))
 all_goals (try simp only [go_sem, F0])
 all_goals (try simp only [go_sem, F0])
 all_goals repeat' (first | apply And.intro | intro _)
 all_goals (refine call_drawhand (fun k => k) (.w (.agg (u64C rA))) [] (fun _ _ => rfl) ?_ ?_ ?_ k3.told ?_ ?_; (iterate 2 (focus (first | rfl | (simp only [go_sem, F0] <;> first | done | rfl | simp)))); (first | kernel_rfl | rfl | simp [fixO, fixL, pls]))
 all_goals try (refine And.intro ?_ (And.intro ?_ (And.intro ?_ ?_)) <;> (first | rfl | (simp only [go_sem, F0]; done) | (simp [go_sem, look, F0]; done)))
 all_goals (try simp only [go_sem, F0])
 all_goals (try simp only [go_sem, F0])
 all_goals repeat' (first | apply And.intro | intro _)
 all_goals
  refine hK4 _ _ trivial (hN4 _ ?_)
  refine dr_runs_k 1 14 rfl (by kernel_rfl) rfl rfl fun N5 hN5 => ?_
  simp only [go_sem, F0]
  repeat' (first | apply And.intro | intro _)
  all_goals
   refine hN5 _ ?_
   refine dr_end rfl (hK3 _ ?_)
   refine hN2 _ ?_
   refine seq_k fun N6 M6 hN6 hM6 => ?_
   refine dr_k mixed fun K7 hK7 => ?_
   refine dr_piece_k 13 [23, 24, 25, 26, 27, 28, 29, 30, 31, 32, 33, 34, 8] [0, 1, 0, 4, 15, 0, 32, 0, 128, 415, 1023, 2047, 0, 8191] [] rfl (by kernel_rfl) rfl (by simp only [go_sem]) fun N8 K8 hN8 hK8 => ?_
   simp only [go_sem, F0]
   repeat' (first | apply And.intro | intro _)
   all_goals (refine call_drawhand (fun k => k) (.w (.agg (u64C ra))) [] (fun _ _ => rfl) ?_ ?_ ?_ k4.told ?_ ?_; (iterate 2 (focus (first | rfl | (simp only [go_sem, F0] <;> first | done | rfl | simp)))); (first | kernel_rfl | rfl | simp [fixO, fixL, pls]))
   all_goals try (refine And.intro ?_ (And.intro ?_ (And.intro ?_ ?_)) <;> (first | rfl | (simp only [go_sem, F0]; done) | (simp [go_sem, look, F0]; done)))
   all_goals (try simp only [go_sem, F0])
   all_goals (try simp only [go_sem, F0])
   all_goals repeat' (first | apply And.intro | intro _)
   all_goals (refine call_drawhand (fun k => k) (.w (.agg (u64C oqz))) [] (fun _ _ => rfl) ?_ ?_ ?_ k5.told ?_ ?_; (iterate 2 (focus (first | rfl | (simp only [go_sem, F0] <;> first | done | rfl | simp)))); (first | kernel_rfl | rfl | simp [fixO, fixL, pls]))
   all_goals try (refine And.intro ?_ (And.intro ?_ (And.intro ?_ ?_)) <;> (first | rfl | (simp only [go_sem, F0]; done) | (simp [go_sem, look, F0]; done)))
   all_goals (try simp only [go_sem, F0])
   all_goals (try simp only [go_sem, F0])
   all_goals repeat' (first | apply And.intro | intro _)
   all_goals (refine call_drawhand (fun k => k) (.w (.agg (u64C rd))) [] (fun _ _ => rfl) ?_ ?_ ?_ k6.told ?_ ?_; (iterate 2 (focus (first | rfl | (simp only [go_sem, F0] <;> first | done | rfl | simp)))); (first | kernel_rfl | rfl | simp [fixO, fixL, pls]))
   all_goals try (refine And.intro ?_ (And.intro ?_ (And.intro ?_ ?_)) <;> (first | rfl | (simp only [go_sem, F0]; done) | (simp [go_sem, look, F0]; done)))
   all_goals (try simp only [go_sem, F0])
   all_goals (try simp only [go_sem, F0])
   all_goals repeat' (first | apply And.intro | intro _)
   all_goals (refine call_drawhand (fun k => k) (.w (.agg (u64C rB))) [] (fun _ _ => rfl) ?_ ?_ ?_ k7.told ?_ ?_; (iterate 2 (focus (first | rfl | (simp only [go_sem, F0] <;> first | done | rfl | simp)))); (first | kernel_rfl | rfl | simp [fixO, fixL, pls]))
   all_goals try (refine And.intro ?_ (And.intro ?_ (And.intro ?_ ?_)) <;> (first | rfl | (simp only [go_sem, F0]; done) | (simp [go_sem, look, F0]; done)))
   all_goals (try simp only [go_sem, F0])
   all_goals (try simp only [go_sem, F0])
   all_goals repeat' (first | apply And.intro | intro _)
   all_goals
    refine hK8 _ _ trivial (hN8 _ ?_)
    refine dr_runs_k 1 14 rfl (by kernel_rfl) rfl rfl fun N9 hN9 => ?_
    simp only [go_sem, F0]
    repeat' (first | apply And.intro | intro _)
    all_goals
     refine hN9 _ ?_
     refine dr_end rfl (hK7 _ ?_)
     refine hN6 _ ?_
     refine seq_k fun N10 M10 hN10 hM10 => ?_
     refine dr_k mixed fun K11 hK11 => ?_
     refine dr_piece_k 9 [35, 36, 37, 38, 39, 40, 41, 9, 10] [0, 0, 3, 0, 0, 23, 63, 0, 0, 511, 1023] [] rfl (by kernel_rfl) rfl (by simp only [go_sem]) fun N12 K12 hN12 hK12 => ?_
     simp only [go_sem, F0]
     repeat' (first | apply And.intro | intro _)
     all_goals (refine call_drawhand (fun k => k) (.w (.agg (u64C rs))) [] (fun _ _ => rfl) ?_ ?_ ?_ k8.told ?_ ?_; (iterate 2 (focus (first | rfl | (simp only [go_sem, F0] <;> first | done | rfl | simp)))); (first | kernel_rfl | rfl | simp [fixO, fixL, pls]))
     all_goals try (refine And.intro ?_ (And.intro ?_ (And.intro ?_ ?_)) <;> (first | rfl | (simp only [go_sem, F0]; done) | (simp [go_sem, look, F0]; done)))
     all_goals (try simp only [go_sem, F0])
     all_goals (try simp only [go_sem, F0])
     all_goals repeat' (first | apply And.intro | intro _)
     all_goals (refine call_drawhand (fun k => k) (.w (.agg (u64C oB))) [] (fun _ _ => rfl) ?_ ?_ ?_ k9.told ?_ ?_; (iterate 2 (focus (first | rfl | (simp only [go_sem, F0] <;> first | done | rfl | simp)))); (first | kernel_rfl | rfl | simp [fixO, fixL, pls]))
     all_goals try (refine And.intro ?_ (And.intro ?_ (And.intro ?_ ?_)) <;> (first | rfl | (simp only [go_sem, F0]; done) | (simp [go_sem, look, F0]; done)))
     all_goals (try simp only [go_sem, F0])
     all_goals (try simp only [go_sem, F0])
     all_goals repeat' (first | apply And.intro | intro _)
     all_goals (refine call_drawhand (fun k => k) (.w (.agg (u64C re))) [] (fun _ _ => rfl) ?_ ?_ ?_ k10.told ?_ ?_; (iterate 2 (focus (first | rfl | (simp only [go_sem, F0] <;> first | done | rfl | simp)))); (first | kernel_rfl | rfl | simp [fixO, fixL, pls]))
     all_goals try (refine And.intro ?_ (And.intro ?_ (And.intro ?_ ?_)) <;> (first | rfl | (simp only [go_sem, F0]; done) | (simp [go_sem, look, F0]; done)))
     all_goals (try simp only [go_sem, F0])
     all_goals (try simp only [go_sem, F0])
     all_goals repeat' (first | apply And.intro | intro _)
     all_goals
      refine hK12 _ _ trivial (hN12 _ ?_)
      refine dr_runs_k 2 11 rfl (by kernel_rfl) rfl rfl fun N13 hN13 => ?_
      simp only [go_sem, F0]
      repeat' (first | apply And.intro | intro _)
      all_goals
       refine hN13 _ ?_
       refine dr_end rfl (hK11 _ ?_)
       refine hN10 _ ?_
       refine seq_k fun N14 M14 hN14 hM14 => ?_
       refine dr_k mixed fun K15 hK15 => ?_
       refine dr_piece_k 7 [42, 43, 44, 45, 46, 47, 48] [0, 0, 3, 0, 0, 0, 55, 127, 255, 511] [] rfl (by kernel_rfl) rfl (by simp only [go_sem]) fun N16 K16 hN16 hK16 => ?_
       simp only [go_sem, F0]
       repeat' (first | apply And.intro | intro _)
       all_goals (refine call_drawhand (fun k => k) (.w (.agg (u64C rX))) [] (fun _ _ => rfl) ?_ ?_ ?_ k11.told ?_ ?_; (iterate 2 (focus (first | rfl | (simp only [go_sem, F0] <;> first | done | rfl | simp)))); (first | kernel_rfl | rfl | simp [fixO, fixL, pls]))
       all_goals try (refine And.intro ?_ (And.intro ?_ (And.intro ?_ ?_)) <;> (first | rfl | (simp only [go_sem, F0]; done) | (simp [go_sem, look, F0]; done)))
       all_goals (try simp only [go_sem, F0])
       all_goals (try simp only [go_sem, F0])
       all_goals repeat' (first | apply And.intro | intro _)
       all_goals (refine call_drawhand (fun k => k) (.w (.agg (u64C rf))) [] (fun _ _ => rfl) ?_ ?_ ?_ k12.told ?_ ?_; (iterate 2 (focus (first | rfl | (simp only [go_sem, F0] <;> first | done | rfl | simp)))); (first | kernel_rfl | rfl | simp [fixO, fixL, pls]))
       all_goals try (refine And.intro ?_ (And.intro ?_ (And.intro ?_ ?_)) <;> (first | rfl | (simp only [go_sem, F0]; done) | (simp [go_sem, look, F0]; done)))
       all_goals (try simp only [go_sem, F0])
       all_goals (try simp only [go_sem, F0])
       all_goals repeat' (first | apply And.intro | intro _)
       all_goals
        refine hK16 _ _ trivial (hN16 _ ?_)
        refine dr_runs_k 3 10 rfl (by kernel_rfl) rfl rfl fun N17 hN17 => ?_
        simp only [go_sem, F0]
        repeat' (first | apply And.intro | intro _)
        all_goals (refine call_hand false [] (fun k => k) (fun _ _ => rfl) ?_ (by decide) ?_ k13.told ?_; iterate 2 (focus (first | rfl | (simp only [go_sem, F0] <;> first | done | rfl | simp))))
        all_goals (rintro v m ⟨hR, hm⟩; subst hR; subst hm)
        all_goals (refine And.intro ?_ (And.intro ?_ (And.intro ?_ ?_)); iterate 3 (focus (first | rfl | (simp only [go_sem, F0]; done) | (simp [go_sem, look, F0]; done))))
        all_goals (try simp only [go_sem, F0])
        all_goals (try simp only [go_sem, F0])
        all_goals repeat' (first | apply And.intro | intro _)
        all_goals
         refine hN17 _ ?_
         refine dr_end rfl (hK15 _ ?_)
         refine hN14 _ ?_
         refine ret_k ?_
         simp only [go_sem, F0]
         all_goals (exact told_plain (by simp [plainV, plainW, u64C]) ⟨by first | rfl | simp, rfl⟩)
end Go.Sy

