/- The ladder: a rung. -/
import Derived.Test.YthngiogkogeigaaDoorvhL1
import Derived.Test.YthngiogkogeigaaDoorvE3
set_option linter.unusedVariables false
set_option linter.unusedSimpArgs false
namespace Go.Sy
open Go.Proofs
attribute [local irreducible] atCall HT runOps runD onC onE onO onG goV goA goS onSt onGuard
set_option maxHeartbeats 3200000 in
set_option maxRecDepth 100000 in
theorem lstep (x0 x1 x2 x3 y0 y1 y2 y3 z0 z1 z2 z3 v0 v1 v2 v3 u0 u1 u2 u3 : UInt64) (X0 X1 Z0 Z1 U : Nat) (hvx : vQ x0 x1 x2 x3 = X0) (lx : X0 < p25) (hvy : vQ y0 y1 y2 y3 = X1) (ly : X1 < p25) (hvz : vQ z0 z1 z2 z3 = Z0) (lz : Z0 < p25) (hvv : vQ v0 v1 v2 v3 = Z1) (lv : Z1 < p25) (hvu : vQ u0 u1 u2 u3 = U) (lu : U < p25) :
 CtM Tryd.prog 13 [.w (.agg [.pl (.u64 x0), .pl (.u64 x1), .pl (.u64 x2), .pl (.u64 x3), .pl (.u64 y0), .pl (.u64 y1), .pl (.u64 y2), .pl (.u64 y3), .pl (.u64 z0), .pl (.u64 z1), .pl (.u64 z2), .pl (.u64 z3), .pl (.u64 v0), .pl (.u64 v1), .pl (.u64 v2), .pl (.u64 v3)]), .w (.agg [.pl (.u64 u0), .pl (.u64 u1), .pl (.u64 u2), .pl (.u64 u3)])] [(1000001, ⟨false, [.pl (.u64 18446744073709551597), .pl (.u64 18446744073709551615), .pl (.u64 18446744073709551615), .pl (.u64 9223372036854775807)]⟩)] (Told (fun v m => v = .w (.agg (w4C (dblM ⟨X0, Z0⟩).x ++ (w4C (withM ⟨X0, Z0⟩ ⟨X1, Z1⟩ U).x ++ (w4C (dblM ⟨X0, Z0⟩).z ++ w4C (withM ⟨X0, Z0⟩ ⟨X1, Z1⟩ U).z)))) ∧ m = [])) := by
 have hvk : vQ 121665 0 0 0 = 121665 := rfl
 have lk : (121665 : Nat) < p25 := by decide
 obtain ⟨nrA, hnrA⟩ : ∃ n, fA X0 Z0 = n := ⟨_, rfl⟩
 have lrA : nrA < p25 := by rw [← hnrA]; exact fA_lt _ _
 have k0 := ladd x0 x1 x2 x3 z0 z1 z2 z3 (hvx ▸ lx) (hvz ▸ lz)
 rw [hvx, hvz, hnrA] at k0
 obtain ⟨rA0, rA1, rA2, rA3, hrA, hvrA⟩ := w4_get nrA (p_m4 lrA)
 have hurA : w4C nrA = [.pl (.u64 rA0), .pl (.u64 rA1), .pl (.u64 rA2), .pl (.u64 rA3)] := by rw [w4C, hrA]; rfl
 rw [hurA] at k0
 obtain ⟨nrB, hnrB⟩ : ∃ n, fS X0 Z0 = n := ⟨_, rfl⟩
 have lrB : nrB < p25 := by rw [← hnrB]; exact fS_lt _ _
 have k1 := lsub x0 x1 x2 x3 z0 z1 z2 z3 (hvx ▸ lx) (hvz ▸ lz)
 rw [hvx, hvz, hnrB] at k1
 obtain ⟨rB0, rB1, rB2, rB3, hrB, hvrB⟩ := w4_get nrB (p_m4 lrB)
 have hurB : w4C nrB = [.pl (.u64 rB0), .pl (.u64 rB1), .pl (.u64 rB2), .pl (.u64 rB3)] := by rw [w4C, hrB]; rfl
 rw [hurB] at k1
 obtain ⟨nrC, hnrC⟩ : ∃ n, fA X1 Z1 = n := ⟨_, rfl⟩
 have lrC : nrC < p25 := by rw [← hnrC]; exact fA_lt _ _
 have k2 := ladd y0 y1 y2 y3 v0 v1 v2 v3 (hvy ▸ ly) (hvv ▸ lv)
 rw [hvy, hvv, hnrC] at k2
 obtain ⟨rC0, rC1, rC2, rC3, hrC, hvrC⟩ := w4_get nrC (p_m4 lrC)
 have hurC : w4C nrC = [.pl (.u64 rC0), .pl (.u64 rC1), .pl (.u64 rC2), .pl (.u64 rC3)] := by rw [w4C, hrC]; rfl
 rw [hurC] at k2
 obtain ⟨nrD, hnrD⟩ : ∃ n, fS X1 Z1 = n := ⟨_, rfl⟩
 have lrD : nrD < p25 := by rw [← hnrD]; exact fS_lt _ _
 have k3 := lsub y0 y1 y2 y3 v0 v1 v2 v3 (hvy ▸ ly) (hvv ▸ lv)
 rw [hvy, hvv, hnrD] at k3
 obtain ⟨rD0, rD1, rD2, rD3, hrD, hvrD⟩ := w4_get nrD (p_m4 lrD)
 have hurD : w4C nrD = [.pl (.u64 rD0), .pl (.u64 rD1), .pl (.u64 rD2), .pl (.u64 rD3)] := by rw [w4C, hrD]; rfl
 rw [hurD] at k3
 obtain ⟨nrE, hnrE⟩ : ∃ n, fM nrA nrA = n := ⟨_, rfl⟩
 have lrE : nrE < p25 := by rw [← hnrE]; exact fM_lt _ _
 have k4 := lsquare rA0 rA1 rA2 rA3 (hvrA ▸ lrA)
 rw [hvrA, hnrE] at k4
 obtain ⟨rE0, rE1, rE2, rE3, hrE, hvrE⟩ := w4_get nrE (p_m4 lrE)
 have hurE : w4C nrE = [.pl (.u64 rE0), .pl (.u64 rE1), .pl (.u64 rE2), .pl (.u64 rE3)] := by rw [w4C, hrE]; rfl
 rw [hurE] at k4
 obtain ⟨nrF, hnrF⟩ : ∃ n, fM nrB nrB = n := ⟨_, rfl⟩
 have lrF : nrF < p25 := by rw [← hnrF]; exact fM_lt _ _
 have k5 := lsquare rB0 rB1 rB2 rB3 (hvrB ▸ lrB)
 rw [hvrB, hnrF] at k5
 obtain ⟨rF0, rF1, rF2, rF3, hrF, hvrF⟩ := w4_get nrF (p_m4 lrF)
 have hurF : w4C nrF = [.pl (.u64 rF0), .pl (.u64 rF1), .pl (.u64 rF2), .pl (.u64 rF3)] := by rw [w4C, hrF]; rfl
 rw [hurF] at k5
 obtain ⟨nrG, hnrG⟩ : ∃ n, fS nrE nrF = n := ⟨_, rfl⟩
 have lrG : nrG < p25 := by rw [← hnrG]; exact fS_lt _ _
 have k6 := lsub rE0 rE1 rE2 rE3 rF0 rF1 rF2 rF3 (hvrE ▸ lrE) (hvrF ▸ lrF)
 rw [hvrE, hvrF, hnrG] at k6
 obtain ⟨rG0, rG1, rG2, rG3, hrG, hvrG⟩ := w4_get nrG (p_m4 lrG)
 have hurG : w4C nrG = [.pl (.u64 rG0), .pl (.u64 rG1), .pl (.u64 rG2), .pl (.u64 rG3)] := by rw [w4C, hrG]; rfl
 rw [hurG] at k6
 obtain ⟨nrH, hnrH⟩ : ∃ n, fM nrD nrA = n := ⟨_, rfl⟩
 have lrH : nrH < p25 := by rw [← hnrH]; exact fM_lt _ _
 have k7 := lmul rD0 rD1 rD2 rD3 rA0 rA1 rA2 rA3 (hvrD ▸ lrD) (hvrA ▸ lrA)
 rw [hvrD, hvrA, hnrH] at k7
 obtain ⟨rH0, rH1, rH2, rH3, hrH, hvrH⟩ := w4_get nrH (p_m4 lrH)
 have hurH : w4C nrH = [.pl (.u64 rH0), .pl (.u64 rH1), .pl (.u64 rH2), .pl (.u64 rH3)] := by rw [w4C, hrH]; rfl
 rw [hurH] at k7
 obtain ⟨nrI, hnrI⟩ : ∃ n, fM nrC nrB = n := ⟨_, rfl⟩
 have lrI : nrI < p25 := by rw [← hnrI]; exact fM_lt _ _
 have k8 := lmul rC0 rC1 rC2 rC3 rB0 rB1 rB2 rB3 (hvrC ▸ lrC) (hvrB ▸ lrB)
 rw [hvrC, hvrB, hnrI] at k8
 obtain ⟨rI0, rI1, rI2, rI3, hrI, hvrI⟩ := w4_get nrI (p_m4 lrI)
 have hurI : w4C nrI = [.pl (.u64 rI0), .pl (.u64 rI1), .pl (.u64 rI2), .pl (.u64 rI3)] := by rw [w4C, hrI]; rfl
 rw [hurI] at k8
 obtain ⟨nrJ, hnrJ⟩ : ∃ n, fM nrE nrF = n := ⟨_, rfl⟩
 have lrJ : nrJ < p25 := by rw [← hnrJ]; exact fM_lt _ _
 have k9 := lmul rE0 rE1 rE2 rE3 rF0 rF1 rF2 rF3 (hvrE ▸ lrE) (hvrF ▸ lrF)
 rw [hvrE, hvrF, hnrJ] at k9
 obtain ⟨rJ0, rJ1, rJ2, rJ3, hrJ, hvrJ⟩ := w4_get nrJ (p_m4 lrJ)
 have hurJ : w4C nrJ = [.pl (.u64 rJ0), .pl (.u64 rJ1), .pl (.u64 rJ2), .pl (.u64 rJ3)] := by rw [w4C, hrJ]; rfl
 rw [hurJ] at k9
 obtain ⟨nrK, hnrK⟩ : ∃ n, fA nrH nrI = n := ⟨_, rfl⟩
 have lrK : nrK < p25 := by rw [← hnrK]; exact fA_lt _ _
 have k10 := ladd rH0 rH1 rH2 rH3 rI0 rI1 rI2 rI3 (hvrH ▸ lrH) (hvrI ▸ lrI)
 rw [hvrH, hvrI, hnrK] at k10
 obtain ⟨rK0, rK1, rK2, rK3, hrK, hvrK⟩ := w4_get nrK (p_m4 lrK)
 have hurK : w4C nrK = [.pl (.u64 rK0), .pl (.u64 rK1), .pl (.u64 rK2), .pl (.u64 rK3)] := by rw [w4C, hrK]; rfl
 rw [hurK] at k10
 obtain ⟨nrL, hnrL⟩ : ∃ n, fM nrK nrK = n := ⟨_, rfl⟩
 have lrL : nrL < p25 := by rw [← hnrL]; exact fM_lt _ _
 have k11 := lsquare rK0 rK1 rK2 rK3 (hvrK ▸ lrK)
 rw [hvrK, hnrL] at k11
 obtain ⟨rL0, rL1, rL2, rL3, hrL, hvrL⟩ := w4_get nrL (p_m4 lrL)
 have hurL : w4C nrL = [.pl (.u64 rL0), .pl (.u64 rL1), .pl (.u64 rL2), .pl (.u64 rL3)] := by rw [w4C, hrL]; rfl
 rw [hurL] at k11
 obtain ⟨nrM, hnrM⟩ : ∃ n, fM 121665 nrG = n := ⟨_, rfl⟩
 have lrM : nrM < p25 := by rw [← hnrM]; exact fM_lt _ _
 have k12 := lmul 121665 0 0 0 rG0 rG1 rG2 rG3 (hvk ▸ lk) (hvrG ▸ lrG)
 rw [hvk, hvrG, hnrM] at k12
 obtain ⟨rM0, rM1, rM2, rM3, hrM, hvrM⟩ := w4_get nrM (p_m4 lrM)
 have hurM : w4C nrM = [.pl (.u64 rM0), .pl (.u64 rM1), .pl (.u64 rM2), .pl (.u64 rM3)] := by rw [w4C, hrM]; rfl
 rw [hurM] at k12
 obtain ⟨nrN, hnrN⟩ : ∃ n, fA nrE nrM = n := ⟨_, rfl⟩
 have lrN : nrN < p25 := by rw [← hnrN]; exact fA_lt _ _
 have k13 := ladd rE0 rE1 rE2 rE3 rM0 rM1 rM2 rM3 (hvrE ▸ lrE) (hvrM ▸ lrM)
 rw [hvrE, hvrM, hnrN] at k13
 obtain ⟨rN0, rN1, rN2, rN3, hrN, hvrN⟩ := w4_get nrN (p_m4 lrN)
 have hurN : w4C nrN = [.pl (.u64 rN0), .pl (.u64 rN1), .pl (.u64 rN2), .pl (.u64 rN3)] := by rw [w4C, hrN]; rfl
 rw [hurN] at k13
 obtain ⟨nrO, hnrO⟩ : ∃ n, fM nrG nrN = n := ⟨_, rfl⟩
 have lrO : nrO < p25 := by rw [← hnrO]; exact fM_lt _ _
 have k14 := lmul rG0 rG1 rG2 rG3 rN0 rN1 rN2 rN3 (hvrG ▸ lrG) (hvrN ▸ lrN)
 rw [hvrG, hvrN, hnrO] at k14
 obtain ⟨rO0, rO1, rO2, rO3, hrO, hvrO⟩ := w4_get nrO (p_m4 lrO)
 have hurO : w4C nrO = [.pl (.u64 rO0), .pl (.u64 rO1), .pl (.u64 rO2), .pl (.u64 rO3)] := by rw [w4C, hrO]; rfl
 rw [hurO] at k14
 obtain ⟨nrP, hnrP⟩ : ∃ n, fS nrH nrI = n := ⟨_, rfl⟩
 have lrP : nrP < p25 := by rw [← hnrP]; exact fS_lt _ _
 have k15 := lsub rH0 rH1 rH2 rH3 rI0 rI1 rI2 rI3 (hvrH ▸ lrH) (hvrI ▸ lrI)
 rw [hvrH, hvrI, hnrP] at k15
 obtain ⟨rP0, rP1, rP2, rP3, hrP, hvrP⟩ := w4_get nrP (p_m4 lrP)
 have hurP : w4C nrP = [.pl (.u64 rP0), .pl (.u64 rP1), .pl (.u64 rP2), .pl (.u64 rP3)] := by rw [w4C, hrP]; rfl
 rw [hurP] at k15
 obtain ⟨nrQ, hnrQ⟩ : ∃ n, fM nrP nrP = n := ⟨_, rfl⟩
 have lrQ : nrQ < p25 := by rw [← hnrQ]; exact fM_lt _ _
 have k16 := lsquare rP0 rP1 rP2 rP3 (hvrP ▸ lrP)
 rw [hvrP, hnrQ] at k16
 obtain ⟨rQ0, rQ1, rQ2, rQ3, hrQ, hvrQ⟩ := w4_get nrQ (p_m4 lrQ)
 have hurQ : w4C nrQ = [.pl (.u64 rQ0), .pl (.u64 rQ1), .pl (.u64 rQ2), .pl (.u64 rQ3)] := by rw [w4C, hrQ]; rfl
 rw [hurQ] at k16
 obtain ⟨nrR, hnrR⟩ : ∃ n, fM U nrQ = n := ⟨_, rfl⟩
 have lrR : nrR < p25 := by rw [← hnrR]; exact fM_lt _ _
 have k17 := lmul u0 u1 u2 u3 rQ0 rQ1 rQ2 rQ3 (hvu ▸ lu) (hvrQ ▸ lrQ)
 rw [hvu, hvrQ, hnrR] at k17
 obtain ⟨rR0, rR1, rR2, rR3, hrR, hvrR⟩ := w4_get nrR (p_m4 lrR)
 have hurR : w4C nrR = [.pl (.u64 rR0), .pl (.u64 rR1), .pl (.u64 rR2), .pl (.u64 rR3)] := by rw [w4C, hrR]; rfl
 rw [hurR] at k17
 have hfin : (w4C (dblM ⟨X0, Z0⟩).x ++ (w4C (withM ⟨X0, Z0⟩ ⟨X1, Z1⟩ U).x ++ (w4C (dblM ⟨X0, Z0⟩).z ++ w4C (withM ⟨X0, Z0⟩ ⟨X1, Z1⟩ U).z))) = [.pl (.u64 rJ0), .pl (.u64 rJ1), .pl (.u64 rJ2), .pl (.u64 rJ3), .pl (.u64 rL0), .pl (.u64 rL1), .pl (.u64 rL2), .pl (.u64 rL3), .pl (.u64 rO0), .pl (.u64 rO1), .pl (.u64 rO2), .pl (.u64 rO3), .pl (.u64 rR0), .pl (.u64 rR1), .pl (.u64 rR2), .pl (.u64 rR3)] := by simp only [dblM, withM, hnrA, hnrB, hnrC, hnrD, hnrE, hnrF, hnrG, hnrH, hnrI, hnrJ, hnrK, hnrL, hnrM, hnrN, hnrO, hnrP, hnrQ, hnrR, hurJ, hurL, hurO, hurR]; rfl
 rw [hfin]
 refine CtM.k Tryd.func13 rfl Tryd.ntmps13 (congrArg Array.toList Tryd.results13) (by simp) fun w0 ro may fx => ?_
 refine sr_k fun K1 hK1 => ?_
 simp only [go_sem]
 repeat' (first | apply And.intro | intro _)
 refine hK1 _ ?_
 refine seq_k fun N2 M2 hN2 hM2 => ?_
 refine dr_k mixed fun K3 hK3 => ?_
 refine dr_piece_k 16 [14, 15, 16, 17, 18, 19, 20, 21, 22, 23, 24, 25, 26, 27, 5, 6] [0, 1, 3, 0, 8, 24, 63, 0, 128, 384, 0, 1024, 3072, 8191, 0, 0, 65535, 131071] [] rfl (by kernel_rfl) rfl (by simp only [go_sem]) fun N4 K4 hN4 hK4 => ?_
 simp only [go_sem]
 repeat' (first | apply And.intro | intro _)
 all_goals (refine call_drawhand (fun k => k) (.w (.agg [.pl (.u64 rA0), .pl (.u64 rA1), .pl (.u64 rA2), .pl (.u64 rA3)])) [] (fun _ _ => rfl) ?_ ?_ ?_ k0.told ?_ ?_; (iterate 2 (focus (first | rfl | (simp only [go_sem] <;> first | done | rfl | simp)))); (first | kernel_rfl | rfl | simp [fixO, fixL, pls]))
 all_goals try (refine And.intro ?_ (And.intro ?_ (And.intro ?_ ?_)) <;> (first | rfl | (simp only [go_sem]; done) | (simp [go_sem, look]; done)))
 all_goals (try simp only [go_sem])
 all_goals (try simp only [go_sem])
 all_goals repeat' (first | apply And.intro | intro _)
 all_goals (refine call_drawhand (fun k => k) (.w (.agg [.pl (.u64 rB0), .pl (.u64 rB1), .pl (.u64 rB2), .pl (.u64 rB3)])) [] (fun _ _ => rfl) ?_ ?_ ?_ k1.told ?_ ?_; (iterate 2 (focus (first | rfl | (simp only [go_sem] <;> first | done | rfl | simp)))); (first | kernel_rfl | rfl | simp [fixO, fixL, pls]))
 all_goals try (refine And.intro ?_ (And.intro ?_ (And.intro ?_ ?_)) <;> (first | rfl | (simp only [go_sem]; done) | (simp [go_sem, look]; done)))
 all_goals (try simp only [go_sem])
 all_goals (try simp only [go_sem])
 all_goals repeat' (first | apply And.intro | intro _)
 all_goals
  refine hK4 _ _ trivial (hN4 _ ?_)
  refine dr_runs_k 2 18 rfl (by kernel_rfl) rfl rfl fun N5 hN5 => ?_
  simp only [go_sem]
  repeat' (first | apply And.intro | intro _)
  all_goals
   refine hN5 _ ?_
   refine dr_end rfl (hK3 _ ?_)
   refine hN2 _ ?_
   refine seq_k fun N6 M6 hN6 hM6 => ?_
   refine dr_k mixed fun K7 hK7 => ?_
   refine dr_piece_k 16 [28, 29, 30, 31, 32, 33, 34, 35, 36, 37, 38, 39, 40, 41, 7, 8] [0, 1, 3, 0, 8, 24, 63, 0, 128, 384, 0, 1024, 3072, 8191, 0, 0, 65535, 131071] [] rfl (by kernel_rfl) rfl (by simp only [go_sem]) fun N8 K8 hN8 hK8 => ?_
   simp only [go_sem]
   repeat' (first | apply And.intro | intro _)
   all_goals (refine call_drawhand (fun k => k) (.w (.agg [.pl (.u64 rC0), .pl (.u64 rC1), .pl (.u64 rC2), .pl (.u64 rC3)])) [] (fun _ _ => rfl) ?_ ?_ ?_ k2.told ?_ ?_; (iterate 2 (focus (first | rfl | (simp only [go_sem] <;> first | done | rfl | simp)))); (first | kernel_rfl | rfl | simp [fixO, fixL, pls]))
   all_goals try (refine And.intro ?_ (And.intro ?_ (And.intro ?_ ?_)) <;> (first | rfl | (simp only [go_sem]; done) | (simp [go_sem, look]; done)))
   all_goals (try simp only [go_sem])
   all_goals (try simp only [go_sem])
   all_goals repeat' (first | apply And.intro | intro _)
   all_goals (refine call_drawhand (fun k => k) (.w (.agg [.pl (.u64 rD0), .pl (.u64 rD1), .pl (.u64 rD2), .pl (.u64 rD3)])) [] (fun _ _ => rfl) ?_ ?_ ?_ k3.told ?_ ?_; (iterate 2 (focus (first | rfl | (simp only [go_sem] <;> first | done | rfl | simp)))); (first | kernel_rfl | rfl | simp [fixO, fixL, pls]))
   all_goals try (refine And.intro ?_ (And.intro ?_ (And.intro ?_ ?_)) <;> (first | rfl | (simp only [go_sem]; done) | (simp [go_sem, look]; done)))
   all_goals (try simp only [go_sem])
   all_goals (try simp only [go_sem])
   all_goals repeat' (first | apply And.intro | intro _)
   all_goals
    refine hK8 _ _ trivial (hN8 _ ?_)
    refine dr_runs_k 2 18 rfl (by kernel_rfl) rfl rfl fun N9 hN9 => ?_
    simp only [go_sem]
    repeat' (first | apply And.intro | intro _)
    all_goals
     refine hN9 _ ?_
     refine dr_end rfl (hK7 _ ?_)
     refine hN6 _ ?_
     refine seq_k fun N10 M10 hN10 hM10 => ?_
     refine dr_k mixed fun K11 hK11 => ?_
     refine dr_piece_k 6 [42, 43, 44, 45, 9, 10] [0, 1, 0, 7, 0, 0, 63, 127] [] rfl (by kernel_rfl) rfl (by simp only [go_sem]) fun N12 K12 hN12 hK12 => ?_
     simp only [go_sem]
     repeat' (first | apply And.intro | intro _)
     all_goals (refine call_drawhand (fun k => k) (.w (.agg [.pl (.u64 rE0), .pl (.u64 rE1), .pl (.u64 rE2), .pl (.u64 rE3)])) [] (fun _ _ => rfl) ?_ ?_ ?_ k4.told ?_ ?_; (iterate 2 (focus (first | rfl | (simp only [go_sem] <;> first | done | rfl | simp)))); (first | kernel_rfl | rfl | simp [fixO, fixL, pls]))
     all_goals try (refine And.intro ?_ (And.intro ?_ (And.intro ?_ ?_)) <;> (first | rfl | (simp only [go_sem]; done) | (simp [go_sem, look]; done)))
     all_goals (try simp only [go_sem])
     all_goals (try simp only [go_sem])
     all_goals repeat' (first | apply And.intro | intro _)
     all_goals (refine call_drawhand (fun k => k) (.w (.agg [.pl (.u64 rF0), .pl (.u64 rF1), .pl (.u64 rF2), .pl (.u64 rF3)])) [] (fun _ _ => rfl) ?_ ?_ ?_ k5.told ?_ ?_; (iterate 2 (focus (first | rfl | (simp only [go_sem] <;> first | done | rfl | simp)))); (first | kernel_rfl | rfl | simp [fixO, fixL, pls]))
     all_goals try (refine And.intro ?_ (And.intro ?_ (And.intro ?_ ?_)) <;> (first | rfl | (simp only [go_sem]; done) | (simp [go_sem, look]; done)))
     all_goals (try simp only [go_sem])
     all_goals (try simp only [go_sem])
     all_goals repeat' (first | apply And.intro | intro _)
     all_goals
      refine hK12 _ _ trivial (hN12 _ ?_)
      refine dr_runs_k 2 8 rfl (by kernel_rfl) rfl rfl fun N13 hN13 => ?_
      simp only [go_sem]
      repeat' (first | apply And.intro | intro _)
      all_goals
       refine hN13 _ ?_
       refine dr_end rfl (hK11 _ ?_)
       refine hN10 _ ?_
       refine sr_k fun K14 hK14 => ?_
       simp only [go_sem]
       repeat' (first | apply And.intro | intro _)
       all_goals (refine call_hand false [] (fun k => k) (fun _ _ => rfl) ?_ (by decide) ?_ k6.told ?_; iterate 2 (focus (first | rfl | (simp only [go_sem] <;> first | done | rfl | simp))))
       all_goals (rintro v m ⟨hR, hm⟩; subst hR; subst hm)
       all_goals (refine And.intro ?_ (And.intro ?_ (And.intro ?_ ?_)); iterate 3 (focus (first | rfl | (simp only [go_sem]; done) | (simp [go_sem, look]; done))))
       all_goals (try simp only [go_sem])
       all_goals (try simp only [go_sem])
       all_goals repeat' (first | apply And.intro | intro _)
       refine hK14 _ ?_
       refine seq_k fun N15 M15 hN15 hM15 => ?_
       refine dr_k mixed fun K16 hK16 => ?_
       refine dr_piece_k 8 [49, 50, 51, 52, 53, 54, 12, 13] [0, 0, 3, 0, 0, 31, 0, 0, 255, 511] [] rfl (by kernel_rfl) rfl (by simp only [go_sem]) fun N17 K17 hN17 hK17 => ?_
       simp only [go_sem]
       repeat' (first | apply And.intro | intro _)
       all_goals (refine call_drawhand (fun k => k) (.w (.agg [.pl (.u64 rH0), .pl (.u64 rH1), .pl (.u64 rH2), .pl (.u64 rH3)])) [] (fun _ _ => rfl) ?_ ?_ ?_ k7.told ?_ ?_; (iterate 2 (focus (first | rfl | (simp only [go_sem] <;> first | done | rfl | simp)))); (first | kernel_rfl | rfl | simp [fixO, fixL, pls]))
       all_goals try (refine And.intro ?_ (And.intro ?_ (And.intro ?_ ?_)) <;> (first | rfl | (simp only [go_sem]; done) | (simp [go_sem, look]; done)))
       all_goals (try simp only [go_sem])
       all_goals (try simp only [go_sem])
       all_goals repeat' (first | apply And.intro | intro _)
       all_goals (refine call_drawhand (fun k => k) (.w (.agg [.pl (.u64 rI0), .pl (.u64 rI1), .pl (.u64 rI2), .pl (.u64 rI3)])) [] (fun _ _ => rfl) ?_ ?_ ?_ k8.told ?_ ?_; (iterate 2 (focus (first | rfl | (simp only [go_sem] <;> first | done | rfl | simp)))); (first | kernel_rfl | rfl | simp [fixO, fixL, pls]))
       all_goals try (refine And.intro ?_ (And.intro ?_ (And.intro ?_ ?_)) <;> (first | rfl | (simp only [go_sem]; done) | (simp [go_sem, look]; done)))
       all_goals (try simp only [go_sem])
       all_goals (try simp only [go_sem])
       all_goals repeat' (first | apply And.intro | intro _)
       all_goals
        refine hK17 _ _ trivial (hN17 _ ?_)
        refine dr_runs_k 2 10 rfl (by kernel_rfl) rfl rfl fun N18 hN18 => ?_
        simp only [go_sem]
        repeat' (first | apply And.intro | intro _)
        all_goals
         refine hN18 _ ?_
         refine dr_end rfl (hK16 _ ?_)
         refine hN15 _ ?_
         refine seq_k fun N19 M19 hN19 hM19 => ?_
         refine dr_k mixed fun K20 hK20 => ?_
         refine dr_piece_k 22 [55, 56, 57, 58, 59, 60, 61, 62, 63, 64, 65, 66, 67, 68, 69, 70, 71, 72, 73, 74, 75, 76] [0, 0, 3, 0, 0, 31, 63, 127, 0, 0, 0, 0, 3199, 7807, 16255, 0, 0, 0, 229247, 491391, 1048447, 2097023, 4194303, 8388607] [] rfl (by kernel_rfl) rfl (by simp only [go_sem]) fun N21 K21 hN21 hK21 => ?_
         simp only [go_sem]
         repeat' (first | apply And.intro | intro _)
         all_goals (refine call_drawhand (fun k => k) (.w (.agg [.pl (.u64 rJ0), .pl (.u64 rJ1), .pl (.u64 rJ2), .pl (.u64 rJ3)])) [] (fun _ _ => rfl) ?_ ?_ ?_ k9.told ?_ ?_; (iterate 2 (focus (first | rfl | (simp only [go_sem] <;> first | done | rfl | simp)))); (first | kernel_rfl | rfl | simp [fixO, fixL, pls]))
         all_goals try (refine And.intro ?_ (And.intro ?_ (And.intro ?_ ?_)) <;> (first | rfl | (simp only [go_sem]; done) | (simp [go_sem, look]; done)))
         all_goals (try simp only [go_sem])
         all_goals (try simp only [go_sem])
         all_goals repeat' (first | apply And.intro | intro _)
         all_goals (refine call_drawhand (fun k => k) (.w (.agg [.pl (.u64 rK0), .pl (.u64 rK1), .pl (.u64 rK2), .pl (.u64 rK3)])) [] (fun _ _ => rfl) ?_ ?_ ?_ k10.told ?_ ?_; (iterate 2 (focus (first | rfl | (simp only [go_sem] <;> first | done | rfl | simp)))); (first | kernel_rfl | rfl | simp [fixO, fixL, pls]))
         all_goals try (refine And.intro ?_ (And.intro ?_ (And.intro ?_ ?_)) <;> (first | rfl | (simp only [go_sem]; done) | (simp [go_sem, look]; done)))
         all_goals (try simp only [go_sem])
         all_goals (try simp only [go_sem])
         all_goals repeat' (first | apply And.intro | intro _)
         all_goals (refine call_drawhand (fun k => k) (.w (.agg [.pl (.u64 rL0), .pl (.u64 rL1), .pl (.u64 rL2), .pl (.u64 rL3)])) [] (fun _ _ => rfl) ?_ ?_ ?_ k11.told ?_ ?_; (iterate 2 (focus (first | rfl | (simp only [go_sem] <;> first | done | rfl | simp)))); (first | kernel_rfl | rfl | simp [fixO, fixL, pls]))
         all_goals try (refine And.intro ?_ (And.intro ?_ (And.intro ?_ ?_)) <;> (first | rfl | (simp only [go_sem]; done) | (simp [go_sem, look]; done)))
         all_goals (try simp only [go_sem])
         all_goals (try simp only [go_sem])
         all_goals repeat' (first | apply And.intro | intro _)
         all_goals (refine call_drawhand (fun k => k) (.w (.agg [.pl (.u64 rM0), .pl (.u64 rM1), .pl (.u64 rM2), .pl (.u64 rM3)])) [] (fun _ _ => rfl) ?_ ?_ ?_ k12.told ?_ ?_; (iterate 2 (focus (first | rfl | (simp only [go_sem] <;> first | done | rfl | simp)))); (first | kernel_rfl | rfl | simp [fixO, fixL, pls]))
         all_goals try (refine And.intro ?_ (And.intro ?_ (And.intro ?_ ?_)) <;> (first | rfl | (simp only [go_sem]; done) | (simp [go_sem, look]; done)))
         all_goals (try simp only [go_sem])
         all_goals (try simp only [go_sem])
         all_goals repeat' (first | apply And.intro | intro _)
         all_goals (refine call_drawhand (fun k => k) (.w (.agg [.pl (.u64 rN0), .pl (.u64 rN1), .pl (.u64 rN2), .pl (.u64 rN3)])) [] (fun _ _ => rfl) ?_ ?_ ?_ k13.told ?_ ?_; (iterate 2 (focus (first | rfl | (simp only [go_sem] <;> first | done | rfl | simp)))); (first | kernel_rfl | rfl | simp [fixO, fixL, pls]))
         all_goals try (refine And.intro ?_ (And.intro ?_ (And.intro ?_ ?_)) <;> (first | rfl | (simp only [go_sem]; done) | (simp [go_sem, look]; done)))
         all_goals (try simp only [go_sem])
         all_goals (try simp only [go_sem])
         all_goals repeat' (first | apply And.intro | intro _)
         all_goals (refine call_drawhand (fun k => k) (.w (.agg [.pl (.u64 rO0), .pl (.u64 rO1), .pl (.u64 rO2), .pl (.u64 rO3)])) [] (fun _ _ => rfl) ?_ ?_ ?_ k14.told ?_ ?_; (iterate 2 (focus (first | rfl | (simp only [go_sem] <;> first | done | rfl | simp)))); (first | kernel_rfl | rfl | simp [fixO, fixL, pls]))
         all_goals try (refine And.intro ?_ (And.intro ?_ (And.intro ?_ ?_)) <;> (first | rfl | (simp only [go_sem]; done) | (simp [go_sem, look]; done)))
         all_goals (try simp only [go_sem])
         all_goals (try simp only [go_sem])
         all_goals repeat' (first | apply And.intro | intro _)
         all_goals (refine call_drawhand (fun k => k) (.w (.agg [.pl (.u64 rP0), .pl (.u64 rP1), .pl (.u64 rP2), .pl (.u64 rP3)])) [] (fun _ _ => rfl) ?_ ?_ ?_ k15.told ?_ ?_; (iterate 2 (focus (first | rfl | (simp only [go_sem] <;> first | done | rfl | simp)))); (first | kernel_rfl | rfl | simp [fixO, fixL, pls]))
         all_goals try (refine And.intro ?_ (And.intro ?_ (And.intro ?_ ?_)) <;> (first | rfl | (simp only [go_sem]; done) | (simp [go_sem, look]; done)))
         all_goals (try simp only [go_sem])
         all_goals (try simp only [go_sem])
         all_goals repeat' (first | apply And.intro | intro _)
         all_goals (refine call_drawhand (fun k => k) (.w (.agg [.pl (.u64 rQ0), .pl (.u64 rQ1), .pl (.u64 rQ2), .pl (.u64 rQ3)])) [] (fun _ _ => rfl) ?_ ?_ ?_ k16.told ?_ ?_; (iterate 2 (focus (first | rfl | (simp only [go_sem] <;> first | done | rfl | simp)))); (first | kernel_rfl | rfl | simp [fixO, fixL, pls]))
         all_goals try (refine And.intro ?_ (And.intro ?_ (And.intro ?_ ?_)) <;> (first | rfl | (simp only [go_sem]; done) | (simp [go_sem, look]; done)))
         all_goals (try simp only [go_sem])
         all_goals (try simp only [go_sem])
         all_goals repeat' (first | apply And.intro | intro _)
         all_goals (refine call_drawhand (fun k => k) (.w (.agg [.pl (.u64 rR0), .pl (.u64 rR1), .pl (.u64 rR2), .pl (.u64 rR3)])) [] (fun _ _ => rfl) ?_ ?_ ?_ k17.told ?_ ?_; (iterate 2 (focus (first | rfl | (simp only [go_sem] <;> first | done | rfl | simp)))); (first | kernel_rfl | rfl | simp [fixO, fixL, pls]))
         all_goals try (refine And.intro ?_ (And.intro ?_ (And.intro ?_ ?_)) <;> (first | rfl | (simp only [go_sem]; done) | (simp [go_sem, look]; done)))
         all_goals (try simp only [go_sem])
         all_goals (try simp only [go_sem])
         all_goals repeat' (first | apply And.intro | intro _)
         all_goals
          refine hK21 _ _ trivial (hN21 _ ?_)
          refine dr_runs_k 2 24 rfl (by kernel_rfl) rfl rfl fun N22 hN22 => ?_
          simp only [go_sem]
          repeat' (first | apply And.intro | intro _)
          all_goals
           refine hN22 _ ?_
           refine dr_end rfl (hK20 _ ?_)
           refine hN19 _ ?_
           refine ret_k ?_
           simp only [go_sem]
           all_goals (exact told_plain (by simp [plainV, plainW]) ⟨rfl, rfl⟩)
end Go.Sy

