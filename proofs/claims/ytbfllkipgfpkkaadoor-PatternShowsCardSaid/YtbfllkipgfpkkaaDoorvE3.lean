/- The layer that reckons a function out, part 3 of 3: what it says of states, operations, regions, loops, calls. CONDITIONS: those that each theorem names. -/
import Derived.Test.YtbfllkipgfpkkaaDoorvE2
import Derived.Handed
import Derived.KernelRfl
import Derived.Lib.LaidTab
import Derived.LaidLaws
import Derived.Below
set_option linter.unusedVariables false
set_option linter.unusedSimpArgs false
namespace Go.Sy

def sealL (k : Nat) (c : List PL) : L → L
  | .pl x => .pl x
  | .p j path => if j = k then .pl (.q c path) else .p j path
  | .s j path len sz => if j = k then if pok c.length path ∧ psz c.length path = len * sz then .pl (.R false sz (chunks sz len (rd c path))) else .pl .u else .s j path len sz
  | .fn f caps => if caps.any (fun j => j == k) = true then .pl .u else .fn f caps
def sealW (k : Nat) (c : List PL) : W → W
  | .one l => .one (sealL k c l)
  | .agg cs => .agg (cs.map (sealL k c))
def sealV (k : Nat) (c : List PL) : V → V
  | .w x => .w (sealW k c x)
  | .tup xs => .tup (xs.map (sealW k c))
  | .any => .any
def sealE (k : Nat) (c : List PL) : List (Nat × V) → List (Nat × V)
  | [] => []
  | x :: r => (x.1, sealV k c x.2) :: sealE k c r
def sealM (k : Nat) (c : List PL) : List (Nat × Ob) → List (Nat × Ob)
  | [] => []
  | x :: r => if x.1 = k then sealM k c r else (x.1, if x.1 < 1000000 then ⟨x.2.row, x.2.cells.map (sealL k c)⟩ else x.2) :: sealM k c r
def St.laid (k : Nat) (c : List PL) (S : St) : St := ⟨sealE k c S.env, sealM k c S.mem⟩

theorem look_sealE {k : Nat} {c : List PL} : ∀ {l : List (Nat × V)} {n : Nat}, look (sealE k c l) n = (look l n).map (sealV k c)
  | [], n => rfl
  | x :: r, n => by
    simp only [sealE, look]
    split
    · rfl
    · exact look_sealE
theorem look_sealM {k : Nat} {c : List PL} : ∀ {l : List (Nat × Ob)} {n : Nat}, look (sealM k c l) n = if n = k then none else (look l n).map fun o => if n < 1000000 then ⟨o.row, o.cells.map (sealL k c)⟩ else o
  | [], n => by simp [sealM, look]
  | x :: r, n => by
    simp only [sealM]
    split
    · rename_i e
      rw [look_sealM]
      simp only [look]
      by_cases hn : n = k
      · rw [if_pos hn, if_pos hn]
      · rw [if_neg hn, if_neg hn, if_neg (fun h => hn (h.trans e))]
    · rename_i e
      simp only [look]
      by_cases hx : n = x.1
      · subst hx; rw [if_pos rfl, if_neg e, if_pos rfl]; rfl
      · rw [if_neg hx, if_neg hx, look_sealM]

def Va.seals (d : Va) (k : Nat) (w : World) : Va := ⟨d.at_, d.size, fun b o => if b = d.at_ k then w.cell? ⟨b, o, none⟩ else d.ro b o⟩

section
variable {B : Base} {d : Va} {S : St} {a : Act} {w : World} {k : Nat} {o : Ob} {c : List PL}

theorem seal_mono (h : Sim B d S a w) (hk : look S.mem k = some o) (hkl : k < gl0) : ∀ b o y, d.ro b o = some y → (d.seals k w).ro b o = some y := fun b o' y hy => by
  simp only [Va.seals]
  split
  · rename_i e; rw [e, (h.own k (by rw [hk]; rfl) hkl).1] at hy; cases hy
  · exact hy

theorem sealL_den (h : Sim B d S a w) (hk : look S.mem k = some o) (hc : o.cells = pls c) (hkl : k < gl0) {l : L} {y : Value} (hd : l.den d y) : (sealL k c l).den (d.seals k w) y := by
  have hro := seal_mono h hk hkl
  have hb : ∀ o' y, w.cell? ⟨d.at_ k, o', none⟩ = some y → (d.seals k w).ro (d.at_ k) o' = some y := fun o' y hy => by simp only [Va.seals, if_true]; exact hy
  have hl : o.cells.length = c.length := by rw [hc, length_pls]
  cases l with
  | pl x => exact PL.den_mono hro hd
  | p j path =>
    simp only [sealL]
    split
    · rename_i e; subst e
      simp only [L.den] at hd
      rw [L.den, PL.den]
      obtain ⟨vals, hv, hcell, _⟩ := h.readObj (path := []) hk trivial
      simp only [rd, hc, poff] at hv hcell
      exact ⟨d.at_ j, 0, by rw [hd]; simp, denAt_cells' hro hb hv hcell⟩
    · exact hd
  | s j path len sz =>
    simp only [sealL]
    split
    · rename_i e; subst e
      split
      · rename_i hp
        obtain ⟨hp, hps⟩ := hp
        obtain ⟨vals, hv, hcell, _⟩ := h.readObj (path := path) hk (by rw [hl]; exact hp)
        have hcl := length_rd c hp
        have e2 : rd o.cells path = pls (rd c path) := by rw [hc]; unfold pls; rw [rd_map]
        rw [e2] at hv
        obtain ⟨oo, cap, rfl, hlc, hcm, ho, _⟩ := hd
        rw [L.den, PL.den]
        right; left
        rw [hps] at hcl
        refine ⟨d.at_ j, oo, cap, by rw [length_chunks], by rw [length_chunks]; exact hlc, hcm, fun e => (by cases e), ?_⟩
        refine denRows_chunks ?_ hcl
        rcases ho with ho | rfl
        · have hlen : len = 0 := by omega
          rw [hlen, Nat.zero_mul] at hcl
          have := List.eq_nil_of_length_eq_zero hcl
          rw [this]; rw [PL.denAt]; trivial
        · exact denAt_cells' hro hb hv hcell
      · have hs := L.den_scalar hd
        rw [L.den, PL.den]; exact hs
    · exact hd
  | fn f caps =>
    simp only [sealL]
    split
    · have hs := L.den_scalar hd
      rw [L.den, PL.den]; exact hs
    · exact hd

theorem sealL_all (h : Sim B d S a w) (hk : look S.mem k = some o) (hc : o.cells = pls c) (hkl : k < gl0) {cs : List L} {vs : List Value} (hd : All2 (L.den d) cs vs) : All2 (L.den (d.seals k w)) (cs.map (sealL k c)) vs :=
  All2.map_left (hd.mono fun x y _ hr => sealL_den h hk hc hkl hr)

theorem sealW_den (h : Sim B d S a w) (hk : look S.mem k = some o) (hc : o.cells = pls c) (hkl : k < gl0) {x : W} {y : Value} (hd : x.den d y) : (sealW k c x).den (d.seals k w) y := by
  cases x with
  | one l => exact sealL_den h hk hc hkl hd
  | agg cs => obtain ⟨vs, rfl, hv⟩ := hd; exact ⟨vs, rfl, sealL_all h hk hc hkl hv⟩

theorem sealV_den (h : Sim B d S a w) (hk : look S.mem k = some o) (hc : o.cells = pls c) (hkl : k < gl0) {x : V} {y : Value} (hd : x.den d y) : (sealV k c x).den (d.seals k w) y := by
  cases x with
  | w x => exact sealW_den h hk hc hkl hd
  | tup xs => obtain ⟨vs, rfl, hv⟩ := hd; exact ⟨vs, rfl, All2.map_left (hv.mono fun x y _ hr => sealW_den h hk hc hkl hr)⟩
  | any => trivial

theorem Sim.sealed (h : Sim B d S a w) (hk : look S.mem k = some o) (hc : o.cells = pls c) (hkp : k < px0) : Sim B (d.seals k w) (S.laid k c) a w := by
  have hkl : k < gl0 := Nat.lt_trans hkp px_gl
  have hmem : ∀ {j : Nat} {p : Ob}, look (S.laid k c).mem j = some p → j ≠ k ∧ ∃ q, look S.mem j = some q ∧ p = if j < 1000000 then ⟨q.row, q.cells.map (sealL k c)⟩ else q := fun {j p} hj => by
    simp only [St.laid, look_sealM] at hj
    split at hj
    · cases hj
    · rename_i hne
      obtain ⟨q, hq, rfl⟩ := Option.map_eq_some_iff.mp hj
      exact ⟨hne, q, hq, rfl⟩
  have hsome : ∀ {j : Nat}, (look (S.laid k c).mem j).isSome = true → (look S.mem j).isSome = true ∧ j ≠ k := fun {j} hj => by
    obtain ⟨p, hp⟩ := Option.isSome_iff_exists.mp hj
    obtain ⟨h1, q, h2, _⟩ := hmem hp
    exact ⟨by rw [h2]; rfl, h1⟩
  refine ⟨h.defers, h.nt, fun n v hv => ?_, fun j p hj hjl => ?_, fun j1 j2 h1 h2 hl1 hl2 he => h.inj j1 j2 (hsome h1).1 (hsome h2).1 hl1 hl2 he, fun j hj hjl => ?_, fun b o' y hy => ?_, fun b o' y hy hb => ?_, h.os, h.tape, h.output, h.size, h.block, h.gat, fun j p hj hjl => ?_, fun j p q hj hq hjl => ?_, h.fxn⟩
  · simp only [St.laid, look_sealE] at hv
    obtain ⟨u, hu, rfl⟩ := Option.map_eq_some_iff.mp hv
    obtain ⟨y, hy, hd⟩ := h.env n u hu
    exact ⟨y, hy, sealV_den h hk hc hkl hd⟩
  · obtain ⟨_, q, hq, rfl⟩ := hmem hj
    rw [if_pos hjl]
    obtain ⟨vals, spare, ty, fr, g1, g2, g3, g4, g5⟩ := h.mem j q hq hjl
    exact ⟨vals, spare, ty, fr, g1, g2, sealL_all h hk hc hkl g3, g4, g5⟩
  · obtain ⟨h1, h2⟩ := hsome hj
    obtain ⟨g1, g2⟩ := h.own j h1 hjl
    refine ⟨fun o' => ?_, g2⟩
    simp only [Va.seals]
    rw [if_neg (fun e => h2 (h.inj j k h1 (by rw [hk]; rfl) hjl hkl e))]; exact g1 o'
  · simp only [Va.seals] at hy
    split at hy
    · exact hy
    · exact h.ro b o' y hy
  · simp only [Va.seals] at hy
    split at hy
    · rename_i e
      rcases (h.own k (by rw [hk]; rfl) hkl).2 with g | g
      · omega
      · exact absurd g.1 (Nat.not_le_of_lt hkp)
    · exact h.old b o' y hy hb
  · obtain ⟨_, q, hq, rfl⟩ := hmem hj
    rw [if_neg (Nat.not_lt_of_le hjl)]
    obtain ⟨e1, cs, e2, e3⟩ := h.glob j q hq hjl
    exact ⟨e1, cs, e2, PL.denAt_mono (seal_mono h hk hkl) e3⟩
  · obtain ⟨_, u, hu, _⟩ := hmem hj
    exact h.fix j u q hu hq hjl
end

theorem Le.laid {B : Base} {S : St} {k : Nat} {b : Bool} (c : List PL) (hk : look S.mem k = some ⟨b, pls c⟩) (hkp : k < 500000) : Le B S (S.laid k c) := fun d a w h => ⟨d.seals k w, h.sealed hk rfl hkp⟩
theorem ht_seal {P : Program} {B : Base} {Q : Exit → St → Prop} {S : St} {x : Code} (k : Nat) {b : Bool} (c : List PL) (hk : look S.mem k = some ⟨b, pls c⟩) (hkp : k < 500000) (h : HT P B x (S.laid k c) Q) : HT P B x S Q := HT.le (Le.laid c hk hkp) h
theorem mayOf_nil (d : Va) : mayOf d [] = fun _ => False := by funext b; simp [mayOf, look]
theorem fxOf_nil (d : Va) : fxOf d [] = fun _ => none := by funext b; simp [fxOf, look]
theorem Ct.hands {P : Program} {f : FuncId} {args : List V} {R : V → List (Nat × Ob) → Prop} (h : Ct P f args R) : CtM P f args [] R := by
  intro w d vals ⟨a, hs⟩ ha
  rw [mayOf_nil, fxOf_nil]
  exact h w d vals hs.ro hs.gat ha
theorem CtM.k {P : Program} {f : FuncId} {fn : Func} {c : Code} {args : List V} {m : List (Nat × Ob)} {R : V → List (Nat × Ob) → Prop} {nt : Nat} {rs : List ResultVar} (hf : P.funcs[f]? = some fn) (hb : fn.body = some c) (hnt : fn.ntmps = nt) (hrs : fn.results.toList = rs) (hn : args.length ≤ nt)
    (h : ∀ (w0 : World) (ro : Ro) (may : Nat → Prop) (fx : Nat → Option (Nat × Nat)), HT P ⟨w0, may, nt, ro, fx⟩ c ⟨argsE 0 args, m⟩ (endQ P rs R)) : CtM P f args m R := by
  subst hnt; subst hrs
  refine CtM.of hf hb hn fun w0 ro may fx => ?_
  exact (h w0 ro may fx).mono fun e S hq => by cases e <;> exact hq
theorem CtM.mono {P : Program} {f : FuncId} {args : List V} {m : List (Nat × Ob)} {R R' : V → List (Nat × Ob) → Prop} (h : CtM P f args m R) (hr : ∀ v m, R v m → R' v m) : CtM P f args m R' := by
  intro w d vals hm hargs
  exact (h w d vals hm hargs).mono fun e w' ⟨y, v, d', m', h1, h2, h3⟩ => ⟨y, v, d', m', h1, hr _ _ h2, h3⟩
end Go.Sy

namespace Go.Sy
theorem all2_caps {d : Va} : ∀ ks : List Nat, All2 (V.den d) (ks.map fun k => .w (.one (.p k []))) (ks.map fun k => Value.pointer (some ⟨d.at_ k, 0, none⟩))
  | [] => .nil
  | k :: ks => .cons (by simp [V.den, W.den, L.den, poff]) (all2_caps ks)
open Classical in
theorem call_fn {P : Program} {B : Base} {S : St} {K : St → Prop} {dst : Option Tmp} {ty : TypeId} {pos : String} {af : Array Edge} {f : FuncId} {args : List Operand} {ts : Array TypeId} {ds : List (Option Tmp)} {r : List Oper} {vs : List V} {m : List (Nat × Ob)} {R : V → List (Nat × Ob) → Prop}
    (vw : Bool) (hd : Hand) (nm : Nat → Nat) {t : Tmp} {caps ks : List Nat} (hfn : S.get (.tmp t) = some (.w (.one (.fn f caps)))) (hcaps : capsIn hd caps = some ks) (hgo : ∀ vals w, (callFunc f vals).run P w = .ok (.enter f vals) w) (hargs : valsIn vw S hd args = some vs) (hok : hdOk hd = true) (hm : handOk S hd m) (hc : CtM P f (vs ++ ks.map fun k => .w (.one (.p k []))) m R)
    (hK : ∀ v m', R v m' → leafOutV vw m' v = true ∧ outOk vw nm hd S m m' m' ∧ hd.all (fun x => (look m' x.1).isSome) = true ∧ (match dst with
      | some n => n < B.nt ∧ runOps P B ds r ⟨(n, v.ren (outN nm hd)) :: S.env, backM nm hd m' S.mem⟩ K
      | none => runOps P B ds r ⟨S.env, backM nm hd m' S.mem⟩ K)) :
    atCall P B ⟨dst, .call ⟨.value (.tmp t), args.toArray, ts⟩, ty, pos, af, none⟩ S ds r K := by
  intro d a w h next Q hn
  have hrun : (execOp a.eval ⟨dst, .call ⟨.value (.tmp t), args.toArray, ts⟩, ty, pos, af, none⟩).run P w = .ok (.enter f (args.map a.eval ++ caps.map fun k => Value.pointer (some ⟨d.at_ k, 0, none⟩)).toArray) w := by
    have hv := h.get hfn
    have hv' : a.eval (.tmp t) = .func (.func f) #[] (caps.map fun k => Value.pointer (some ⟨d.at_ k, 0, none⟩)).toArray := hv
    simp [execOp, resolve, Deferred.ofValue, hv', invoke, hgo]
  unfold Oper.wp
  rw [hrun, Oper.upon_enter]
  obtain ⟨ro, hr, hrv, hrw, hrn⟩ : ∃ ro : Ro, RoOk S hd d w vw ro ∧ (vw = false → ro = d.ro) ∧ (∀ b o y, ro b o = some y → w.cell? ⟨b, o, none⟩ = some y) ∧ (∀ k j, look hd k = some j → (look S.mem j).isSome = true → ∀ o, ro (d.at_ j) o = none) := by
    cases vw with
    | false => exact ⟨d.ro, roFalse, fun _ => rfl, h.ro, fun k j hk hj o => (h.own j hj (hdOk_look hok hk).2.2).1 o⟩
    | true =>
      refine ⟨fun b o => if (∃ k j, look hd k = some j ∧ (look S.mem j).isSome = true ∧ d.at_ j = b) then none else w.cell? ⟨b, o, none⟩, ⟨fun b o y hy => ?_, fun _ j hj hjl hn o y hy => ?_⟩, (fun h => by cases h), fun b o y hy => ?_, fun k j hk hj o => ?_⟩
      · rw [if_neg]
        · exact h.ro b o y hy
        · rintro ⟨k, j, hk, hj, rfl⟩
          have := (h.own j hj (hdOk_look hok hk).2.2).1 o
          rw [this] at hy; cases hy
      · rw [if_neg]
        · exact hy
        · rintro ⟨k, j', hk, hj', he⟩
          have := h.inj j' j hj' hj (hdOk_look hok hk).2.2 hjl he
          subst this
          have : nameIn hd j' ≠ none := by
            have key : ∀ {hd : Hand}, look hd k = some j' → nameIn hd j' ≠ none := by
              intro hd
              induction hd with
              | nil => intro h; cases h
              | cons x r ih =>
                intro h
                simp only [nameIn]
                split
                · simp
                · rename_i hne
                  simp only [look] at h
                  split at h
                  · cases h; exact absurd rfl hne
                  · exact ih h
            exact key hk
          exact this hn
      · have hy' : (if (∃ k j, look hd k = some j ∧ (look S.mem j).isSome = true ∧ d.at_ j = b) then none else w.cell? ⟨b, o, none⟩) = some y := hy
        split at hy'
        · cases hy'
        · exact hy'
      · exact if_pos ⟨k, j, hk, hj, rfl⟩
  have hmem := hand_mem' h hr hrw hrn hok hm
  have hda := valsIn_ok h hr hok hargs
  have hcp := capsIn_ok (ro := ro) h hok hcaps
  have hda2 : All2 (V.den (d.hand hd ro)) (vs ++ ks.map fun k => .w (.one (.p k []))) (args.map a.eval ++ caps.map fun k => Value.pointer (some ⟨d.at_ k, 0, none⟩)) := by
    refine hda.append ?_
    rw [← hcp]
    exact all2_caps ks
  refine (hc w (d.hand hd ro) (args.map a.eval ++ caps.map fun k => Value.pointer (some ⟨d.at_ k, 0, none⟩)).toArray hmem hda2).mono ?_
  rintro e w' ⟨y, v, d', m', rfl, hR, hvd, a2, hs⟩
  obtain ⟨hlo, hou, hall, hk⟩ := hK v m' hR
  obtain ⟨hsim, hnm, hro⟩ := back_ok h hrv hok hm hs hall hou
  have hvd2 := leafOutV_den hro hnm hlo hvd
  cases dst with
  | none => exact hn _ _ _ _ hk hsim
  | some n => exact hn _ _ _ _ hk.2 (hsim.put hk.1 hvd2)
end Go.Sy

namespace Go.Sy
def St.dropE (ks : List Nat) (S : St) : St := ⟨fgt ks S.env, S.mem⟩
theorem ht_dropE {P : Program} {B : Base} {Q : Exit → St → Prop} {S : St} {x : Code} (ks : List Nat) (h : HT P B x (S.dropE ks) Q) : HT P B x S Q := by
  refine HT.le (fun d a w hs => ⟨d, ?_⟩) h
  exact ⟨hs.defers, hs.nt, fun n v hv => hs.env n v (look_fgt hv), hs.mem, hs.inj, hs.own, hs.ro, hs.old, hs.os, hs.tape, hs.output, hs.size, hs.block, hs.gat, hs.glob, hs.fix, hs.fxn⟩
theorem dropE_mk (ks : List Nat) (e : List (Nat × V)) (m : List (Nat × Ob)) : St.dropE ks ⟨e, m⟩ = ⟨fgt ks e, m⟩ := rfl
theorem fgt_nil {α : Type} (ks : List Nat) : fgt ks ([] : List (Nat × α)) = [] := rfl
theorem fgt_cons {α : Type} (ks : List Nat) (n : Nat) (v : α) (r : List (Nat × α)) : fgt ks ((n, v) :: r) = if ks.contains n = true then fgt ks r else (n, v) :: fgt ks r := rfl
attribute [go_sem] optCons_some optCons_none fm_cons fm_nil mut_val mut_new mut_app mut_sto ns_val ns_new ns_sto ns_app nsC td_val td_new td_sto td_app chk_nil chk_cons atD_some memOp gslot Eff.free noUV noUW noUL Op.operands Call.operands Nat.reduceBneDiff bne_self_eq_false Option.toArray List.append_toArray List.toList_toArray Array.append_empty Array.empty_append
end Go.Sy

namespace Go.Sy
end Go.Sy

namespace Go.Sy
def Told (R : V → List (Nat × Ob) → Prop) (v : V) (m : List (Nat × Ob)) : Prop :=
  ∃ v' m', (∀ (B : Base) d y w, B.nt = 0 → v.den d y → MemOK B d m w → ∃ d', v'.den d' y ∧ MemOK B d' m' w) ∧ R v' m'
theorem CtM.told {P : Program} {f : FuncId} {args : List V} {ms : List (Nat × Ob)} {R : V → List (Nat × Ob) → Prop} (h : CtM P f args ms (Told R)) : CtM P f args ms R := by
  intro w d vals hm hargs
  refine (h w d vals hm hargs).mono fun e w' ⟨y, v, d', m', h1, ⟨v2, m2, h2, h3⟩, h4, h5⟩ => ?_
  obtain ⟨d2, h6, h7⟩ := h2 _ d' y w' rfl h4 h5
  exact ⟨y, v2, d2, m2, h1, h3, h6, h7⟩
theorem Ct.told {P : Program} {f : FuncId} {args : List V} {R : V → List (Nat × Ob) → Prop} (h : Ct P f args (Told R)) : Ct P f args R := by
  intro w d vals hro hg hargs
  refine (h w d vals hro hg hargs).mono fun e w' ⟨y, v, d', m', h1, ⟨v2, m2, h2, h3⟩, h4, h5⟩ => ?_
  obtain ⟨d2, h6, h7⟩ := h2 _ d' y w' rfl h4 h5
  exact ⟨y, v2, d2, m2, h1, h3, h6, h7⟩
section
variable {R : V → List (Nat × Ob) → Prop} {v v' : V} {m m' : List (Nat × Ob)}
theorem told_seal (k : Nat) {b : Bool} (c : List PL) (hk : look m k = some ⟨b, pls c⟩) (hl : k < 500000) (h : Told R (sealV k c v) (sealM k c m)) : Told R v m := by
  obtain ⟨v2, m2, h1, h2⟩ := h
  refine ⟨v2, m2, fun B d y w hb hv hm => ?_, h2⟩
  obtain ⟨a, hs⟩ := hm
  exact h1 B _ y w hb (sealV_den hs hk rfl (Nat.lt_trans hl px_gl) hv) ⟨a, hs.sealed hk rfl hl⟩
theorem told_tidy (h : Tidy R v m) : Told R v m := by
  obtain ⟨g, v2, m2, h1, h2, h3⟩ := h
  subst h1
  exact ⟨v2, m2, fun B d y w hb hv hm => ⟨d.via g, V.den_via hv, hm.tidy h2⟩, h3⟩
end
def plainW : W → Bool
  | .one (.pl _) => true
  | .one _ => false
  | .agg cs => cs.all fun l => match l with
    | .pl _ => true
    | _ => false
def plainV : V → Bool
  | .w x => plainW x
  | .tup xs => xs.all plainW
  | .any => true
theorem plain_ren {g : Nat → Nat} : ∀ {v : V}, plainV v = true → v.ren g = v := by
  have hl : ∀ cs : List L, (cs.all fun l => match l with | .pl _ => true | _ => false) = true → cs.map (L.ren g) = cs := by
    intro cs h
    induction cs with
    | nil => rfl
    | cons x r ih =>
      simp only [List.all_cons, Bool.and_eq_true] at h
      rw [List.map_cons, ih h.2]
      cases x <;> first | rfl | (cases h.1)
  have hw : ∀ x : W, plainW x = true → x.ren g = x := by
    intro x h
    cases x with
    | one l => cases l <;> first | rfl | (cases h)
    | agg cs => simp only [W.ren]; rw [hl cs h]
  intro v h
  cases v with
  | w x => simp only [V.ren]; rw [hw x h]
  | tup xs =>
    simp only [V.ren]
    congr 1
    simp only [plainV, List.all_eq_true] at h
    induction xs with
    | nil => rfl
    | cons x r ih => rw [List.map_cons, hw x (h x (by simp)), ih fun y hy => h y (by simp [hy])]
  | any => rfl
theorem told_plain {R : V → List (Nat × Ob) → Prop} {v : V} {m : List (Nat × Ob)} (hp : plainV v = true) (h : R v []) : Told R v m :=
  told_tidy ⟨fun k => k, v, [], (plain_ren hp).symm, .empty, h⟩
end Go.Sy

namespace Go.Sy
end Go.Sy

namespace Go.Sy
theorem ren_pls (g : Nat → Nat) (c : List PL) : (pls c).map (L.ren g) = pls c := by simp [pls, L.ren, Function.comp_def]
theorem L.ren_id (l : L) : l.ren (fun k => k) = l := by cases l <;> simp [L.ren]
theorem within_sub {m m2 : List (Nat × Ob)} (h : ∀ k o, look m2 k = some o → look m k = some o) : Within (fun k => k) m2 m :=
  ⟨fun k o hk => by rw [h k o hk]; congr 1; cases o; simp only [Ob.mk.injEq, true_and]; exact (List.map_id'' L.ren_id _).symm, fun _ _ _ _ h => h, fun _ h => h, fun _ _ => rfl⟩
theorem told_keep {R : V → List (Nat × Ob) → Prop} {v : V} {m m2 : List (Nat × Ob)} (hp : plainV v = true) (hm : ∀ k o, look m2 k = some o → look m k = some o) (h : R v m2) : Told R v m :=
  told_tidy ⟨fun k => k, v, m2, (plain_ren hp).symm, within_sub hm, h⟩
theorem keep_one {m : List (Nat × Ob)} {j : Nat} {o0 : Ob} (h : look m j = some o0) : ∀ k o, look [(j, o0)] k = some o → look m k = some o := by
  intro k o hk
  simp only [look] at hk
  split at hk
  · rename_i e; cases hk; rw [e]; exact h
  · cases hk
theorem seal_pls (k : Nat) (c d : List PL) : (pls d).map (sealL k c) = pls d := by simp [pls, sealL, Function.comp_def]
section
variable {P : Program} {B : Base} {ds : List (Option Tmp)} {r : List Oper} {S : St} {K : St → Prop}
theorem og_tt (j : Nat) (o : Oper) : onGuard (some true) j true P B ds o r S K = runOps P B ds (⟨o.dst, o.op, o.type, o.pos, o.after, none⟩ :: r) (setG S ds j true) K := by rw [ev_onGuard]; simp
theorem og_ff (j : Nat) (o : Oper) : onGuard (some false) j false P B ds o r S K = runOps P B ds (⟨o.dst, o.op, o.type, o.pos, o.after, none⟩ :: r) (setG S ds j false) K := by rw [ev_onGuard]; simp
theorem og_tf (j : Nat) (o : Oper) : onGuard (some true) j false P B ds o r S K = onSt ((setG S ds j true).put B.nt o.dst (.tup [])) P B ds r K := by rw [ev_onGuard]; simp
theorem og_ft (j : Nat) (o : Oper) : onGuard (some false) j true P B ds o r S K = onSt ((setG S ds j false).put B.nt o.dst (.tup [])) P B ds r K := by rw [ev_onGuard]; simp
end
section
variable {P : Program} {nt : Nat} {names : List Nat} {ds : List (Option Tmp)} {keep : Bool} {o : Oper} {N : List Nat} {D : List Da} {S : St} {k : List Nat → List Da → St → Prop}
end
attribute [go_sem high] og_tt og_ff og_tf og_ft
attribute [go_sem] capsV
end Go.Sy

namespace Go.Sy
section
variable {k j : Nat} {c : List PL}
theorem sealL_pl (x : PL) : sealL k c (.pl x) = .pl x := rfl
theorem sealL_pne {path : Path} (h : (j = k) = False) : sealL k c (.p j path) = .p j path := by simp only [sealL, h, if_false]
theorem sealL_fn0 (f : Nat) : sealL k c (.fn f []) = .fn f [] := by simp [sealL]
end
end Go.Sy

namespace Go.Sy
section
variable {H : Type} {enc : TypeId × Value → H} {P : Program} {w w2 : World} {base : Nat} {spare : Nat → Bool} {held : Bool}
end
end Go.Sy

namespace Go.Sy
section
variable {P : Program}
end
end Go.Sy

namespace Go.Sy
section
variable {H : Type} {enc : TypeId × Value → H} {P : Program}
end
end Go.Sy

namespace Go.Sy
section
variable {P : Program} {B : Base} {S : St} {Q : Exit → St → Prop}
theorem top_k {c : Code} (h : ∀ Z : Exit → St → Prop, (∀ e S', Q e S' → Z e S') → HT P B c S Z) : HT P B c S Q := h Q fun _ _ h => h
theorem sr_k {id : Nat} {l : List Oper} {y : Code} (h : ∀ K : St → Prop, (∀ S', HT P B y S' Q → K S') → runOps P B (dsOf l) l S K) : HT P B (.seq (.region id l.toArray false) y) S Q :=
  seq_k fun N M hN hM => region_k fun K hK => h K fun S' hy => hK S' (hN S' hy)
theorem sd_k {id : Nat} {l : List Oper} {y : Code} (names c : List Nat) (need : List (Nat × Nat)) (hm : P.follows .mixedOrders = true) (hst : drawOk (dsOf l) c need l = true)
    (hn : names.all (fun k => fresh k S && (look S.mem k).isNone) = true)
    (h : ∀ K : St → List Da → Prop, (∀ S' D, chkD l D need → HT P B y S' Q → K S' D) → runD P B.nt names (dsOf l) (!need.isEmpty) l [] [] S K) : HT P B (.seq (.region id l.toArray true) y) S Q :=
  seq_k fun N M hN hM => draw_k names c need hm hst hn fun K hK => h K fun S' D hd hy => hK S' D hd (hN S' hy)
theorem condT_k {c : Operand} {x y : Code} (hc : S.get c = some (.w (.one (.pl (.b true))))) (h : HT P B x S Q) : HT P B (.cond c x y) S Q := cond_k hc (fun _ => h) (fun e => by cases e)
theorem condF_k {c : Operand} {x y : Code} (hc : S.get c = some (.w (.one (.pl (.b false))))) (h : HT P B y S Q) : HT P B (.cond c x y) S Q := cond_k hc (fun e => by cases e) (fun _ => h)
end
end Go.Sy

namespace Go.Sy
section
variable {P : Program}
end
end Go.Sy

namespace Go.Sy
section
variable {P : Program} {B : Base} {Q : Exit → St → Prop} {S : St} {x y : Code}
end
attribute [go_sem] deepsIn deepV deepL deepLs deepC valsIn valIn leafIn leavesIn nameIn capsIn handOk leafOutV leafOutW leafOut okN outOk inv backM outN nameOut Ob.ren V.ren W.ren L.ren setM
end Go.Sy

namespace Go.Sy
def CH (vw : Bool) (hd : Hand) (P : Program) (f : FuncId) (args : List V) (m : List (Nat × Ob)) (R : V → List (Nat × Ob) → Prop) : Prop := CtM P f args m R
def CF (caps : List Nat) (vw : Bool) (hd : Hand) : Prop := True
theorem Ct.cv {P : Program} {f : FuncId} {args : List V} {T : V → Prop} (h : Ct P f args fun v _ => T v) : Ct P f args fun v m => T v ∧ m = [] := h.plain fun _ _ h => h
theorem CtM.ch {P : Program} {f : FuncId} {args : List V} {m : List (Nat × Ob)} {R : V → List (Nat × Ob) → Prop} (hd : Hand) (h : CtM P f args m R) (vw : Bool := false) : CH vw hd P f args m R := h
theorem CF.mk (caps : List Nat) (hd : Hand) (vw : Bool := false) : CF caps vw hd := trivial
section
variable {P : Program} {B : Base} {S : St} {K : St → Prop} {dst : Option Tmp} {ty : TypeId} {pos : String} {af : Array Edge} {f : FuncId} {args : List Operand} {ts : Array TypeId} {ds : List (Option Tmp)} {r : List Oper} {vs : List V} {m : List (Nat × Ob)} {R : V → List (Nat × Ob) → Prop}
theorem call_v (hgo : ∀ vals w, (callFunc f vals).run P w = .ok (.enter f vals) w) (hargs : viewVs S args = some vs) (hc : Ct P f vs R) (hK : ∀ v m, R v m → resOkV m v = true ∧ adoptOk (fun k => k) S.env m S.mem = true ∧ (match dst with
      | some n => n < B.nt ∧ runOps P B ds r ⟨(n, v.ren (fun k => k)) :: S.env, adopt (fun k => k) m S.mem⟩ K
      | none => runOps P B ds r ⟨S.env, adopt (fun k => k) m S.mem⟩ K)) :
    atCall P B ⟨dst, .call ⟨.value (.func f), args.toArray, ts⟩, ty, pos, af, none⟩ S ds r K := call_view (fun k => k) hgo hargs hc hK
theorem call_h {vw : Bool} {hd : Hand} (hgo : ∀ vals w, (callFunc f vals).run P w = .ok (.enter f vals) w) (hargs : valsIn vw S hd args = some vs) (hok : hdOk hd = true) (hm : handOk S hd m) (hc : CH vw hd P f vs m R)
    (hK : ∀ v m', R v m' → leafOutV vw m' v = true ∧ outOk vw (fun k => k) hd S m m' m' ∧ hd.all (fun x => (look m' x.1).isSome) = true ∧ (match dst with
      | some n => n < B.nt ∧ runOps P B ds r ⟨(n, v.ren (outN (fun k => k) hd)) :: S.env, backM (fun k => k) hd m' S.mem⟩ K
      | none => runOps P B ds r ⟨S.env, backM (fun k => k) hd m' S.mem⟩ K)) :
    atCall P B ⟨dst, .call ⟨.value (.func f), args.toArray, ts⟩, ty, pos, af, none⟩ S ds r K := call_hand vw hd (fun k => k) hgo hargs hok hm hc hK
theorem call_f {vw : Bool} {hd : Hand} {t : Tmp} {caps ks : List Nat} (hfn : S.get (.tmp t) = some (.w (.one (.fn f caps)))) (hcaps : capsIn hd caps = some ks) (hgo : ∀ vals w, (callFunc f vals).run P w = .ok (.enter f vals) w) (hargs : valsIn vw S hd args = some vs) (hok : hdOk hd = true) (hm : handOk S hd m) (hx : CF caps vw hd) (hc : CtM P f (vs ++ ks.map fun k => .w (.one (.p k []))) m R)
    (hK : ∀ v m', R v m' → leafOutV vw m' v = true ∧ outOk vw (fun k => k) hd S m m' m' ∧ hd.all (fun x => (look m' x.1).isSome) = true ∧ (match dst with
      | some n => n < B.nt ∧ runOps P B ds r ⟨(n, v.ren (outN (fun k => k) hd)) :: S.env, backM (fun k => k) hd m' S.mem⟩ K
      | none => runOps P B ds r ⟨S.env, backM (fun k => k) hd m' S.mem⟩ K)) :
    atCall P B ⟨dst, .call ⟨.value (.tmp t), args.toArray, ts⟩, ty, pos, af, none⟩ S ds r K := call_fn vw hd (fun k => k) hfn hcaps hgo hargs hok hm hc hK
end
section
variable {P : Program} {B : Base} {c : Code} {S : St} {Q : Exit → St → Prop}
theorem HT.w (h : HT P B c S Q := by
    repeat (first
      | refine zhK _ ?_
      | (refine zhN _ ?_; clear zhN zhM)
      | (refine zhM _ _ ?_; clear zhN zhM)
      | (refine zbn _ ?_; clear zbn zbx zbr zbi)
      | (refine zbx _ ?_; clear zbn zbx zbr zbi)
      | (refine zbr _ ?_; clear zbn zbx zbr zbi)
      | (refine zbi _ _ ?_ ?_; focus (decide); clear zbn zbx zbr zbi)
      | (refine zhZ _ _ ?_; (try simp only [go_sem, F0]); (all_goals (first | rfl | exact ⟨rfl, rfl⟩ | exact told_plain rfl ⟨rfl, rfl⟩ | exact told_keep rfl (keep_one (by simp [look, F0])) ⟨rfl, rfl⟩ | exact zE | exact zE _ | (rw [zE]; done) | (simp [F0]; done) | exact zE _ (by first | rfl | (simp [look, F0]; done)))))
      | (refine zL _ ?_ ?_; all_goals (simp only [go_sem, leX, List.cons_append, List.nil_append, F0]; try simp))
      | (refine sr_k fun zK zhK => ?_; (try simp only [go_sem, F0]); (repeat' (first | apply And.intro | intro _)))
      | (refine region_k fun zK zhK => ?_; (try simp only [go_sem, F0]); (repeat' (first | apply And.intro | intro _)))
      | ((first | (refine call_v (fun _ _ => rfl) ?_ cv0 ?_; focus (first | rfl | (simp only [go_sem, F0] <;> rfl))) | (refine call_v (fun _ _ => rfl) ?_ cv1 ?_; focus (first | rfl | (simp only [go_sem, F0] <;> rfl))) | (refine call_v (fun _ _ => rfl) ?_ cv2 ?_; focus (first | rfl | (simp only [go_sem, F0] <;> rfl))) | (refine call_v (fun _ _ => rfl) ?_ cv3 ?_; focus (first | rfl | (simp only [go_sem, F0] <;> rfl))) | (refine call_v (fun _ _ => rfl) ?_ cv4 ?_; focus (first | rfl | (simp only [go_sem, F0] <;> rfl))) | (refine call_v (fun _ _ => rfl) ?_ cv5 ?_; focus (first | rfl | (simp only [go_sem, F0] <;> rfl))) | (refine call_v (fun _ _ => rfl) ?_ cv6 ?_; focus (first | rfl | (simp only [go_sem, F0] <;> rfl))) | (refine call_v (fun _ _ => rfl) ?_ cv7 ?_; focus (first | rfl | (simp only [go_sem, F0] <;> rfl))) | (refine call_v (fun _ _ => rfl) ?_ cv8 ?_; focus (first | rfl | (simp only [go_sem, F0] <;> rfl))) | (refine call_v (fun _ _ => rfl) ?_ cv9 ?_; focus (first | rfl | (simp only [go_sem, F0] <;> rfl))))
         rintro v m ⟨hR, hm⟩; subst hR; subst hm
         refine And.intro ?_ (And.intro ?_ ?_); iterate 2 (focus (first | rfl | simp only [go_sem, F0]))
         (try simp only [go_sem, F0]); (repeat' (first | apply And.intro | intro _)))
      | ((first | (refine call_h (fun _ _ => rfl) ?_ ?_ ?_ ch0 ?_; iterate 3 (focus (first | rfl | (simp only [go_sem, F0] <;> first | done | rfl | simp)))) | (refine call_h (fun _ _ => rfl) ?_ ?_ ?_ ch1 ?_; iterate 3 (focus (first | rfl | (simp only [go_sem, F0] <;> first | done | rfl | simp)))) | (refine call_h (fun _ _ => rfl) ?_ ?_ ?_ ch2 ?_; iterate 3 (focus (first | rfl | (simp only [go_sem, F0] <;> first | done | rfl | simp)))) | (refine call_h (fun _ _ => rfl) ?_ ?_ ?_ ch3 ?_; iterate 3 (focus (first | rfl | (simp only [go_sem, F0] <;> first | done | rfl | simp)))) | (refine call_h (fun _ _ => rfl) ?_ ?_ ?_ ch4 ?_; iterate 3 (focus (first | rfl | (simp only [go_sem, F0] <;> first | done | rfl | simp)))) | (refine call_h (fun _ _ => rfl) ?_ ?_ ?_ ch5 ?_; iterate 3 (focus (first | rfl | (simp only [go_sem, F0] <;> first | done | rfl | simp)))) | (refine call_h (fun _ _ => rfl) ?_ ?_ ?_ ch6 ?_; iterate 3 (focus (first | rfl | (simp only [go_sem, F0] <;> first | done | rfl | simp)))) | (refine call_f ?_ ?_ (fun _ _ => rfl) ?_ ?_ ?_ cg0 cf0 ?_; iterate 5 (focus (first | rfl | (simp only [go_sem, F0] <;> first | done | rfl | simp)))) | (refine call_f ?_ ?_ (fun _ _ => rfl) ?_ ?_ ?_ cg1 cf1 ?_; iterate 5 (focus (first | rfl | (simp only [go_sem, F0] <;> first | done | rfl | simp)))) | (refine call_f ?_ ?_ (fun _ _ => rfl) ?_ ?_ ?_ cg2 cf2 ?_; iterate 5 (focus (first | rfl | (simp only [go_sem, F0] <;> first | done | rfl | simp)))) | (refine call_f ?_ ?_ (fun _ _ => rfl) ?_ ?_ ?_ cg3 cf3 ?_; iterate 5 (focus (first | rfl | (simp only [go_sem, F0] <;> first | done | rfl | simp)))) | (refine call_f ?_ ?_ (fun _ _ => rfl) ?_ ?_ ?_ cg4 cf4 ?_; iterate 5 (focus (first | rfl | (simp only [go_sem, F0] <;> first | done | rfl | simp)))) | (refine call_f ?_ ?_ (fun _ _ => rfl) ?_ ?_ ?_ cg5 cf5 ?_; iterate 5 (focus (first | rfl | (simp only [go_sem, F0] <;> first | done | rfl | simp)))))
         rintro v m ⟨hR, hm⟩; subst hR; subst hm
         refine And.intro ?_ (And.intro ?_ (And.intro ?_ ?_)); iterate 3 (focus (first | rfl | (simp only [go_sem, F0]; done) | (simp [go_sem, look, F0]; done)))
         (try simp only [go_sem, F0]); (repeat' (first | apply And.intro | intro _)))
      | refine seq_k fun zN zM zhN zhM => ?_
      | refine block_k fun zB zbn zbx zbr zbi => ?_
      | refine skip_k ?_
      | refine ret_k ?_
      | refine exit_k ?_
      | (refine condF_k ?_ ?_; focus (first | rfl | (simp [go_sem, F0]; done)))
      | (refine condT_k ?_ ?_; focus (first | rfl | (simp [go_sem, F0]; done))))) : HT P B c S Q := h
end
theorem Ct.w {P : Program} {f : FuncId} {fn : Func} {c : Code} {args : List V} {R : V → List (Nat × Ob) → Prop} {nt : Nat} {rs : Array ResultVar} (hf : P.funcs[f]? = some fn) (hb : fn.body = some c) (hnt : fn.ntmps = nt) (hrs : fn.results = rs)
    (h : ∀ (w0 : World) (ro : Ro), HT P ⟨w0, fun _ => False, nt, ro, fun _ => none⟩ c ⟨argsE 0 args, []⟩ (endQ P rs.toList R) := by intro w0 ro; refine top_k fun zZ zhZ => ?_; exact HT.w) (hn : args.length ≤ nt := by simp) : Ct P f args R :=
  Ct.k hf hb hnt (congrArg Array.toList hrs) hn h
theorem CtM.w {P : Program} {f : FuncId} {fn : Func} {c : Code} {args : List V} {m : List (Nat × Ob)} {R : V → List (Nat × Ob) → Prop} {nt : Nat} {rs : Array ResultVar} (hf : P.funcs[f]? = some fn) (hb : fn.body = some c) (hnt : fn.ntmps = nt) (hrs : fn.results = rs)
    (h : ∀ (w0 : World) (ro : Ro) (may : Nat → Prop) (fx : Nat → Option (Nat × Nat)), HT P ⟨w0, may, nt, ro, fx⟩ c ⟨argsE 0 args, m⟩ (endQ P rs.toList R) := by intro w0 ro may fx; refine top_k fun zZ zhZ => ?_; exact HT.w) (hn : args.length ≤ nt := by simp) : CtM P f args m R :=
  CtM.k hf hb hnt (congrArg Array.toList hrs) hn h
end Go.Sy

namespace Go.Sy
section
variable {P : Program} {B : Base} {S : St} {Q : Exit → St → Prop}
theorem loop_b {x : Code} {ι : Type} (E : List (Nat × V)) (M : List (Nat × Ob)) (e : ι → List (Nat × V)) (m : ι → List (Nat × Ob)) (μ : ι → Nat) (i₀ : ι) (h0 : leX [] S.env (e i₀ ++ E)) (h1 : leX [] S.mem (m i₀ ++ M))
    (round : ∀ i, ∀ (N : St → Prop) (M' : Exit → St → Prop), (∀ j S', μ j < μ i → leX [] S'.env (e j ++ E) → leX [] S'.mem (m j ++ M) → N S') → (∀ e S', Q e S' → M' e S') → HT P B x ⟨e i ++ E, m i ++ M⟩ (thenQ N M')) : HT P B (.loop x) S Q := by
  refine HT.loop (fun i => ⟨e i ++ E, m i ++ M⟩) μ i₀ (Le.ofX h0 h1) fun i => ?_
  exact round i _ Q (fun j S' hj he hm => ⟨j, hj, Le.ofX he hm⟩) (fun _ _ h => h)
theorem join_l {x y : Code} {α : Type} (e : α → List (Nat × V)) (m : α → List (Nat × Ob)) (p : α → Prop)
    (h1 : ∀ (N : St → Prop) (M : Exit → St → Prop), (∀ a, p a → ∀ S', leX [] S'.env (e a ++ S.env) → leX [] S'.mem (m a ++ S.mem) → N S') → (∀ e S', Q e S' → M e S') → HT P B x S (thenQ N M))
    (h2 : ∀ a, p a → HT P B y ⟨e a ++ S.env, m a ++ S.mem⟩ Q) : HT P B (.seq x y) S Q :=
  HT.seq (h1 (fun S' => HT P B y S' Q) Q (fun a ha S' he hm => HT.le (Le.ofX he hm) (h2 a ha)) (fun _ _ h => h))
end
theorem leX_cons {α : Type} {z : Nat × α} : ∀ {l r : List (Nat × α)} {ks : List Nat}, leX ks r l → leX (z.1 :: ks) (z :: r) l
  | [], _, _, _ => trivial
  | x :: l, r, ks, h => by
    refine ⟨?_, ?_⟩
    · split
      · trivial
      · rename_i hc
        have h1 := h.1
        have hx : ¬ ks.contains x.1 = true := by intro e; exact hc (by rw [List.contains_cons, e, Bool.or_true])
        rw [if_neg hx] at h1
        have hz : ¬ x.1 = z.1 := by intro e; exact hc (by simp [List.contains_cons, e])
        simp only [look]
        split
        · rename_i e; first | exact absurd e.symm hz | exact absurd e hz | (simp at e; exact absurd e.symm hz) | (simp at e; exact absurd e hz)
        · exact h1
    · have := leX_cons (z := z) h.2
      have hk : ∀ {l : List (Nat × α)} {a b : List Nat}, (∀ k, a.contains k = true → b.contains k = true) → leX a (z :: r) l → leX b (z :: r) l := by
        intro l
        induction l with
        | nil => intros; trivial
        | cons y l ih =>
          intro a b hs hl
          refine ⟨?_, ih (fun k hk => ?_) hl.2⟩
          · split
            · trivial
            · rename_i hb
              have := hl.1
              rwa [if_neg (fun e => hb (hs _ e))] at this
          · simp only [List.contains_cons, Bool.or_eq_true] at hk ⊢
            exact hk.imp id (hs k)
      refine hk (fun k hk => ?_) this
      simp only [List.contains_cons, Bool.or_eq_true] at hk ⊢
      rcases hk with h | h | h
      · exact .inr (.inl h)
      · exact .inl h
      · exact .inr (.inr h)
theorem leX_self {α : Type} : ∀ l : List (Nat × α), leX [] l l
  | [] => trivial
  | x :: l => ⟨by simp [look], leX_cons (leX_self l)⟩
end Go.Sy

namespace Go.Sy
def FG (ks : List Nat) : Prop := True
theorem V.ren_same (v : V) : v.ren (fun k => k) = v := by
  have hw : ∀ x : W, x.ren (fun k => k) = x := by
    intro x
    cases x with
    | one l => simp only [W.ren, L.ren_id]
    | agg cs => simp only [W.ren, W.agg.injEq]; exact List.map_id'' L.ren_id _
  cases v with
  | w x => simp only [V.ren, hw]
  | tup xs => simp only [V.ren, V.tup.injEq]; exact List.map_id'' hw _
  | any => rfl
theorem mem_look {m2 : List (Nat × Ob)} {k : Nat} {o : Ob} (h : look m2 k = some o) : (k, o) ∈ m2 := by
  induction m2 with
  | nil => cases h
  | cons x r ih =>
    simp only [look] at h
    split at h
    · rename_i e; cases h; subst e; exact .head _
    · exact .tail _ (ih h)
theorem Ct.imp {P : Program} {f : FuncId} {args : List V} {R R' : V → List (Nat × Ob) → Prop} (h : Ct P f args R) (hi : ∀ v m, R v m → Told R' v m) : Ct P f args R' :=
  Ct.told fun w d vals a b c => (h w d vals a b c).mono fun e w' ⟨y, v, d', m', h1, h2, h3, h4⟩ => ⟨y, v, d', m', h1, hi v m' h2, h3, h4⟩
def gUp (k : Nat) : Nat := if k < 500000 then k - 100 else k
theorem told_up {R : V → List (Nat × Ob) → Prop} {v v' : V} {m m2 : List (Nat × Ob)} (hv : v = v'.ren gUp) (hm : ∀ x ∈ m2, (100 ≤ x.1 ∧ x.1 < 500000) ∧ look m (x.1 - 100) = some ⟨x.2.row, x.2.cells.map (L.ren gUp)⟩) (h : R v' m2) : Told R v m := by
  have hk : ∀ k, (look m2 k).isSome = true → 100 ≤ k ∧ k < 500000 := fun k hs => by
    obtain ⟨o, ho⟩ := Option.isSome_iff_exists.mp hs
    exact (hm _ (mem_look ho)).1
  refine told_tidy ⟨gUp, v', m2, hv, ⟨fun k o ho => ?_, fun k k' h1 h2 he => ?_, fun k hk => ?_, fun k hk => ?_⟩, h⟩
  · have := hm _ (mem_look ho)
    rw [gUp, if_pos this.1.2]; exact this.2
  · have a := hk k h1; have b := hk k' h2
    rw [gUp, gUp, if_pos a.2, if_pos b.2] at he; omega
  · unfold px0 at hk ⊢
    rw [gUp, if_pos hk]; omega
  · unfold px0 at hk
    rw [gUp, if_neg (by omega)]
theorem told_some {R : V → List (Nat × Ob) → Prop} {v : V} {m m2 : List (Nat × Ob)} (hm : ∀ x ∈ m2, look m x.1 = some x.2) (h : R v m2) : Told R v m :=
  told_tidy ⟨fun k => k, v, m2, (V.ren_same v).symm, within_sub fun k o hk => hm _ (mem_look hk), h⟩
def plainOb (m0 : List (Nat × Ob)) : List (Nat × Ob) → Option (Nat × List PL)
  | [] => none
  | x :: r => match (look m0 x.1).bind fun o => unpl o.cells with
    | some c => if x.1 < 500000 then some (x.1, c) else plainOb m0 r
    | none => plainOb m0 r
def sealAll : Nat → List (Nat × Ob) → V → Option V
  | 0, _, v => if plainV v = true then some v else none
  | n + 1, m, v => if plainV v = true then some v else match plainOb m m with
    | none => none
    | some x => sealAll n (sealM x.1 x.2 m) (sealV x.1 x.2 v)
theorem plainOb_ok {m0 : List (Nat × Ob)} : ∀ {m : List (Nat × Ob)} {x : Nat × List PL}, plainOb m0 m = some x → (∃ b, look m0 x.1 = some ⟨b, pls x.2⟩) ∧ x.1 < 500000
  | [], _, h => by cases h
  | y :: r, x, h => by
    simp only [plainOb] at h
    split at h
    · rename_i c hc
      split at h
      · rename_i hl
        cases h
        obtain ⟨o, ho, hu⟩ := Option.bind_eq_some_iff.mp hc
        have := unpl_eq hu
        obtain ⟨b, cs⟩ := o
        simp only at this
        subst this
        exact ⟨⟨b, ho⟩, hl⟩
      · exact plainOb_ok h
    · exact plainOb_ok h
theorem told_all {R : V → List (Nat × Ob) → Prop} : ∀ {n : Nat} {m : List (Nat × Ob)} {v v' : V}, sealAll n m v = some v' → R v' [] → Told R v m
  | 0, m, v, v', h, hr => by
    simp only [sealAll] at h
    split at h
    · rename_i hp; cases h; exact told_plain hp hr
    · cases h
  | n + 1, m, v, v', h, hr => by
    simp only [sealAll] at h
    split at h
    · rename_i hp; cases h; exact told_plain hp hr
    · split at h
      · cases h
      · rename_i x hx
        obtain ⟨⟨b, hk⟩, hl⟩ := plainOb_ok hx
        exact told_seal x.1 x.2 hk hl (told_all h hr)
section
variable {P : Program} {B : Base} {S : St} {K : St → Prop} {dst : Option Tmp} {ty : TypeId} {pos : String} {af : Array Edge} {f : FuncId} {args : List Operand} {ts : Array TypeId} {ds : List (Option Tmp)} {r : List Oper} {vs : List V} {m : List (Nat × Ob)} {R : V → List (Nat × Ob) → Prop}
theorem call_hn {vw : Bool} {hd : Hand} (hgo : ∀ vals w, (callFunc f vals).run P w = .ok (.enter f vals) w) (hargs : valsIn vw S hd args = some vs) (hok : hdOk hd = true) (hm : handOk S hd m) (hc : CH vw hd P f vs m R)
    (hK : ∀ v m', R v m' → leafOutV vw m' v = true ∧ outOk vw (fun k => k + 1000) hd S m m' m' ∧ hd.all (fun x => (look m' x.1).isSome) = true ∧ (match dst with
      | some n => n < B.nt ∧ runOps P B ds r ⟨(n, v.ren (outN (fun k => k + 1000) hd)) :: S.env, backM (fun k => k + 1000) hd m' S.mem⟩ K
      | none => runOps P B ds r ⟨S.env, backM (fun k => k + 1000) hd m' S.mem⟩ K)) :
    atCall P B ⟨dst, .call ⟨.value (.func f), args.toArray, ts⟩, ty, pos, af, none⟩ S ds r K := call_hand vw hd (fun k => k + 1000) hgo hargs hok hm hc hK
end
section
variable {P : Program} {B : Base} {c : Code} {S : St} {Q : Exit → St → Prop}
theorem rnd_fg {x : Code} {n : Nat} {ks : List Nat} (hk : FG ks) (h : ∀ (N : St → Prop) (M : Exit → St → Prop), (∀ S', rnd P B x Q n S' → N S') → (∀ e S', Q e S' → M e S') → HT P B x (S.forget ks) (thenQ N M)) : rnd P B x Q (n + 1) S := rnd_forget ks (rnd_k h)
def DR (id : Nat) (names c : List Nat) (need : List (Nat × Nat)) : Prop := True
theorem draw_h {id : Nat} {l : List Oper} {names d : List Nat} {need : List (Nat × Nat)} (hz : DR id names d need) (hm : P.follows .mixedOrders = true) (hst : drawOk (dsOf l) d need l = true)
    (hn : names.all (fun k => fresh k S && (look S.mem k).isNone) = true)
    (h : ∀ K : St → List Da → Prop, (∀ S' D, chkD l D need → Q .normal S' → K S' D) → runD P B.nt names (dsOf l) (!need.isEmpty) l [] [] S K) : HT P B (.region id l.toArray true) S Q := draw_k names d need hm hst hn h
theorem sd_h {id : Nat} {l : List Oper} {y : Code} {names d : List Nat} {need : List (Nat × Nat)} (hz : DR id names d need) (hm : P.follows .mixedOrders = true) (hst : drawOk (dsOf l) d need l = true)
    (hn : names.all (fun k => fresh k S && (look S.mem k).isNone) = true)
    (h : ∀ K : St → List Da → Prop, (∀ S' D, chkD l D need → HT P B y S' Q → K S' D) → runD P B.nt names (dsOf l) (!need.isEmpty) l [] [] S K) : HT P B (.seq (.region id l.toArray true) y) S Q := sd_k names d need hm hst hn h
theorem HT.run (h : HT P B c S Q := by
    repeat (first
      | refine zhK _ ?_
      | (refine zhN _ ?_; clear zhN zhM)
      | (refine zhM _ _ ?_; clear zhN zhM)
      | (refine zbn _ ?_; clear zbn zbx zbr zbi)
      | (refine zbx _ ?_; clear zbn zbx zbr zbi)
      | (refine zbr _ ?_; clear zbn zbx zbr zbi)
      | (refine zbi _ _ ?_ ?_; focus (decide); clear zbn zbx zbr zbi)
      | (refine zhZ _ _ ?_; (try simp only [go_sem, F0, Nat.reduceAdd]); (all_goals (first | rfl | exact ⟨rfl, rfl⟩ | exact told_plain rfl ⟨rfl, rfl⟩ | exact told_keep rfl (keep_one (by simp [look, F0])) ⟨rfl, rfl⟩ | exact zE | exact zE _ | (rw [zE]; done) | (simp [F0]; done) | (refine told_all (n := 40) ?_ rfl; first | rfl | kernel_rfl) | exact told_some (by simp [look, F0]) ⟨rfl, rfl⟩ | exact zE _ (by first | rfl | (simp [look, F0]; done)))))
      | (refine zL _ ?_ ?_; all_goals (simp only [go_sem, leX, List.cons_append, List.nil_append, F0]; try simp))
      | (refine rnd_fg zF fun zN zM zhN zhM => ?_; (try simp only [go_sem, St.forget, fgt]))
      | refine rounds_k 64 ?_
      | (refine sr_k fun zK zhK => ?_; (try simp only [go_sem, F0, Nat.reduceAdd]); (repeat' (first | apply And.intro | intro _)))
      | (refine region_k fun zK zhK => ?_; (try simp only [go_sem, F0, Nat.reduceAdd]); (repeat' (first | apply And.intro | intro _)))
      | ((first | (refine call_v (fun _ _ => rfl) ?_ cv0 ?_; focus (first | rfl | (simp only [go_sem, F0, Nat.reduceAdd] <;> rfl))) | (refine call_v (fun _ _ => rfl) ?_ cv1 ?_; focus (first | rfl | (simp only [go_sem, F0, Nat.reduceAdd] <;> rfl))) | (refine call_v (fun _ _ => rfl) ?_ cv2 ?_; focus (first | rfl | (simp only [go_sem, F0, Nat.reduceAdd] <;> rfl))) | (refine call_v (fun _ _ => rfl) ?_ cv3 ?_; focus (first | rfl | (simp only [go_sem, F0, Nat.reduceAdd] <;> rfl))) | (refine call_v (fun _ _ => rfl) ?_ cv4 ?_; focus (first | rfl | (simp only [go_sem, F0, Nat.reduceAdd] <;> rfl))) | (refine call_v (fun _ _ => rfl) ?_ cv5 ?_; focus (first | rfl | (simp only [go_sem, F0, Nat.reduceAdd] <;> rfl))) | (refine call_v (fun _ _ => rfl) ?_ cv6 ?_; focus (first | rfl | (simp only [go_sem, F0, Nat.reduceAdd] <;> rfl))) | (refine call_v (fun _ _ => rfl) ?_ cv7 ?_; focus (first | rfl | (simp only [go_sem, F0, Nat.reduceAdd] <;> rfl))) | (refine call_v (fun _ _ => rfl) ?_ cv8 ?_; focus (first | rfl | (simp only [go_sem, F0, Nat.reduceAdd] <;> rfl))) | (refine call_v (fun _ _ => rfl) ?_ cv9 ?_; focus (first | rfl | (simp only [go_sem, F0, Nat.reduceAdd] <;> rfl))))
         rintro v m ⟨hR, hm⟩; subst hR; subst hm
         refine And.intro ?_ (And.intro ?_ ?_); iterate 2 (focus (first | rfl | simp only [go_sem, F0, Nat.reduceAdd]))
         (try simp only [go_sem, F0, Nat.reduceAdd]); (repeat' (first | apply And.intro | intro _)))
      | ((first | (refine call_now ?_ cw0 ?_; focus (first | rfl | (simp only [go_sem, F0, Nat.reduceAdd] <;> rfl))) | (refine call_now ?_ cw1 ?_; focus (first | rfl | (simp only [go_sem, F0, Nat.reduceAdd] <;> rfl))) | (refine call_now ?_ cw2 ?_; focus (first | rfl | (simp only [go_sem, F0, Nat.reduceAdd] <;> rfl))) | (refine call_now ?_ cw3 ?_; focus (first | rfl | (simp only [go_sem, F0, Nat.reduceAdd] <;> rfl))))
         (try simp only [go_sem, F0, Nat.reduceAdd]); (repeat' (first | apply And.intro | intro _)))
      | ((first | (refine call_hn (fun _ _ => rfl) ?_ ?_ ?_ ch0 ?_; iterate 3 (focus (first | rfl | (simp only [go_sem, F0, Nat.reduceAdd] <;> first | done | rfl | simp)))) | (refine call_hn (fun _ _ => rfl) ?_ ?_ ?_ ch1 ?_; iterate 3 (focus (first | rfl | (simp only [go_sem, F0, Nat.reduceAdd] <;> first | done | rfl | simp)))) | (refine call_hn (fun _ _ => rfl) ?_ ?_ ?_ ch2 ?_; iterate 3 (focus (first | rfl | (simp only [go_sem, F0, Nat.reduceAdd] <;> first | done | rfl | simp)))) | (refine call_hn (fun _ _ => rfl) ?_ ?_ ?_ ch3 ?_; iterate 3 (focus (first | rfl | (simp only [go_sem, F0, Nat.reduceAdd] <;> first | done | rfl | simp)))) | (refine call_hn (fun _ _ => rfl) ?_ ?_ ?_ ch4 ?_; iterate 3 (focus (first | rfl | (simp only [go_sem, F0, Nat.reduceAdd] <;> first | done | rfl | simp)))) | (refine call_hn (fun _ _ => rfl) ?_ ?_ ?_ ch5 ?_; iterate 3 (focus (first | rfl | (simp only [go_sem, F0, Nat.reduceAdd] <;> first | done | rfl | simp)))) | (refine call_hn (fun _ _ => rfl) ?_ ?_ ?_ ch6 ?_; iterate 3 (focus (first | rfl | (simp only [go_sem, F0, Nat.reduceAdd] <;> first | done | rfl | simp)))) | (refine call_f ?_ ?_ (fun _ _ => rfl) ?_ ?_ ?_ cg0 cf0 ?_; iterate 5 (focus (first | rfl | (simp only [go_sem, F0, Nat.reduceAdd] <;> first | done | rfl | simp)))) | (refine call_f ?_ ?_ (fun _ _ => rfl) ?_ ?_ ?_ cg1 cf1 ?_; iterate 5 (focus (first | rfl | (simp only [go_sem, F0, Nat.reduceAdd] <;> first | done | rfl | simp)))) | (refine call_f ?_ ?_ (fun _ _ => rfl) ?_ ?_ ?_ cg2 cf2 ?_; iterate 5 (focus (first | rfl | (simp only [go_sem, F0, Nat.reduceAdd] <;> first | done | rfl | simp)))) | (refine call_f ?_ ?_ (fun _ _ => rfl) ?_ ?_ ?_ cg3 cf3 ?_; iterate 5 (focus (first | rfl | (simp only [go_sem, F0, Nat.reduceAdd] <;> first | done | rfl | simp)))) | (refine call_f ?_ ?_ (fun _ _ => rfl) ?_ ?_ ?_ cg4 cf4 ?_; iterate 5 (focus (first | rfl | (simp only [go_sem, F0, Nat.reduceAdd] <;> first | done | rfl | simp)))) | (refine call_f ?_ ?_ (fun _ _ => rfl) ?_ ?_ ?_ cg5 cf5 ?_; iterate 5 (focus (first | rfl | (simp only [go_sem, F0, Nat.reduceAdd] <;> first | done | rfl | simp)))))
         rintro v m ⟨hR, hm⟩; subst hR; subst hm
         refine And.intro ?_ (And.intro ?_ (And.intro ?_ ?_)); iterate 3 (focus (first | rfl | (simp only [go_sem, F0, Nat.reduceAdd]; done) | (simp [go_sem, look, F0]; done)))
         (try simp only [go_sem, F0, Nat.reduceAdd]); (repeat' (first | apply And.intro | intro _)))
      | ((first | refine sd_h zd0 mixed ?_ ?_ fun zK zhK => ?_ | refine draw_h zd0 mixed ?_ ?_ fun zK zhK => ?_ | refine sd_h zd1 mixed ?_ ?_ fun zK zhK => ?_ | refine draw_h zd1 mixed ?_ ?_ fun zK zhK => ?_ | refine sd_h zd2 mixed ?_ ?_ fun zK zhK => ?_ | refine draw_h zd2 mixed ?_ ?_ fun zK zhK => ?_ | refine sd_h zd3 mixed ?_ ?_ fun zK zhK => ?_ | refine draw_h zd3 mixed ?_ ?_ fun zK zhK => ?_ | refine sd_h zd4 mixed ?_ ?_ fun zK zhK => ?_ | refine draw_h zd4 mixed ?_ ?_ fun zK zhK => ?_ | refine sd_h zd5 mixed ?_ ?_ fun zK zhK => ?_ | refine draw_h zd5 mixed ?_ ?_ fun zK zhK => ?_ | refine sd_h zd6 mixed ?_ ?_ fun zK zhK => ?_ | refine draw_h zd6 mixed ?_ ?_ fun zK zhK => ?_ | refine sd_h zd7 mixed ?_ ?_ fun zK zhK => ?_ | refine draw_h zd7 mixed ?_ ?_ fun zK zhK => ?_); (focus (kernel_rfl)); (focus (simp only [go_sem])); (try simp only [go_sem, F0]); (repeat' (first | apply And.intro | intro _)))
      | (refine zhK _ _ ?_ ?_; focus (first | trivial | (simp only [go_sem]; done) | (simp only [go_sem]; simp; done) | (simp only [go_sem]; simp; simp only [go_sem])))
      | refine seq_k fun zN zM zhN zhM => ?_
      | refine block_k fun zB zbn zbx zbr zbi => ?_
      | refine skip_k ?_
      | refine ret_k ?_
      | refine exit_k ?_
      | (refine condF_k ?_ ?_; focus (first | rfl | (simp [go_sem, F0]; done)))
      | (refine condT_k ?_ ?_; focus (first | rfl | (simp [go_sem, F0]; done))))) : HT P B c S Q := h
end
theorem Ct.run {P : Program} {f : FuncId} {fn : Func} {c : Code} {args : List V} {R : V → List (Nat × Ob) → Prop} {nt : Nat} {rs : Array ResultVar} (hf : P.funcs[f]? = some fn) (hb : fn.body = some c) (hnt : fn.ntmps = nt) (hrs : fn.results = rs)
    (h : ∀ (w0 : World) (ro : Ro), HT P ⟨w0, fun _ => False, nt, ro, fun _ => none⟩ c ⟨argsE 0 args, []⟩ (endQ P rs.toList R) := by intro w0 ro; refine top_k fun zZ zhZ => ?_; exact HT.run) (hn : args.length ≤ nt := by simp) : Ct P f args R :=
  Ct.k hf hb hnt (congrArg Array.toList hrs) hn h
theorem CtM.run {P : Program} {f : FuncId} {fn : Func} {c : Code} {args : List V} {m : List (Nat × Ob)} {R : V → List (Nat × Ob) → Prop} {nt : Nat} {rs : Array ResultVar} (hf : P.funcs[f]? = some fn) (hb : fn.body = some c) (hnt : fn.ntmps = nt) (hrs : fn.results = rs)
    (h : ∀ (w0 : World) (ro : Ro) (may : Nat → Prop) (fx : Nat → Option (Nat × Nat)), HT P ⟨w0, may, nt, ro, fx⟩ c ⟨argsE 0 args, m⟩ (endQ P rs.toList R) := by intro w0 ro may fx; refine top_k fun zZ zhZ => ?_; exact HT.run) (hn : args.length ≤ nt := by simp) : CtM P f args m R :=
  CtM.k hf hb hnt (congrArg Array.toList hrs) hn h
end Go.Sy

namespace Go.Sy
open Go.RowKit Go.WideShapes Go.ChangeShapes Go.ChangeAt
theorem laid_var {P : Program} {W : World} : ∀ {l : List (String × DataW Unit)} {ps : List MemPlace}, DataW.LaidVars P W l ps → ∀ {name : String} {x : DataW Unit}, (name, x) ∈ l →
    ∃ g t cs fuel p, P.globalNamed name = some g ∧ (P.globals[g]?).map (·.type) = some t ∧ W.var? P name = some cs ∧ DataW.trod (fun _ => ()) P W 0 (fun _ => true) false fuel t cs.toList = some (x, p)
  | [], _, _, _, _, hm => by cases hm
  | (n, y) :: r, ps, h, name, x, hm => by
    obtain ⟨g, t, cs, fuel, p, q, h1, h2, h3, h4, h5, _⟩ := h
    rcases List.mem_cons.mp hm with e | hm
    · cases e
      exact ⟨g, t, cs, fuel, p, h1, h2, h3, h4⟩
    · exact laid_var h5 hm
theorem tab_of {P : Program} {W : World} {l : List (String × DataW Unit)} (h : laidMet P l W) {name : String} {k : IntKind} {zs : List Int} (hm : (name, Lib.tabData k zs) ∈ l) {g : Nat} {t e : TypeId} {n : Nat}
    (hg : P.globalNamed name = some g) (hty : (P.globals[g]?).map (·.type) = some t) (ht : P.underlying t = some (.array n e)) (he : P.underlying e = some (.int k)) (hce : P.cellsOf e = 1) (hct : P.cellsOf t = n) :
    W.var? P name = some (zs.map fun z => Value.int k z).toArray := by
  obtain ⟨ps, hl, _⟩ := h
  obtain ⟨g', t', cs, fuel, p, hg', ht', hvar, hd⟩ := laid_var hl hm
  obtain rfl := Option.some.inj (hg.symm.trans hg')
  obtain rfl := Option.some.inj (hty.symm.trans ht')
  rw [hvar, ← Lib.cells_of_tab ht he hce hct hd]
theorem denAt_var {P : Program} {W : World} {name : String} {g : Nat} {vs : List Value} (h : W.var? P name = some vs.toArray) (hg : P.globalNamed name = some g) {cs : List PL} (hc : All2 (PL.den (Va.reads W).ro) cs vs) : PL.denAt (Va.reads W).ro g cs 0 := by
  refine denAt_of hc fun j v hj => ?_
  have := World.var?_cell hg h j
  simp only [Nat.zero_add]
  show W.cell? ⟨g, j, none⟩ = some v
  rw [this]
  simpa using hj
def Va.readsG (w : World) (G : List (Nat × List PL)) : Va := ⟨fun k => k - gl0, fun k => match look G k with | some cs => cs.length | none => 0, fun b o => w.cell? ⟨b, o, none⟩⟩
def globM (G : List (Nat × List PL)) : List (Nat × Ob) := G.map fun x => (x.1, ⟨false, x.2.map L.pl⟩)
theorem look_globM : ∀ {G : List (Nat × List PL)} {k : Nat} {o : Ob}, look (globM G) k = some o → ∃ cs, look G k = some cs ∧ o = ⟨false, cs.map L.pl⟩
  | [], _, _, h => by cases h
  | x :: r, k, o, h => by
    simp only [globM, List.map_cons, look] at h ⊢
    split at h
    · rename_i e
      rw [if_pos e]
      cases h
      exact ⟨_, rfl, rfl⟩
    · rename_i e
      rw [if_neg e]
      exact look_globM h
theorem memOK_reads {w : World} {G : List (Nat × List PL)} (hg : ∀ k cs, look G k = some cs → gl0 ≤ k ∧ PL.denAt (Va.reads w).ro (k - gl0) cs 0) {may : Nat → Prop} {fx : Nat → Option (Nat × Nat)} (hf : ∀ k, fx k = none) :
    MemOK ⟨w, may, 0, (Va.readsG w G).ro, fx⟩ (Va.readsG w G) (globM G) w := by
  have hlt : ∀ k, (look (globM G) k).isSome = true → k < gl0 → False := fun k h1 h2 => by
    obtain ⟨o, ho⟩ := Option.isSome_iff_exists.mp h1
    obtain ⟨cs, hc, _⟩ := look_globM ho
    exact absurd (hg k cs hc).1 (Nat.not_le.mpr h2)
  refine ⟨⟨#[], []⟩, ⟨rfl, rfl, fun n v hv => (by cases hv), fun k o hk hl => (hlt k (by rw [hk]; rfl) hl).elim, fun k k' h1 _ h2 => (hlt k h1 h2).elim, fun k h1 h2 => (hlt k h1 h2).elim, fun _ _ _ h => h, fun b o y hy _ => hy, rfl, rfl, rfl, Nat.le_refl _, fun _ _ _ => rfl, fun _ _ => rfl, ?_, fun k o p hk h => absurd ((hf k).symm.trans h) (by simp), fun k p h => absurd ((hf k).symm.trans h) (by simp)⟩⟩
  intro k o hk _
  obtain ⟨cs, hc, rfl⟩ := look_globM hk
  refine ⟨?_, cs, rfl, (hg k cs hc).2⟩
  show (match look G k with | some cs => cs.length | none => 0) = _
  rw [hc, List.length_map]
def plW : W → Bool
  | .one (.pl _) => true
  | .one _ => false
  | .agg l => l.all fun | .pl _ => true | _ => false
def plV : V → Bool
  | .w x => plW x
  | _ => false
theorem den_ro {d d' : Va} (h : d.ro = d'.ro) : ∀ {v : V} {y : Value}, plV v = true → V.den d v y → V.den d' v y
  | .w (.one (.pl x)), y, _, hd => by simp only [V.den, W.den, L.den] at hd ⊢; rw [← h]; exact hd
  | .w (.one (.p _ _)), y, hp, _ => by simp [plV, plW] at hp
  | .w (.one (.s _ _ _ _)), y, hp, _ => by simp [plV, plW] at hp
  | .w (.one (.fn _ _)), y, hp, _ => by simp [plV, plW] at hp
  | .w (.agg l), y, hp, hd => by
    simp only [V.den, W.den] at hd ⊢
    obtain ⟨vs, e, ha⟩ := hd
    refine ⟨vs, e, ?_⟩
    simp only [plV, plW] at hp
    generalize vs.toList = q at ha
    clear e
    induction ha with
    | nil => exact .nil
    | @cons a b l m h1 _ ih =>
      simp only [List.all_cons, Bool.and_eq_true] at hp
      refine .cons ?_ (ih hp.2)
      cases a with
      | pl x => simp only [L.den] at h1 ⊢; rw [← h]; exact h1
      | _ => simp at hp
  | .tup _, y, hp, _ => by simp [plV] at hp
  | .any, y, hp, _ => by simp [plV] at hp
theorem den_all {d d' : Va} (h : d.ro = d'.ro) : ∀ {vs : List V} {ys : List Value}, (vs.all plV) = true → All2 (V.den d) vs ys → All2 (V.den d') vs ys
  | [], _, _, .nil => .nil
  | v :: vs, _, hp, .cons h1 h2 => by
    simp only [List.all_cons, Bool.and_eq_true] at hp
    exact .cons (den_ro h hp.1 h1) (den_all h hp.2 h2)
theorem CtM.callsG {P : Program} {f : FuncId} {args : List V} {G : List (Nat × List PL)} {R : V → List (Nat × Ob) → Prop} {b : Bool} (hc : CtM P f args (globM G) R) (hR : ∀ v m, R v m → v = .w (.one (.pl (.b b)))) (w : World) (vals : Array Value)
    (hg : ∀ k cs, look G k = some cs → gl0 ≤ k ∧ PL.denAt (Va.reads w).ro (k - gl0) cs 0) (hp : args.all plV = true) (ha : All2 (V.den (Va.reads w)) args vals.toList) : Calls P f vals w fun e w' => e = .returned (.bool b) ∧ Below w.heap.size w w' := by
  have hlt : ∀ k, (look (globM G) k).isSome = true → k < gl0 → False := fun k h1 h2 => by
    obtain ⟨o, ho⟩ := Option.isSome_iff_exists.mp h1
    obtain ⟨cs, hc, _⟩ := look_globM ho
    exact absurd (hg k cs hc).1 (Nat.not_le.mpr h2)
  have hf : ∀ k, fxOf (Va.readsG w G) (globM G) k = none := fun k => by
    unfold fxOf
    rw [if_neg]
    rintro ⟨h1, _, h2⟩
    exact hlt k h1 h2
  refine (hc w (Va.readsG w G) vals (memOK_reads hg hf) (den_all (d := Va.reads w) (d' := Va.readsG w G) rfl hp ha)).mono fun e w' ⟨y, v, d', m', he, hr, hd, hm⟩ => ?_
  rw [hR v m' hr] at hd
  refine ⟨by rw [he]; exact congrArg _ hd, ?_⟩
  obtain ⟨a, hs⟩ := hm
  refine ⟨hs.os, hs.tape, hs.output, hs.size, fun k hk => hs.block k hk ?_⟩
  rintro ⟨k, h1, h2, _⟩
  exact hlt k h1 h2
end Go.Sy

namespace Go.Sy
@[go_sem] theorem get_global (S : St) (g : Nat) : S.get (.global g) = some (.w (.one (.p (1000000 + g) []))) := rfl
end Go.Sy

namespace Go.Sy
theorem pls_len (c : List PL) : (pls c).length = c.length := by simp [pls]
theorem leafOut_pls (m : List (Nat × Ob)) (c : List PL) : (pls c).all (leafOut false m) = true := by
  simp only [pls, List.all_eq_true, List.mem_map]
  rintro _ ⟨x, _, rfl⟩; rfl
theorem killL_pls (k : Nat) (c : List PL) : (pls c).map (killL k) = pls c := by simp only [pls, List.map_map]; congr 1
attribute [go_sem] leafOut_pls killL_pls pls_has ren_pls seal_pls pls_len
end Go.Sy

namespace Go.Sy
open Go.RowKit Go.WideShapes Go.ChangeShapes Go.ChangeAt

def formOk (P : Program) (K : List TypeId) (t : TypeId) : Bool := match P.underlying t with
  | some .bool | some (.int .i64) | some (.int .u8) | some (.int .u32) | some (.int .u64) | some .string => P.cellsOf t == 1
  | some (.slice e) => P.cellsOf t == 1 && (P.cellsOf e != 0 && K.contains e)
  | some (.struct fs) => tileFs P fs.toList 0 (P.cellsOf t) && fs.toList.all fun f => K.contains f.type
  | some (.array m e) => P.cellsOf t == m * P.cellsOf e && K.contains e
  | _ => false
theorem cell_spot {w : World} {a : Addr} {v : Value} (h : w.cell? a = some v) : a.spot = none := by
  unfold World.cell? at h
  split at h <;> try (cases h; done)
  split at h
  · cases h
  · rename_i hs; simpa using hs
section
variable {H : Type} {enc : TypeId × Value → H} {P : Program} {w : World} {base : Nat} {spare : Nat → Bool} {held : Bool}
theorem open_all {K : List TypeId} (hK : K.all (formOk P K) = true) : ∀ (n : Nat) (t : TypeId) (cs : List Value) (y : DataW H × List MemPlace), DataW.trod enc P w base spare held n t cs = some y → K.contains t = true →
    ∃ xs, Sh P n t xs ∧ xs.length = cs.length ∧ All2 (PL.den (Va.reads w).ro) xs cs := by
  intro n
  induction n with
  | zero => intro t cs y h; simp [DataW.trod] at h
  | succ n ih =>
    intro t cs y h hk0
    have hk := List.all_eq_true.mp hK t (by simpa using hk0)
    unfold formOk at hk
    split at hk <;> try (cases hk; done)
    · rename_i ht
      obtain ⟨b, rfl, _⟩ := DataW.trod_bool ht h
      exact ⟨[.b b], by unfold Sh; rw [ht]; exact ⟨b, rfl⟩, rfl, .cons (by rw [PL.den]) .nil⟩
    · rename_i ht
      obtain ⟨k, rfl, _, hwf⟩ := DataW.trod_int ht h
      simp only [Lit.wf, IntKind.min, IntKind.max, IntKind.signed, IntKind.bits, Bool.and_eq_true, decide_eq_true_eq, if_true] at hwf
      exact ⟨[.i k], by unfold Sh; rw [ht]; exact ⟨k, rfl, by omega, by omega⟩, rfl, .cons (by rw [PL.den]) .nil⟩
    · rename_i ht
      obtain ⟨k, rfl, _, hwf⟩ := DataW.trod_int ht h
      simp only [Lit.wf, IntKind.min, IntKind.max, IntKind.signed, IntKind.bits, Bool.and_eq_true, decide_eq_true_eq] at hwf
      exact ⟨[.u8 (UInt8.ofNat k.toNat)], by unfold Sh; rw [ht]; exact ⟨_, rfl⟩, rfl, .cons (by rw [PL.den]; congr 1; simp at hwf ⊢; omega) .nil⟩
    · rename_i ht
      obtain ⟨k, rfl, _, hwf⟩ := DataW.trod_int ht h
      simp only [Lit.wf, IntKind.min, IntKind.max, IntKind.signed, IntKind.bits, Bool.and_eq_true, decide_eq_true_eq] at hwf
      exact ⟨[.u32 (UInt32.ofNat k.toNat)], by unfold Sh; rw [ht]; exact ⟨_, rfl⟩, rfl, .cons (by rw [PL.den]; congr 1; simp at hwf ⊢; omega) .nil⟩
    · rename_i ht
      obtain ⟨k, rfl, _, hwf⟩ := DataW.trod_int ht h
      simp only [Lit.wf, IntKind.min, IntKind.max, IntKind.signed, IntKind.bits, Bool.and_eq_true, decide_eq_true_eq] at hwf
      exact ⟨[.u64 (UInt64.ofNat k.toNat)], by unfold Sh; rw [ht]; exact ⟨_, rfl⟩, rfl, .cons (by rw [PL.den]; congr 1; simp at hwf ⊢; omega) .nil⟩
    · rename_i ht
      obtain ⟨s, rfl, _, hs⟩ := DataW.trod_string ht h
      have hl : s.data.toList.length = s.size := Array.length_toList
      exact ⟨[.str s.data.toList], by unfold Sh; rw [ht]; exact ⟨_, rfl, by omega⟩, rfl, .cons (by rw [PL.den]; exact ⟨by simp, by omega⟩) .nil⟩
    · rename_i e ht
      simp only [Bool.and_eq_true, beq_iff_eq, bne_iff_ne] at hk
      rcases DataW.trod_slice ht h with ⟨rfl, _⟩ | ⟨a, len, cap, elems, rest, n', hn, rfl, _, hb, hl, hm, hel, hi, _⟩
      · exact ⟨[.R false (P.cellsOf e) []], by unfold Sh; rw [ht]; exact ⟨[], rfl, fun r hr => (by cases hr), Nat.zero_le _⟩, rfl, .cons (by rw [PL.den]; exact .inl ⟨rfl, rfl⟩) .nil⟩
      · cases hn
        rcases Nat.eq_zero_or_pos len with rfl | hpos
        · exact ⟨[.R false (P.cellsOf e) []], by unfold Sh; rw [ht]; exact ⟨[], rfl, fun r hr => (by cases hr), Nat.zero_le _⟩, rfl, .cons (by rw [PL.den]; exact .inr (.inr ⟨a, cap, rfl, rfl, hm, fun h => (by cases h)⟩)) .nil⟩
        have hsa : a.spot = none := by
          have h1 := hi 0 hpos
          have : 0 < elems.length := by omega
          rw [List.getElem?_eq_getElem this] at h1
          obtain ⟨cs', hc, _⟩ := Option.bind_eq_some_iff.mp h1
          obtain ⟨_, hcl, hcc⟩ := World.cells?_some hc
          have h0 := hcc 0 (by omega)
          have hlt : 0 < cs'.length := by omega
          rw [List.getElem?_eq_getElem hlt] at h0
          have := cell_spot h0
          simpa [Addr.add] using this
        obtain ⟨blk, off, sp⟩ := a
        simp only at hsa; subst hsa
        have each : ∀ i ∈ List.range len, ∃ r : List PL, Sh P n e r ∧ r.length = P.cellsOf e ∧ PL.denAt (Va.reads w).ro blk r (off + i * P.cellsOf e) := by
          intro i hi'
          have hlt : i < len := by simpa using hi'
          have h1 := hi i hlt
          have : i < elems.length := by omega
          rw [List.getElem?_eq_getElem this] at h1
          obtain ⟨cs', hc, ht'⟩ := Option.bind_eq_some_iff.mp h1
          obtain ⟨_, hcl, hcc⟩ := World.cells?_some hc
          have hcell : ∀ j v, cs'[j]? = some v → w.cell? ⟨blk, off + i * P.cellsOf e + j, none⟩ = some v := by
            intro j v hj
            have hj' : j < P.cellsOf e := by
              have := (List.getElem?_eq_some_iff.mp hj).1; omega
            have := hcc j hj'
            rw [hj] at this
            rw [← this]
            congr 1
            rw [addr_add, addr_add]
          obtain ⟨xs, hx1, hx2, hx3⟩ := ih e cs' _ ht' hk.2.2
          exact ⟨xs, hx1, by omega, denAt_of hx3 fun j v hj => hcell j v hj⟩
        obtain ⟨rows, hrows⟩ := choose_list _ each
        have hlen : rows.length = len := by have := hrows.length; simpa using this.symm
        have hget : ∀ i r, rows[i]? = some r → Sh P n e r ∧ r.length = P.cellsOf e ∧ PL.denAt (Va.reads w).ro blk r (off + i * P.cellsOf e) := by
          intro i r hr
          obtain ⟨j, hj, hp⟩ := hrows.flip.get hr
          have hil : i < len := by
            have := (List.getElem?_eq_some_iff.mp hr).1; omega
          rw [List.getElem?_range hil] at hj
          cases hj; exact hp
        refine ⟨[.R false (P.cellsOf e) rows], ?_, rfl, .cons ?_ .nil⟩
        · unfold Sh; rw [ht]
          refine ⟨rows, rfl, fun r hr => ?_, by omega⟩
          obtain ⟨i, hi'⟩ := List.mem_iff_getElem?.mp hr
          exact ⟨(hget i r hi').1, (hget i r hi').2.1⟩
        · rw [PL.den]
          refine .inr (.inl ⟨blk, off, cap, by rw [hlen], by omega, hm, fun h => (by cases h), denRows_of (fun r hr => ?_) fun i r hr => (hget i r hr).2.2⟩)
          obtain ⟨i, hi'⟩ := List.mem_iff_getElem?.mp hr
          exact (hget i r hi').2.1
    · rename_i fs ht
      simp only [Bool.and_eq_true, List.all_eq_true] at hk
      obtain ⟨xs, n', hn, _, hl, hxs, hf⟩ := DataW.trod_struct ht h
      cases hn
      have each : ∀ f ∈ fs.toList, ∃ r : List PL, (Sh P n f.type r ∧ r.length = P.cellsOf f.type) ∧ All2 (PL.den (Va.reads w).ro) r ((cs.drop f.offset).take (P.cellsOf f.type)) := by
        intro f hf'
        obtain ⟨i, hi⟩ := List.mem_iff_getElem?.mp hf'
        rw [Array.getElem?_toList] at hi
        have h1 := hf i f hi
        have hi2 : i < xs.length := by rw [hxs]; exact (Array.getElem?_eq_some_iff.mp hi).1
        rw [List.getElem?_eq_getElem hi2] at h1
        obtain ⟨ys, hy1, hy2, hy3⟩ := ih f.type _ _ h1 (hk.2 f hf')
        have hle := tile_le _ _ hk.1 f hf'
        exact ⟨ys, ⟨hy1, by rw [hy2, take_len (by omega)]⟩, hy3⟩
      obtain ⟨ps, hps⟩ := choose_list _ each
      have hfl := tile_split cs hl fs.toList 0 hk.1
      rw [List.drop_zero] at hfl
      have hall : All2 (PL.den (Va.reads w).ro) ps.flatten cs := by
        rw [← hfl]
        refine all2_flatten (All2.map_r ?_)
        exact hps.flip.mono fun p f _ h => h.2
      exact ⟨ps.flatten, by unfold Sh; rw [ht]; exact ⟨ps, rfl, hps.mono fun f p _ h => h.1⟩, hall.length, hall⟩
    · rename_i k e ht
      simp only [Bool.and_eq_true, beq_iff_eq] at hk
      obtain ⟨n', hn, hl, hi⟩ := trod_array ht h
      cases hn
      have each : ∀ i ∈ List.range k, ∃ r : List PL, (Sh P n e r ∧ r.length = P.cellsOf e) ∧ All2 (PL.den (Va.reads w).ro) r ((cs.drop (i * P.cellsOf e)).take (P.cellsOf e)) := by
        intro i hi'
        have hlt : i < k := by simpa using hi'
        obtain ⟨y', hy'⟩ := hi i hlt
        obtain ⟨ys, hy1, hy2, hy3⟩ := ih e _ _ hy' hk.2
        have hle : i * P.cellsOf e + P.cellsOf e ≤ cs.length := by
          rw [hl, hk.1]
          have : (i + 1) * P.cellsOf e ≤ k * P.cellsOf e := Nat.mul_le_mul_right _ hlt
          rw [Nat.add_mul] at this; omega
        exact ⟨ys, ⟨hy1, by rw [hy2, take_len hle]⟩, hy3⟩
      obtain ⟨ps, hps⟩ := choose_list _ each
      have hfl := chunk_flatten (P.cellsOf e) k cs (by rw [hl, hk.1])
      have hall : All2 (PL.den (Va.reads w).ro) ps.flatten cs := by
        rw [← hfl]
        refine all2_flatten (All2.map_r ?_)
        exact hps.flip.mono fun p f _ h => h.2
      refine ⟨ps.flatten, ?_, hall.length, hall⟩
      unfold Sh; rw [ht]
      refine ⟨ps, rfl, by have := hps.length; simpa using this.symm, fun p hp => ?_⟩
      obtain ⟨i, hi'⟩ := List.mem_iff_getElem?.mp hp
      obtain ⟨j, _, hj⟩ := hps.flip.get hi'
      exact hj.1
theorem open_deep {t : TypeId} {v : Value} {d : DataW H} {p : List MemPlace} {b0 : Nat} (K : List TypeId) (hK : K.all (formOk P K) = true) (hk : K.contains t = true) (hv : Value.okWide P w .any b0 t v) (hts : (match P.underlying t with
      | some (.struct _) | some (.array _ _) | some (.slice _) | some .bool | some (.int _) | some .string => true
      | _ => false) = true) (h : DataW.Trod enc P w base spare held t v d p) :
    ∃ (n : Nat) (xs : List PL), Sh P n t xs ∧ (V.w (match P.underlying t with
      | some (.struct _) | some (.array _ _) => .agg (pls xs)
      | _ => .one (.pl (xs.headD .u)))).den (Va.reads w) v := by
  obtain ⟨fuel, hf⟩ := h
  obtain ⟨xs, h1, h2, h3⟩ := open_all hK fuel t _ _ hf hk
  refine ⟨fuel, xs, h1, ?_⟩
  have hd := den_pls (d := Va.reads w) h3
  unfold Value.okWide at hv
  split at hv
  · rename_i fs ht
    obtain ⟨cs, rfl, _⟩ := hv
    rw [ht]
    exact ⟨cs, rfl, hd⟩
  · rename_i k e ht
    obtain ⟨cs, rfl, _⟩ := hv
    rw [ht]
    exact ⟨cs, rfl, hd⟩
  · rename_i hn1 hn2
    have hq : (match P.underlying t with
          | some (.slice _) | some .bool | some (.int _) | some .string => true
          | _ => false) = true := by
      split at hts
      · rename_i fs ht; exact absurd ht (hn1 fs)
      · rename_i k e ht; exact absurd ht (hn2 k e)
      all_goals simp_all
    have hone : v.cells = #[v] := by
      cases v <;> first | rfl | (exfalso; unfold Cell.okWide at hv; cases hu : P.underlying t with
          | none => rw [hu] at hq; cases hq
          | some d => rw [hu] at hv hq; cases d <;> first | (cases hq; done) | (simp [Cell.ok, hu] at hv))
    rw [hone] at hd
    have : ∃ x, xs = [x] ∧ L.den (Va.reads w) (.pl x) v := by
      cases xs with
      | nil => cases hd
      | cons x r =>
        cases hd with
        | cons g1 g2 =>
          cases r with
          | nil => exact ⟨x, rfl, g1⟩
          | cons _ _ => cases g2
    obtain ⟨x, rfl, hx⟩ := this
    split
    · rename_i fs ht; exact absurd ht (hn1 fs)
    · rename_i k e ht; exact absurd ht (hn2 k e)
    · exact hx
end
end Go.Sy

namespace Go.Sy
open Go.RowKit
theorem CtM.of_below {P : Program} {f : FuncId} {args : List V} {m : List (Nat × Ob)} {X : V}
    (h : ∀ (w : World) (d : Va) (vals : Array Value), MemOK ⟨w, mayOf d m, 0, d.ro, fxOf d m⟩ d m w → All2 (V.den d) args vals.toList →
      ∃ y, Calls P f vals w (fun e w' => e = .returned y ∧ Below w.heap.size w w') ∧ ∀ d', V.den d' X y) : CtM P f args m (fun v m' => v = X ∧ m' = []) := by
  intro w d vals hm ha
  obtain ⟨y, hc, hd⟩ := h w d vals hm ha
  obtain ⟨a, hs⟩ := hm
  refine hc.mono fun e w' ⟨he, hb⟩ => ⟨y, X, d, [], he, ⟨rfl, rfl⟩, hd d, ⟨a, ?_⟩⟩
  have hcell : ∀ b o y, d.ro b o = some y → w'.cell? ⟨b, o, none⟩ = some y := fun b o y hy => by
    have h1 := hs.ro b o y hy
    have h2 := World.block_lt_of_cell? _ _ h1
    rw [← h1]; unfold World.cell?; simp only; rw [hb.block _ h2]
  exact ⟨hs.defers, rfl, fun n v hn => (by cases hn), fun k o hk => (by cases hk), fun k k' hk => (by cases hk), fun k hk => (by cases hk), hcell, fun b o y hy _ => hy, hb.os, hb.tape, hb.output, hb.size, fun b hb' _ => hb.block b hb', hs.gat, fun k o hk => (by cases hk), fun k o p hk => (by cases hk), hs.fxn⟩
end Go.Sy

