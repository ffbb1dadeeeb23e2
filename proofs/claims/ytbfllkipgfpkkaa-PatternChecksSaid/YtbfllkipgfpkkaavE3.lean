/- The layer that reckons a function out, part 3 of 3: what it says of states, operations, regions, loops, calls. CONDITIONS: those that each theorem names. -/
import Derived.Test.YtbfllkipgfpkkaavE2
import Derived.Handed
import Derived.Lib.LaidTab
import Derived.LaidLaws
set_option linter.unusedVariables false
set_option linter.unusedSimpArgs false
namespace Go.Sy
theorem all2_caps {d : Va} : ∀ ks : List Nat, All2 (V.den d) (ks.map fun k => .w (.one (.p k []))) (ks.map fun k => Value.pointer (some ⟨d.at_ k, 0, none⟩))
  | [] => .nil
  | k :: ks => .cons (by simp [V.den, W.den, L.den, poff]) (all2_caps ks)
open Classical in
theorem call_fn {P : Program} {B : Base} {S : St} {K : St → Prop} {dst : Option Tmp} {ty : TypeId} {pos : String} {af : Array Edge} {f : FuncId} {args : List Operand} {ts : Array TypeId} {ds : List (Option Tmp)} {r : List Oper} {vs : List V} {m : List (Nat × Ob)} {R : V → List (Nat × Ob) → Prop}
    (vw : Bool) (hd : Hand) (nm : Nat → Nat) {t : Tmp} {caps ks : List Nat} (hfn : S.get (.tmp t) = some (.w (.one (.fn f caps)))) (hcaps : capsIn hd caps = some ks) (hgo : ∀ vals w, (callFunc f vals).run P w = .ok (.enter f vals) w) (hargs : valsIn vw S hd args = some vs) (hok : hdOk hd = true) (hm : handOk S hd m) (hc : CtM P f (vs ++ ks.map fun k => .w (.one (.p k []))) m R)
    (hK : ∀ v m', R v m' → leafOutV vw m' v = true ∧ outOk vw nm hd S m m' m' ∧ hd.all (fun x => (look m' x.1).isSome) = true ∧ (match dst with
      | some n => n < B.nt ∧ runOps P B ds r ⟨(n, v.ren (outN nm hd)) :: S.env, backM nm hd m' S.mem⟩ K
      | none => runOps P B ds r ⟨S.env, backM nm hd m' S.mem⟩ K)) :
    atCall P B ⟨dst, .call ⟨.value (.tmp t), args.toArray, ts⟩, ty, pos, af, none⟩ S ds r K := by
  intro d a w h next Q hn
  have hrun : (execOp a.eval ⟨dst, .call ⟨.value (.tmp t), args.toArray, ts⟩, ty, pos, af, none⟩).run P w = .ok (.enter f (args.map a.eval ++ caps.map fun k => Value.pointer (some ⟨d.at_ k, 0, none⟩)).toArray) w := by
    have hv := h.get hfn
    have hv' : a.eval (.tmp t) = .func (.func f) #[] (caps.map fun k => Value.pointer (some ⟨d.at_ k, 0, none⟩)).toArray := hv
    simp [execOp, resolve, Deferred.ofValue, hv', invoke, hgo]
  unfold Oper.wp
  rw [hrun, Oper.upon_enter]
  obtain ⟨ro, hr, hrv, hrw, hrn⟩ : ∃ ro : Ro, RoOk S hd d w vw ro ∧ (vw = false → ro = d.ro) ∧ (∀ b o y, ro b o = some y → w.cell? ⟨b, o, none⟩ = some y) ∧ (∀ k j, look hd k = some j → (look S.mem j).isSome = true → ∀ o, ro (d.at_ j) o = none) := by
    cases vw with
    | false => exact ⟨d.ro, roFalse, fun _ => rfl, h.ro, fun k j hk hj o => (h.own j hj (hdOk_look hok hk).2.2).1 o⟩
    | true =>
      refine ⟨fun b o => if (∃ k j, look hd k = some j ∧ (look S.mem j).isSome = true ∧ d.at_ j = b) then none else w.cell? ⟨b, o, none⟩, ⟨fun b o y hy => ?_, fun _ j hj hjl hn o y hy => ?_⟩, (fun h => by cases h), fun b o y hy => ?_, fun k j hk hj o => ?_⟩
      · rw [if_neg]
        · exact h.ro b o y hy
        · rintro ⟨k, j, hk, hj, rfl⟩
          have := (h.own j hj (hdOk_look hok hk).2.2).1 o
          rw [this] at hy; cases hy
      · rw [if_neg]
        · exact hy
        · rintro ⟨k, j', hk, hj', he⟩
          have := h.inj j' j hj' hj (hdOk_look hok hk).2.2 hjl he
          subst this
          have : nameIn hd j' ≠ none := by
            have key : ∀ {hd : Hand}, look hd k = some j' → nameIn hd j' ≠ none := by
              intro hd
              induction hd with
              | nil => intro h; cases h
              | cons x r ih =>
                intro h
                simp only [nameIn]
                split
                · simp
                · rename_i hne
                  simp only [look] at h
                  split at h
                  · cases h; exact absurd rfl hne
                  · exact ih h
            exact key hk
          exact this hn
      · have hy' : (if (∃ k j, look hd k = some j ∧ (look S.mem j).isSome = true ∧ d.at_ j = b) then none else w.cell? ⟨b, o, none⟩) = some y := hy
        split at hy'
        · cases hy'
        · exact hy'
      · exact if_pos ⟨k, j, hk, hj, rfl⟩
  have hmem := hand_mem' h hr hrw hrn hok hm
  have hda := valsIn_ok h hr hok hargs
  have hcp := capsIn_ok (ro := ro) h hok hcaps
  have hda2 : All2 (V.den (d.hand hd ro)) (vs ++ ks.map fun k => .w (.one (.p k []))) (args.map a.eval ++ caps.map fun k => Value.pointer (some ⟨d.at_ k, 0, none⟩)) := by
    refine hda.append ?_
    rw [← hcp]
    exact all2_caps ks
  refine (hc w (d.hand hd ro) (args.map a.eval ++ caps.map fun k => Value.pointer (some ⟨d.at_ k, 0, none⟩)).toArray hmem hda2).mono ?_
  rintro e w' ⟨y, v, d', m', rfl, hR, hvd, a2, hs⟩
  obtain ⟨hlo, hou, hall, hk⟩ := hK v m' hR
  obtain ⟨hsim, hnm, hro⟩ := back_ok h hrv hok hm hs hall hou
  have hvd2 := leafOutV_den hro hnm hlo hvd
  cases dst with
  | none => exact hn _ _ _ _ hk hsim
  | some n => exact hn _ _ _ _ hk.2 (hsim.put hk.1 hvd2)
end Go.Sy

namespace Go.Sy
attribute [go_sem] optCons_some optCons_none fm_cons fm_nil mut_val mut_new mut_app mut_sto ns_val ns_new ns_sto ns_app nsC td_val td_new td_sto td_app chk_nil chk_cons atD_some memOp gslot Eff.free noUV noUW noUL Op.operands Call.operands Nat.reduceBneDiff bne_self_eq_false Option.toArray List.append_toArray List.toList_toArray Array.append_empty Array.empty_append
end Go.Sy

namespace Go.Sy
end Go.Sy

namespace Go.Sy
def Told (R : V → List (Nat × Ob) → Prop) (v : V) (m : List (Nat × Ob)) : Prop :=
  ∃ v' m', (∀ (B : Base) d y w, B.nt = 0 → v.den d y → MemOK B d m w → ∃ d', v'.den d' y ∧ MemOK B d' m' w) ∧ R v' m'
theorem CtM.told {P : Program} {f : FuncId} {args : List V} {ms : List (Nat × Ob)} {R : V → List (Nat × Ob) → Prop} (h : CtM P f args ms (Told R)) : CtM P f args ms R := by
  intro w d vals hm hargs
  refine (h w d vals hm hargs).mono fun e w' ⟨y, v, d', m', h1, ⟨v2, m2, h2, h3⟩, h4, h5⟩ => ?_
  obtain ⟨d2, h6, h7⟩ := h2 _ d' y w' rfl h4 h5
  exact ⟨y, v2, d2, m2, h1, h3, h6, h7⟩
section
variable {R : V → List (Nat × Ob) → Prop} {v v' : V} {m m' : List (Nat × Ob)}
theorem told_tidy (h : Tidy R v m) : Told R v m := by
  obtain ⟨g, v2, m2, h1, h2, h3⟩ := h
  subst h1
  exact ⟨v2, m2, fun B d y w hb hv hm => ⟨d.via g, V.den_via hv, hm.tidy h2⟩, h3⟩
end
def plainW : W → Bool
  | .one (.pl _) => true
  | .one _ => false
  | .agg cs => cs.all fun l => match l with
    | .pl _ => true
    | _ => false
def plainV : V → Bool
  | .w x => plainW x
  | .tup xs => xs.all plainW
  | .any => true
theorem plain_ren {g : Nat → Nat} : ∀ {v : V}, plainV v = true → v.ren g = v := by
  have hl : ∀ cs : List L, (cs.all fun l => match l with | .pl _ => true | _ => false) = true → cs.map (L.ren g) = cs := by
    intro cs h
    induction cs with
    | nil => rfl
    | cons x r ih =>
      simp only [List.all_cons, Bool.and_eq_true] at h
      rw [List.map_cons, ih h.2]
      cases x <;> first | rfl | (cases h.1)
  have hw : ∀ x : W, plainW x = true → x.ren g = x := by
    intro x h
    cases x with
    | one l => cases l <;> first | rfl | (cases h)
    | agg cs => simp only [W.ren]; rw [hl cs h]
  intro v h
  cases v with
  | w x => simp only [V.ren]; rw [hw x h]
  | tup xs =>
    simp only [V.ren]
    congr 1
    simp only [plainV, List.all_eq_true] at h
    induction xs with
    | nil => rfl
    | cons x r ih => rw [List.map_cons, hw x (h x (by simp)), ih fun y hy => h y (by simp [hy])]
  | any => rfl
theorem told_plain {R : V → List (Nat × Ob) → Prop} {v : V} {m : List (Nat × Ob)} (hp : plainV v = true) (h : R v []) : Told R v m :=
  told_tidy ⟨fun k => k, v, [], (plain_ren hp).symm, .empty, h⟩
end Go.Sy

namespace Go.Sy
end Go.Sy

namespace Go.Sy
theorem L.ren_id (l : L) : l.ren (fun k => k) = l := by cases l <;> simp [L.ren]
theorem within_sub {m m2 : List (Nat × Ob)} (h : ∀ k o, look m2 k = some o → look m k = some o) : Within (fun k => k) m2 m :=
  ⟨fun k o hk => by rw [h k o hk]; congr 1; cases o; simp only [Ob.mk.injEq, true_and]; exact (List.map_id'' L.ren_id _).symm, fun _ _ _ _ h => h, fun _ h => h, fun _ _ => rfl⟩
theorem told_keep {R : V → List (Nat × Ob) → Prop} {v : V} {m m2 : List (Nat × Ob)} (hp : plainV v = true) (hm : ∀ k o, look m2 k = some o → look m k = some o) (h : R v m2) : Told R v m :=
  told_tidy ⟨fun k => k, v, m2, (plain_ren hp).symm, within_sub hm, h⟩
theorem keep_one {m : List (Nat × Ob)} {j : Nat} {o0 : Ob} (h : look m j = some o0) : ∀ k o, look [(j, o0)] k = some o → look m k = some o := by
  intro k o hk
  simp only [look] at hk
  split at hk
  · rename_i e; cases hk; rw [e]; exact h
  · cases hk
section
variable {P : Program} {B : Base} {ds : List (Option Tmp)} {r : List Oper} {S : St} {K : St → Prop}
theorem og_tt (j : Nat) (o : Oper) : onGuard (some true) j true P B ds o r S K = runOps P B ds (⟨o.dst, o.op, o.type, o.pos, o.after, none⟩ :: r) (setG S ds j true) K := by rw [ev_onGuard]; simp
theorem og_ff (j : Nat) (o : Oper) : onGuard (some false) j false P B ds o r S K = runOps P B ds (⟨o.dst, o.op, o.type, o.pos, o.after, none⟩ :: r) (setG S ds j false) K := by rw [ev_onGuard]; simp
theorem og_tf (j : Nat) (o : Oper) : onGuard (some true) j false P B ds o r S K = onSt ((setG S ds j true).put B.nt o.dst (.tup [])) P B ds r K := by rw [ev_onGuard]; simp
theorem og_ft (j : Nat) (o : Oper) : onGuard (some false) j true P B ds o r S K = onSt ((setG S ds j false).put B.nt o.dst (.tup [])) P B ds r K := by rw [ev_onGuard]; simp
end
section
variable {P : Program} {nt : Nat} {names : List Nat} {ds : List (Option Tmp)} {keep : Bool} {o : Oper} {N : List Nat} {D : List Da} {S : St} {k : List Nat → List Da → St → Prop}
theorem dg_tt (j : Nat) : onG P nt names ds keep o (j, true) N D S k (some true) = onO P nt names ds keep o N D S k := by rw [rd_onG]; simp
theorem dg_ff (j : Nat) : onG P nt names ds keep o (j, false) N D S k (some false) = onO P nt names ds keep o N D S k := by rw [rd_onG]; simp
theorem dg_tf (j : Nat) : onG P nt names ds keep o (j, false) N D S k (some true) = (dstOk nt o.dst ∧ k N (D ++ bif keep then [⟨.val (.tup []), (gslot ds o).filterMap S.get, []⟩] else []) ((Eff.val (.tup [])).on o.dst S)) := by rw [rd_onG]; simp
theorem dg_ft (j : Nat) : onG P nt names ds keep o (j, true) N D S k (some false) = (dstOk nt o.dst ∧ k N (D ++ bif keep then [⟨.val (.tup []), (gslot ds o).filterMap S.get, []⟩] else []) ((Eff.val (.tup [])).on o.dst S)) := by rw [rd_onG]; simp
end
attribute [go_sem high] og_tt og_ff og_tf og_ft dg_tt dg_ff dg_tf dg_ft
attribute [go_sem] capsV
end Go.Sy

namespace Go.Sy
section
variable {k j : Nat} {c : List PL}
end
end Go.Sy

namespace Go.Sy
section
variable {H : Type} {enc : TypeId × Value → H} {P : Program} {w w2 : World} {base : Nat} {spare : Nat → Bool} {held : Bool}
end
end Go.Sy

namespace Go.Sy
section
variable {P : Program}
end
end Go.Sy

namespace Go.Sy
section
variable {H : Type} {enc : TypeId × Value → H} {P : Program}
end
end Go.Sy

namespace Go.Sy
section
variable {P : Program} {B : Base} {S : St} {Q : Exit → St → Prop}
theorem top_k {c : Code} (h : ∀ Z : Exit → St → Prop, (∀ e S', Q e S' → Z e S') → HT P B c S Z) : HT P B c S Q := h Q fun _ _ h => h
theorem sr_k {id : Nat} {l : List Oper} {y : Code} (h : ∀ K : St → Prop, (∀ S', HT P B y S' Q → K S') → runOps P B (dsOf l) l S K) : HT P B (.seq (.region id l.toArray false) y) S Q :=
  seq_k fun N M hN hM => region_k fun K hK => h K fun S' hy => hK S' (hN S' hy)
theorem sd_k {id : Nat} {l : List Oper} {y : Code} (names c : List Nat) (need : List (Nat × Nat)) (hm : P.follows .mixedOrders = true) (hst : drawOk (dsOf l) c need l = true)
    (hn : names.all (fun k => fresh k S && (look S.mem k).isNone) = true)
    (h : ∀ K : St → List Da → Prop, (∀ S' D, chkD l D need → HT P B y S' Q → K S' D) → runD P B.nt names (dsOf l) (!need.isEmpty) l [] [] S K) : HT P B (.seq (.region id l.toArray true) y) S Q :=
  seq_k fun N M hN hM => draw_k names c need hm hst hn fun K hK => h K fun S' D hd hy => hK S' D hd (hN S' hy)
theorem condT_k {c : Operand} {x y : Code} (hc : S.get c = some (.w (.one (.pl (.b true))))) (h : HT P B x S Q) : HT P B (.cond c x y) S Q := cond_k hc (fun _ => h) (fun e => by cases e)
theorem condF_k {c : Operand} {x y : Code} (hc : S.get c = some (.w (.one (.pl (.b false))))) (h : HT P B y S Q) : HT P B (.cond c x y) S Q := cond_k hc (fun e => by cases e) (fun _ => h)
end
end Go.Sy

namespace Go.Sy
section
variable {P : Program}
end
end Go.Sy

namespace Go.Sy
section
variable {P : Program} {B : Base} {Q : Exit → St → Prop} {S : St} {x y : Code}
end
attribute [go_sem] deepsIn deepV deepL deepLs deepC valsIn valIn leafIn leavesIn nameIn capsIn handOk leafOutV leafOutW leafOut okN outOk inv backM outN nameOut Ob.ren V.ren W.ren L.ren setM
end Go.Sy

namespace Go.Sy

end Go.Sy

namespace Go.Sy

section
variable {P : Program} {B : Base} {ops : Array Oper} {ds : List (Option Tmp)} {bef : Nat → Nat → Prop}

end

end Go.Sy

namespace Go.Sy
open Go.RowKit Go.WideShapes Go.ChangeShapes Go.ChangeAt

def formOk (P : Program) (K : List TypeId) (t : TypeId) : Bool := match P.underlying t with
  | some .bool | some (.int .i64) | some (.int .u8) | some (.int .u32) | some (.int .u64) | some .string => P.cellsOf t == 1
  | some (.slice e) => P.cellsOf t == 1 && (P.cellsOf e != 0 && K.contains e)
  | some (.struct fs) => tileFs P fs.toList 0 (P.cellsOf t) && fs.toList.all fun f => K.contains f.type
  | some (.array m e) => P.cellsOf t == m * P.cellsOf e && K.contains e
  | _ => false
theorem cell_spot {w : World} {a : Addr} {v : Value} (h : w.cell? a = some v) : a.spot = none := by
  unfold World.cell? at h
  split at h <;> try (cases h; done)
  split at h
  · cases h
  · rename_i hs; simpa using hs
section
variable {H : Type} {enc : TypeId × Value → H} {P : Program} {w : World} {base : Nat} {spare : Nat → Bool} {held : Bool}
theorem open_all {K : List TypeId} (hK : K.all (formOk P K) = true) : ∀ (n : Nat) (t : TypeId) (cs : List Value) (y : DataW H × List MemPlace), DataW.trod enc P w base spare held n t cs = some y → K.contains t = true →
    ∃ xs, Sh P n t xs ∧ xs.length = cs.length ∧ All2 (PL.den (Va.reads w).ro) xs cs := by
  intro n
  induction n with
  | zero => intro t cs y h; simp [DataW.trod] at h
  | succ n ih =>
    intro t cs y h hk0
    have hk := List.all_eq_true.mp hK t (by simpa using hk0)
    unfold formOk at hk
    split at hk <;> try (cases hk; done)
    · rename_i ht
      obtain ⟨b, rfl, _⟩ := DataW.trod_bool ht h
      exact ⟨[.b b], by unfold Sh; rw [ht]; exact ⟨b, rfl⟩, rfl, .cons (by rw [PL.den]) .nil⟩
    · rename_i ht
      obtain ⟨k, rfl, _, hwf⟩ := DataW.trod_int ht h
      simp only [Lit.wf, IntKind.min, IntKind.max, IntKind.signed, IntKind.bits, Bool.and_eq_true, decide_eq_true_eq, if_true] at hwf
      exact ⟨[.i k], by unfold Sh; rw [ht]; exact ⟨k, rfl, by omega, by omega⟩, rfl, .cons (by rw [PL.den]) .nil⟩
    · rename_i ht
      obtain ⟨k, rfl, _, hwf⟩ := DataW.trod_int ht h
      simp only [Lit.wf, IntKind.min, IntKind.max, IntKind.signed, IntKind.bits, Bool.and_eq_true, decide_eq_true_eq] at hwf
      exact ⟨[.u8 (UInt8.ofNat k.toNat)], by unfold Sh; rw [ht]; exact ⟨_, rfl⟩, rfl, .cons (by rw [PL.den]; congr 1; simp at hwf ⊢; omega) .nil⟩
    · rename_i ht
      obtain ⟨k, rfl, _, hwf⟩ := DataW.trod_int ht h
      simp only [Lit.wf, IntKind.min, IntKind.max, IntKind.signed, IntKind.bits, Bool.and_eq_true, decide_eq_true_eq] at hwf
      exact ⟨[.u32 (UInt32.ofNat k.toNat)], by unfold Sh; rw [ht]; exact ⟨_, rfl⟩, rfl, .cons (by rw [PL.den]; congr 1; simp at hwf ⊢; omega) .nil⟩
    · rename_i ht
      obtain ⟨k, rfl, _, hwf⟩ := DataW.trod_int ht h
      simp only [Lit.wf, IntKind.min, IntKind.max, IntKind.signed, IntKind.bits, Bool.and_eq_true, decide_eq_true_eq] at hwf
      exact ⟨[.u64 (UInt64.ofNat k.toNat)], by unfold Sh; rw [ht]; exact ⟨_, rfl⟩, rfl, .cons (by rw [PL.den]; congr 1; simp at hwf ⊢; omega) .nil⟩
    · rename_i ht
      obtain ⟨s, rfl, _, hs⟩ := DataW.trod_string ht h
      have hl : s.data.toList.length = s.size := Array.length_toList
      exact ⟨[.str s.data.toList], by unfold Sh; rw [ht]; exact ⟨_, rfl, by omega⟩, rfl, .cons (by rw [PL.den]; exact ⟨by simp, by omega⟩) .nil⟩
    · rename_i e ht
      simp only [Bool.and_eq_true, beq_iff_eq, bne_iff_ne] at hk
      rcases DataW.trod_slice ht h with ⟨rfl, _⟩ | ⟨a, len, cap, elems, rest, n', hn, rfl, _, hb, hl, hm, hel, hi, _⟩
      · exact ⟨[.R false (P.cellsOf e) []], by unfold Sh; rw [ht]; exact ⟨[], rfl, fun r hr => (by cases hr), Nat.zero_le _⟩, rfl, .cons (by rw [PL.den]; exact .inl ⟨rfl, rfl⟩) .nil⟩
      · cases hn
        rcases Nat.eq_zero_or_pos len with rfl | hpos
        · exact ⟨[.R false (P.cellsOf e) []], by unfold Sh; rw [ht]; exact ⟨[], rfl, fun r hr => (by cases hr), Nat.zero_le _⟩, rfl, .cons (by rw [PL.den]; exact .inr (.inr ⟨a, cap, rfl, rfl, hm, fun h => (by cases h)⟩)) .nil⟩
        have hsa : a.spot = none := by
          have h1 := hi 0 hpos
          have : 0 < elems.length := by omega
          rw [List.getElem?_eq_getElem this] at h1
          obtain ⟨cs', hc, _⟩ := Option.bind_eq_some_iff.mp h1
          obtain ⟨_, hcl, hcc⟩ := World.cells?_some hc
          have h0 := hcc 0 (by omega)
          have hlt : 0 < cs'.length := by omega
          rw [List.getElem?_eq_getElem hlt] at h0
          have := cell_spot h0
          simpa [Addr.add] using this
        obtain ⟨blk, off, sp⟩ := a
        simp only at hsa; subst hsa
        have each : ∀ i ∈ List.range len, ∃ r : List PL, Sh P n e r ∧ r.length = P.cellsOf e ∧ PL.denAt (Va.reads w).ro blk r (off + i * P.cellsOf e) := by
          intro i hi'
          have hlt : i < len := by simpa using hi'
          have h1 := hi i hlt
          have : i < elems.length := by omega
          rw [List.getElem?_eq_getElem this] at h1
          obtain ⟨cs', hc, ht'⟩ := Option.bind_eq_some_iff.mp h1
          obtain ⟨_, hcl, hcc⟩ := World.cells?_some hc
          have hcell : ∀ j v, cs'[j]? = some v → w.cell? ⟨blk, off + i * P.cellsOf e + j, none⟩ = some v := by
            intro j v hj
            have hj' : j < P.cellsOf e := by
              have := (List.getElem?_eq_some_iff.mp hj).1; omega
            have := hcc j hj'
            rw [hj] at this
            rw [← this]
            congr 1
            rw [addr_add, addr_add]
          obtain ⟨xs, hx1, hx2, hx3⟩ := ih e cs' _ ht' hk.2.2
          exact ⟨xs, hx1, by omega, denAt_of hx3 fun j v hj => hcell j v hj⟩
        obtain ⟨rows, hrows⟩ := choose_list _ each
        have hlen : rows.length = len := by have := hrows.length; simpa using this.symm
        have hget : ∀ i r, rows[i]? = some r → Sh P n e r ∧ r.length = P.cellsOf e ∧ PL.denAt (Va.reads w).ro blk r (off + i * P.cellsOf e) := by
          intro i r hr
          obtain ⟨j, hj, hp⟩ := hrows.flip.get hr
          have hil : i < len := by
            have := (List.getElem?_eq_some_iff.mp hr).1; omega
          rw [List.getElem?_range hil] at hj
          cases hj; exact hp
        refine ⟨[.R false (P.cellsOf e) rows], ?_, rfl, .cons ?_ .nil⟩
        · unfold Sh; rw [ht]
          refine ⟨rows, rfl, fun r hr => ?_, by omega⟩
          obtain ⟨i, hi'⟩ := List.mem_iff_getElem?.mp hr
          exact ⟨(hget i r hi').1, (hget i r hi').2.1⟩
        · rw [PL.den]
          refine .inr (.inl ⟨blk, off, cap, by rw [hlen], by omega, hm, fun h => (by cases h), denRows_of (fun r hr => ?_) fun i r hr => (hget i r hr).2.2⟩)
          obtain ⟨i, hi'⟩ := List.mem_iff_getElem?.mp hr
          exact (hget i r hi').2.1
    · rename_i fs ht
      simp only [Bool.and_eq_true, List.all_eq_true] at hk
      obtain ⟨xs, n', hn, _, hl, hxs, hf⟩ := DataW.trod_struct ht h
      cases hn
      have each : ∀ f ∈ fs.toList, ∃ r : List PL, (Sh P n f.type r ∧ r.length = P.cellsOf f.type) ∧ All2 (PL.den (Va.reads w).ro) r ((cs.drop f.offset).take (P.cellsOf f.type)) := by
        intro f hf'
        obtain ⟨i, hi⟩ := List.mem_iff_getElem?.mp hf'
        rw [Array.getElem?_toList] at hi
        have h1 := hf i f hi
        have hi2 : i < xs.length := by rw [hxs]; exact (Array.getElem?_eq_some_iff.mp hi).1
        rw [List.getElem?_eq_getElem hi2] at h1
        obtain ⟨ys, hy1, hy2, hy3⟩ := ih f.type _ _ h1 (hk.2 f hf')
        have hle := tile_le _ _ hk.1 f hf'
        exact ⟨ys, ⟨hy1, by rw [hy2, take_len (by omega)]⟩, hy3⟩
      obtain ⟨ps, hps⟩ := choose_list _ each
      have hfl := tile_split cs hl fs.toList 0 hk.1
      rw [List.drop_zero] at hfl
      have hall : All2 (PL.den (Va.reads w).ro) ps.flatten cs := by
        rw [← hfl]
        refine all2_flatten (All2.map_r ?_)
        exact hps.flip.mono fun p f _ h => h.2
      exact ⟨ps.flatten, by unfold Sh; rw [ht]; exact ⟨ps, rfl, hps.mono fun f p _ h => h.1⟩, hall.length, hall⟩
    · rename_i k e ht
      simp only [Bool.and_eq_true, beq_iff_eq] at hk
      obtain ⟨n', hn, hl, hi⟩ := trod_array ht h
      cases hn
      have each : ∀ i ∈ List.range k, ∃ r : List PL, (Sh P n e r ∧ r.length = P.cellsOf e) ∧ All2 (PL.den (Va.reads w).ro) r ((cs.drop (i * P.cellsOf e)).take (P.cellsOf e)) := by
        intro i hi'
        have hlt : i < k := by simpa using hi'
        obtain ⟨y', hy'⟩ := hi i hlt
        obtain ⟨ys, hy1, hy2, hy3⟩ := ih e _ _ hy' hk.2
        have hle : i * P.cellsOf e + P.cellsOf e ≤ cs.length := by
          rw [hl, hk.1]
          have : (i + 1) * P.cellsOf e ≤ k * P.cellsOf e := Nat.mul_le_mul_right _ hlt
          rw [Nat.add_mul] at this; omega
        exact ⟨ys, ⟨hy1, by rw [hy2, take_len hle]⟩, hy3⟩
      obtain ⟨ps, hps⟩ := choose_list _ each
      have hfl := chunk_flatten (P.cellsOf e) k cs (by rw [hl, hk.1])
      have hall : All2 (PL.den (Va.reads w).ro) ps.flatten cs := by
        rw [← hfl]
        refine all2_flatten (All2.map_r ?_)
        exact hps.flip.mono fun p f _ h => h.2
      refine ⟨ps.flatten, ?_, hall.length, hall⟩
      unfold Sh; rw [ht]
      refine ⟨ps, rfl, by have := hps.length; simpa using this.symm, fun p hp => ?_⟩
      obtain ⟨i, hi'⟩ := List.mem_iff_getElem?.mp hp
      obtain ⟨j, _, hj⟩ := hps.flip.get hi'
      exact hj.1
theorem open_deep {t : TypeId} {v : Value} {d : DataW H} {p : List MemPlace} {b0 : Nat} (K : List TypeId) (hK : K.all (formOk P K) = true) (hk : K.contains t = true) (hv : Value.okWide P w .any b0 t v) (hts : (match P.underlying t with
      | some (.struct _) | some (.array _ _) | some (.slice _) | some .bool | some (.int _) | some .string => true
      | _ => false) = true) (h : DataW.Trod enc P w base spare held t v d p) :
    ∃ (n : Nat) (xs : List PL), Sh P n t xs ∧ (V.w (match P.underlying t with
      | some (.struct _) | some (.array _ _) => .agg (pls xs)
      | _ => .one (.pl (xs.headD .u)))).den (Va.reads w) v := by
  obtain ⟨fuel, hf⟩ := h
  obtain ⟨xs, h1, h2, h3⟩ := open_all hK fuel t _ _ hf hk
  refine ⟨fuel, xs, h1, ?_⟩
  have hd := den_pls (d := Va.reads w) h3
  unfold Value.okWide at hv
  split at hv
  · rename_i fs ht
    obtain ⟨cs, rfl, _⟩ := hv
    rw [ht]
    exact ⟨cs, rfl, hd⟩
  · rename_i k e ht
    obtain ⟨cs, rfl, _⟩ := hv
    rw [ht]
    exact ⟨cs, rfl, hd⟩
  · rename_i hn1 hn2
    have hq : (match P.underlying t with
          | some (.slice _) | some .bool | some (.int _) | some .string => true
          | _ => false) = true := by
      split at hts
      · rename_i fs ht; exact absurd ht (hn1 fs)
      · rename_i k e ht; exact absurd ht (hn2 k e)
      all_goals simp_all
    have hone : v.cells = #[v] := by
      cases v <;> first | rfl | (exfalso; unfold Cell.okWide at hv; cases hu : P.underlying t with
          | none => rw [hu] at hq; cases hq
          | some d => rw [hu] at hv hq; cases d <;> first | (cases hq; done) | (simp [Cell.ok, hu] at hv))
    rw [hone] at hd
    have : ∃ x, xs = [x] ∧ L.den (Va.reads w) (.pl x) v := by
      cases xs with
      | nil => cases hd
      | cons x r =>
        cases hd with
        | cons g1 g2 =>
          cases r with
          | nil => exact ⟨x, rfl, g1⟩
          | cons _ _ => cases g2
    obtain ⟨x, rfl, hx⟩ := this
    split
    · rename_i fs ht; exact absurd ht (hn1 fs)
    · rename_i k e ht; exact absurd ht (hn2 k e)
    · exact hx
end
end Go.Sy

namespace Go.Sy
open Go.RowKit Go.WideShapes Go.ChangeShapes Go.ChangeAt
end Go.Sy

namespace Go.Sy
def CH (vw : Bool) (hd : Hand) (P : Program) (f : FuncId) (args : List V) (m : List (Nat × Ob)) (R : V → List (Nat × Ob) → Prop) : Prop := CtM P f args m R
def CF (caps : List Nat) (vw : Bool) (hd : Hand) : Prop := True
theorem Ct.cv {P : Program} {f : FuncId} {args : List V} {T : V → Prop} (h : Ct P f args fun v _ => T v) : Ct P f args fun v m => T v ∧ m = [] := h.plain fun _ _ h => h
theorem CtM.ch {P : Program} {f : FuncId} {args : List V} {m : List (Nat × Ob)} {R : V → List (Nat × Ob) → Prop} (hd : Hand) (h : CtM P f args m R) (vw : Bool := false) : CH vw hd P f args m R := h
theorem CF.mk (caps : List Nat) (hd : Hand) (vw : Bool := false) : CF caps vw hd := trivial
section
variable {P : Program} {B : Base} {S : St} {K : St → Prop} {dst : Option Tmp} {ty : TypeId} {pos : String} {af : Array Edge} {f : FuncId} {args : List Operand} {ts : Array TypeId} {ds : List (Option Tmp)} {r : List Oper} {vs : List V} {m : List (Nat × Ob)} {R : V → List (Nat × Ob) → Prop}
theorem call_v (hgo : ∀ vals w, (callFunc f vals).run P w = .ok (.enter f vals) w) (hargs : viewVs S args = some vs) (hc : Ct P f vs R) (hK : ∀ v m, R v m → resOkV m v = true ∧ adoptOk (fun k => k) S.env m S.mem = true ∧ (match dst with
      | some n => n < B.nt ∧ runOps P B ds r ⟨(n, v.ren (fun k => k)) :: S.env, adopt (fun k => k) m S.mem⟩ K
      | none => runOps P B ds r ⟨S.env, adopt (fun k => k) m S.mem⟩ K)) :
    atCall P B ⟨dst, .call ⟨.value (.func f), args.toArray, ts⟩, ty, pos, af, none⟩ S ds r K := call_view (fun k => k) hgo hargs hc hK
theorem call_h {vw : Bool} {hd : Hand} (hgo : ∀ vals w, (callFunc f vals).run P w = .ok (.enter f vals) w) (hargs : valsIn vw S hd args = some vs) (hok : hdOk hd = true) (hm : handOk S hd m) (hc : CH vw hd P f vs m R)
    (hK : ∀ v m', R v m' → leafOutV vw m' v = true ∧ outOk vw (fun k => k) hd S m m' m' ∧ hd.all (fun x => (look m' x.1).isSome) = true ∧ (match dst with
      | some n => n < B.nt ∧ runOps P B ds r ⟨(n, v.ren (outN (fun k => k) hd)) :: S.env, backM (fun k => k) hd m' S.mem⟩ K
      | none => runOps P B ds r ⟨S.env, backM (fun k => k) hd m' S.mem⟩ K)) :
    atCall P B ⟨dst, .call ⟨.value (.func f), args.toArray, ts⟩, ty, pos, af, none⟩ S ds r K := call_hand vw hd (fun k => k) hgo hargs hok hm hc hK
theorem call_f {vw : Bool} {hd : Hand} {t : Tmp} {caps ks : List Nat} (hfn : S.get (.tmp t) = some (.w (.one (.fn f caps)))) (hcaps : capsIn hd caps = some ks) (hgo : ∀ vals w, (callFunc f vals).run P w = .ok (.enter f vals) w) (hargs : valsIn vw S hd args = some vs) (hok : hdOk hd = true) (hm : handOk S hd m) (hx : CF caps vw hd) (hc : CtM P f (vs ++ ks.map fun k => .w (.one (.p k []))) m R)
    (hK : ∀ v m', R v m' → leafOutV vw m' v = true ∧ outOk vw (fun k => k) hd S m m' m' ∧ hd.all (fun x => (look m' x.1).isSome) = true ∧ (match dst with
      | some n => n < B.nt ∧ runOps P B ds r ⟨(n, v.ren (outN (fun k => k) hd)) :: S.env, backM (fun k => k) hd m' S.mem⟩ K
      | none => runOps P B ds r ⟨S.env, backM (fun k => k) hd m' S.mem⟩ K)) :
    atCall P B ⟨dst, .call ⟨.value (.tmp t), args.toArray, ts⟩, ty, pos, af, none⟩ S ds r K := call_fn vw hd (fun k => k) hfn hcaps hgo hargs hok hm hc hK
end
section
variable {P : Program} {B : Base} {c : Code} {S : St} {Q : Exit → St → Prop}
theorem HT.w (h : HT P B c S Q := by
    repeat (first
      | refine zhK _ ?_
      | (refine zhN _ ?_; clear zhN zhM)
      | (refine zhM _ _ ?_; clear zhN zhM)
      | (refine zbn _ ?_; clear zbn zbx zbr zbi)
      | (refine zbx _ ?_; clear zbn zbx zbr zbi)
      | (refine zbr _ ?_; clear zbn zbx zbr zbi)
      | (refine zbi _ _ ?_ ?_; focus (decide); clear zbn zbx zbr zbi)
      | (refine zhZ _ _ ?_; (try simp only [go_sem, F0]); (all_goals (first | rfl | exact ⟨rfl, rfl⟩ | exact told_plain rfl ⟨rfl, rfl⟩ | exact told_keep rfl (keep_one (by simp [look, F0])) ⟨rfl, rfl⟩ | exact zE | (rw [zE]; done) | (simp [F0]; done))))
      | (refine zL _ ?_ ?_; all_goals (simp only [go_sem, leX, List.cons_append, List.nil_append, F0]; try simp))
      | (refine sr_k fun zK zhK => ?_; (try simp only [go_sem, F0]); (repeat' (first | apply And.intro | intro _)))
      | (refine region_k fun zK zhK => ?_; (try simp only [go_sem, F0]); (repeat' (first | apply And.intro | intro _)))
      | ((first | (refine call_v (fun _ _ => rfl) ?_ cv0 ?_; focus (first | rfl | (simp only [go_sem, F0] <;> rfl))) | (refine call_v (fun _ _ => rfl) ?_ cv1 ?_; focus (first | rfl | (simp only [go_sem, F0] <;> rfl))) | (refine call_v (fun _ _ => rfl) ?_ cv2 ?_; focus (first | rfl | (simp only [go_sem, F0] <;> rfl))) | (refine call_v (fun _ _ => rfl) ?_ cv3 ?_; focus (first | rfl | (simp only [go_sem, F0] <;> rfl))) | (refine call_v (fun _ _ => rfl) ?_ cv4 ?_; focus (first | rfl | (simp only [go_sem, F0] <;> rfl))) | (refine call_v (fun _ _ => rfl) ?_ cv5 ?_; focus (first | rfl | (simp only [go_sem, F0] <;> rfl))) | (refine call_v (fun _ _ => rfl) ?_ cv6 ?_; focus (first | rfl | (simp only [go_sem, F0] <;> rfl))) | (refine call_v (fun _ _ => rfl) ?_ cv7 ?_; focus (first | rfl | (simp only [go_sem, F0] <;> rfl))) | (refine call_v (fun _ _ => rfl) ?_ cv8 ?_; focus (first | rfl | (simp only [go_sem, F0] <;> rfl))) | (refine call_v (fun _ _ => rfl) ?_ cv9 ?_; focus (first | rfl | (simp only [go_sem, F0] <;> rfl))))
         rintro v m ⟨hR, hm⟩; subst hR; subst hm
         refine And.intro ?_ (And.intro ?_ ?_); iterate 2 (focus (first | rfl | simp only [go_sem, F0]))
         (try simp only [go_sem, F0]); (repeat' (first | apply And.intro | intro _)))
      | ((first | (refine call_h (fun _ _ => rfl) ?_ ?_ ?_ ch0 ?_; iterate 3 (focus (first | rfl | (simp only [go_sem, F0] <;> first | done | rfl | simp)))) | (refine call_h (fun _ _ => rfl) ?_ ?_ ?_ ch1 ?_; iterate 3 (focus (first | rfl | (simp only [go_sem, F0] <;> first | done | rfl | simp)))) | (refine call_h (fun _ _ => rfl) ?_ ?_ ?_ ch2 ?_; iterate 3 (focus (first | rfl | (simp only [go_sem, F0] <;> first | done | rfl | simp)))) | (refine call_h (fun _ _ => rfl) ?_ ?_ ?_ ch3 ?_; iterate 3 (focus (first | rfl | (simp only [go_sem, F0] <;> first | done | rfl | simp)))) | (refine call_h (fun _ _ => rfl) ?_ ?_ ?_ ch4 ?_; iterate 3 (focus (first | rfl | (simp only [go_sem, F0] <;> first | done | rfl | simp)))) | (refine call_h (fun _ _ => rfl) ?_ ?_ ?_ ch5 ?_; iterate 3 (focus (first | rfl | (simp only [go_sem, F0] <;> first | done | rfl | simp)))) | (refine call_h (fun _ _ => rfl) ?_ ?_ ?_ ch6 ?_; iterate 3 (focus (first | rfl | (simp only [go_sem, F0] <;> first | done | rfl | simp)))) | (refine call_f ?_ ?_ (fun _ _ => rfl) ?_ ?_ ?_ cg0 cf0 ?_; iterate 5 (focus (first | rfl | (simp only [go_sem, F0] <;> first | done | rfl | simp)))) | (refine call_f ?_ ?_ (fun _ _ => rfl) ?_ ?_ ?_ cg1 cf1 ?_; iterate 5 (focus (first | rfl | (simp only [go_sem, F0] <;> first | done | rfl | simp)))) | (refine call_f ?_ ?_ (fun _ _ => rfl) ?_ ?_ ?_ cg2 cf2 ?_; iterate 5 (focus (first | rfl | (simp only [go_sem, F0] <;> first | done | rfl | simp)))) | (refine call_f ?_ ?_ (fun _ _ => rfl) ?_ ?_ ?_ cg3 cf3 ?_; iterate 5 (focus (first | rfl | (simp only [go_sem, F0] <;> first | done | rfl | simp)))) | (refine call_f ?_ ?_ (fun _ _ => rfl) ?_ ?_ ?_ cg4 cf4 ?_; iterate 5 (focus (first | rfl | (simp only [go_sem, F0] <;> first | done | rfl | simp)))) | (refine call_f ?_ ?_ (fun _ _ => rfl) ?_ ?_ ?_ cg5 cf5 ?_; iterate 5 (focus (first | rfl | (simp only [go_sem, F0] <;> first | done | rfl | simp)))))
         rintro v m ⟨hR, hm⟩; subst hR; subst hm
         refine And.intro ?_ (And.intro ?_ (And.intro ?_ ?_)); iterate 3 (focus (first | rfl | (simp only [go_sem, F0]; done) | (simp [go_sem, look, F0]; done)))
         (try simp only [go_sem, F0]); (repeat' (first | apply And.intro | intro _)))
      | refine seq_k fun zN zM zhN zhM => ?_
      | refine block_k fun zB zbn zbx zbr zbi => ?_
      | refine skip_k ?_
      | refine ret_k ?_
      | refine exit_k ?_
      | (refine condF_k ?_ ?_; focus (first | rfl | (simp [go_sem, F0]; done)))
      | (refine condT_k ?_ ?_; focus (first | rfl | (simp [go_sem, F0]; done))))) : HT P B c S Q := h
end
theorem Ct.w {P : Program} {f : FuncId} {fn : Func} {c : Code} {args : List V} {R : V → List (Nat × Ob) → Prop} {nt : Nat} {rs : Array ResultVar} (hf : P.funcs[f]? = some fn) (hb : fn.body = some c) (hnt : fn.ntmps = nt) (hrs : fn.results = rs)
    (h : ∀ (w0 : World) (ro : Ro), HT P ⟨w0, fun _ => False, nt, ro, fun _ => none⟩ c ⟨argsE 0 args, []⟩ (endQ P rs.toList R) := by intro w0 ro; refine top_k fun zZ zhZ => ?_; exact HT.w) (hn : args.length ≤ nt := by simp) : Ct P f args R :=
  Ct.k hf hb hnt (congrArg Array.toList hrs) hn h
end Go.Sy

namespace Go.Sy
section
variable {P : Program} {B : Base} {S : St} {Q : Exit → St → Prop}
theorem loop_b {x : Code} {ι : Type} (E : List (Nat × V)) (M : List (Nat × Ob)) (e : ι → List (Nat × V)) (m : ι → List (Nat × Ob)) (μ : ι → Nat) (i₀ : ι) (h0 : leX [] S.env (e i₀ ++ E)) (h1 : leX [] S.mem (m i₀ ++ M))
    (round : ∀ i, ∀ (N : St → Prop) (M' : Exit → St → Prop), (∀ j S', μ j < μ i → leX [] S'.env (e j ++ E) → leX [] S'.mem (m j ++ M) → N S') → (∀ e S', Q e S' → M' e S') → HT P B x ⟨e i ++ E, m i ++ M⟩ (thenQ N M')) : HT P B (.loop x) S Q := by
  refine HT.loop (fun i => ⟨e i ++ E, m i ++ M⟩) μ i₀ (Le.ofX h0 h1) fun i => ?_
  exact round i _ Q (fun j S' hj he hm => ⟨j, hj, Le.ofX he hm⟩) (fun _ _ h => h)
theorem join_l {x y : Code} {α : Type} (e : α → List (Nat × V)) (m : α → List (Nat × Ob)) (p : α → Prop)
    (h1 : ∀ (N : St → Prop) (M : Exit → St → Prop), (∀ a, p a → ∀ S', leX [] S'.env (e a ++ S.env) → leX [] S'.mem (m a ++ S.mem) → N S') → (∀ e S', Q e S' → M e S') → HT P B x S (thenQ N M))
    (h2 : ∀ a, p a → HT P B y ⟨e a ++ S.env, m a ++ S.mem⟩ Q) : HT P B (.seq x y) S Q :=
  HT.seq (h1 (fun S' => HT P B y S' Q) Q (fun a ha S' he hm => HT.le (Le.ofX he hm) (h2 a ha)) (fun _ _ h => h))
end
theorem leX_cons {α : Type} {z : Nat × α} : ∀ {l r : List (Nat × α)} {ks : List Nat}, leX ks r l → leX (z.1 :: ks) (z :: r) l
  | [], _, _, _ => trivial
  | x :: l, r, ks, h => by
    refine ⟨?_, ?_⟩
    · split
      · trivial
      · rename_i hc
        have h1 := h.1
        have hx : ¬ ks.contains x.1 = true := by intro e; exact hc (by rw [List.contains_cons, e, Bool.or_true])
        rw [if_neg hx] at h1
        have hz : ¬ x.1 = z.1 := by intro e; exact hc (by simp [List.contains_cons, e])
        simp only [look]
        split
        · rename_i e; first | exact absurd e.symm hz | exact absurd e hz | (simp at e; exact absurd e.symm hz) | (simp at e; exact absurd e hz)
        · exact h1
    · have := leX_cons (z := z) h.2
      have hk : ∀ {l : List (Nat × α)} {a b : List Nat}, (∀ k, a.contains k = true → b.contains k = true) → leX a (z :: r) l → leX b (z :: r) l := by
        intro l
        induction l with
        | nil => intros; trivial
        | cons y l ih =>
          intro a b hs hl
          refine ⟨?_, ih (fun k hk => ?_) hl.2⟩
          · split
            · trivial
            · rename_i hb
              have := hl.1
              rwa [if_neg (fun e => hb (hs _ e))] at this
          · simp only [List.contains_cons, Bool.or_eq_true] at hk ⊢
            exact hk.imp id (hs k)
      refine hk (fun k hk => ?_) this
      simp only [List.contains_cons, Bool.or_eq_true] at hk ⊢
      rcases hk with h | h | h
      · exact .inr (.inl h)
      · exact .inl h
      · exact .inr (.inr h)
theorem leX_self {α : Type} : ∀ l : List (Nat × α), leX [] l l
  | [] => trivial
  | x :: l => ⟨by simp [look], leX_cons (leX_self l)⟩
end Go.Sy

