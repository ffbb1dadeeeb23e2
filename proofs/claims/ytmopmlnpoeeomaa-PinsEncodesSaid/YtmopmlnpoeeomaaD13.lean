/- Slots that are read no more, forgotten. -/
import Derived.Test.YtmopmlnpoeeomaaD12
set_option linter.unusedVariables false
set_option linter.unusedSimpArgs false
namespace Go.Sy
/-- slots, forgotten -/
def St.dropE (ks : List Nat) (S : St) : St := ⟨fgt ks S.env, S.mem⟩
theorem ht_dropE {P : Program} {B : Base} {Q : Exit → St → Prop} {S : St} {x : Code} (ks : List Nat) (h : HT P B x (S.dropE ks) Q) : HT P B x S Q := by
  refine HT.le (fun d a w hs => ⟨d, ?_⟩) h
  exact ⟨hs.defers, hs.nt, fun n v hv => hs.env n v (look_fgt hv), hs.mem, hs.inj, hs.own, hs.ro, hs.old, hs.os, hs.tape, hs.output, hs.size, hs.block⟩
theorem dropE_mk (ks : List Nat) (e : List (Nat × V)) (m : List (Nat × Ob)) : St.dropE ks ⟨e, m⟩ = ⟨fgt ks e, m⟩ := rfl
theorem fgt_nil {α : Type} (ks : List Nat) : fgt ks ([] : List (Nat × α)) = [] := rfl
theorem fgt_cons {α : Type} (ks : List Nat) (n : Nat) (v : α) (r : List (Nat × α)) : fgt ks ((n, v) :: r) = if ks.contains n = true then fgt ks r else (n, v) :: fgt ks r := rfl
attribute [go_sem] optCons_some optCons_none fm_cons fm_nil mut_val mut_new mut_app mut_sto ns_val ns_new ns_sto ns_app nsC td_val td_new td_sto td_app chk_nil chk_cons atD_some bytes_noU memOp gslot Eff.free noUV noUW noUL Op.operands Call.operands Nat.reduceBneDiff bne_self_eq_false Option.toArray List.append_toArray List.toList_toArray Array.append_empty Array.empty_append
end Go.Sy
