/- Regions that draw their order: what an operation reads, and what it does. -/
import Derived.Test.YtmopmlnpoeeomaaG2
import Derived.Orders
set_option linter.unusedVariables false
set_option linter.unusedSimpArgs false
namespace Go.Sy

/-- the operations that look into memory -/
def memOp : Op → Bool
  | .load .. | .convert .. | .slice .. | .store .. | .call _ => true
  | _ => false

section
variable {P : Program} {S S' : St}

theorem loadV_same {t : TypeId} {v : V} (hm : ∀ k, v.has k = true → look S'.mem k = look S.mem k) : loadV P S' t v = loadV P S t v := by
  unfold loadV
  split
  · rename_i k path
    rw [hm k (by simp [V.has, W.has, L.has])]
  · rfl
  · rfl

theorem convV_same {s t : TypeId} {v : V} (hm : ∀ k, v.has k = true → look S'.mem k = look S.mem k) : convV P S' s t v = convV P S s t v := by
  unfold convV
  split <;> try rfl
  rename_i k path len sz _ _
  rw [hm k (by simp [V.has, W.has, L.has])]

theorem sliceV_same {t : TypeId} {v : V} {a b c : Option V} (hm : ∀ k, v.has k = true → look S'.mem k = look S.mem k) : sliceV P S' t v a b c = sliceV P S t v a b c := by
  unfold sliceV
  split <;> try rfl
  rename_i k path _
  rw [hm k (by simp [V.has, W.has, L.has])]

theorem viewL_same {l : L} (hm : ∀ k, l.has k = true → look S'.mem k = look S.mem k) : viewL S' l = viewL S l := by
  unfold viewL
  split <;> try rfl
  rename_i k path len sz
  rw [hm k (by simp [L.has])]

theorem viewLs_same : ∀ {cs : List L} (hm : ∀ k, cs.any (L.has k) = true → look S'.mem k = look S.mem k), viewLs S' cs = viewLs S cs
  | [], _ => rfl
  | l :: r, hm => by
    simp only [viewLs]
    rw [viewL_same (fun k h => hm k (by simp [h])), viewLs_same (cs := r) (fun k h => hm k (by simp only [List.any_cons, h, Bool.or_true]))]

theorem viewV_same {v : V} (hm : ∀ k, v.has k = true → look S'.mem k = look S.mem k) : viewV S' v = viewV S v := by
  unfold viewV
  split
  · rw [viewL_same (fun k h => hm k h)]
  · rw [viewLs_same (fun k h => hm k h)]
  · rfl

theorem partsV_same : ∀ {l : List (Nat × Operand)} (hg : ∀ x ∈ l, S'.get x.2 = S.get x.2), partsV S' l = partsV S l
  | [], _ => rfl
  | x :: r, hg => by
    simp only [partsV]
    rw [hg x (by simp), partsV_same (l := r) fun y hy => hg y (by simp [hy])]

theorem capsV_same : ∀ {l : List Operand} (hg : ∀ x ∈ l, S'.get x = S.get x), capsV S' l = capsV S l
  | [], _ => rfl
  | x :: r, hg => by
    simp only [capsV]
    rw [hg x (by simp), capsV_same (l := r) fun y hy => hg y (by simp [hy])]

theorem viewVs_same : ∀ {l : List Operand} (hg : ∀ x ∈ l, S'.get x = S.get x) (hm : ∀ x ∈ l, ∀ v, S.get x = some v → ∀ k, v.has k = true → look S'.mem k = look S.mem k), viewVs S' l = viewVs S l
  | [], _, _ => rfl
  | x :: r, hg, hm => by
    simp only [viewVs]
    rw [hg x (by simp), viewVs_same (l := r) (fun y hy => hg y (by simp [hy])) (fun y hy => hm y (by simp [hy]))]
    cases h : S.get x with
    | none => rfl
    | some v => simp only [Option.bind_some]; rw [viewV_same (hm x (by simp) v h)]

theorem getOpt_same {x : Option Operand} (hg : ∀ y ∈ x, S'.get y = S.get y) : getOpt S' x = getOpt S x := by
  cases x with
  | none => rfl
  | some x => simp only [getOpt]; rw [hg x rfl]

theorem bind_same {x : Operand} {f g : V → Option V} (hg : S'.get x = S.get x) (hf : ∀ v, S.get x = some v → g v = f v) : (S'.get x).bind g = (S.get x).bind f := by
  rw [hg]
  cases h : S.get x with
  | none => rfl
  | some v => exact hf v h

theorem pureV_same {op : Op} (hg : ∀ x ∈ op.operands, S'.get x = S.get x) (hm : memOp op = true → ∀ x ∈ op.operands, ∀ v, S.get x = some v → ∀ k, v.has k = true → look S'.mem k = look S.mem k) : pureV P S' op = pureV P S op := by
  unfold pureV
  split
  · exact hg _ (by simp [Op.operands])
  · exact hg _ (by simp [Op.operands])
  · rw [hg _ (by simp [Op.operands]), hg _ (by simp [Op.operands]), hg _ (by simp [Op.operands])]
  · unfold buildV
    rw [partsV_same fun x hx => hg x.2 (by simp only [Op.operands]; simp; exact ⟨x.1, by simpa using hx⟩)]
  · exact bind_same (hg _ (by simp [Op.operands])) fun v hv => loadV_same (hm rfl _ (by simp [Op.operands]) v hv)
  · exact bind_same (hg _ (by simp [Op.operands])) fun v hv => rfl
  · rw [hg _ (by simp [Op.operands]), hg _ (by simp [Op.operands])]
  · exact bind_same (hg _ (by simp [Op.operands])) fun v hv => rfl
  · exact bind_same (hg _ (by simp [Op.operands])) fun v hv => convV_same (hm rfl _ (by simp [Op.operands]) v hv)
  · rename_i t x lo hi mx
    rw [hg x (by simp [Op.operands]), getOpt_same (x := lo) fun y hy => hg y (by simp only [Option.mem_def] at hy; subst hy; simp [Op.operands]),
      getOpt_same (x := hi) fun y hy => hg y (by simp only [Option.mem_def] at hy; subst hy; simp [Op.operands]), getOpt_same (x := mx) fun y hy => hg y (by simp only [Option.mem_def] at hy; subst hy; simp [Op.operands])]
    split
    · rename_i v l h m hv _ _ _
      exact sliceV_same (hm rfl _ (by simp [Op.operands]) v hv)
    · rfl
  · exact bind_same (hg _ (by simp [Op.operands])) fun v hv => rfl
  · rw [hg _ (by simp [Op.operands]), hg _ (by simp [Op.operands])]
  · rw [hg _ (by simp [Op.operands]), hg _ (by simp [Op.operands])]
  · exact bind_same (hg _ (by simp [Op.operands])) fun v hv => rfl
  · rename_i f first caps
    rw [capsV_same fun x hx => hg x (by simp [Op.operands]; exact .inr (by simpa using hx))]
  · split
    · rename_i x t ha ht
      exact bind_same (hg _ (by simp only [Op.operands, Call.operands]; first | exact Array.mem_def.2 (by rw [ha]; simp) | (simp; exact Array.mem_def.2 (by rw [ha]; simp)))) fun v hv => rfl
    · rfl
  · split
    · rename_i x y ha
      rw [hg x (by simp only [Op.operands, Call.operands]; first | exact Array.mem_def.2 (by rw [ha]; simp) | (simp; exact Array.mem_def.2 (by rw [ha]; simp))), hg y (by simp only [Op.operands, Call.operands]; first | exact Array.mem_def.2 (by rw [ha]; simp) | (simp; exact Array.mem_def.2 (by rw [ha]; simp)))]
    · rfl
  · split
    · rename_i x y ha
      rw [hg x (by simp only [Op.operands, Call.operands]; first | exact Array.mem_def.2 (by rw [ha]; simp) | (simp; exact Array.mem_def.2 (by rw [ha]; simp))), hg y (by simp only [Op.operands, Call.operands]; first | exact Array.mem_def.2 (by rw [ha]; simp) | (simp; exact Array.mem_def.2 (by rw [ha]; simp)))]
    · rfl
  · rfl

theorem allocV_same {k : Nat} {op : Op} (hg : ∀ x ∈ op.operands, S'.get x = S.get x) : allocV P k S' op = allocV P k S op := by
  unfold allocV
  split
  · rfl
  · rw [hg _ (by simp [Op.operands])]
  · rw [partsV_same fun x hx => hg x.2 (by simp only [Op.operands]; simp; exact ⟨x.1, by simpa using hx⟩)]
  · rw [hg _ (by simp [Op.operands]), hg _ (by simp [Op.operands])]
  · rw [hg _ (by simp [Op.operands])]
  · rfl

theorem srcV_same {e tx : TypeId} {v : V} (hm : ∀ k, v.has k = true → look S'.mem k = look S.mem k) : srcV P S' e tx v = srcV P S e tx v := by
  unfold srcV
  split <;> try rfl
  rename_i k path len sz _
  rw [hm k (by simp [V.has, W.has, L.has])]
end
end Go.Sy
