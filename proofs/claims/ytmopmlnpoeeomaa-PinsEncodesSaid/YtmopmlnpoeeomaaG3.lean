/- What a call leaves may be told with fewer objects and other names. -/
import Derived.Test.YtmopmlnpoeeomaaG2
set_option linter.unusedVariables false
set_option linter.unusedSimpArgs false
namespace Go.Sy

def Va.via (d : Va) (g : Nat → Nat) : Va := ⟨fun k => d.at_ (g k), fun k => d.size (g k), d.ro⟩

theorem L.den_via {d : Va} {g : Nat → Nat} : ∀ {l : L} {y : Value}, (l.ren g).den d y → l.den (d.via g) y
  | .pl _, _, h => h
  | .p _ _, _, h => h
  | .s _ _ _ _, _, h => h
  | .fn f caps, _, h => by simpa [L.ren, L.den, Va.via, Function.comp_def] using h

theorem All2.via {d : Va} {g : Nat → Nat} : ∀ {l : List L} {m : List Value}, All2 (L.den d) (l.map (L.ren g)) m → All2 (L.den (d.via g)) l m
  | [], _, h => by cases h; exact .nil
  | _ :: _, _, h => by cases h with | cons h1 h2 => exact .cons (L.den_via h1) (All2.via h2)

theorem W.den_via {d : Va} {g : Nat → Nat} : ∀ {x : W} {y : Value}, (x.ren g).den d y → x.den (d.via g) y
  | .one _, _, h => L.den_via h
  | .agg _, _, ⟨vs, h1, h2⟩ => ⟨vs, h1, All2.via h2⟩

theorem All2.viaW {d : Va} {g : Nat → Nat} : ∀ {l : List W} {m : List Value}, All2 (W.den d) (l.map (W.ren g)) m → All2 (W.den (d.via g)) l m
  | [], _, h => by cases h; exact .nil
  | _ :: _, _, h => by cases h with | cons h1 h2 => exact .cons (W.den_via h1) (All2.viaW h2)

theorem V.den_via {d : Va} {g : Nat → Nat} : ∀ {x : V} {y : Value}, (x.ren g).den d y → x.den (d.via g) y
  | .w _, _, h => W.den_via h
  | .tup _, _, ⟨vs, h1, h2⟩ => ⟨vs, h1, All2.viaW h2⟩
  | .any, _, h => trivial

/-- the objects of `m` under the names of `g` are among those of `m0` -/
def Within (g : Nat → Nat) (m m0 : List (Nat × Ob)) : Prop :=
  (∀ k o, look m k = some o → look m0 (g k) = some ⟨o.row, o.cells.map (L.ren g)⟩) ∧ (∀ k k', (look m k).isSome = true → (look m k').isSome = true → g k = g k' → k = k')

theorem Ct.tidy {P : Program} {f : FuncId} {args : List V} {R R' : V → List (Nat × Ob) → Prop} (h : Ct P f args R) (hR : ∀ v m, R v m → ∃ g v' m', v = v'.ren g ∧ Within g m' m ∧ R' v' m') : Ct P f args R' := by
  intro w d vals hro ha
  refine (h w d vals hro ha).mono ?_
  rintro e w' ⟨y, v, d', m0, he, hr, hd, a, hs⟩
  obtain ⟨g, v', m', rfl, hw, hr'⟩ := hR v m0 hr
  have hsome : ∀ k, (look m' k).isSome = true → (look m0 (g k)).isSome = true := fun k hk => by
    obtain ⟨o, ho⟩ := Option.isSome_iff_exists.mp hk
    rw [hw.1 k o ho]; rfl
  refine ⟨y, v', d'.via g, m', he, hr', V.den_via hd, a, ?_⟩
  refine ⟨hs.defers, hs.nt, fun n v hv => (by cases hv), fun k o hk => ?_, fun k k' h1 h2 h3 => ?_, fun k h1 => hs.own (g k) (hsome k h1), hs.ro, hs.old, hs.os, hs.tape, hs.output, hs.size, hs.block⟩
  · obtain ⟨vals, spare, ty, fr, h1, h2, h3, h4⟩ := hs.mem (g k) _ (hw.1 k o hk)
    exact ⟨vals, spare, ty, fr, h1, h2, All2.via h3, h4⟩
  · exact hw.2 k k' h1 h2 (hs.inj _ _ (hsome k h1) (hsome k' h2) h3)
end Go.Sy
