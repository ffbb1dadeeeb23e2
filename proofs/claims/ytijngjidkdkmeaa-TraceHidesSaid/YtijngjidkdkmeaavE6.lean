/- The layer that reckons a function out: what it says of states, operations, regions, loops, calls. CONDITIONS: those that each theorem names. -/
import Derived.Test.YtijngjidkdkmeaavE2
import Derived.Test.YtijngjidkdkmeaavE3
set_option linter.unusedVariables false
set_option linter.unusedSimpArgs false
namespace Go.Sy
def wkM (k:Nat) (c:List L):List (Nat×Ob)→List (Nat×Ob)
 | []=>[]
 |x::r=>(if x.1=k then (x.1,⟨x.2.row,c⟩) else x)::wkM k c r
theorem q0p {k:Nat} {c:List L} {n:Nat}: ∀ {m:List (Nat×Ob)},look (wkM k c m) n=if n=k then (look m n).map (fun o=>⟨o.row,c⟩) else look m n
 | []=>by simp [wkM,look]
 |x::r=>by
   have ih:=q0p (k:=k) (c:=c) (n:=n) (m:=r)
   by_cases hx:x.1=k
   ·by_cases hn:n=x.1
    ·have hk:n=k:=hn.trans hx
     simp [wkM,look,hx,hn,hk]
    have hk:¬n=k:=fun e=>hn (e.trans hx.symm)
    simp only [wkM,if_pos hx,look,if_neg hn,ih,if_neg hk]
   by_cases hn:n=x.1
   ·have hk:¬n=k:=fun e=>hx (hn.symm.trans e)
    simp only [wkM,if_neg hx,look,if_pos hn,if_neg hk]
   simp only [wkM,if_neg hx,look,if_neg hn,ih]
theorem Le.weak {B:Base} {S:St} (k:Nat) (c:List L) {o:Ob} (hk:look S.mem k=some o) (hg:k<gl0) (hc: ∀ (d:Va) vals,Hq (L.den d) o.cells vals→Hq (L.den d) c vals):Le B S ⟨S.env,wkM k c S.mem⟩:=by
 intro d a w h
 have hs: ∀ j,(look (wkM k c S.mem) j).isSome=(look S.mem j).isSome:=by
  intro j;rw [q0p];split<;>simp
 refine ⟨d,{h with mem:=?_,inj:=?_,own:=?_,glob:=?_,fix:=?_,mp:=fun b l hb=>h.mp b l (by rw [q0p,if_neg (show mp0+b≠k by show 2000000+b≠k;have:k<1000000:=hg;omega)] at hb;exact hb)}⟩
 ·intro j oj hj hjg
  rw [q0p] at hj
  split at hj
  ·rename_i e;subst e
   rw [hk] at hj
   simp only [yR,Option.some.injEq] at hj
   subst hj
   obtain ⟨vals,spare,ty,fr,h1,h2,h3,h4,h5⟩:=h.mem j o hk hjg
   exact ⟨vals,spare,ty,fr,h1,h2,hc d vals h3,h4,h5⟩
  exact h.mem j oj hj hjg
 ·intro j j' hj hj'
  rw [hs] at hj hj'
  exact h.inj j j' hj hj'
 ·intro j hj
  rw [hs] at hj
  exact h.own j hj
 ·intro j oj hj hjg
  rw [q0p,if_neg (by omega)] at hj
  exact h.glob j oj hj hjg
 intro j oj p hj hp hjg
 have:(look S.mem j).isSome=true:=by rw [←hs,hj];rfl
 obtain ⟨o',ho'⟩:=xL.mp this
 exact h.fix j o' p ho' hp hjg
theorem g0e {P:Program} {B:Base} {Q:Exit→St→Prop} {S:St} {x:Code} (k:Nat) (c:List L) {o:Ob} (hk:look S.mem k=some o) (hg:k<gl0) (hc: ∀ (d:Va) vals,Hq (L.den d) o.cells vals→Hq (L.den d) c vals) (h:HT P B x ⟨S.env,wkM k c S.mem⟩ Q):HT P B x S Q:=HT.le (Le.weak k c hk hg hc) h
end Go.Sy
