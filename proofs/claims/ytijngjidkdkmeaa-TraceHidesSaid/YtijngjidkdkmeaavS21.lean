/- Walks and what they compute. CONDITIONS: those that each theorem names. -/
import Derived.Test.YtijngjidkdkmeaavE4
import Derived.Test.YtijngjidkdkmeaavE3
import Derived.Test.YtijngjidkdkmeaavS1
import Derived.Test.YtijngjidkdkmeaavE5
set_option linter.unusedVariables false
set_option linter.unusedSimpArgs false
set_option maxHeartbeats 800000
set_option maxRecDepth 100000
namespace Go.Sy
structure Jd where
 e0:Bool
 s0:Bool
 e1:Bool
 s1:Bool
 d3:Bool
 d4:Bool
 d5:Bool
 d6:Bool
 k:Bool
def Jd.nil :Jd:=⟨false,false,false,false,false,false,false,false,false⟩
def Jd.flag (j:Jd) (w:Bool) (t:Int):Bool:=if t=2 then (if w then j.s1 else j.s0) else (if w then j.e1 else j.e0)
def Jd.tell (j:Jd) (w:Bool) (t:Int):Jd:=if t=2 then (if w then {j with s1:=true} else {j with s0:=true}) else (if w then {j with e1:=true} else {j with e0:=true})
def Jd.locks (j:Jd):Bool:=j.k||j.d3||j.d4||j.d5||j.d6
def Jd.may (j:Jd) (w:Bool):Bool:=
 if j.k&& !(if w then j.e1 else j.e0) then false
 else if !(j.d6||(if w then j.d4 else j.d5)) then true
 else if (if w then j.d4 else j.d5)&& !j.d3 then false
 else !j.d6||(if w then j.d5 else j.d4)
def Jd.done (j:Jd) (t:Int):Bool:=if t=3 then j.d3 else if t=4 then j.d4 else if t=5 then j.d5 else j.d6
def Jd.has (j:Jd) (t:Int):Bool:=if t=3 then j.e0&&j.e1 else if t=4 then j.e0&&j.s1 else if t=5 then j.s0&&j.e1 else j.s0&&j.s1
def Jd.mark (j:Jd) (t:Int):Jd:=if t=3 then {j with d3:=true} else if t=4 then {j with d4:=true} else if t=5 then {j with d5:=true} else {j with d6:=true}
def Jd.token (j:Jd) (w:Bool) (t:Int):Bool×Jd:=
 if t=1 then (if j.flag w 1 then (false,j) else (true,j.tell w 1))
 else if t=2 then (if (!j.locks||j.may w)&& !j.flag w 2 then (true,j.tell w 2) else (false,j))
 else if t=7 then (true,{j with k:=true})
 else if j.done t|| !j.has t then (false,j) else (true,j.mark t)
def hap (l:List (Bool×Int)) (w:Bool) (t:Int):Bool:=l.any fun x=>decide (x.2=t)&&(x.1==w)
def any (l:List (Bool×Int)) (t:Int):Bool:=l.any fun x=>decide (x.2=t)
def Aj (l:List (Bool×Int)) (w:Bool):Bool:=
 if any l 7&& !hap l w 1 then false else (!any l (if w then 4 else 5)||any l 3)&&(!any l 6||any l (if w then 5 else 4))
def Pv (l:List (Bool×Int)):Bool:=any l 3||any l 4||any l 5||any l 6||any l 7
def okE (l:List (Bool×Int)) (w:Bool) (t:Int):Bool:=
 if t=0 then !Pv l||Aj l w
 else if t=1 then !hap l w 1
 else if t=2 then !hap l w 2&&(!Pv l||Aj l w)
 else if t=3 then hap l false 1&&hap l true 1&& !any l t
 else if t=4 then hap l false 1&&hap l true 2&& !any l t
 else if t=5 then hap l false 2&&hap l true 1&& !any l t
 else if t=6 then hap l false 2&&hap l true 2&& !any l t
 else true
def jOf (l:List (Bool×Int)):Jd:=⟨hap l false 1,hap l false 2,hap l true 1,hap l true 2,any l 3,any l 4,any l 5,any l 6,any l 7⟩
theorem e0n (l:List (Bool×Int)) (w v:Bool) (t s:Int):hap (l++[(v,s)]) w t=(hap l w t||(decide (s=t)&&(v==w))):=by simp [hap]
theorem e0t (l:List (Bool×Int)) (v:Bool) (t s:Int):any (l++[(v,s)]) t=(any l t||decide (s=t)):=by simp [any]
theorem f1v (l:List (Bool×Int)):(jOf l).locks=Pv l:=by
 simp only [Jd.locks,jOf,Pv]
 cases any l 3<;>cases any l 4<;>cases any l 5<;>cases any l 6<;>cases any l 7<;>rfl
theorem c2d (l:List (Bool×Int)) (w:Bool):(jOf l).may w=Aj l w:=by
 cases w<;>simp only [Jd.may,jOf,Aj,yQ,if_false,if_true]
 ·cases any l 7<;>cases hap l false 1<;>cases any l 6<;>cases any l 5<;>cases any l 3<;>cases any l 4<;>rfl
 cases any l 7<;>cases hap l true 1<;>cases any l 6<;>cases any l 4<;>cases any l 3<;>cases any l 5<;>rfl
theorem y1f (l:List (Bool×Int)) (w:Bool):jOf (l++[(w,0)])=jOf l:=by simp [jOf,e0n,e0t]
theorem token_of (l:List (Bool×Int)) (w:Bool) (t:Int) (ht:1≤t∧t≤7):(jOf l).token w t=(okE l w t,if okE l w t then jOf (l++[(w,t)]) else jOf l):=by
 obtain rfl|rfl|rfl|rfl|rfl|rfl|rfl:t=1∨t=2∨t=3∨t=4∨t=5∨t=6∨t=7:=by omega
 ·cases w<;>simp [Jd.token,okE,Jd.flag,Jd.tell,jOf,e0n,e0t]
  ·cases hap l false 1<;>simp
  cases hap l true 1<;>simp
 ·simp only [Jd.token,okE,f1v,c2d]
  cases w<;>simp [Jd.flag,Jd.tell,jOf,e0n,e0t]
  ·cases Pv l<;>cases Aj l false<;>cases hap l false 2<;>simp
  cases Pv l<;>cases Aj l true<;>cases hap l true 2<;>simp
 ·simp [Jd.token,okE,Jd.done,Jd.has,Jd.mark,jOf,e0n,e0t]
  cases any l 3<;>cases hap l false 1<;>cases hap l true 1<;>simp
 ·simp [Jd.token,okE,Jd.done,Jd.has,Jd.mark,jOf,e0n,e0t]
  cases any l 4<;>cases hap l false 1<;>cases hap l true 2<;>simp
 ·simp [Jd.token,okE,Jd.done,Jd.has,Jd.mark,jOf,e0n,e0t]
  cases any l 5<;>cases hap l false 2<;>cases hap l true 1<;>simp
 ·simp [Jd.token,okE,Jd.done,Jd.has,Jd.mark,jOf,e0n,e0t]
  cases any l 6<;>cases hap l false 2<;>cases hap l true 2<;>simp
 simp [Jd.token,okE,jOf,e0n,e0t]
def a0d :List Int→Int
 | []=>0
 |t::r=>if t<1∨7<t then 2 else a0d r
def scan :List (List Int)→Int
 | []=>0
 |l::r=>if 6<l.length then 1 else if a0d l=0 then scan r else a0d l
theorem Dk : ∀ {l:List Int},a0d l=0→∀ t∈l,1≤t∧t≤7
 | [],_,t,h=>by cases h
 |a::r,hs,t,h=>by
   rw [a0d] at hs
   by_cases ha:a<1∨7<a
   ·rw [if_pos ha] at hs;omega
   rw [if_neg ha] at hs
   rcases yT.mp h with rfl|h
   ·omega
   exact Dk hs t h
theorem i0r : ∀ {ls:List (List Int)},scan ls=0→∀ l∈ls,a0d l=0∧l.length≤6
 | [],_,t,h=>by cases h
 |a::r,hs,t,h=>by
   rw [scan] at hs
   by_cases ha:6<a.length
   ·rw [if_pos ha] at hs;omega
   rw [if_neg ha] at hs
   by_cases hz:a0d a=0
   ·rw [if_pos hz] at hs
    rcases yT.mp h with rfl|h
    ·exact ⟨hz,by omega⟩
    exact i0r hs t h
   rw [if_neg hz] at hs;omega
def h0c (j:Jd) (w:Bool):List Int→Option Jd
 | []=>some j
 |t::r=>if 2<t∨j.flag w t=true then none else h0c (j.tell w t) w r
def c0g (l:List (Bool×Int)) (w:Bool):List Int→Option (List (Bool×Int))
 | []=>some l
 |t::r=>if 2<t∨hap l w t=true then none else c0g (l++[(w,t)]) w r
theorem h2o (l:List (Bool×Int)) (w:Bool) (t:Int) (h:t=1∨t=2):(jOf l).flag w t=hap l w t:=by
 rcases h with rfl|rfl<;>cases w<;>rfl
theorem d2u (l:List (Bool×Int)) (w:Bool) (t:Int) (h:t=1∨t=2):(jOf l).tell w t=jOf (l++[(w,t)]):=by
 rcases h with rfl|rfl<;>cases w<;>simp [Jd.tell,jOf,e0n,e0t]
theorem n1a (w:Bool): ∀ (ts:List Int) (l:List (Bool×Int)),(∀ t∈ts,1≤t)→h0c (jOf l) w ts=(c0g l w ts).map jOf
 | [],l,_=>rfl
 |t::r,l,h=>by
   have h1:=h t (by simp)
   rw [h0c,c0g]
   by_cases h2:2<t
   ·rw [if_pos (.inl h2),if_pos (.inl h2)];rfl
   have ht:t=1∨t=2:=by omega
   rw [h2o l w t ht,d2u l w t ht]
   by_cases hh:hap l w t=true
   ·rw [if_pos (.inr hh),if_pos (.inr hh)];rfl
   rw [if_neg (by simp [h2,hh]),if_neg (by simp [h2,hh])]
   exact n1a w r _ fun t ht=>h t (by simp [ht])
def e0e (j:Jd) (w:Bool):List Int→Option Jd
 | []=>if j.locks&& !j.may w then none else some j
 |t::r=>if (j.token w t).1 then e0e (j.token w t).2 w r else none
def w0v (l:List (Bool×Int)) (w:Bool):List Int→Option (List (Bool×Int))
 | []=>if okE l w 0 then some (l++[(w,0)]) else none
 |t::r=>if okE l w t then w0v (l++[(w,t)]) w r else none
theorem k1g (w:Bool): ∀ (ts:List Int) (l:List (Bool×Int)),(∀ t∈ts,1≤t∧t≤7)→e0e (jOf l) w ts=(w0v l w ts).map jOf
 | [],l,_=>by
   rw [e0e,w0v,f1v,c2d]
   simp only [okE,if_true]
   cases Pv l<;>cases Aj l w<;>simp [y1f]
 |t::r,l,h=>by
   rw [e0e,w0v,token_of l w t (h t (by simp))]
   cases hk:okE l w t
   ·rfl
   simp only [if_true]
   exact k1g w r _ fun t ht=>h t (by simp [ht])
def d0f (late:Bool) (i:Nat):Bool:=(decide (i%2=1)) !=late
def d0h (late:Bool) (j:Jd):Nat→List (List Int)→Int
 |_,[]=>0
 |i,l::r=>match e0e j (d0f late i) l with
   |none=>3
   |some k=>d0h late k (i+1) r
def c0j (late:Bool) (e:List (Bool×Int)):Nat→List (List Int)→Int
 |_,[]=>0
 |i,l::r=>match w0v e (d0f late i) l with
   |none=>3
   |some k=>c0j late k (i+1) r
theorem e1i (late:Bool): ∀ (ts:List (List Int)) (i:Nat) (l:List (Bool×Int)),(∀ t∈ts,∀ x∈t,1≤x∧x≤7)→d0h late (jOf l) i ts=c0j late l i ts
 | [],i,l,_=>rfl
 |t::r,i,l,h=>by
   rw [d0h,c0j,k1g _ t l (h t (by simp))]
   cases w0v l (d0f late i) t with
   |none=>rfl
   |some k=>exact e1i late r _ k fun t ht=>h t (by simp [ht])
def Uj (late:Bool) (p0 p1:List Int) (ts:List (List Int)):Int:=
 if ts.length<1∨5<ts.length then 1 else if ¬scan (p0::p1::ts)=0 then scan (p0::p1::ts)
 else match h0c .nil false p0 with
  |none=>3
  |some j=>match h0c j true p1 with
    |none=>3
    |some k=>d0h late k 0 ts
def a0p (late:Bool) (p0 p1:List Int) (ts:List (List Int)):Int:=
 if ts.length<1∨5<ts.length then 1 else if ¬scan (p0::p1::ts)=0 then scan (p0::p1::ts)
 else match c0g [] false p0 with
  |none=>3
  |some l=>match c0g l true p1 with
    |none=>3
    |some k=>c0j late k 0 ts
theorem b2h (late:Bool) (p0 p1:List Int) (ts:List (List Int)):Uj late p0 p1 ts=a0p late p0 p1 ts:=by
 unfold Uj a0p
 by_cases h:ts.length<1∨5<ts.length
 ·rw [if_pos h,if_pos h]
 rw [if_neg h,if_neg h]
 by_cases hs:¬scan (p0::p1::ts)=0
 ·rw [if_pos hs,if_pos hs]
 rw [if_neg hs,if_neg hs]
 have hz:scan (p0::p1::ts)=0:=by simpa using hs
 have ho:=i0r hz
 have hn:Jd.nil=jOf []:=rfl
 rw [hn,n1a false p0 [] fun t ht=>(Dk (ho p0 (by simp)).1 t ht).1]
 cases c0g [] false p0 with
 |none=>rfl
 |some l=>
   simp only [yR]
   rw [n1a true p1 l fun t ht=>(Dk (ho p1 (by simp)).1 t ht).1]
   cases c0g l true p1 with
   |none=>rfl
   |some k=>
     simp only [yR]
     exact e1i late ts 0 k fun t ht x hx=>Dk (ho t (by simp [ht])).1 x hx
end Go.Sy
namespace Go.Sy
open Go.Proofs
attribute [local irreducible] Cj HT Bv Rj onC onE onO onG goV goA goS Tj Ck
def Jd.ls (j:Jd):List L:=[.pl (.b j.e0),.pl (.b j.s0),.pl (.b false),.pl (.b j.e1),.pl (.b j.s1),.pl (.b false),.pl (.b false),.pl (.b false),.pl (.b false),.pl (.b j.d3),.pl (.b j.d4),.pl (.b j.d5),.pl (.b j.d6),.pl (.b false),.pl (.b j.k)]
abbrev jM (j:Jd):List (Nat×Ob):=[(500000,⟨false,j.ls⟩)]
theorem s1y (s0 e1 s1 d3 d4 d5 d6 k:Bool):
 CtM Try.prog 43 [.w (.one (.p 500000 [])),.w (.one (.pl (.i 0))),.w (.one (.pl (.i 1)))] (jM ⟨true,s0,e1,s1,d3,d4,d5,d6,k⟩) (Told (fun v m=>v=.w (.one (.pl (.b false)))∧m=jM ⟨true,s0,e1,s1,d3,d4,d5,d6,k⟩)):=by
 have F0:=yA jM.eq_1<|Jd.ls.eq_1
 refine CtM.go Try.func43 rfl Try.ntmps43 Try.results43 fun w0 ro may fx zZ zhY=>?_
 refine (fun zX=>goW) ?_
 refine zhY _ _ ?_
 simp only [go_sem,F0]
 all_goals (exact Av rfl (Bz (by simp [look,Jd.ls])) ⟨rfl,rfl⟩)
theorem s1z (s0 e1 s1 d3 d4 d5 d6 k:Bool):
 CtM Try.prog 43 [.w (.one (.p 500000 [])),.w (.one (.pl (.i 0))),.w (.one (.pl (.i 1)))] (jM ⟨false,s0,e1,s1,d3,d4,d5,d6,k⟩) (Told (fun v m=>v=.w (.one (.pl (.b true)))∧m=jM ⟨true,s0,e1,s1,d3,d4,d5,d6,k⟩)):=by
 have F0:=yA jM.eq_1<|Jd.ls.eq_1
 refine CtM.go Try.func43 rfl Try.ntmps43 Try.results43 fun w0 ro may fx zZ zhY=>?_
 refine (fun zX=>goW) ?_
 refine zhY _ _ ?_
 simp only [go_sem,F0]
 all_goals (exact Av rfl (Bz (by simp [look,Jd.ls])) ⟨rfl,rfl⟩)
theorem s1w (e0 e1 s1 d3 d4 d5 d6 k:Bool):
 CtM Try.prog 43 [.w (.one (.p 500000 [])),.w (.one (.pl (.i 0))),.w (.one (.pl (.i 2)))] (jM ⟨e0,true,e1,s1,d3,d4,d5,d6,k⟩) (Told (fun v m=>v=.w (.one (.pl (.b false)))∧m=jM ⟨e0,true,e1,s1,d3,d4,d5,d6,k⟩)):=by
 have F0:=yA jM.eq_1<|Jd.ls.eq_1
 refine CtM.go Try.func43 rfl Try.ntmps43 Try.results43 fun w0 ro may fx zZ zhY=>?_
 refine (fun zX=>goW) ?_
 refine zhY _ _ ?_
 simp only [go_sem,F0]
 all_goals (exact Av rfl (Bz (by simp [look,Jd.ls])) ⟨rfl,rfl⟩)
theorem s1x (e0 e1 s1 d3 d4 d5 d6 k:Bool):
 CtM Try.prog 43 [.w (.one (.p 500000 [])),.w (.one (.pl (.i 0))),.w (.one (.pl (.i 2)))] (jM ⟨e0,false,e1,s1,d3,d4,d5,d6,k⟩) (Told (fun v m=>v=.w (.one (.pl (.b true)))∧m=jM ⟨e0,true,e1,s1,d3,d4,d5,d6,k⟩)):=by
 have F0:=yA jM.eq_1<|Jd.ls.eq_1
 refine CtM.go Try.func43 rfl Try.ntmps43 Try.results43 fun w0 ro may fx zZ zhY=>?_
 refine (fun zX=>goW) ?_
 refine zhY _ _ ?_
 simp only [go_sem,F0]
 all_goals (exact Av rfl (Bz (by simp [look,Jd.ls])) ⟨rfl,rfl⟩)
theorem s1u (e0 s0 s1 d3 d4 d5 d6 k:Bool):
 CtM Try.prog 43 [.w (.one (.p 500000 [])),.w (.one (.pl (.i 1))),.w (.one (.pl (.i 1)))] (jM ⟨e0,s0,true,s1,d3,d4,d5,d6,k⟩) (Told (fun v m=>v=.w (.one (.pl (.b false)))∧m=jM ⟨e0,s0,true,s1,d3,d4,d5,d6,k⟩)):=by
 have F0:=yA jM.eq_1<|Jd.ls.eq_1
 refine CtM.go Try.func43 rfl Try.ntmps43 Try.results43 fun w0 ro may fx zZ zhY=>?_
 refine (fun zX=>goW) ?_
 refine zhY _ _ ?_
 simp only [go_sem,F0]
 all_goals (exact Av rfl (Bz (by simp [look,Jd.ls])) ⟨rfl,rfl⟩)
theorem s1v (e0 s0 s1 d3 d4 d5 d6 k:Bool):
 CtM Try.prog 43 [.w (.one (.p 500000 [])),.w (.one (.pl (.i 1))),.w (.one (.pl (.i 1)))] (jM ⟨e0,s0,false,s1,d3,d4,d5,d6,k⟩) (Told (fun v m=>v=.w (.one (.pl (.b true)))∧m=jM ⟨e0,s0,true,s1,d3,d4,d5,d6,k⟩)):=by
 have F0:=yA jM.eq_1<|Jd.ls.eq_1
 refine CtM.go Try.func43 rfl Try.ntmps43 Try.results43 fun w0 ro may fx zZ zhY=>?_
 refine (fun zX=>goW) ?_
 refine zhY _ _ ?_
 simp only [go_sem,F0]
 all_goals (exact Av rfl (Bz (by simp [look,Jd.ls])) ⟨rfl,rfl⟩)
theorem s1s (e0 s0 e1 d3 d4 d5 d6 k:Bool):
 CtM Try.prog 43 [.w (.one (.p 500000 [])),.w (.one (.pl (.i 1))),.w (.one (.pl (.i 2)))] (jM ⟨e0,s0,e1,true,d3,d4,d5,d6,k⟩) (Told (fun v m=>v=.w (.one (.pl (.b false)))∧m=jM ⟨e0,s0,e1,true,d3,d4,d5,d6,k⟩)):=by
 have F0:=yA jM.eq_1<|Jd.ls.eq_1
 refine CtM.go Try.func43 rfl Try.ntmps43 Try.results43 fun w0 ro may fx zZ zhY=>?_
 refine (fun zX=>goW) ?_
 refine zhY _ _ ?_
 simp only [go_sem,F0]
 all_goals (exact Av rfl (Bz (by simp [look,Jd.ls])) ⟨rfl,rfl⟩)
theorem s1t (e0 s0 e1 d3 d4 d5 d6 k:Bool):
 CtM Try.prog 43 [.w (.one (.p 500000 [])),.w (.one (.pl (.i 1))),.w (.one (.pl (.i 2)))] (jM ⟨e0,s0,e1,false,d3,d4,d5,d6,k⟩) (Told (fun v m=>v=.w (.one (.pl (.b true)))∧m=jM ⟨e0,s0,e1,true,d3,d4,d5,d6,k⟩)):=by
 have F0:=yA jM.eq_1<|Jd.ls.eq_1
 refine CtM.go Try.func43 rfl Try.ntmps43 Try.results43 fun w0 ro may fx zZ zhY=>?_
 refine (fun zX=>goW) ?_
 refine zhY _ _ ?_
 simp only [go_sem,F0]
 all_goals (exact Av rfl (Bz (by simp [look,Jd.ls])) ⟨rfl,rfl⟩)
end Go.Sy
namespace Go.Sy
open Go.Proofs
attribute [local irreducible] Cj HT Bv Rj onC onE onO onG goV goA goS Tj Ck
theorem g2t (e0 s0 e1 s1 d3 d4 d5 d6:Bool):
 CtM Try.prog 45 [.w (.one (.p 500000 []))] (jM ⟨e0,s0,e1,s1,d3,d4,d5,d6,true⟩) (Told (fun v m=>v=.w (.one (.pl (.b true)))∧m=jM ⟨e0,s0,e1,s1,d3,d4,d5,d6,true⟩)):=by
 have F0:=yA jM.eq_1<|Jd.ls.eq_1
 refine CtM.go Try.func45 rfl Try.ntmps45 Try.results45 fun w0 ro may fx zZ zhY=>?_
 refine (fun zX=>goW) ?_
 refine zhY _ _ ?_
 simp only [go_sem,F0]
 all_goals (exact Av rfl (Bz (by simp [look,Jd.ls])) ⟨rfl,rfl⟩)
theorem g2s (e0 s0 e1 s1 d4 d5 d6:Bool):
 CtM Try.prog 45 [.w (.one (.p 500000 []))] (jM ⟨e0,s0,e1,s1,true,d4,d5,d6,false⟩) (Told (fun v m=>v=.w (.one (.pl (.b true)))∧m=jM ⟨e0,s0,e1,s1,true,d4,d5,d6,false⟩)):=by
 have F0:=yA jM.eq_1<|Jd.ls.eq_1
 refine CtM.go Try.func45 rfl Try.ntmps45 Try.results45 fun w0 ro may fx zZ zhY=>?_
 refine (fun zX=>goW) ?_
 refine zhY _ _ ?_
 simp only [go_sem,F0]
 all_goals (exact Av rfl (Bz (by simp [look,Jd.ls])) ⟨rfl,rfl⟩)
theorem g2r (e0 s0 e1 s1 d5 d6:Bool):
 CtM Try.prog 45 [.w (.one (.p 500000 []))] (jM ⟨e0,s0,e1,s1,false,true,d5,d6,false⟩) (Told (fun v m=>v=.w (.one (.pl (.b true)))∧m=jM ⟨e0,s0,e1,s1,false,true,d5,d6,false⟩)):=by
 have F0:=yA jM.eq_1<|Jd.ls.eq_1
 refine CtM.go Try.func45 rfl Try.ntmps45 Try.results45 fun w0 ro may fx zZ zhY=>?_
 refine (fun zX=>goW) ?_
 refine zhY _ _ ?_
 simp only [go_sem,F0]
 all_goals (exact Av rfl (Bz (by simp [look,Jd.ls])) ⟨rfl,rfl⟩)
theorem g2q (e0 s0 e1 s1 d6:Bool):
 CtM Try.prog 45 [.w (.one (.p 500000 []))] (jM ⟨e0,s0,e1,s1,false,false,true,d6,false⟩) (Told (fun v m=>v=.w (.one (.pl (.b true)))∧m=jM ⟨e0,s0,e1,s1,false,false,true,d6,false⟩)):=by
 have F0:=yA jM.eq_1<|Jd.ls.eq_1
 refine CtM.go Try.func45 rfl Try.ntmps45 Try.results45 fun w0 ro may fx zZ zhY=>?_
 refine (fun zX=>goW) ?_
 refine zhY _ _ ?_
 simp only [go_sem,F0]
 all_goals (exact Av rfl (Bz (by simp [look,Jd.ls])) ⟨rfl,rfl⟩)
theorem g2p (e0 s0 e1 s1:Bool):
 CtM Try.prog 45 [.w (.one (.p 500000 []))] (jM ⟨e0,s0,e1,s1,false,false,false,true,false⟩) (Told (fun v m=>v=.w (.one (.pl (.b true)))∧m=jM ⟨e0,s0,e1,s1,false,false,false,true,false⟩)):=by
 have F0:=yA jM.eq_1<|Jd.ls.eq_1
 refine CtM.go Try.func45 rfl Try.ntmps45 Try.results45 fun w0 ro may fx zZ zhY=>?_
 refine (fun zX=>goW) ?_
 refine zhY _ _ ?_
 simp only [go_sem,F0]
 all_goals (exact Av rfl (Bz (by simp [look,Jd.ls])) ⟨rfl,rfl⟩)
theorem g2o (e0 s0 e1 s1:Bool):
 CtM Try.prog 45 [.w (.one (.p 500000 []))] (jM ⟨e0,s0,e1,s1,false,false,false,false,false⟩) (Told (fun v m=>v=.w (.one (.pl (.b false)))∧m=jM ⟨e0,s0,e1,s1,false,false,false,false,false⟩)):=by
 have F0:=yA jM.eq_1<|Jd.ls.eq_1
 refine CtM.go Try.func45 rfl Try.ntmps45 Try.results45 fun w0 ro may fx zZ zhY=>?_
 refine (fun zX=>goW) ?_
 refine zhY _ _ ?_
 simp only [go_sem,F0]
 all_goals (exact Av rfl (Bz (by simp [look,Jd.ls])) ⟨rfl,rfl⟩)
theorem a0y (j:Jd):CtM Try.prog 45 [.w (.one (.p 500000 []))] (jM j) (fun v m=>v=.w (.one (.pl (.b j.locks)))∧m=jM j):=by
 obtain ⟨e0,s0,e1,s1,d3,d4,d5,d6,k⟩:=j
 cases k<;>cases d3<;>cases d4<;>cases d5<;>cases d6<;>first
  |exact (g2t _ _ _ _ _ _ _ _).told|exact (g2s _ _ _ _ _ _ _).told|exact (g2r _ _ _ _ _ _).told|exact (g2q _ _ _ _ _).told|exact (g2p _ _ _ _).told|exact (g2o _ _ _ _).told
theorem g1j (s0 e1 s1 d3 d4 d5 d6 k:Bool):
 CtM Try.prog 52 [.w (.one (.p 500000 [])),.w (.one (.pl (.i 3)))] (jM ⟨true,s0,e1,s1,d3,d4,d5,d6,k⟩) (Told (fun v m=>v=.w (.one (.pl (.b e1)))∧m=jM ⟨true,s0,e1,s1,d3,d4,d5,d6,k⟩)):=by
 have F0:=yA jM.eq_1<|Jd.ls.eq_1
 refine CtM.go Try.func52 rfl Try.ntmps52 Try.results52 fun w0 ro may fx zZ zhY=>?_
 have zd0:DQ 1 [7,8,9,10,11,12,13,14,15,16,5,6] [0,1,3,7,15,0,32,96,224,480,0,0,3103,8191] [(5,12),(6,12),(7,12),(8,12),(9,12)]:=⟨⟩
 refine (fun zX=>goW) ?_
 refine zhY _ _ ?_
 simp only [go_sem,F0]
 all_goals (exact Av rfl (Bz (by simp [look,Jd.ls])) ⟨rfl,rfl⟩)
theorem c2i (s0 e1 s1 d3 d4 d5 d6 k:Bool):
 CtM Try.prog 52 [.w (.one (.p 500000 [])),.w (.one (.pl (.i 3)))] (jM ⟨false,s0,e1,s1,d3,d4,d5,d6,k⟩) (Told (fun v m=>v=.w (.one (.pl (.b false)))∧m=jM ⟨false,s0,e1,s1,d3,d4,d5,d6,k⟩)):=by
 have F0:=yA jM.eq_1<|Jd.ls.eq_1
 refine CtM.go Try.func52 rfl Try.ntmps52 Try.results52 fun w0 ro may fx zZ zhY=>?_
 have zd0:DQ 1 [7,8,9,10,11,12,13,14,15,16,5,6] [0,1,3,7,15,0,32,96,224,480,0,0,3103,8191] [(5,12),(6,12),(7,12),(8,12),(9,12)]:=⟨⟩
 refine (fun zX=>goW) ?_
 refine zhY _ _ ?_
 simp only [go_sem,F0]
 all_goals (exact Av rfl (Bz (by simp [look,Jd.ls])) ⟨rfl,rfl⟩)
theorem g1i (s0 e1 s1 d3 d4 d5 d6 k:Bool):
 CtM Try.prog 52 [.w (.one (.p 500000 [])),.w (.one (.pl (.i 4)))] (jM ⟨true,s0,e1,s1,d3,d4,d5,d6,k⟩) (Told (fun v m=>v=.w (.one (.pl (.b s1)))∧m=jM ⟨true,s0,e1,s1,d3,d4,d5,d6,k⟩)):=by
 have F0:=yA jM.eq_1<|Jd.ls.eq_1
 refine CtM.go Try.func52 rfl Try.ntmps52 Try.results52 fun w0 ro may fx zZ zhY=>?_
 have zd0:DQ 1 [7,8,9,10,11,12,13,14,15,16,5,6] [0,1,3,7,15,0,32,96,224,480,0,0,3103,8191] [(5,12),(6,12),(7,12),(8,12),(9,12)]:=⟨⟩
 refine (fun zX=>goW) ?_
 refine zhY _ _ ?_
 simp only [go_sem,F0]
 all_goals (exact Av rfl (Bz (by simp [look,Jd.ls])) ⟨rfl,rfl⟩)
theorem c2h (s0 e1 s1 d3 d4 d5 d6 k:Bool):
 CtM Try.prog 52 [.w (.one (.p 500000 [])),.w (.one (.pl (.i 4)))] (jM ⟨false,s0,e1,s1,d3,d4,d5,d6,k⟩) (Told (fun v m=>v=.w (.one (.pl (.b false)))∧m=jM ⟨false,s0,e1,s1,d3,d4,d5,d6,k⟩)):=by
 have F0:=yA jM.eq_1<|Jd.ls.eq_1
 refine CtM.go Try.func52 rfl Try.ntmps52 Try.results52 fun w0 ro may fx zZ zhY=>?_
 have zd0:DQ 1 [7,8,9,10,11,12,13,14,15,16,5,6] [0,1,3,7,15,0,32,96,224,480,0,0,3103,8191] [(5,12),(6,12),(7,12),(8,12),(9,12)]:=⟨⟩
 refine (fun zX=>goW) ?_
 refine zhY _ _ ?_
 simp only [go_sem,F0]
 all_goals (exact Av rfl (Bz (by simp [look,Jd.ls])) ⟨rfl,rfl⟩)
theorem g1h (e0 e1 s1 d3 d4 d5 d6 k:Bool):
 CtM Try.prog 52 [.w (.one (.p 500000 [])),.w (.one (.pl (.i 5)))] (jM ⟨e0,true,e1,s1,d3,d4,d5,d6,k⟩) (Told (fun v m=>v=.w (.one (.pl (.b e1)))∧m=jM ⟨e0,true,e1,s1,d3,d4,d5,d6,k⟩)):=by
 have F0:=yA jM.eq_1<|Jd.ls.eq_1
 refine CtM.go Try.func52 rfl Try.ntmps52 Try.results52 fun w0 ro may fx zZ zhY=>?_
 have zd0:DQ 1 [7,8,9,10,11,12,13,14,15,16,5,6] [0,1,3,7,15,0,32,96,224,480,0,0,3103,8191] [(5,12),(6,12),(7,12),(8,12),(9,12)]:=⟨⟩
 refine (fun zX=>goW) ?_
 refine zhY _ _ ?_
 simp only [go_sem,F0]
 all_goals (exact Av rfl (Bz (by simp [look,Jd.ls])) ⟨rfl,rfl⟩)
theorem c2g (e0 e1 s1 d3 d4 d5 d6 k:Bool):
 CtM Try.prog 52 [.w (.one (.p 500000 [])),.w (.one (.pl (.i 5)))] (jM ⟨e0,false,e1,s1,d3,d4,d5,d6,k⟩) (Told (fun v m=>v=.w (.one (.pl (.b false)))∧m=jM ⟨e0,false,e1,s1,d3,d4,d5,d6,k⟩)):=by
 have F0:=yA jM.eq_1<|Jd.ls.eq_1
 refine CtM.go Try.func52 rfl Try.ntmps52 Try.results52 fun w0 ro may fx zZ zhY=>?_
 have zd0:DQ 1 [7,8,9,10,11,12,13,14,15,16,5,6] [0,1,3,7,15,0,32,96,224,480,0,0,3103,8191] [(5,12),(6,12),(7,12),(8,12),(9,12)]:=⟨⟩
 refine (fun zX=>goW) ?_
 refine zhY _ _ ?_
 simp only [go_sem,F0]
 all_goals (exact Av rfl (Bz (by simp [look,Jd.ls])) ⟨rfl,rfl⟩)
theorem g1g (e0 e1 s1 d3 d4 d5 d6 k:Bool):
 CtM Try.prog 52 [.w (.one (.p 500000 [])),.w (.one (.pl (.i 6)))] (jM ⟨e0,true,e1,s1,d3,d4,d5,d6,k⟩) (Told (fun v m=>v=.w (.one (.pl (.b s1)))∧m=jM ⟨e0,true,e1,s1,d3,d4,d5,d6,k⟩)):=by
 have F0:=yA jM.eq_1<|Jd.ls.eq_1
 refine CtM.go Try.func52 rfl Try.ntmps52 Try.results52 fun w0 ro may fx zZ zhY=>?_
 have zd0:DQ 1 [7,8,9,10,11,12,13,14,15,16,5,6] [0,1,3,7,15,0,32,96,224,480,0,0,3103,8191] [(5,12),(6,12),(7,12),(8,12),(9,12)]:=⟨⟩
 refine (fun zX=>goW) ?_
 refine zhY _ _ ?_
 simp only [go_sem,F0]
 all_goals (exact Av rfl (Bz (by simp [look,Jd.ls])) ⟨rfl,rfl⟩)
theorem c2f (e0 e1 s1 d3 d4 d5 d6 k:Bool):
 CtM Try.prog 52 [.w (.one (.p 500000 [])),.w (.one (.pl (.i 6)))] (jM ⟨e0,false,e1,s1,d3,d4,d5,d6,k⟩) (Told (fun v m=>v=.w (.one (.pl (.b false)))∧m=jM ⟨e0,false,e1,s1,d3,d4,d5,d6,k⟩)):=by
 have F0:=yA jM.eq_1<|Jd.ls.eq_1
 refine CtM.go Try.func52 rfl Try.ntmps52 Try.results52 fun w0 ro may fx zZ zhY=>?_
 have zd0:DQ 1 [7,8,9,10,11,12,13,14,15,16,5,6] [0,1,3,7,15,0,32,96,224,480,0,0,3103,8191] [(5,12),(6,12),(7,12),(8,12),(9,12)]:=⟨⟩
 refine (fun zX=>goW) ?_
 refine zhY _ _ ?_
 simp only [go_sem,F0]
 all_goals (exact Av rfl (Bz (by simp [look,Jd.ls])) ⟨rfl,rfl⟩)
end Go.Sy
namespace Go.Sy
open Go.Proofs
attribute [local irreducible] Cj HT Bv Rj onC onE onO onG goV goA goS Tj Ck
theorem o1e (s0 e1 s1 d3 d4:Bool):
 CtM Try.prog 46 [.w (.one (.p 500000 [])),.w (.one (.pl (.i 0)))] (jM ⟨false,s0,e1,s1,d3,d4,true,true,true⟩) (Told (fun v m=>v=.w (.one (.pl (.b false)))∧m=jM ⟨false,s0,e1,s1,d3,d4,true,true,true⟩)):=by
 have F0:=yA jM.eq_1<|Jd.ls.eq_1
 refine CtM.go Try.func46 rfl Try.ntmps46 Try.results46 fun w0 ro may fx zZ zhY=>?_
 refine (fun zX=>goW) ?_
 refine zhY _ _ ?_
 simp only [go_sem,F0]
 all_goals (exact Av rfl (Bz (by simp [look,Jd.ls])) ⟨rfl,rfl⟩)
theorem o1d (e0 s0 e1 s1 d4:Bool):
 CtM Try.prog 46 [.w (.one (.p 500000 [])),.w (.one (.pl (.i 0)))] (jM ⟨e0,s0,e1,s1,false,d4,true,true,false⟩) (Told (fun v m=>v=.w (.one (.pl (.b false)))∧m=jM ⟨e0,s0,e1,s1,false,d4,true,true,false⟩)):=by
 have F0:=yA jM.eq_1<|Jd.ls.eq_1
 refine CtM.go Try.func46 rfl Try.ntmps46 Try.results46 fun w0 ro may fx zZ zhY=>?_
 have zd0:DQ 8 [57,58,59,60,61,62,63,64,65,66,67,68,69,70,71,72,73,74,75,76,77,78,79,80,81,82,83,84,85,86] [0,1,3,7,15,31,63,127,255,511,1023,2047,4095,8191,16383,32767,65535,131071,262143,524287,1048575,2097151,2097151,6291455,4194303,20971519,67108863,134217727,268435455,536870911] []:=⟨⟩
 refine (fun zX=>goW) ?_
 refine zhY _ _ ?_
 simp only [go_sem,F0]
 all_goals (exact Av rfl (Bz (by simp [look,Jd.ls])) ⟨rfl,rfl⟩)
theorem o1c (e0 s0 e1 s1 d4:Bool):
 CtM Try.prog 46 [.w (.one (.p 500000 [])),.w (.one (.pl (.i 0)))] (jM ⟨e0,s0,e1,s1,true,d4,true,true,false⟩) (Told (fun v m=>v=.w (.one (.pl (.b d4)))∧m=jM ⟨e0,s0,e1,s1,true,d4,true,true,false⟩)):=by
 have F0:=yA jM.eq_1<|Jd.ls.eq_1
 refine CtM.go Try.func46 rfl Try.ntmps46 Try.results46 fun w0 ro may fx zZ zhY=>?_
 have zd0:DQ 8 [57,58,59,60,61,62,63,64,65,66,67,68,69,70,71,72,73,74,75,76,77,78,79,80,81,82,83,84,85,86] [0,1,3,7,15,31,63,127,255,511,1023,2047,4095,8191,16383,32767,65535,131071,262143,524287,1048575,2097151,2097151,6291455,4194303,20971519,67108863,134217727,268435455,536870911] []:=⟨⟩
 have zd1:DQ 10 [87,88,89,90,91,92,93,94,95,96,97,98,99,100,101,4] [0,1,3,7,15,31,63,127,127,383,255,1279,4095,8191,16383,32767] []:=⟨⟩
 refine (fun zX=>goW) ?_
 refine zhY _ _ ?_
 simp only [go_sem,F0]
 all_goals (exact Av rfl (Bz (by simp [look,Jd.ls])) ⟨rfl,rfl⟩)
theorem g2i (s0 e1 s1 d4:Bool):
 CtM Try.prog 46 [.w (.one (.p 500000 [])),.w (.one (.pl (.i 0)))] (jM ⟨true,s0,e1,s1,false,d4,true,true,true⟩) (Told (fun v m=>v=.w (.one (.pl (.b false)))∧m=jM ⟨true,s0,e1,s1,false,d4,true,true,true⟩)):=by
 have F0:=yA jM.eq_1<|Jd.ls.eq_1
 refine CtM.go Try.func46 rfl Try.ntmps46 Try.results46 fun w0 ro may fx zZ zhY=>?_
 have zd0:DQ 8 [57,58,59,60,61,62,63,64,65,66,67,68,69,70,71,72,73,74,75,76,77,78,79,80,81,82,83,84,85,86] [0,1,3,7,15,31,63,127,255,511,1023,2047,4095,8191,16383,32767,65535,131071,262143,524287,1048575,2097151,2097151,6291455,4194303,20971519,67108863,134217727,268435455,536870911] []:=⟨⟩
 refine (fun zX=>goW) ?_
 refine zhY _ _ ?_
 simp only [go_sem,F0]
 all_goals (exact Av rfl (Bz (by simp [look,Jd.ls])) ⟨rfl,rfl⟩)
theorem g2h (s0 e1 s1 d4:Bool):
 CtM Try.prog 46 [.w (.one (.p 500000 [])),.w (.one (.pl (.i 0)))] (jM ⟨true,s0,e1,s1,true,d4,true,true,true⟩) (Told (fun v m=>v=.w (.one (.pl (.b d4)))∧m=jM ⟨true,s0,e1,s1,true,d4,true,true,true⟩)):=by
 have F0:=yA jM.eq_1<|Jd.ls.eq_1
 refine CtM.go Try.func46 rfl Try.ntmps46 Try.results46 fun w0 ro may fx zZ zhY=>?_
 have zd0:DQ 8 [57,58,59,60,61,62,63,64,65,66,67,68,69,70,71,72,73,74,75,76,77,78,79,80,81,82,83,84,85,86] [0,1,3,7,15,31,63,127,255,511,1023,2047,4095,8191,16383,32767,65535,131071,262143,524287,1048575,2097151,2097151,6291455,4194303,20971519,67108863,134217727,268435455,536870911] []:=⟨⟩
 have zd1:DQ 10 [87,88,89,90,91,92,93,94,95,96,97,98,99,100,101,4] [0,1,3,7,15,31,63,127,127,383,255,1279,4095,8191,16383,32767] []:=⟨⟩
 refine (fun zX=>goW) ?_
 refine zhY _ _ ?_
 simp only [go_sem,F0]
 all_goals (exact Av rfl (Bz (by simp [look,Jd.ls])) ⟨rfl,rfl⟩)
theorem o1b (s0 e1 s1 d3 d4:Bool):
 CtM Try.prog 46 [.w (.one (.p 500000 [])),.w (.one (.pl (.i 0)))] (jM ⟨false,s0,e1,s1,d3,d4,false,true,true⟩) (Told (fun v m=>v=.w (.one (.pl (.b false)))∧m=jM ⟨false,s0,e1,s1,d3,d4,false,true,true⟩)):=by
 have F0:=yA jM.eq_1<|Jd.ls.eq_1
 refine CtM.go Try.func46 rfl Try.ntmps46 Try.results46 fun w0 ro may fx zZ zhY=>?_
 refine (fun zX=>goW) ?_
 refine zhY _ _ ?_
 simp only [go_sem,F0]
 all_goals (exact Av rfl (Bz (by simp [look,Jd.ls])) ⟨rfl,rfl⟩)
theorem v0i (e0 s0 e1 s1 d3 d4:Bool):
 CtM Try.prog 46 [.w (.one (.p 500000 [])),.w (.one (.pl (.i 0)))] (jM ⟨e0,s0,e1,s1,d3,d4,false,true,false⟩) (Told (fun v m=>v=.w (.one (.pl (.b d4)))∧m=jM ⟨e0,s0,e1,s1,d3,d4,false,true,false⟩)):=by
 have F0:=yA jM.eq_1<|Jd.ls.eq_1
 refine CtM.go Try.func46 rfl Try.ntmps46 Try.results46 fun w0 ro may fx zZ zhY=>?_
 have zd0:DQ 8 [57,58,59,60,61,62,63,64,65,66,67,68,69,70,71,72,73,74,75,76,77,78,79,80,81,82,83,84,85,86] [0,1,3,7,15,31,63,127,255,511,1023,2047,4095,8191,16383,32767,65535,131071,262143,524287,1048575,2097151,2097151,6291455,4194303,20971519,67108863,134217727,268435455,536870911] []:=⟨⟩
 have zd1:DQ 10 [87,88,89,90,91,92,93,94,95,96,97,98,99,100,101,4] [0,1,3,7,15,31,63,127,127,383,255,1279,4095,8191,16383,32767] []:=⟨⟩
 refine (fun zX=>goW) ?_
 refine zhY _ _ ?_
 simp only [go_sem,F0]
 all_goals (exact Av rfl (Bz (by simp [look,Jd.ls])) ⟨rfl,rfl⟩)
theorem o1a (s0 e1 s1 d3 d4:Bool):
 CtM Try.prog 46 [.w (.one (.p 500000 [])),.w (.one (.pl (.i 0)))] (jM ⟨true,s0,e1,s1,d3,d4,false,true,true⟩) (Told (fun v m=>v=.w (.one (.pl (.b d4)))∧m=jM ⟨true,s0,e1,s1,d3,d4,false,true,true⟩)):=by
 have F0:=yA jM.eq_1<|Jd.ls.eq_1
 refine CtM.go Try.func46 rfl Try.ntmps46 Try.results46 fun w0 ro may fx zZ zhY=>?_
 have zd0:DQ 8 [57,58,59,60,61,62,63,64,65,66,67,68,69,70,71,72,73,74,75,76,77,78,79,80,81,82,83,84,85,86] [0,1,3,7,15,31,63,127,255,511,1023,2047,4095,8191,16383,32767,65535,131071,262143,524287,1048575,2097151,2097151,6291455,4194303,20971519,67108863,134217727,268435455,536870911] []:=⟨⟩
 have zd1:DQ 10 [87,88,89,90,91,92,93,94,95,96,97,98,99,100,101,4] [0,1,3,7,15,31,63,127,127,383,255,1279,4095,8191,16383,32767] []:=⟨⟩
 refine (fun zX=>goW) ?_
 refine zhY _ _ ?_
 simp only [go_sem,F0]
 all_goals (exact Av rfl (Bz (by simp [look,Jd.ls])) ⟨rfl,rfl⟩)
theorem n1z (s0 e1 s1 d3 d4:Bool):
 CtM Try.prog 46 [.w (.one (.p 500000 [])),.w (.one (.pl (.i 0)))] (jM ⟨false,s0,e1,s1,d3,d4,true,false,true⟩) (Told (fun v m=>v=.w (.one (.pl (.b false)))∧m=jM ⟨false,s0,e1,s1,d3,d4,true,false,true⟩)):=by
 have F0:=yA jM.eq_1<|Jd.ls.eq_1
 refine CtM.go Try.func46 rfl Try.ntmps46 Try.results46 fun w0 ro may fx zZ zhY=>?_
 refine (fun zX=>goW) ?_
 refine zhY _ _ ?_
 simp only [go_sem,F0]
 all_goals (exact Av rfl (Bz (by simp [look,Jd.ls])) ⟨rfl,rfl⟩)
theorem n1y (e0 s0 e1 s1 d4:Bool):
 CtM Try.prog 46 [.w (.one (.p 500000 [])),.w (.one (.pl (.i 0)))] (jM ⟨e0,s0,e1,s1,false,d4,true,false,false⟩) (Told (fun v m=>v=.w (.one (.pl (.b false)))∧m=jM ⟨e0,s0,e1,s1,false,d4,true,false,false⟩)):=by
 have F0:=yA jM.eq_1<|Jd.ls.eq_1
 refine CtM.go Try.func46 rfl Try.ntmps46 Try.results46 fun w0 ro may fx zZ zhY=>?_
 have zd0:DQ 8 [57,58,59,60,61,62,63,64,65,66,67,68,69,70,71,72,73,74,75,76,77,78,79,80,81,82,83,84,85,86] [0,1,3,7,15,31,63,127,255,511,1023,2047,4095,8191,16383,32767,65535,131071,262143,524287,1048575,2097151,2097151,6291455,4194303,20971519,67108863,134217727,268435455,536870911] []:=⟨⟩
 refine (fun zX=>goW) ?_
 refine zhY _ _ ?_
 simp only [go_sem,F0]
 all_goals (exact Av rfl (Bz (by simp [look,Jd.ls])) ⟨rfl,rfl⟩)
theorem f1t (e0 s0 e1 s1 d4:Bool):
 CtM Try.prog 46 [.w (.one (.p 500000 [])),.w (.one (.pl (.i 0)))] (jM ⟨e0,s0,e1,s1,true,d4,true,false,false⟩) (Told (fun v m=>v=.w (.one (.pl (.b true)))∧m=jM ⟨e0,s0,e1,s1,true,d4,true,false,false⟩)):=by
 have F0:=yA jM.eq_1<|Jd.ls.eq_1
 refine CtM.go Try.func46 rfl Try.ntmps46 Try.results46 fun w0 ro may fx zZ zhY=>?_
 have zd0:DQ 8 [57,58,59,60,61,62,63,64,65,66,67,68,69,70,71,72,73,74,75,76,77,78,79,80,81,82,83,84,85,86] [0,1,3,7,15,31,63,127,255,511,1023,2047,4095,8191,16383,32767,65535,131071,262143,524287,1048575,2097151,2097151,6291455,4194303,20971519,67108863,134217727,268435455,536870911] []:=⟨⟩
 have zd1:DQ 10 [87,88,89,90,91,92,93,94,95,96,97,98,99,100,101,4] [0,1,3,7,15,31,63,127,127,383,255,1279,4095,8191,16383,32767] []:=⟨⟩
 refine (fun zX=>goW) ?_
 refine zhY _ _ ?_
 simp only [go_sem,F0]
 all_goals (exact Av rfl (Bz (by simp [look,Jd.ls])) ⟨rfl,rfl⟩)
theorem x1p (s0 e1 s1 d4:Bool):
 CtM Try.prog 46 [.w (.one (.p 500000 [])),.w (.one (.pl (.i 0)))] (jM ⟨true,s0,e1,s1,false,d4,true,false,true⟩) (Told (fun v m=>v=.w (.one (.pl (.b false)))∧m=jM ⟨true,s0,e1,s1,false,d4,true,false,true⟩)):=by
 have F0:=yA jM.eq_1<|Jd.ls.eq_1
 refine CtM.go Try.func46 rfl Try.ntmps46 Try.results46 fun w0 ro may fx zZ zhY=>?_
 have zd0:DQ 8 [57,58,59,60,61,62,63,64,65,66,67,68,69,70,71,72,73,74,75,76,77,78,79,80,81,82,83,84,85,86] [0,1,3,7,15,31,63,127,255,511,1023,2047,4095,8191,16383,32767,65535,131071,262143,524287,1048575,2097151,2097151,6291455,4194303,20971519,67108863,134217727,268435455,536870911] []:=⟨⟩
 refine (fun zX=>goW) ?_
 refine zhY _ _ ?_
 simp only [go_sem,F0]
 all_goals (exact Av rfl (Bz (by simp [look,Jd.ls])) ⟨rfl,rfl⟩)
theorem x1o (s0 e1 s1 d4:Bool):
 CtM Try.prog 46 [.w (.one (.p 500000 [])),.w (.one (.pl (.i 0)))] (jM ⟨true,s0,e1,s1,true,d4,true,false,true⟩) (Told (fun v m=>v=.w (.one (.pl (.b true)))∧m=jM ⟨true,s0,e1,s1,true,d4,true,false,true⟩)):=by
 have F0:=yA jM.eq_1<|Jd.ls.eq_1
 refine CtM.go Try.func46 rfl Try.ntmps46 Try.results46 fun w0 ro may fx zZ zhY=>?_
 have zd0:DQ 8 [57,58,59,60,61,62,63,64,65,66,67,68,69,70,71,72,73,74,75,76,77,78,79,80,81,82,83,84,85,86] [0,1,3,7,15,31,63,127,255,511,1023,2047,4095,8191,16383,32767,65535,131071,262143,524287,1048575,2097151,2097151,6291455,4194303,20971519,67108863,134217727,268435455,536870911] []:=⟨⟩
 have zd1:DQ 10 [87,88,89,90,91,92,93,94,95,96,97,98,99,100,101,4] [0,1,3,7,15,31,63,127,127,383,255,1279,4095,8191,16383,32767] []:=⟨⟩
 refine (fun zX=>goW) ?_
 refine zhY _ _ ?_
 simp only [go_sem,F0]
 all_goals (exact Av rfl (Bz (by simp [look,Jd.ls])) ⟨rfl,rfl⟩)
theorem f1s (s0 e1 s1 d3 d4:Bool):
 CtM Try.prog 46 [.w (.one (.p 500000 [])),.w (.one (.pl (.i 0)))] (jM ⟨false,s0,e1,s1,d3,d4,false,false,true⟩) (Told (fun v m=>v=.w (.one (.pl (.b false)))∧m=jM ⟨false,s0,e1,s1,d3,d4,false,false,true⟩)):=by
 have F0:=yA jM.eq_1<|Jd.ls.eq_1
 refine CtM.go Try.func46 rfl Try.ntmps46 Try.results46 fun w0 ro may fx zZ zhY=>?_
 refine (fun zX=>goW) ?_
 refine zhY _ _ ?_
 simp only [go_sem,F0]
 all_goals (exact Av rfl (Bz (by simp [look,Jd.ls])) ⟨rfl,rfl⟩)
theorem o0f (e0 s0 e1 s1 d3 d4:Bool):
 CtM Try.prog 46 [.w (.one (.p 500000 [])),.w (.one (.pl (.i 0)))] (jM ⟨e0,s0,e1,s1,d3,d4,false,false,false⟩) (Told (fun v m=>v=.w (.one (.pl (.b true)))∧m=jM ⟨e0,s0,e1,s1,d3,d4,false,false,false⟩)):=by
 have F0:=yA jM.eq_1<|Jd.ls.eq_1
 refine CtM.go Try.func46 rfl Try.ntmps46 Try.results46 fun w0 ro may fx zZ zhY=>?_
 refine (fun zX=>goW) ?_
 refine zhY _ _ ?_
 simp only [go_sem,F0]
 all_goals (exact Av rfl (Bz (by simp [look,Jd.ls])) ⟨rfl,rfl⟩)
theorem f1r (s0 e1 s1 d3 d4:Bool):
 CtM Try.prog 46 [.w (.one (.p 500000 [])),.w (.one (.pl (.i 0)))] (jM ⟨true,s0,e1,s1,d3,d4,false,false,true⟩) (Told (fun v m=>v=.w (.one (.pl (.b true)))∧m=jM ⟨true,s0,e1,s1,d3,d4,false,false,true⟩)):=by
 have F0:=yA jM.eq_1<|Jd.ls.eq_1
 refine CtM.go Try.func46 rfl Try.ntmps46 Try.results46 fun w0 ro may fx zZ zhY=>?_
 refine (fun zX=>goW) ?_
 refine zhY _ _ ?_
 simp only [go_sem,F0]
 all_goals (exact Av rfl (Bz (by simp [look,Jd.ls])) ⟨rfl,rfl⟩)
theorem x1q (j:Jd):CtM Try.prog 46 [.w (.one (.p 500000 [])),.w (.one (.pl (.i 0)))] (jM j) (fun v m=>v=.w (.one (.pl (.b (j.may false))))∧m=jM j):=by
 obtain ⟨e0,s0,e1,s1,d3,d4,d5,d6,k⟩:=j
 cases k<;>cases e0<;>cases d6<;>cases d5<;>cases d3
 ·exact (o0f _ _ _ _ _ _).told
 ·exact (o0f _ _ _ _ _ _).told
 ·exact (n1y _ _ _ _ _).told
 ·exact (f1t _ _ _ _ _).told
 ·exact (v0i _ _ _ _ _ _).told
 ·exact (v0i _ _ _ _ _ _).told
 ·exact (o1d _ _ _ _ _).told
 ·exact (o1c _ _ _ _ _).told
 ·exact (o0f _ _ _ _ _ _).told
 ·exact (o0f _ _ _ _ _ _).told
 ·exact (n1y _ _ _ _ _).told
 ·exact (f1t _ _ _ _ _).told
 ·exact (v0i _ _ _ _ _ _).told
 ·exact (v0i _ _ _ _ _ _).told
 ·exact (o1d _ _ _ _ _).told
 ·exact (o1c _ _ _ _ _).told
 ·exact (f1s _ _ _ _ _).told
 ·exact (f1s _ _ _ _ _).told
 ·exact (n1z _ _ _ _ _).told
 ·exact (n1z _ _ _ _ _).told
 ·exact (o1b _ _ _ _ _).told
 ·exact (o1b _ _ _ _ _).told
 ·exact (o1e _ _ _ _ _).told
 ·exact (o1e _ _ _ _ _).told
 ·exact (f1r _ _ _ _ _).told
 ·exact (f1r _ _ _ _ _).told
 ·exact (x1p _ _ _ _).told
 ·exact (x1o _ _ _ _).told
 ·exact (o1a _ _ _ _ _).told
 ·exact (o1a _ _ _ _ _).told
 ·exact (g2i _ _ _ _).told
 exact (g2h _ _ _ _).told
theorem n1x (e0 s0 s1 d3 d5:Bool):
 CtM Try.prog 46 [.w (.one (.p 500000 [])),.w (.one (.pl (.i 1)))] (jM ⟨e0,s0,false,s1,d3,true,d5,true,true⟩) (Told (fun v m=>v=.w (.one (.pl (.b false)))∧m=jM ⟨e0,s0,false,s1,d3,true,d5,true,true⟩)):=by
 have F0:=yA jM.eq_1<|Jd.ls.eq_1
 refine CtM.go Try.func46 rfl Try.ntmps46 Try.results46 fun w0 ro may fx zZ zhY=>?_
 refine (fun zX=>goW) ?_
 refine zhY _ _ ?_
 simp only [go_sem,F0]
 all_goals (exact Av rfl (Bz (by simp [look,Jd.ls])) ⟨rfl,rfl⟩)
theorem n1w (e0 s0 e1 s1 d5:Bool):
 CtM Try.prog 46 [.w (.one (.p 500000 [])),.w (.one (.pl (.i 1)))] (jM ⟨e0,s0,e1,s1,false,true,d5,true,false⟩) (Told (fun v m=>v=.w (.one (.pl (.b false)))∧m=jM ⟨e0,s0,e1,s1,false,true,d5,true,false⟩)):=by
 have F0:=yA jM.eq_1<|Jd.ls.eq_1
 refine CtM.go Try.func46 rfl Try.ntmps46 Try.results46 fun w0 ro may fx zZ zhY=>?_
 have zd0:DQ 8 [57,58,59,60,61,62,63,64,65,66,67,68,69,70,71,72,73,74,75,76,77,78,79,80,81,82,83,84,85,86] [0,1,3,7,15,31,63,127,255,511,1023,2047,4095,8191,16383,32767,65535,131071,262143,524287,1048575,2097151,2097151,6291455,4194303,20971519,67108863,134217727,268435455,536870911] []:=⟨⟩
 refine (fun zX=>goW) ?_
 refine zhY _ _ ?_
 simp only [go_sem,F0]
 all_goals (exact Av rfl (Bz (by simp [look,Jd.ls])) ⟨rfl,rfl⟩)
theorem n1v (e0 s0 e1 s1 d5:Bool):
 CtM Try.prog 46 [.w (.one (.p 500000 [])),.w (.one (.pl (.i 1)))] (jM ⟨e0,s0,e1,s1,true,true,d5,true,false⟩) (Told (fun v m=>v=.w (.one (.pl (.b d5)))∧m=jM ⟨e0,s0,e1,s1,true,true,d5,true,false⟩)):=by
 have F0:=yA jM.eq_1<|Jd.ls.eq_1
 refine CtM.go Try.func46 rfl Try.ntmps46 Try.results46 fun w0 ro may fx zZ zhY=>?_
 have zd0:DQ 8 [57,58,59,60,61,62,63,64,65,66,67,68,69,70,71,72,73,74,75,76,77,78,79,80,81,82,83,84,85,86] [0,1,3,7,15,31,63,127,255,511,1023,2047,4095,8191,16383,32767,65535,131071,262143,524287,1048575,2097151,2097151,6291455,4194303,20971519,67108863,134217727,268435455,536870911] []:=⟨⟩
 have zd1:DQ 10 [87,88,89,90,91,92,93,94,95,96,97,98,99,100,101,4] [0,1,3,7,15,31,63,127,127,383,255,1279,4095,8191,16383,32767] []:=⟨⟩
 refine (fun zX=>goW) ?_
 refine zhY _ _ ?_
 simp only [go_sem,F0]
 all_goals (exact Av rfl (Bz (by simp [look,Jd.ls])) ⟨rfl,rfl⟩)
theorem g2g (e0 s0 s1 d5:Bool):
 CtM Try.prog 46 [.w (.one (.p 500000 [])),.w (.one (.pl (.i 1)))] (jM ⟨e0,s0,true,s1,false,true,d5,true,true⟩) (Told (fun v m=>v=.w (.one (.pl (.b false)))∧m=jM ⟨e0,s0,true,s1,false,true,d5,true,true⟩)):=by
 have F0:=yA jM.eq_1<|Jd.ls.eq_1
 refine CtM.go Try.func46 rfl Try.ntmps46 Try.results46 fun w0 ro may fx zZ zhY=>?_
 have zd0:DQ 8 [57,58,59,60,61,62,63,64,65,66,67,68,69,70,71,72,73,74,75,76,77,78,79,80,81,82,83,84,85,86] [0,1,3,7,15,31,63,127,255,511,1023,2047,4095,8191,16383,32767,65535,131071,262143,524287,1048575,2097151,2097151,6291455,4194303,20971519,67108863,134217727,268435455,536870911] []:=⟨⟩
 refine (fun zX=>goW) ?_
 refine zhY _ _ ?_
 simp only [go_sem,F0]
 all_goals (exact Av rfl (Bz (by simp [look,Jd.ls])) ⟨rfl,rfl⟩)
theorem g2f (e0 s0 s1 d5:Bool):
 CtM Try.prog 46 [.w (.one (.p 500000 [])),.w (.one (.pl (.i 1)))] (jM ⟨e0,s0,true,s1,true,true,d5,true,true⟩) (Told (fun v m=>v=.w (.one (.pl (.b d5)))∧m=jM ⟨e0,s0,true,s1,true,true,d5,true,true⟩)):=by
 have F0:=yA jM.eq_1<|Jd.ls.eq_1
 refine CtM.go Try.func46 rfl Try.ntmps46 Try.results46 fun w0 ro may fx zZ zhY=>?_
 have zd0:DQ 8 [57,58,59,60,61,62,63,64,65,66,67,68,69,70,71,72,73,74,75,76,77,78,79,80,81,82,83,84,85,86] [0,1,3,7,15,31,63,127,255,511,1023,2047,4095,8191,16383,32767,65535,131071,262143,524287,1048575,2097151,2097151,6291455,4194303,20971519,67108863,134217727,268435455,536870911] []:=⟨⟩
 have zd1:DQ 10 [87,88,89,90,91,92,93,94,95,96,97,98,99,100,101,4] [0,1,3,7,15,31,63,127,127,383,255,1279,4095,8191,16383,32767] []:=⟨⟩
 refine (fun zX=>goW) ?_
 refine zhY _ _ ?_
 simp only [go_sem,F0]
 all_goals (exact Av rfl (Bz (by simp [look,Jd.ls])) ⟨rfl,rfl⟩)
theorem n1u (e0 s0 s1 d3 d5:Bool):
 CtM Try.prog 46 [.w (.one (.p 500000 [])),.w (.one (.pl (.i 1)))] (jM ⟨e0,s0,false,s1,d3,false,d5,true,true⟩) (Told (fun v m=>v=.w (.one (.pl (.b false)))∧m=jM ⟨e0,s0,false,s1,d3,false,d5,true,true⟩)):=by
 have F0:=yA jM.eq_1<|Jd.ls.eq_1
 refine CtM.go Try.func46 rfl Try.ntmps46 Try.results46 fun w0 ro may fx zZ zhY=>?_
 refine (fun zX=>goW) ?_
 refine zhY _ _ ?_
 simp only [go_sem,F0]
 all_goals (exact Av rfl (Bz (by simp [look,Jd.ls])) ⟨rfl,rfl⟩)
theorem v0h (e0 s0 e1 s1 d3 d5:Bool):
 CtM Try.prog 46 [.w (.one (.p 500000 [])),.w (.one (.pl (.i 1)))] (jM ⟨e0,s0,e1,s1,d3,false,d5,true,false⟩) (Told (fun v m=>v=.w (.one (.pl (.b d5)))∧m=jM ⟨e0,s0,e1,s1,d3,false,d5,true,false⟩)):=by
 have F0:=yA jM.eq_1<|Jd.ls.eq_1
 refine CtM.go Try.func46 rfl Try.ntmps46 Try.results46 fun w0 ro may fx zZ zhY=>?_
 have zd0:DQ 8 [57,58,59,60,61,62,63,64,65,66,67,68,69,70,71,72,73,74,75,76,77,78,79,80,81,82,83,84,85,86] [0,1,3,7,15,31,63,127,255,511,1023,2047,4095,8191,16383,32767,65535,131071,262143,524287,1048575,2097151,2097151,6291455,4194303,20971519,67108863,134217727,268435455,536870911] []:=⟨⟩
 have zd1:DQ 10 [87,88,89,90,91,92,93,94,95,96,97,98,99,100,101,4] [0,1,3,7,15,31,63,127,127,383,255,1279,4095,8191,16383,32767] []:=⟨⟩
 refine (fun zX=>goW) ?_
 refine zhY _ _ ?_
 simp only [go_sem,F0]
 all_goals (exact Av rfl (Bz (by simp [look,Jd.ls])) ⟨rfl,rfl⟩)
theorem n1t (e0 s0 s1 d3 d5:Bool):
 CtM Try.prog 46 [.w (.one (.p 500000 [])),.w (.one (.pl (.i 1)))] (jM ⟨e0,s0,true,s1,d3,false,d5,true,true⟩) (Told (fun v m=>v=.w (.one (.pl (.b d5)))∧m=jM ⟨e0,s0,true,s1,d3,false,d5,true,true⟩)):=by
 have F0:=yA jM.eq_1<|Jd.ls.eq_1
 refine CtM.go Try.func46 rfl Try.ntmps46 Try.results46 fun w0 ro may fx zZ zhY=>?_
 have zd0:DQ 8 [57,58,59,60,61,62,63,64,65,66,67,68,69,70,71,72,73,74,75,76,77,78,79,80,81,82,83,84,85,86] [0,1,3,7,15,31,63,127,255,511,1023,2047,4095,8191,16383,32767,65535,131071,262143,524287,1048575,2097151,2097151,6291455,4194303,20971519,67108863,134217727,268435455,536870911] []:=⟨⟩
 have zd1:DQ 10 [87,88,89,90,91,92,93,94,95,96,97,98,99,100,101,4] [0,1,3,7,15,31,63,127,127,383,255,1279,4095,8191,16383,32767] []:=⟨⟩
 refine (fun zX=>goW) ?_
 refine zhY _ _ ?_
 simp only [go_sem,F0]
 all_goals (exact Av rfl (Bz (by simp [look,Jd.ls])) ⟨rfl,rfl⟩)
theorem n1s (e0 s0 s1 d3 d5:Bool):
 CtM Try.prog 46 [.w (.one (.p 500000 [])),.w (.one (.pl (.i 1)))] (jM ⟨e0,s0,false,s1,d3,true,d5,false,true⟩) (Told (fun v m=>v=.w (.one (.pl (.b false)))∧m=jM ⟨e0,s0,false,s1,d3,true,d5,false,true⟩)):=by
 have F0:=yA jM.eq_1<|Jd.ls.eq_1
 refine CtM.go Try.func46 rfl Try.ntmps46 Try.results46 fun w0 ro may fx zZ zhY=>?_
 refine (fun zX=>goW) ?_
 refine zhY _ _ ?_
 simp only [go_sem,F0]
 all_goals (exact Av rfl (Bz (by simp [look,Jd.ls])) ⟨rfl,rfl⟩)
theorem n1r (e0 s0 e1 s1 d5:Bool):
 CtM Try.prog 46 [.w (.one (.p 500000 [])),.w (.one (.pl (.i 1)))] (jM ⟨e0,s0,e1,s1,false,true,d5,false,false⟩) (Told (fun v m=>v=.w (.one (.pl (.b false)))∧m=jM ⟨e0,s0,e1,s1,false,true,d5,false,false⟩)):=by
 have F0:=yA jM.eq_1<|Jd.ls.eq_1
 refine CtM.go Try.func46 rfl Try.ntmps46 Try.results46 fun w0 ro may fx zZ zhY=>?_
 have zd0:DQ 8 [57,58,59,60,61,62,63,64,65,66,67,68,69,70,71,72,73,74,75,76,77,78,79,80,81,82,83,84,85,86] [0,1,3,7,15,31,63,127,255,511,1023,2047,4095,8191,16383,32767,65535,131071,262143,524287,1048575,2097151,2097151,6291455,4194303,20971519,67108863,134217727,268435455,536870911] []:=⟨⟩
 refine (fun zX=>goW) ?_
 refine zhY _ _ ?_
 simp only [go_sem,F0]
 all_goals (exact Av rfl (Bz (by simp [look,Jd.ls])) ⟨rfl,rfl⟩)
theorem f1q (e0 s0 e1 s1 d5:Bool):
 CtM Try.prog 46 [.w (.one (.p 500000 [])),.w (.one (.pl (.i 1)))] (jM ⟨e0,s0,e1,s1,true,true,d5,false,false⟩) (Told (fun v m=>v=.w (.one (.pl (.b true)))∧m=jM ⟨e0,s0,e1,s1,true,true,d5,false,false⟩)):=by
 have F0:=yA jM.eq_1<|Jd.ls.eq_1
 refine CtM.go Try.func46 rfl Try.ntmps46 Try.results46 fun w0 ro may fx zZ zhY=>?_
 have zd0:DQ 8 [57,58,59,60,61,62,63,64,65,66,67,68,69,70,71,72,73,74,75,76,77,78,79,80,81,82,83,84,85,86] [0,1,3,7,15,31,63,127,255,511,1023,2047,4095,8191,16383,32767,65535,131071,262143,524287,1048575,2097151,2097151,6291455,4194303,20971519,67108863,134217727,268435455,536870911] []:=⟨⟩
 have zd1:DQ 10 [87,88,89,90,91,92,93,94,95,96,97,98,99,100,101,4] [0,1,3,7,15,31,63,127,127,383,255,1279,4095,8191,16383,32767] []:=⟨⟩
 refine (fun zX=>goW) ?_
 refine zhY _ _ ?_
 simp only [go_sem,F0]
 all_goals (exact Av rfl (Bz (by simp [look,Jd.ls])) ⟨rfl,rfl⟩)
theorem x1m (e0 s0 s1 d5:Bool):
 CtM Try.prog 46 [.w (.one (.p 500000 [])),.w (.one (.pl (.i 1)))] (jM ⟨e0,s0,true,s1,false,true,d5,false,true⟩) (Told (fun v m=>v=.w (.one (.pl (.b false)))∧m=jM ⟨e0,s0,true,s1,false,true,d5,false,true⟩)):=by
 have F0:=yA jM.eq_1<|Jd.ls.eq_1
 refine CtM.go Try.func46 rfl Try.ntmps46 Try.results46 fun w0 ro may fx zZ zhY=>?_
 have zd0:DQ 8 [57,58,59,60,61,62,63,64,65,66,67,68,69,70,71,72,73,74,75,76,77,78,79,80,81,82,83,84,85,86] [0,1,3,7,15,31,63,127,255,511,1023,2047,4095,8191,16383,32767,65535,131071,262143,524287,1048575,2097151,2097151,6291455,4194303,20971519,67108863,134217727,268435455,536870911] []:=⟨⟩
 refine (fun zX=>goW) ?_
 refine zhY _ _ ?_
 simp only [go_sem,F0]
 all_goals (exact Av rfl (Bz (by simp [look,Jd.ls])) ⟨rfl,rfl⟩)
theorem x1l (e0 s0 s1 d5:Bool):
 CtM Try.prog 46 [.w (.one (.p 500000 [])),.w (.one (.pl (.i 1)))] (jM ⟨e0,s0,true,s1,true,true,d5,false,true⟩) (Told (fun v m=>v=.w (.one (.pl (.b true)))∧m=jM ⟨e0,s0,true,s1,true,true,d5,false,true⟩)):=by
 have F0:=yA jM.eq_1<|Jd.ls.eq_1
 refine CtM.go Try.func46 rfl Try.ntmps46 Try.results46 fun w0 ro may fx zZ zhY=>?_
 have zd0:DQ 8 [57,58,59,60,61,62,63,64,65,66,67,68,69,70,71,72,73,74,75,76,77,78,79,80,81,82,83,84,85,86] [0,1,3,7,15,31,63,127,255,511,1023,2047,4095,8191,16383,32767,65535,131071,262143,524287,1048575,2097151,2097151,6291455,4194303,20971519,67108863,134217727,268435455,536870911] []:=⟨⟩
 have zd1:DQ 10 [87,88,89,90,91,92,93,94,95,96,97,98,99,100,101,4] [0,1,3,7,15,31,63,127,127,383,255,1279,4095,8191,16383,32767] []:=⟨⟩
 refine (fun zX=>goW) ?_
 refine zhY _ _ ?_
 simp only [go_sem,F0]
 all_goals (exact Av rfl (Bz (by simp [look,Jd.ls])) ⟨rfl,rfl⟩)
theorem f1p (e0 s0 s1 d3 d5:Bool):
 CtM Try.prog 46 [.w (.one (.p 500000 [])),.w (.one (.pl (.i 1)))] (jM ⟨e0,s0,false,s1,d3,false,d5,false,true⟩) (Told (fun v m=>v=.w (.one (.pl (.b false)))∧m=jM ⟨e0,s0,false,s1,d3,false,d5,false,true⟩)):=by
 have F0:=yA jM.eq_1<|Jd.ls.eq_1
 refine CtM.go Try.func46 rfl Try.ntmps46 Try.results46 fun w0 ro may fx zZ zhY=>?_
 refine (fun zX=>goW) ?_
 refine zhY _ _ ?_
 simp only [go_sem,F0]
 all_goals (exact Av rfl (Bz (by simp [look,Jd.ls])) ⟨rfl,rfl⟩)
theorem o0e (e0 s0 e1 s1 d3 d5:Bool):
 CtM Try.prog 46 [.w (.one (.p 500000 [])),.w (.one (.pl (.i 1)))] (jM ⟨e0,s0,e1,s1,d3,false,d5,false,false⟩) (Told (fun v m=>v=.w (.one (.pl (.b true)))∧m=jM ⟨e0,s0,e1,s1,d3,false,d5,false,false⟩)):=by
 have F0:=yA jM.eq_1<|Jd.ls.eq_1
 refine CtM.go Try.func46 rfl Try.ntmps46 Try.results46 fun w0 ro may fx zZ zhY=>?_
 refine (fun zX=>goW) ?_
 refine zhY _ _ ?_
 simp only [go_sem,F0]
 all_goals (exact Av rfl (Bz (by simp [look,Jd.ls])) ⟨rfl,rfl⟩)
theorem f1o (e0 s0 s1 d3 d5:Bool):
 CtM Try.prog 46 [.w (.one (.p 500000 [])),.w (.one (.pl (.i 1)))] (jM ⟨e0,s0,true,s1,d3,false,d5,false,true⟩) (Told (fun v m=>v=.w (.one (.pl (.b true)))∧m=jM ⟨e0,s0,true,s1,d3,false,d5,false,true⟩)):=by
 have F0:=yA jM.eq_1<|Jd.ls.eq_1
 refine CtM.go Try.func46 rfl Try.ntmps46 Try.results46 fun w0 ro may fx zZ zhY=>?_
 refine (fun zX=>goW) ?_
 refine zhY _ _ ?_
 simp only [go_sem,F0]
 all_goals (exact Av rfl (Bz (by simp [look,Jd.ls])) ⟨rfl,rfl⟩)
theorem x1n (j:Jd):CtM Try.prog 46 [.w (.one (.p 500000 [])),.w (.one (.pl (.i 1)))] (jM j) (fun v m=>v=.w (.one (.pl (.b (j.may true))))∧m=jM j):=by
 obtain ⟨e0,s0,e1,s1,d3,d4,d5,d6,k⟩:=j
 cases k<;>cases e1<;>cases d6<;>cases d4<;>cases d3
 ·exact (o0e _ _ _ _ _ _).told
 ·exact (o0e _ _ _ _ _ _).told
 ·exact (n1r _ _ _ _ _).told
 ·exact (f1q _ _ _ _ _).told
 ·exact (v0h _ _ _ _ _ _).told
 ·exact (v0h _ _ _ _ _ _).told
 ·exact (n1w _ _ _ _ _).told
 ·exact (n1v _ _ _ _ _).told
 ·exact (o0e _ _ _ _ _ _).told
 ·exact (o0e _ _ _ _ _ _).told
 ·exact (n1r _ _ _ _ _).told
 ·exact (f1q _ _ _ _ _).told
 ·exact (v0h _ _ _ _ _ _).told
 ·exact (v0h _ _ _ _ _ _).told
 ·exact (n1w _ _ _ _ _).told
 ·exact (n1v _ _ _ _ _).told
 ·exact (f1p _ _ _ _ _).told
 ·exact (f1p _ _ _ _ _).told
 ·exact (n1s _ _ _ _ _).told
 ·exact (n1s _ _ _ _ _).told
 ·exact (n1u _ _ _ _ _).told
 ·exact (n1u _ _ _ _ _).told
 ·exact (n1x _ _ _ _ _).told
 ·exact (n1x _ _ _ _ _).told
 ·exact (f1o _ _ _ _ _).told
 ·exact (f1o _ _ _ _ _).told
 ·exact (x1m _ _ _ _).told
 ·exact (x1l _ _ _ _).told
 ·exact (n1t _ _ _ _ _).told
 ·exact (n1t _ _ _ _ _).told
 ·exact (g2g _ _ _ _).told
 exact (g2f _ _ _ _).told
end Go.Sy
namespace Go.Sy
open Go.Proofs
attribute [local irreducible] Cj HT Bv Rj onC onE onO onG goV goA goS Tj Ck
@[go_sem] theorem p2w (vw:Bool) (m:List (Nat×Ob)) (j:Jd):j.ls.all (Rx vw m)=true:=by cases vw<;>rfl
@[go_sem] theorem p2x (f:Nat→Nat) (j:Jd):j.ls.map (L.ren f)=j.ls:=rfl
theorem w0z (j:Jd) (hf:j.flag false 1=true):CtM Try.prog 43 [.w (.one (.p 500000 [])),.w (.one (.pl (.i 0))),.w (.one (.pl (.i 1)))] (jM j) (fun v m=>v=.w (.one (.pl (.b false)))∧m=jM j):=by
 obtain ⟨e0,s0,e1,s1,d3,d4,d5,d6,k⟩:=j
 have hz:e0=true:=hf
 subst hz
 exact (s1y _ _ _ _ _ _ _ _).told
theorem x0b (j:Jd) (hf:j.flag false 1=false):CtM Try.prog 43 [.w (.one (.p 500000 [])),.w (.one (.pl (.i 0))),.w (.one (.pl (.i 1)))] (jM j) (fun v m=>v=.w (.one (.pl (.b true)))∧m=jM (j.tell false 1)):=by
 obtain ⟨e0,s0,e1,s1,d3,d4,d5,d6,k⟩:=j
 have hz:e0=false:=hf
 subst hz
 exact (s1z _ _ _ _ _ _ _ _).told
theorem p0h (j:Jd) (hf:j.flag false 2=true):CtM Try.prog 43 [.w (.one (.p 500000 [])),.w (.one (.pl (.i 0))),.w (.one (.pl (.i 2)))] (jM j) (fun v m=>v=.w (.one (.pl (.b false)))∧m=jM j):=by
 obtain ⟨e0,s0,e1,s1,d3,d4,d5,d6,k⟩:=j
 have hz:s0=true:=hf
 subst hz
 exact (s1w _ _ _ _ _ _ _ _).told
theorem p0i (j:Jd) (hf:j.flag false 2=false):CtM Try.prog 43 [.w (.one (.p 500000 [])),.w (.one (.pl (.i 0))),.w (.one (.pl (.i 2)))] (jM j) (fun v m=>v=.w (.one (.pl (.b true)))∧m=jM (j.tell false 2)):=by
 obtain ⟨e0,s0,e1,s1,d3,d4,d5,d6,k⟩:=j
 have hz:s0=false:=hf
 subst hz
 exact (s1x _ _ _ _ _ _ _ _).told
theorem w0x (j:Jd) (hf:j.flag true 1=true):CtM Try.prog 43 [.w (.one (.p 500000 [])),.w (.one (.pl (.i 1))),.w (.one (.pl (.i 1)))] (jM j) (fun v m=>v=.w (.one (.pl (.b false)))∧m=jM j):=by
 obtain ⟨e0,s0,e1,s1,d3,d4,d5,d6,k⟩:=j
 have hz:e1=true:=hf
 subst hz
 exact (s1u _ _ _ _ _ _ _ _).told
theorem w0y (j:Jd) (hf:j.flag true 1=false):CtM Try.prog 43 [.w (.one (.p 500000 [])),.w (.one (.pl (.i 1))),.w (.one (.pl (.i 1)))] (jM j) (fun v m=>v=.w (.one (.pl (.b true)))∧m=jM (j.tell true 1)):=by
 obtain ⟨e0,s0,e1,s1,d3,d4,d5,d6,k⟩:=j
 have hz:e1=false:=hf
 subst hz
 exact (s1v _ _ _ _ _ _ _ _).told
theorem p0f (j:Jd) (hf:j.flag true 2=true):CtM Try.prog 43 [.w (.one (.p 500000 [])),.w (.one (.pl (.i 1))),.w (.one (.pl (.i 2)))] (jM j) (fun v m=>v=.w (.one (.pl (.b false)))∧m=jM j):=by
 obtain ⟨e0,s0,e1,s1,d3,d4,d5,d6,k⟩:=j
 have hz:s1=true:=hf
 subst hz
 exact (s1s _ _ _ _ _ _ _ _).told
theorem p0g (j:Jd) (hf:j.flag true 2=false):CtM Try.prog 43 [.w (.one (.p 500000 [])),.w (.one (.pl (.i 1))),.w (.one (.pl (.i 2)))] (jM j) (fun v m=>v=.w (.one (.pl (.b true)))∧m=jM (j.tell true 2)):=by
 obtain ⟨e0,s0,e1,s1,d3,d4,d5,d6,k⟩:=j
 have hz:s1=false:=hf
 subst hz
 exact (s1t _ _ _ _ _ _ _ _).told
theorem d2i (j:Jd) (hf:j.flag false 1=true):
 CtM Try.prog 44 [.w (.one (.p 500000 [])),.w (.one (.pl (.i 0))),.w (.one (.pl (.i 1)))] (jM j) (Told (fun v m=>v=.w (.one (.pl (.b false)))∧m=jM j)):=by
 have F0:=jM.eq_1
 refine CtM.go Try.func44 rfl Try.ntmps44 Try.results44 fun w0 ro may fx zZ zhY=>?_
 have cq:=yA (CtM.ch [(500000,500000)] ((w0z j hf)))<|trivial
 refine (fun zX=>goW) ?_
 refine zhY _ _ ?_
 simp only [go_sem,F0]
 all_goals (exact Av rfl (Bz (by simp [look])) ⟨rfl,rfl⟩)
theorem d2j (j:Jd) (hf:j.flag false 1=false):
 CtM Try.prog 44 [.w (.one (.p 500000 [])),.w (.one (.pl (.i 0))),.w (.one (.pl (.i 1)))] (jM j) (Told (fun v m=>v=.w (.one (.pl (.b true)))∧m=jM (j.tell false 1))):=by
 have F0:=jM.eq_1
 refine CtM.go Try.func44 rfl Try.ntmps44 Try.results44 fun w0 ro may fx zZ zhY=>?_
 have cq:=yA (CtM.ch [(500000,500000)] ((x0b j hf)))<|trivial
 refine (fun zX=>goW) ?_
 refine zhY _ _ ?_
 simp only [go_sem,F0]
 all_goals (exact Av rfl (Bz (by simp [look])) ⟨rfl,rfl⟩)
theorem t1p (j:Jd):CtM Try.prog 44 [.w (.one (.p 500000 [])),.w (.one (.pl (.i 0))),.w (.one (.pl (.i 1)))] (jM j) (fun v m=>v=.w (.one (.pl (.b (j.token false 1).1)))∧m=jM (j.token false 1).2):=by
 rcases h:j.flag false 1 with _|_
 ·have hr:j.token false 1=(true,j.tell false 1):=by simp [Jd.token,h]
  rw [hr];exact (d2j j h).told
 have hr:j.token false 1=(false,j):=by simp [Jd.token,h]
 rw [hr];exact (d2i j h).told
theorem v1b (j:Jd) (hl:j.locks=false) (hf:j.flag false 2=true):
 CtM Try.prog 44 [.w (.one (.p 500000 [])),.w (.one (.pl (.i 0))),.w (.one (.pl (.i 2)))] (jM j) (Told (fun v m=>v=.w (.one (.pl (.b false)))∧m=jM j)):=by
 have hL:=a0y j
 rw [hl] at hL
 have F0:=jM.eq_1
 refine CtM.go Try.func44 rfl Try.ntmps44 Try.results44 fun w0 ro may fx zZ zhY=>?_
 try have ch0:=CtM.ch [(500000,500000)] (hM)
 try have ch1:=CtM.ch [(500000,500000)] ((p0h j hf))
 have cq:=yA (CtM.ch [(500000,500000)] (hL))<|trivial
 refine (fun zX=>goW) ?_
 refine zhY _ _ ?_
 simp only [go_sem,F0]
 all_goals (exact Av rfl (Bz (by simp [look])) ⟨rfl,rfl⟩)
theorem v1c (j:Jd) (hl:j.locks=false) (hf:j.flag false 2=false):
 CtM Try.prog 44 [.w (.one (.p 500000 [])),.w (.one (.pl (.i 0))),.w (.one (.pl (.i 2)))] (jM j) (Told (fun v m=>v=.w (.one (.pl (.b true)))∧m=jM (j.tell false 2))):=by
 have hL:=a0y j
 rw [hl] at hL
 have F0:=jM.eq_1
 refine CtM.go Try.func44 rfl Try.ntmps44 Try.results44 fun w0 ro may fx zZ zhY=>?_
 try have ch0:=CtM.ch [(500000,500000)] (hM)
 try have ch1:=CtM.ch [(500000,500000)] ((p0i j hf))
 have cq:=yA (CtM.ch [(500000,500000)] (hL))<|trivial
 refine (fun zX=>goW) ?_
 refine zhY _ _ ?_
 simp only [go_sem,F0]
 all_goals (exact Av rfl (Bz (by simp [look])) ⟨rfl,rfl⟩)
theorem v1d (j:Jd) (hl:j.locks=true) (hm:j.may false=true) (hf:j.flag false 2=true):
 CtM Try.prog 44 [.w (.one (.p 500000 [])),.w (.one (.pl (.i 0))),.w (.one (.pl (.i 2)))] (jM j) (Told (fun v m=>v=.w (.one (.pl (.b false)))∧m=jM j)):=by
 have hL:=a0y j
 rw [hl] at hL
 have hM:=x1q j
 rw [hm] at hM
 have F0:=jM.eq_1
 refine CtM.go Try.func44 rfl Try.ntmps44 Try.results44 fun w0 ro may fx zZ zhY=>?_
 try have ch0:=CtM.ch [(500000,500000)] (hM)
 try have ch1:=CtM.ch [(500000,500000)] ((p0h j hf))
 have cq:=yA (CtM.ch [(500000,500000)] (hL))<|trivial
 refine (fun zX=>goW) ?_
 refine zhY _ _ ?_
 simp only [go_sem,F0]
 all_goals (exact Av rfl (Bz (by simp [look])) ⟨rfl,rfl⟩)
theorem v1e (j:Jd) (hl:j.locks=true) (hm:j.may false=true) (hf:j.flag false 2=false):
 CtM Try.prog 44 [.w (.one (.p 500000 [])),.w (.one (.pl (.i 0))),.w (.one (.pl (.i 2)))] (jM j) (Told (fun v m=>v=.w (.one (.pl (.b true)))∧m=jM (j.tell false 2))):=by
 have hL:=a0y j
 rw [hl] at hL
 have hM:=x1q j
 rw [hm] at hM
 have F0:=jM.eq_1
 refine CtM.go Try.func44 rfl Try.ntmps44 Try.results44 fun w0 ro may fx zZ zhY=>?_
 try have ch0:=CtM.ch [(500000,500000)] (hM)
 try have ch1:=CtM.ch [(500000,500000)] ((p0i j hf))
 have cq:=yA (CtM.ch [(500000,500000)] (hL))<|trivial
 refine (fun zX=>goW) ?_
 refine zhY _ _ ?_
 simp only [go_sem,F0]
 all_goals (exact Av rfl (Bz (by simp [look])) ⟨rfl,rfl⟩)
theorem d2h (j:Jd) (hl:j.locks=true) (hm:j.may false=false):
 CtM Try.prog 44 [.w (.one (.p 500000 [])),.w (.one (.pl (.i 0))),.w (.one (.pl (.i 2)))] (jM j) (Told (fun v m=>v=.w (.one (.pl (.b false)))∧m=jM j)):=by
 have hL:=a0y j
 rw [hl] at hL
 have hM:=x1q j
 rw [hm] at hM
 have F0:=jM.eq_1
 refine CtM.go Try.func44 rfl Try.ntmps44 Try.results44 fun w0 ro may fx zZ zhY=>?_
 try have ch0:=CtM.ch [(500000,500000)] (hM)
 try have ch1:=CtM.ch [(500000,500000)] ((told_02_ j hf))
 have cq:=yA (CtM.ch [(500000,500000)] (hL))<|trivial
 refine (fun zX=>goW) ?_
 refine zhY _ _ ?_
 simp only [go_sem,F0]
 all_goals (exact Av rfl (Bz (by simp [look])) ⟨rfl,rfl⟩)
theorem t1o (j:Jd):CtM Try.prog 44 [.w (.one (.p 500000 [])),.w (.one (.pl (.i 0))),.w (.one (.pl (.i 2)))] (jM j) (fun v m=>v=.w (.one (.pl (.b (j.token false 2).1)))∧m=jM (j.token false 2).2):=by
 rcases hl:j.locks with _|_
 ·rcases h:j.flag false 2 with _|_
  ·have hr:j.token false 2=(true,j.tell false 2):=by simp [Jd.token,h,hl]
   rw [hr];exact (v1c j hl h).told
  have hr:j.token false 2=(false,j):=by simp [Jd.token,h,hl]
  rw [hr];exact (v1b j hl h).told
 rcases hm:j.may false with _|_
 ·have hr:j.token false 2=(false,j):=by simp [Jd.token,hm,hl]
  rw [hr];exact (d2h j hl hm).told
 rcases h:j.flag false 2 with _|_
 ·have hr:j.token false 2=(true,j.tell false 2):=by simp [Jd.token,h,hl,hm]
  rw [hr];exact (v1e j hl hm h).told
 have hr:j.token false 2=(false,j):=by simp [Jd.token,h,hl,hm]
 rw [hr];exact (v1d j hl hm h).told
theorem d2f (j:Jd) (hf:j.flag true 1=true):
 CtM Try.prog 44 [.w (.one (.p 500000 [])),.w (.one (.pl (.i 1))),.w (.one (.pl (.i 1)))] (jM j) (Told (fun v m=>v=.w (.one (.pl (.b false)))∧m=jM j)):=by
 have F0:=jM.eq_1
 refine CtM.go Try.func44 rfl Try.ntmps44 Try.results44 fun w0 ro may fx zZ zhY=>?_
 have cq:=yA (CtM.ch [(500000,500000)] ((w0x j hf)))<|trivial
 refine (fun zX=>goW) ?_
 refine zhY _ _ ?_
 simp only [go_sem,F0]
 all_goals (exact Av rfl (Bz (by simp [look])) ⟨rfl,rfl⟩)
theorem d2g (j:Jd) (hf:j.flag true 1=false):
 CtM Try.prog 44 [.w (.one (.p 500000 [])),.w (.one (.pl (.i 1))),.w (.one (.pl (.i 1)))] (jM j) (Told (fun v m=>v=.w (.one (.pl (.b true)))∧m=jM (j.tell true 1))):=by
 have F0:=jM.eq_1
 refine CtM.go Try.func44 rfl Try.ntmps44 Try.results44 fun w0 ro may fx zZ zhY=>?_
 have cq:=yA (CtM.ch [(500000,500000)] ((w0y j hf)))<|trivial
 refine (fun zX=>goW) ?_
 refine zhY _ _ ?_
 simp only [go_sem,F0]
 all_goals (exact Av rfl (Bz (by simp [look])) ⟨rfl,rfl⟩)
theorem t1i (j:Jd):CtM Try.prog 44 [.w (.one (.p 500000 [])),.w (.one (.pl (.i 1))),.w (.one (.pl (.i 1)))] (jM j) (fun v m=>v=.w (.one (.pl (.b (j.token true 1).1)))∧m=jM (j.token true 1).2):=by
 rcases h:j.flag true 1 with _|_
 ·have hr:j.token true 1=(true,j.tell true 1):=by simp [Jd.token,h]
  rw [hr];exact (d2g j h).told
 have hr:j.token true 1=(false,j):=by simp [Jd.token,h]
 rw [hr];exact (d2f j h).told
theorem u1h (j:Jd) (hl:j.locks=false) (hf:j.flag true 2=true):
 CtM Try.prog 44 [.w (.one (.p 500000 [])),.w (.one (.pl (.i 1))),.w (.one (.pl (.i 2)))] (jM j) (Told (fun v m=>v=.w (.one (.pl (.b false)))∧m=jM j)):=by
 have hL:=a0y j
 rw [hl] at hL
 have F0:=jM.eq_1
 refine CtM.go Try.func44 rfl Try.ntmps44 Try.results44 fun w0 ro may fx zZ zhY=>?_
 try have ch0:=CtM.ch [(500000,500000)] (hM)
 try have ch1:=CtM.ch [(500000,500000)] ((p0f j hf))
 have cq:=yA (CtM.ch [(500000,500000)] (hL))<|trivial
 refine (fun zX=>goW) ?_
 refine zhY _ _ ?_
 simp only [go_sem,F0]
 all_goals (exact Av rfl (Bz (by simp [look])) ⟨rfl,rfl⟩)
theorem u1i (j:Jd) (hl:j.locks=false) (hf:j.flag true 2=false):
 CtM Try.prog 44 [.w (.one (.p 500000 [])),.w (.one (.pl (.i 1))),.w (.one (.pl (.i 2)))] (jM j) (Told (fun v m=>v=.w (.one (.pl (.b true)))∧m=jM (j.tell true 2))):=by
 have hL:=a0y j
 rw [hl] at hL
 have F0:=jM.eq_1
 refine CtM.go Try.func44 rfl Try.ntmps44 Try.results44 fun w0 ro may fx zZ zhY=>?_
 try have ch0:=CtM.ch [(500000,500000)] (hM)
 try have ch1:=CtM.ch [(500000,500000)] ((p0g j hf))
 have cq:=yA (CtM.ch [(500000,500000)] (hL))<|trivial
 refine (fun zX=>goW) ?_
 refine zhY _ _ ?_
 simp only [go_sem,F0]
 all_goals (exact Av rfl (Bz (by simp [look])) ⟨rfl,rfl⟩)
theorem u1j (j:Jd) (hl:j.locks=true) (hm:j.may true=true) (hf:j.flag true 2=true):
 CtM Try.prog 44 [.w (.one (.p 500000 [])),.w (.one (.pl (.i 1))),.w (.one (.pl (.i 2)))] (jM j) (Told (fun v m=>v=.w (.one (.pl (.b false)))∧m=jM j)):=by
 have hL:=a0y j
 rw [hl] at hL
 have hM:=x1n j
 rw [hm] at hM
 have F0:=jM.eq_1
 refine CtM.go Try.func44 rfl Try.ntmps44 Try.results44 fun w0 ro may fx zZ zhY=>?_
 try have ch0:=CtM.ch [(500000,500000)] (hM)
 try have ch1:=CtM.ch [(500000,500000)] ((p0f j hf))
 have cq:=yA (CtM.ch [(500000,500000)] (hL))<|trivial
 refine (fun zX=>goW) ?_
 refine zhY _ _ ?_
 simp only [go_sem,F0]
 all_goals (exact Av rfl (Bz (by simp [look])) ⟨rfl,rfl⟩)
theorem u1k (j:Jd) (hl:j.locks=true) (hm:j.may true=true) (hf:j.flag true 2=false):
 CtM Try.prog 44 [.w (.one (.p 500000 [])),.w (.one (.pl (.i 1))),.w (.one (.pl (.i 2)))] (jM j) (Told (fun v m=>v=.w (.one (.pl (.b true)))∧m=jM (j.tell true 2))):=by
 have hL:=a0y j
 rw [hl] at hL
 have hM:=x1n j
 rw [hm] at hM
 have F0:=jM.eq_1
 refine CtM.go Try.func44 rfl Try.ntmps44 Try.results44 fun w0 ro may fx zZ zhY=>?_
 try have ch0:=CtM.ch [(500000,500000)] (hM)
 try have ch1:=CtM.ch [(500000,500000)] ((p0g j hf))
 have cq:=yA (CtM.ch [(500000,500000)] (hL))<|trivial
 refine (fun zX=>goW) ?_
 refine zhY _ _ ?_
 simp only [go_sem,F0]
 all_goals (exact Av rfl (Bz (by simp [look])) ⟨rfl,rfl⟩)
theorem d2e (j:Jd) (hl:j.locks=true) (hm:j.may true=false):
 CtM Try.prog 44 [.w (.one (.p 500000 [])),.w (.one (.pl (.i 1))),.w (.one (.pl (.i 2)))] (jM j) (Told (fun v m=>v=.w (.one (.pl (.b false)))∧m=jM j)):=by
 have hL:=a0y j
 rw [hl] at hL
 have hM:=x1n j
 rw [hm] at hM
 have F0:=jM.eq_1
 refine CtM.go Try.func44 rfl Try.ntmps44 Try.results44 fun w0 ro may fx zZ zhY=>?_
 try have ch0:=CtM.ch [(500000,500000)] (hM)
 try have ch1:=CtM.ch [(500000,500000)] ((told_12_ j hf))
 have cq:=yA (CtM.ch [(500000,500000)] (hL))<|trivial
 refine (fun zX=>goW) ?_
 refine zhY _ _ ?_
 simp only [go_sem,F0]
 all_goals (exact Av rfl (Bz (by simp [look])) ⟨rfl,rfl⟩)
theorem t1h (j:Jd):CtM Try.prog 44 [.w (.one (.p 500000 [])),.w (.one (.pl (.i 1))),.w (.one (.pl (.i 2)))] (jM j) (fun v m=>v=.w (.one (.pl (.b (j.token true 2).1)))∧m=jM (j.token true 2).2):=by
 rcases hl:j.locks with _|_
 ·rcases h:j.flag true 2 with _|_
  ·have hr:j.token true 2=(true,j.tell true 2):=by simp [Jd.token,h,hl]
   rw [hr];exact (u1i j hl h).told
  have hr:j.token true 2=(false,j):=by simp [Jd.token,h,hl]
  rw [hr];exact (u1h j hl h).told
 rcases hm:j.may true with _|_
 ·have hr:j.token true 2=(false,j):=by simp [Jd.token,hm,hl]
  rw [hr];exact (d2e j hl hm).told
 rcases h:j.flag true 2 with _|_
 ·have hr:j.token true 2=(true,j.tell true 2):=by simp [Jd.token,h,hl,hm]
  rw [hr];exact (u1k j hl hm h).told
 have hr:j.token true 2=(false,j):=by simp [Jd.token,h,hl,hm]
 rw [hr];exact (u1j j hl hm h).told
end Go.Sy
