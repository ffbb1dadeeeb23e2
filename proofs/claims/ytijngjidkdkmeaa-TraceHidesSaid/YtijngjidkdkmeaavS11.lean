/- Walks and what they compute. CONDITIONS: those that each theorem names. -/
import Derived.Test.YtijngjidkdkmeaavS2
set_option linter.unusedVariables false
set_option linter.unusedSimpArgs false
namespace Go.Sy
def Fv (n:Int):Aw:=.mk 1 n 0 []
def Mv (n:Int):Aw:=.mk 2 n 0 []
def dhT (a b:Int):Aw:=.mk 3 a b []
def a0t (w:Int) (c x:Aw):Aw:=.mk 6 w 0 [c,x]
def f0x (k:Aw) (n:Int) (t:Aw):Aw:=.mk 7 0 0 [k,Fv n,t]
def i0i (w:Int) (c:Aw):List Aw→Aw
 | []=>c
 | [m]=>a0t w c m
 |m::n::r=>i0i w (a0t 1 c m) (n::r)
def Gq (w:Int) (l:List Aw):Aw:=i0i w (Fv 0) l
theorem r0r (w:Int) (m:Aw): ∀ (l:List Aw) (c:Aw),i0i w c (l++[m])=a0t w (i0i 1 c l) m
 | [],c=>rfl
 | [a],c=>rfl
 |a::b::r,c=>by
   have:=r0r w m (b::r) (a0t 1 c a)
   simp only [yC,i0i] at this ⊢
   exact this
theorem Qz (w:Int) (l:List Aw) (m:Aw):Gq w (l++[m])=a0t w (Gq 1 l) m:=r0r w m l _
structure Ik where
 mx:List Aw
 ps:Nat
 out:List Aw
def Ik.mix (s:Ik) (t:Aw):Ik:={s with mx:=s.mx++[t]}
def Ik.tell (s:Ik) (t:Aw):Ik:={s with out:=s.out++[if s.mx=[] then t else f0x (Gq 2 s.mx) (100+(s.out.length:Int)) t]}
def Ik.token (pk:Bool) (w:Int) (s:Ik) (t:Int):Ik:=
 if t=1 then (let s':Ik:={s with out:=s.out++[Mv (3+w)]};if pk then s'.mix (Mv (3+w)) else s')
 else if t=2 then s.tell (Mv (1+w))
 else if t=3 then s.mix (dhT 3 4)
 else if t=4 then s.mix (dhT 2 3)
 else if t=5 then s.mix (dhT 1 4)
 else if t=6 then s.mix (dhT 1 2)
 else {(s.mix (Fv (10+(s.ps:Int)))) with ps:=s.ps+1}
def Ik.turn (pk:Bool) (w:Int) (s:Ik):List Int→Ik
 | []=>s
 |t::r=>Ik.turn pk w (s.token pk w t) r
end Go.Sy
namespace Go.Sy
def hasB (b:List Aw) (t:Aw):Bool:=b.any fun x=>b0b x t
def a0r (b:List Aw) (n:Int):Bool:=hasB b (Fv n)
def y0g (b:List Aw) (n:Int):Bool:=a0r b n||hasB b (Mv n)
def dhB (b:List Aw) (i o:Int):Bool:=a0r b i&&y0g b o||a0r b o&&y0g b i
mutual
def Lv (b:List Aw):Aw→Bool
 | .mk k i o l=>hasB b (.mk k i o l)||(if k=1 then false else if k=2 then a0r b i else if k=3 then dhB b i o else a0x b l)
def a0x (b:List Aw):List Aw→Bool
 | []=>true
 |a::l=>Lv b a&&a0x b l
end
def f0v (b:List Aw):Aw→List Aw
 | .mk k _ _ l=>if k=4 then l else if k=7 then (if Lv b (l.getD 0 (.mk 0 0 0 [])) then l.drop 2 else []) else []
theorem y1i (t:Aw):hasB [] t=false:=rfl
theorem z0g (x:Aw) (b:List Aw) (t:Aw):hasB (x::b) t=(b0b x t||hasB b t):=rfl
theorem t0m (b:List Aw):a0x b []=true:=by rw [a0x]
theorem b0r (b:List Aw) (a:Aw) (l:List Aw):a0x b (a::l)=(Lv b a&&a0x b l):=by rw [a0x]
theorem e0j (b:List Aw) (k i o:Int) (l:List Aw):Lv b (.mk k i o l)=(hasB b (.mk k i o l)||(if k=1 then false else if k=2 then a0r b i else if k=3 then dhB b i o else a0x b l)):=by rw [Lv]
end Go.Sy
