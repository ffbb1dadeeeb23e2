/- Walks and what they compute. CONDITIONS: those that each theorem names. -/
import Derived.Test.YtijngjidkdkmeaavS2
set_option linter.unusedVariables false
set_option linter.unusedSimpArgs false
namespace Go.Sy
def v1a (n:Int):Aw:=.mk 1 n 0 []
def pubT (n:Int):Aw:=.mk 2 n 0 []
end Go.Sy
namespace Go.Sy
def hasB (b:List Aw) (t:Aw):Bool:=b.any fun x=>Tw x t
def Sq (b:List Aw) (n:Int):Bool:=hasB b (v1a n)
def p0e (b:List Aw) (n:Int):Bool:=Sq b n||hasB b (pubT n)
def dhB (b:List Aw) (i o:Int):Bool:=Sq b i&&p0e b o||Sq b o&&p0e b i
mutual
def Gj (b:List Aw):Aw→Bool
 | .mk k i o l=>hasB b (.mk k i o l)||(if k=1 then false else if k=2 then Sq b i else if k=3 then dhB b i o else Tz b l)
def Tz (b:List Aw):List Aw→Bool
 | []=>true
 |a::l=>Gj b a&&Tz b l
end
def b0i (b:List Aw):Aw→List Aw
 | .mk k _ _ l=>if k=4 then l else if k=7 then (if Gj b (l.getD 0 (.mk 0 0 0 [])) then l.drop 2 else []) else []
theorem g1v (t:Aw):hasB [] t=false:=rfl
theorem p0w (x:Aw) (b:List Aw) (t:Aw):hasB (x::b) t=(Tw x t||hasB b t):=rfl
theorem l0s (b:List Aw):Tz b []=true:=by rw [Tz]
theorem Ux (b:List Aw) (a:Aw) (l:List Aw):Tz b (a::l)=(Gj b a&&Tz b l):=by rw [Tz]
theorem Zj (b:List Aw) (k i o:Int) (l:List Aw):Gj b (.mk k i o l)=(hasB b (.mk k i o l)||(if k=1 then false else if k=2 then Sq b i else if k=3 then dhB b i o else Tz b l)):=by rw [Gj]
end Go.Sy
