/- Walks and what they compute. CONDITIONS: those that each theorem names. -/
import Derived.Test.YtkfcbhgkpknagaaGreatDoorvS15
import Derived.Test.YtkfcbhgkpknagaaGreatDoorvS1
import Derived.Laws.Externs
import Derived.Test.YtkfcbhgkpknagaaGreatDoorvE3
set_option linter.unusedVariables false
set_option linter.unusedSimpArgs false
set_option maxHeartbeats 1600000
set_option maxRecDepth 100000
namespace Go.Sy
def Gw (B:Nat):List UInt64→Nat
 | []=>0
 |v::r=>v.toNat+B*Gw B r
theorem a0s (B:Nat): ∀ a b:List UInt64,Gw B (a++b)=Gw B a+B ^ a.length*Gw B b
 | [],b=>by simp [Gw]
 |v::a,b=>by
   simp only [yB,Gw,a0s B a b,xD,vK]
   grind
theorem l1s {B:Nat}: ∀ {a:List UInt64},(∀ v∈a,v.toNat<B)→Gw B a<B ^ a.length
 | [],_=>by simp [Gw]
 |v::a,h=>by
   have h1:=h v (by simp)
   have h2:=l1s (a:=a) (fun x hx=>h x (by simp [hx]))
   simp only [Gw,xD,vK]
   have h3:B*Gw B a+B≤B*B ^ a.length:=by
    have:=vS B (Nat.succ_le_of_lt h2)
    rwa [Nat.mul_succ] at this
   rw [vF (B ^ a.length) B];omega
theorem f1g {B:Nat}: ∀ {a b:List UInt64},a.length=b.length→(∀ v∈a,v.toNat<B)→(∀ v∈b,v.toNat<B)→Gw B a=Gw B b→a=b
 | [],[],_,_,_,_=>rfl
 |v::a,w::b,hl,ha,hb,he=>by
   simp only [Gw] at he
   have h1:=ha v (by simp)
   have h2:=hb w (by simp)
   have e1:(v.toNat+B*Gw B a)%B=(w.toNat+B*Gw B b)%B:=by rw [he]
   rw [Nat.add_mul_mod_self_left,Nat.add_mul_mod_self_left,yN h1,yN h2] at e1
   have e2:Gw B a=Gw B b:=by
    rw [e1] at he
    have hB:0<B:=by omega
    exact Nat.eq_of_mul_eq_mul_left hB (by omega)
   rw [xS.mp e1,f1g (by simpa using hl) (fun x hx=>ha x (by simp [hx])) (fun x hx=>hb x (by simp [hx])) e2]
def dgL (B n:Nat):Nat→List UInt64
 |0=>[]
 |k+1=>UInt64.ofNat (n%B)::dgL B (n/B) k
theorem t0g (B:Nat): ∀ (n k:Nat),(dgL B n k).length=k
 |_,0=>rfl
 |n,k+1=>by simp [dgL,t0g B]
theorem b2i {B n:Nat} (h0:0<B) (hB:B≤18446744073709551616):(UInt64.ofNat (n%B)).toNat=n%B:=by
 rw [wD];exact yN (by have:=wP n h0;omega)
theorem g1z {B:Nat} (h0:0<B) (hB:B≤18446744073709551616): ∀ (n k:Nat),∀ v∈dgL B n k,v.toNat<B
 |n,0,v,h=>by simp [dgL] at h
 |n,k+1,v,h=>by
   simp only [dgL,xK] at h
   rcases h with rfl|h
   ·rw [b2i h0 hB];exact wP n h0
   exact g1z h0 hB _ k v h
theorem n0n {B:Nat} (h0:0<B) (hB:B≤18446744073709551616): ∀ (k n:Nat),Gw B (dgL B n k)=n%B ^ k
 |0,n=>by simp [dgL,Gw,Nat.mod_one]
 |k+1,n=>by
   simp only [dgL,Gw,b2i h0 hB,n0n h0 hB k]
   rw [vK,vF (B ^ k) B,Nat.mod_mul]
theorem b2j {B:Nat} (h0:0<B) (hB:B≤18446744073709551616) {a:List UInt64} (h: ∀ v∈a,v.toNat<B):a=dgL B (Gw B a) a.length:=by
 refine f1g (t0g _ _ _).symm h (g1z h0 hB _ _) ?_
 rw [n0n h0 hB,yN (l1s h)]
def vQ (a b c d:UInt64):Nat:=a.toNat+18446744073709551616*(b.toNat+18446744073709551616*(c.toNat+18446744073709551616*d.toNat))
def w4 (n:Nat):List UInt64:=dgL 18446744073709551616 n 4
def w4C (n:Nat):List L:=Dz (w4 n)
theorem a2c (a b c d:UInt64):Gw 18446744073709551616 [a,b,c,d]=vQ a b c d:=by
 simp [Gw,vQ]
theorem b0p (a b c d:UInt64):vQ a b c d<115792089237316195423570985008687907853269984665640564039457584007913129639936:=by
 have:=a.toNat_lt;have:=b.toNat_lt;have:=c.toNat_lt;have:=d.toNat_lt
 unfold vQ;omega
theorem h1s (a b c d:UInt64): [a,b,c,d]=w4 (vQ a b c d):=by
 rw [←a2c]
 exact b2j (by decide) (by decide) (fun v _=>v.toNat_lt)
theorem j2l {a b c d:UInt64} {n:Nat} (h:vQ a b c d=n): [a,b,c,d]=w4 n:=by rw [←h];exact h1s a b c d
theorem Cz (n:Nat) (hn:n<115792089237316195423570985008687907853269984665640564039457584007913129639936): ∃ a b c d,w4 n=[a,b,c,d]∧vQ a b c d=n:=by
 refine ⟨UInt64.ofNat (n%18446744073709551616),UInt64.ofNat (n/18446744073709551616%18446744073709551616),UInt64.ofNat (n/18446744073709551616/18446744073709551616%18446744073709551616),UInt64.ofNat (n/18446744073709551616/18446744073709551616/18446744073709551616%18446744073709551616),rfl,?_⟩
 rw [←a2c]
 show Gw 18446744073709551616 (w4 n)=n
 rw [w4,n0n (by decide) (by decide)];exact yN hn
def sbS (x y c:UInt64):UInt64:=UInt64.ofNat ((x.toNat+18446744073709551616-y.toNat-c.toNat)%18446744073709551616)
def sbB (x y c:UInt64):UInt64:=if x.toNat<y.toNat+c.toNat then 1 else 0
theorem f1v (x y:UInt64) {c:UInt64} (hc:c.toNat≤1):(sbS x y c).toNat+y.toNat+c.toNat=x.toNat+18446744073709551616*(sbB x y c).toNat∧(sbB x y c).toNat≤1:=by
 have hx:=x.toNat_lt;have hy:=y.toNat_lt
 simp only [sbS,sbB,wD]
 have o1:(1:UInt64).toNat=1:=rfl
 have o0:(0:UInt64).toNat=0:=rfl
 split
 ·rw [o1];omega
 rw [o0];omega
section
variable (a b c d e f g h:UInt64)
def sk1 :=sbB a e 0
def sk2 :=sbB b f (sk1 a e)
def sk3 :=sbB c g (sk2 a b e f)
def sk4 :=sbB d h (sk3 a b c e f g)
theorem f1q :vQ (sbS a e 0) (sbS b f (sk1 a e)) (sbS c g (sk2 a b e f)) (sbS d h (sk3 a b c e f g))+vQ e f g h=vQ a b c d+115792089237316195423570985008687907853269984665640564039457584007913129639936*(sk4 a b c d e f g h).toNat∧(sk4 a b c d e f g h).toNat≤1:=by
 obtain ⟨a1,a2⟩:=f1v a e (c:=0) (by decide)
 obtain ⟨b1,b2⟩:=f1v b f (c:=sk1 a e) a2
 obtain ⟨c1,c2⟩:=f1v c g (c:=sk2 a b e f) b2
 obtain ⟨d1,d2⟩:=f1v d h (c:=sk3 a b c e f g) c2
 have z:(0:UInt64).toNat=0:=rfl
 rw [z] at a1
 refine ⟨?_,d2⟩
 simp only [vQ]
 change (sbS a e 0).toNat+e.toNat+0=a.toNat+18446744073709551616*(sk1 a e).toNat at a1
 change _=b.toNat+18446744073709551616*(sk2 a b e f).toNat at b1
 change _=c.toNat+18446744073709551616*(sk3 a b c e f g).toNat at c1
 change _=d.toNat+18446744073709551616*(sk4 a b c d e f g h).toNat at d1
 omega
theorem e2p (x:UInt64) (hx:x.toNat≤1):(x=1)↔x.toNat=1:=by
 constructor
 ·rintro rfl;rfl
 intro h;exact xS.mp h
theorem c2p :(sk4 a b c d e f g h=1)↔vQ a b c d<vQ e f g h:=by
 obtain ⟨h1,h2⟩:=f1q a b c d e f g h
 have h3:=b0p (sbS a e 0) (sbS b f (sk1 a e)) (sbS c g (sk2 a b e f)) (sbS d h (sk3 a b c e f g))
 have h4:=b0p e f g h
 rw [e2p _ h2]
 omega
theorem c2o : [sbS a e 0,sbS b f (sk1 a e),sbS c g (sk2 a b e f),sbS d h (sk3 a b c e f g)]=w4 ((vQ a b c d+115792089237316195423570985008687907853269984665640564039457584007913129639936-vQ e f g h)%115792089237316195423570985008687907853269984665640564039457584007913129639936):=by
 refine j2l ?_
 obtain ⟨h1,h2⟩:=f1q a b c d e f g h
 have h3:=b0p (sbS a e 0) (sbS b f (sk1 a e)) (sbS c g (sk2 a b e f)) (sbS d h (sk3 a b c e f g))
 have h4:=b0p e f g h
 have h5:=b0p a b c d
 omega
def ak1 :=adC a e 0
def ak2 :=adC b f (ak1 a e)
def ak3 :=adC c g (ak2 a b e f)
def ak4 :=adC d h (ak3 a b c e f g)
theorem k0t :vQ (adS a e 0) (adS b f (ak1 a e)) (adS c g (ak2 a b e f)) (adS d h (ak3 a b c e f g))+115792089237316195423570985008687907853269984665640564039457584007913129639936*(ak4 a b c d e f g h).toNat=vQ a b c d+vQ e f g h∧(ak4 a b c d e f g h).toNat≤1:=by
 obtain ⟨a1,a2⟩:=Rq a e (c:=0) (by decide)
 obtain ⟨b1,b2⟩:=Rq b f (c:=ak1 a e) a2
 obtain ⟨c1,c2⟩:=Rq c g (c:=ak2 a b e f) b2
 obtain ⟨d1,d2⟩:=Rq d h (c:=ak3 a b c e f g) c2
 have z:(0:UInt64).toNat=0:=rfl
 rw [z] at a1
 refine ⟨?_,d2⟩
 simp only [vQ]
 change _+(ak1 a e).toNat*_=_ at a1
 change _+(ak2 a b e f).toNat*_=_ at b1
 change _+(ak3 a b c e f g).toNat*_=_ at c1
 change _+(ak4 a b c d e f g h).toNat*_=_ at d1
 omega
end
def p25 :Nat:=57896044618658097711785492504343953926634992332820282019728792003956564819949
end Go.Sy
namespace Go.Sy
namespace Lk
open Go.Proofs
attribute [local irreducible] Bw HT Aj Jk onC onE onO onG goV goA goS Lx Bz
theorem Oj (x y c:UInt64) (hc:c.toNat≤1):Now Tryz.prog 110 [.w (.one (.pl (.u64 x))),.w (.one (.pl (.u64 y))),.w (.one (.pl (.u64 c)))] (.tup [.one (.pl (.u64 (adS x y c))),.one (.pl (.u64 (adC x y c)))]):=by
 refine ⟨fun k=>rfl,fun w d vals h=>?_⟩
 have hv:vals= #[.int .u64 x.toNat,.int .u64 y.toNat,.int .u64 c.toNat]:=by
  obtain ⟨l⟩:=vals
  simp only at h
  cases h with
  |cons h1 h=>
   cases h with
   |cons h2 h=>
    cases h with
    |cons h3 h=>
     cases h
     simp only [V.den,W.den,L.den] at h1 h2 h3
     rw [PL.den] at h1 h2 h3
     rw [h1,h2,h3]
 subst hv
 have hr:=run_callFunc_extern (P:=Tryz.prog) Tryz.func110 (by kernel_rfl) (by kernel_rfl) (by kernel_rfl) (e:=add64Entry) (by kernel_rfl) #[.int .u64 x.toNat,.int .u64 y.toNat,.int .u64 c.toNat] w
 rw [run_add64 (x.toNat:Int) (y.toNat:Int) (c.toNat:Int) (by omega) (by omega) (by omega) (by omega)] at hr
 refine ⟨_,hr,fun d'=>⟨_,rfl,?_⟩⟩
 have hx:=x.toNat_lt
 have hy:=y.toNat_lt
 refine .cons ?_ (.cons ?_ .nil)
 ·simp only [W.den,L.den]
  rw [PL.den]
  simp only [adS,wD]
  congr 1;omega
 simp only [W.den,L.den]
 rw [PL.den]
 simp only [adC,wD]
 congr 1;omega
def f1p :Array Value→Sem Value:=fun args=>do
 let (x,y,b) ←Extern.MathBitsCarry.three "Sub64" args
 pure (Extern.MathBitsCarry.pair ((x+Extern.MathBitsCarry.m64-y-b)%Extern.MathBitsCarry.m64) (if x<y+b then 1 else 0))
theorem run_sub64 {P:Program} (x y c:Nat) (hc:c≤1) (w:World):
 (f1p #[.int .u64 (x:Int),.int .u64 (y:Int),.int .u64 (c:Int)]).run P w=.ok (Extern.MathBitsCarry.pair ((x+Extern.MathBitsCarry.m64-y-c)%Extern.MathBitsCarry.m64) (if x<y+c then 1 else 0)) w:=by
 have:c=0∨c=1:=by omega
 rcases this with rfl|rfl<;>rfl
theorem o1v (x y c:UInt64) (hc:c.toNat≤1):Now Tryz.prog 129 [.w (.one (.pl (.u64 x))),.w (.one (.pl (.u64 y))),.w (.one (.pl (.u64 c)))] (.tup [.one (.pl (.u64 (sbS x y c))),.one (.pl (.u64 (sbB x y c)))]):=by
 refine ⟨fun k=>rfl,fun w d vals h=>?_⟩
 have hv:vals= #[.int .u64 x.toNat,.int .u64 y.toNat,.int .u64 c.toNat]:=by
  obtain ⟨l⟩:=vals
  simp only at h
  cases h with
  |cons h1 h=>
   cases h with
   |cons h2 h=>
    cases h with
    |cons h3 h=>
     cases h
     simp only [V.den,W.den,L.den] at h1 h2 h3
     rw [PL.den] at h1 h2 h3
     rw [h1,h2,h3]
 subst hv
 have hr:=run_callFunc_extern (P:=Tryz.prog) Tryz.func129 (by kernel_rfl) (by kernel_rfl) (by kernel_rfl) (e:=f1p) (by kernel_rfl) #[.int .u64 x.toNat,.int .u64 y.toNat,.int .u64 c.toNat] w
 rw [run_sub64 x.toNat y.toNat c.toNat hc] at hr
 refine ⟨_,hr,fun d'=>⟨_,rfl,?_⟩⟩
 have hx:=x.toNat_lt
 have hy:=y.toNat_lt
 refine .cons ?_ (.cons ?_ .nil)
 ·simp only [W.den,L.den]
  rw [PL.den]
  simp only [sbS,wD]
  rw [yN (show _%18446744073709551616<2 ^ 64 from wP _ (by decide))];rfl
 simp only [W.den,L.den]
 rw [PL.den]
 simp only [sbB]
 split<;>rfl
end Lk
end Go.Sy
namespace Go.Sy
namespace Lk
open Go.Proofs
attribute [local irreducible] Bw HT Aj Jk onC onE onO onG goV goA goS Lx Bz
theorem q2a (x y c:UInt64):(sbB x y c).toNat≤1:=by
 unfold sbB;split<;>decide
theorem Xv {x y c:UInt64} (h:c.toNat≤1):(adC x y c).toNat≤1:=(Rq x y h).2
theorem x1q (a b c d e f g h:UInt64):V.tup [.agg [.pl (.u64 (sbS a e 0)),.pl (.u64 (sbS b f (sk1 a e))),.pl (.u64 (sbS c g (sk2 a b e f))),.pl (.u64 (sbS d h (sk3 a b c e f g)))],.one (.pl (.b (decide (sk4 a b c d e f g h=1))))]=.tup [.agg (w4C ((vQ a b c d+115792089237316195423570985008687907853269984665640564039457584007913129639936-vQ e f g h)%115792089237316195423570985008687907853269984665640564039457584007913129639936)),.one (.pl (.b (decide (vQ a b c d<vQ e f g h))))]:=by
 rw [w4C,←c2o]
 have:=c2p a b c d e f g h
 rw [decide_eq_decide.mpr this];rfl
theorem x1r (a b c d e f g h:UInt64):
 Ct Tryz.prog 106 [.w (.agg [.pl (.u64 a),.pl (.u64 b),.pl (.u64 c),.pl (.u64 d)]),.w (.agg [.pl (.u64 e),.pl (.u64 f),.pl (.u64 g),.pl (.u64 h)])] (fun v m=>v=.tup [.agg (w4C ((vQ a b c d+115792089237316195423570985008687907853269984665640564039457584007913129639936-vQ e f g h)%115792089237316195423570985008687907853269984665640564039457584007913129639936)),.one (.pl (.b (decide (vQ a b c d<vQ e f g h))))]):=by
 refine Ct.k Tryz.func106 rfl Tryz.ntmps106 (congrArg Array.toList Tryz.results106) (by simp) fun w0 ro=>?_
 refine b0q fun zZ zhZ=>?_
 iterate 99 first
  |(refine Ez (x:=.seq (.region 3 _ _) _) [7,9,10,11,12,13,14,15,16,17,18,19,20,21,22,23,24] ?_;simp only [go_sem,St.forget,fgt];refine Oz fun zN zM zhN zhM=>?_)
  |refine Oz fun zN zM zhN zhM=>?_
  |refine zhK _ ?_
  |(refine Lj fun zK zhK=>?_;simp only [go_sem];(repeat' (first|apply yA|intro _)))
  |(refine zhN _ ?_;clear zhN zhM)
  |refine Cj fun zB zbn zbx zbr zbi=>?_
  |refine Gq ?_
  |(refine Sk (id:=5) [12,13,14,15,16,17,18,19,20,11,21,22,23,6] [0,0,2,6,0,16,48,0,254,510,1022,1022,2047,6143,16383] [(11,13)] mixed (by kernel_rfl) (by simp only [go_sem]) fun zK zhK=>?_;simp only [go_sem];(repeat' (first|apply yA|intro _)))
  |(refine zhK _ _ ?_ ?_;(focus (first|trivial|(simp only [go_sem];done)|(simp only [go_sem];simp;done)|(simp only [go_sem];simp;simp only [go_sem]))))
  |(refine zbn _ ?_;clear zbn zbx zbr zbi)
  |(refine Cw fun zK zhK=>?_;simp only [go_sem];(repeat' (first|apply yA|intro _)))
  |(refine zhM _ _ ?_;clear zhN zhM)
  |refine Jz (x:=.seq (.region 3 _ _) _) 5 ?_
  |refine Jv ?_
  |(refine zbx _ ?_;clear zbn zbx zbr zbi)
  |refine Tk ?_
  |(refine zhZ _ _ ?_;simp only [go_sem];(all_goals (exact x1q a b c d e f g h)))
  |((all_goals refine Vk (by first|rfl|(simp only [go_sem]<;>rfl)) (o1v _ _ _ (by first|decide|exact q2a _ _ _)) ?_);(all_goals simp only [go_sem]);(all_goals repeat' (first|apply yA|intro _)))
  |refine Fw fun zN zM zhN zhM=>?_
  |(refine Dw ?_ ?_;focus (first|rfl|(simp [go_sem];done)))
  |(refine Dk ?_ ?_;focus (first|rfl|(simp [go_sem];done)))
theorem t0y :vQ 18446744073709551597 18446744073709551615 18446744073709551615 9223372036854775807=p25:=by decide+kernel
theorem below_ (a b c d:UInt64):
 CtM Tryz.prog 80 [.w (.agg [.pl (.u64 a),.pl (.u64 b),.pl (.u64 c),.pl (.u64 d)])] [(1000001,⟨false,gPr⟩)] (Told (fun v m=>v=.w (.one (.pl (.b (decide (vQ a b c d<p25)))))∧m=[])):=by
 have hL:=x1r a b c d 18446744073709551597 18446744073709551615 18446744073709551615 9223372036854775807
 rw [t0y] at hL
 obtain ⟨k0,k1,k2,k3,hk,_⟩:=Cz ((vQ a b c d+115792089237316195423570985008687907853269984665640564039457584007913129639936-p25)%115792089237316195423570985008687907853269984665640564039457584007913129639936) (wP _ (by decide))
 rw [w4C,hk] at hL
 have F0:=Dz.eq_1
 refine CtM.go Tryz.func80 rfl Tryz.ntmps80 Tryz.results80 fun w0 ro may fx zZ zhY=>?_
 have cq:=yA (Ct.cv (hL))<|trivial
 refine (fun zX=>goW) ?_
 refine zhY _ _ ?_
 simp only [go_sem,F0]
 all_goals (exact told_plain rfl ⟨rfl,rfl⟩)
end Lk
end Go.Sy
namespace Go.Sy
namespace Lk
open Go.Proofs
attribute [local irreducible] Bw HT Aj Jk onC onE onO onG goV goA goS Lx Bz
theorem p0f :p25=57896044618658097711785492504343953926634992332820282019728792003956564819949:=rfl
theorem p2x {m:Nat} (h:p25≤m) (hm:m<115792089237316195423570985008687907853269984665640564039457584007913129639936):(m+115792089237316195423570985008687907853269984665640564039457584007913129639936-p25)%115792089237316195423570985008687907853269984665640564039457584007913129639936=m-p25:=by
 have:=p0f;omega
theorem u0f (a b c d:UInt64):
 CtM Tryz.prog 76 [.w (.agg [.pl (.u64 a),.pl (.u64 b),.pl (.u64 c),.pl (.u64 d)])] [(1000001,⟨false,gPr⟩)] (Told (fun v m=>v=.w (.agg (w4C (vQ a b c d%p25)))∧m=[])):=by
 have F0:=trivial
 refine CtM.go Tryz.func76 rfl Tryz.ntmps76 Tryz.results76 fun w0 ro may fx zZ zhY=>?_
 refine (fun zX=>goW) ?_
 refine Bv [0] ?_
 simp only [Bj,Cx,Bq,yI,yK,Nat.reduceBEq,beq_self_eq_true,yS,yV,yY,yT,yE,reduceIte]
 refine Gx (fun y=>[]) (fun y=>[(1,⟨false,w4C y.1⟩)]) (fun y=>y.1) (⟨vQ a b c d,b0p a b c d,rfl⟩:{m:Nat//m<115792089237316195423570985008687907853269984665640564039457584007913129639936∧m%p25=vQ a b c d%p25}) ?_ (by (simp only [go_sem,leX,yB,yC,F0];try simp)) (by (simp only [w4C,←h1s,Dz,yL,vO,go_sem,leX,yB,yC];try simp [leX,look]))
 intro yy xN0 xM0 xhN0 xhM0
 simp only [yB,yC]
 obtain ⟨m,hm,hmp⟩:=yy
 obtain ⟨q0,q1,q2,q3,hq,hv⟩:=Cz m hm
 have hB:=below_ q0 q1 q2 q3
 rw [hv] at hB
 simp only [w4C,hq,Dz,yL,vO]
 rcases yZ m p25 with hlt|hge
 ·rw [decide_eq_true hlt] at hB
  have hfin:w4C (vQ a b c d%p25)=Dz [q0,q1,q2,q3]:=by rw [←hmp,yN hlt,w4C,hq]
  have cq:=yA (CtM.ch [] (hB.told))<|trivial
  refine (fun zX=>goW) ?_
  refine zhY _ _ ?_
  simp only [go_sem,F0]
  all_goals (exact told_plain (by simp [Dv,Ew]) ⟨by rw [hfin];rfl,rfl⟩)
 rw [decide_eq_false (by omega)] at hB
 have hL:=x1r q0 q1 q2 q3 18446744073709551597 18446744073709551615 18446744073709551615 9223372036854775807
 rw [t0y,hv,p2x hge hm] at hL
 have hm2:m-p25<115792089237316195423570985008687907853269984665640564039457584007913129639936:=by omega
 obtain ⟨k0,k1,k2,k3,hk,hkv⟩:=Cz (m-p25) hm2
 rw [w4C,hk] at hL
 have hmp2:(m-p25)%p25=vQ a b c d%p25:=by rw [←hmp,Nat.mod_eq_sub_mod hge]
 have hdec:m-p25<m:=Nat.sub_lt (by have:=p0f;omega) (by decide)
 have F0:=yA Dz.eq_1<|F0
 have cq:=yA (CtM.ch [] (hB.told))<|yA (Ct.cv (hL))<|trivial
 refine (fun zX=>goW) ?_
 refine xhN0 ⟨m-p25,hm2,hmp2⟩ _ ?_ ?_ ?_
 ·(exact hdec)
 ·(simp only [go_sem,leX,yB,yC,F0];try simp)
 (simp only [w4C,hk,Dz,yL,vO,go_sem,leX,yB,yC];first|done|rfl|(simp [leX,look];done))
theorem o2r (a b c d e f g h:UInt64) (h1:vQ a b c d<p25) (h2:vQ e f g h<p25) (r:Nat) (hr:r<p25) (hop:CtM Tryz.prog 130 [.w (.agg [.pl (.u64 a),.pl (.u64 b),.pl (.u64 c),.pl (.u64 d)]),.w (.agg [.pl (.u64 e),.pl (.u64 f),.pl (.u64 g),.pl (.u64 h)])] [(1000001,⟨false,gPr⟩)] (Told (fun v m=>v=.w (.agg (w4C r))∧m=[]))):
 CtM Tryz.prog 112 [.w (.one (.fn 130 [])),.w (.agg [.pl (.u64 a),.pl (.u64 b),.pl (.u64 c),.pl (.u64 d)]),.w (.agg [.pl (.u64 e),.pl (.u64 f),.pl (.u64 g),.pl (.u64 h)])] [(1000001,⟨false,gPr⟩)] (Told (fun v m=>v=.tup [.agg (w4C r),.one (.pl (.i 0))]∧m=[])):=by
 have hA:=below_ a b c d
 have hB:=below_ e f g h
 rw [decide_eq_true h1] at hA
 rw [decide_eq_true h2] at hB
 obtain ⟨q0,q1,q2,q3,hq,hv⟩:=Cz r (by have:=p0f;omega)
 simp only [w4C,hq] at hop ⊢
 have F0:=Dz.eq_1
 refine CtM.go Tryz.func112 rfl Tryz.ntmps112 Tryz.results112 fun w0 ro may fx zZ zhY=>?_
 have cq:=yA (CtM.ch [] (hA.told))<|yA (CtM.ch [] (hB.told))<|trivial
 have zS:ZS 3:=⟨⟩
 refine (fun zX=>goW) ?_
 refine ⟨?_⟩;clear zS
 refine Lj fun zK zhK=>?_
 simp only [go_sem,F0]
 repeat' (first|apply yA|intro _)
 all_goals (refine i0p (caps:=[]) false [] (fun k=>k) ?_ ?_ (fun _ _=>rfl) ?_ (by decide) ?_ (show CtM Tryz.prog 130 ([.w (.agg [.pl (.u64 a),.pl (.u64 b),.pl (.u64 c),.pl (.u64 d)]),.w (.agg [.pl (.u64 e),.pl (.u64 f),.pl (.u64 g),.pl (.u64 h)])]++([]:List Nat).map fun k=>V.w (.one (.p k []))) _ _ from hop.told) ?_;iterate 4 (focus (first|rfl|(simp only [go_sem,F0]<;>first|done|rfl|simp))))
 all_goals (rintro v m ⟨hR,hm⟩;subst hR;subst hm)
 all_goals (refine yA ?_ (yA ?_ (yA ?_ ?_));iterate 3 (focus (first|rfl|(simp only [go_sem,F0];done)|(simp [go_sem,look,F0];done))))
 all_goals (try simp only [go_sem,F0])
 all_goals (try simp only [go_sem,F0])
 all_goals repeat' (first|apply yA|intro _)
 refine zhK _ ?_
 refine (fun zX=>goW) ?_
 refine zhY _ _ ?_
 simp only [go_sem,F0]
 all_goals (exact told_plain (by simp [Dv,Ew]) ⟨rfl,rfl⟩)
theorem o2p (a b c d e f g h:UInt64) (h1:vQ a b c d<p25) (h2:vQ e f g h<p25) (r:Nat) (hr:r<p25) (hop:CtM Tryz.prog 131 [.w (.agg [.pl (.u64 a),.pl (.u64 b),.pl (.u64 c),.pl (.u64 d)]),.w (.agg [.pl (.u64 e),.pl (.u64 f),.pl (.u64 g),.pl (.u64 h)])] [(1000001,⟨false,gPr⟩)] (Told (fun v m=>v=.w (.agg (w4C r))∧m=[]))):
 CtM Tryz.prog 112 [.w (.one (.fn 131 [])),.w (.agg [.pl (.u64 a),.pl (.u64 b),.pl (.u64 c),.pl (.u64 d)]),.w (.agg [.pl (.u64 e),.pl (.u64 f),.pl (.u64 g),.pl (.u64 h)])] [(1000001,⟨false,gPr⟩)] (Told (fun v m=>v=.tup [.agg (w4C r),.one (.pl (.i 0))]∧m=[])):=by
 have hA:=below_ a b c d
 have hB:=below_ e f g h
 rw [decide_eq_true h1] at hA
 rw [decide_eq_true h2] at hB
 obtain ⟨q0,q1,q2,q3,hq,hv⟩:=Cz r (by have:=p0f;omega)
 simp only [w4C,hq] at hop ⊢
 have F0:=Dz.eq_1
 refine CtM.go Tryz.func112 rfl Tryz.ntmps112 Tryz.results112 fun w0 ro may fx zZ zhY=>?_
 have cq:=yA (CtM.ch [] (hA.told))<|yA (CtM.ch [] (hB.told))<|trivial
 have zS:ZS 3:=⟨⟩
 refine (fun zX=>goW) ?_
 refine ⟨?_⟩;clear zS
 refine Lj fun zK zhK=>?_
 simp only [go_sem,F0]
 repeat' (first|apply yA|intro _)
 all_goals (refine i0p (caps:=[]) false [] (fun k=>k) ?_ ?_ (fun _ _=>rfl) ?_ (by decide) ?_ (show CtM Tryz.prog 131 ([.w (.agg [.pl (.u64 a),.pl (.u64 b),.pl (.u64 c),.pl (.u64 d)]),.w (.agg [.pl (.u64 e),.pl (.u64 f),.pl (.u64 g),.pl (.u64 h)])]++([]:List Nat).map fun k=>V.w (.one (.p k []))) _ _ from hop.told) ?_;iterate 4 (focus (first|rfl|(simp only [go_sem,F0]<;>first|done|rfl|simp))))
 all_goals (rintro v m ⟨hR,hm⟩;subst hR;subst hm)
 all_goals (refine yA ?_ (yA ?_ (yA ?_ ?_));iterate 3 (focus (first|rfl|(simp only [go_sem,F0];done)|(simp [go_sem,look,F0];done))))
 all_goals (try simp only [go_sem,F0])
 all_goals (try simp only [go_sem,F0])
 all_goals repeat' (first|apply yA|intro _)
 refine zhK _ ?_
 refine (fun zX=>goW) ?_
 refine zhY _ _ ?_
 simp only [go_sem,F0]
 all_goals (exact told_plain (by simp [Dv,Ew]) ⟨rfl,rfl⟩)
theorem o2q (a b c d e f g h:UInt64) (h1:vQ a b c d<p25) (h2:vQ e f g h<p25) (r:Nat) (hr:r<p25) (hop:CtM Tryz.prog 81 [.w (.agg [.pl (.u64 a),.pl (.u64 b),.pl (.u64 c),.pl (.u64 d)]),.w (.agg [.pl (.u64 e),.pl (.u64 f),.pl (.u64 g),.pl (.u64 h)])] [(1000001,⟨false,gPr⟩)] (Told (fun v m=>v=.w (.agg (w4C r))∧m=[]))):
 CtM Tryz.prog 112 [.w (.one (.fn 81 [])),.w (.agg [.pl (.u64 a),.pl (.u64 b),.pl (.u64 c),.pl (.u64 d)]),.w (.agg [.pl (.u64 e),.pl (.u64 f),.pl (.u64 g),.pl (.u64 h)])] [(1000001,⟨false,gPr⟩)] (Told (fun v m=>v=.tup [.agg (w4C r),.one (.pl (.i 0))]∧m=[])):=by
 have hA:=below_ a b c d
 have hB:=below_ e f g h
 rw [decide_eq_true h1] at hA
 rw [decide_eq_true h2] at hB
 obtain ⟨q0,q1,q2,q3,hq,hv⟩:=Cz r (by have:=p0f;omega)
 simp only [w4C,hq] at hop ⊢
 have F0:=Dz.eq_1
 refine CtM.go Tryz.func112 rfl Tryz.ntmps112 Tryz.results112 fun w0 ro may fx zZ zhY=>?_
 have cq:=yA (CtM.ch [] (hA.told))<|yA (CtM.ch [] (hB.told))<|trivial
 have zS:ZS 3:=⟨⟩
 refine (fun zX=>goW) ?_
 refine ⟨?_⟩;clear zS
 refine Lj fun zK zhK=>?_
 simp only [go_sem,F0]
 repeat' (first|apply yA|intro _)
 all_goals (refine i0p (caps:=[]) false [] (fun k=>k) ?_ ?_ (fun _ _=>rfl) ?_ (by decide) ?_ (show CtM Tryz.prog 81 ([.w (.agg [.pl (.u64 a),.pl (.u64 b),.pl (.u64 c),.pl (.u64 d)]),.w (.agg [.pl (.u64 e),.pl (.u64 f),.pl (.u64 g),.pl (.u64 h)])]++([]:List Nat).map fun k=>V.w (.one (.p k []))) _ _ from hop.told) ?_;iterate 4 (focus (first|rfl|(simp only [go_sem,F0]<;>first|done|rfl|simp))))
 all_goals (rintro v m ⟨hR,hm⟩;subst hR;subst hm)
 all_goals (refine yA ?_ (yA ?_ (yA ?_ ?_));iterate 3 (focus (first|rfl|(simp only [go_sem,F0];done)|(simp [go_sem,look,F0];done))))
 all_goals (try simp only [go_sem,F0])
 all_goals (try simp only [go_sem,F0])
 all_goals repeat' (first|apply yA|intro _)
 refine zhK _ ?_
 refine (fun zX=>goW) ?_
 refine zhY _ _ ?_
 simp only [go_sem,F0]
 all_goals (exact told_plain (by simp [Dv,Ew]) ⟨rfl,rfl⟩)
end Lk
end Go.Sy
