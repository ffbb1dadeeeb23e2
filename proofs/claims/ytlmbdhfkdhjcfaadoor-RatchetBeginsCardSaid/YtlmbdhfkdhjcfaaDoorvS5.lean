/- Walks and what they compute. CONDITIONS: those that each theorem names. -/
import Derived.Test.YtlmbdhfkdhjcfaaDoorvS4
import Derived.Test.YtlmbdhfkdhjcfaaDoorvE5
import Derived.Test.YtlmbdhfkdhjcfaaDoorvE3
import Derived.Test.YtlmbdhfkdhjcfaaDoorvS1
import Derived.Test.YtlmbdhfkdhjcfaaDoorvS2
import Derived.Test.YtlmbdhfkdhjcfaaDoorvE4
set_option linter.unusedVariables false
set_option linter.unusedSimpArgs false
set_option maxHeartbeats 3200000
set_option maxRecDepth 100000
namespace Go.Sy
namespace Bk
open Go.Proofs
attribute [local irreducible] Dv HT Cz Px onC onE onO onG goV goA goS Qx Dw
def q0v (b:List UInt8) (k:Nat):UInt32:=(lev ((b.drop (4*k)).take 4)).toUInt32
theorem p0b {x:UInt32} {b:UInt8} (h:x.toNat<16777216):(Zz x 8|||b.toUInt32).toNat=x.toNat*256+b.toNat:=by
 have hb:=b.toNat_lt
 have s:(Zz x 8).toNat=x.toNat*2 ^ 8:=by
  simp only [Zz,UInt32.toNat_ofNat']
  exact Nat.mod_eq_of_lt (by omega)
 rw [UInt32.toNat_or,s,UInt8.toNat_toUInt32,Nat.mul_comm,←Nat.two_pow_add_eq_or_of_lt (i:=8) hb]
theorem j1p {b0 b1 b2 b3:UInt8}:Zz (Zz (Zz (Zz 0 8|||b3.toUInt32) 8|||b2.toUInt32) 8|||b1.toUInt32) 8|||b0.toUInt32=(lev [b0,b1,b2,b3]).toUInt32:=by
 have h0:=b0.toNat_lt
 have h1:=b1.toNat_lt
 have h2:=b2.toNat_lt
 have h3:=b3.toNat_lt
 have e0:((0:UInt32)).toNat=0:=rfl
 have e3:=p0b (x:=0) (b:=b3) (by rw [e0];decide)
 have e2:=p0b (x:=Zz 0 8|||b3.toUInt32) (b:=b2) (by rw [e3,e0];omega)
 have e1:=p0b (x:=Zz (Zz 0 8|||b3.toUInt32) 8|||b2.toUInt32) (b:=b1) (by rw [e2,e3,e0];omega)
 have ee:=p0b (x:=Zz (Zz (Zz 0 8|||b3.toUInt32) 8|||b2.toUInt32) 8|||b1.toUInt32) (b:=b0) (by rw [e1,e2,e3,e0];omega)
 apply UInt32.toNat_inj.mp
 rw [ee,e1,e2,e3,e0,UInt64.toNat_toUInt32]
 rw [f1p (by simp)]
 simp only [leN];omega
theorem c2d {l:List UInt8} {j:Nat} (h:j+4≤l.length):(l.drop j).take 4=[l.getD j 0,l.getD (j+1) 0,l.getD (j+2) 0,l.getD (j+3) 0]:=by
 rw [drop_cons (by omega),drop_cons (l:=l) (j:=j+1) (by omega),drop_cons (l:=l) (j:=j+1+1) (by omega),drop_cons (l:=l) (j:=j+1+1+1) (by omega)]
 rfl
theorem Mj {q:List UInt8} {i:Nat} (h:i<q.length):List.take 1 (List.drop i q)=[q.getD i 0]:=by
 rw [List.drop_eq_getElem_cons h,List.take_succ_cons,List.take_zero]
 simp [List.getD,List.getElem?_eq_getElem h]
theorem Ay (x:UInt8):Az [x]=[.pl (.u8 x)]:=rfl
theorem k0k {l:List UInt32} {i:Nat} (h:i<l.length):List.take 1 (List.drop i (Lv l))=[.pl (.u32 (l.getD i 0))]:=by
 rw [List.drop_eq_getElem_cons (by simpa [Lv] using h),List.take_succ_cons,List.take_zero]
 simp [Lv,List.getD,List.getElem?_eq_getElem h]
theorem h0t (l:List UInt32):(Lv l).length=l.length:=by simp [Lv]
theorem f0t {q:List UInt32} {j:Nat} (x:UInt32) (h:j<q.length):List.take j (Lv q)++[L.pl (PL.u32 x)]++List.drop (j+1) (Lv q)=Lv (q.set j x):=by
 rw [List.set_eq_take_append_cons_drop,if_pos h];simp [Lv]
theorem Lj {q:List UInt32} {i j:Nat} {x:UInt32} (h:i<q.length):(q.set i x).getD j 0=if i=j then x else q.getD j 0:=by
 simp only [List.getD,List.getElem?_set]
 split
 · rename_i e;subst e;simp [h]
 · rfl
structure W16 where
 x0:UInt32
 x1:UInt32
 x2:UInt32
 x3:UInt32
 x4:UInt32
 x5:UInt32
 x6:UInt32
 x7:UInt32
 x8:UInt32
 x9:UInt32
 x10:UInt32
 x11:UInt32
 x12:UInt32
 x13:UInt32
 x14:UInt32
 x15:UInt32
def W16.ls (w:W16):List L:=[.pl (.u32 w.x0),.pl (.u32 w.x1),.pl (.u32 w.x2),.pl (.u32 w.x3),.pl (.u32 w.x4),.pl (.u32 w.x5),.pl (.u32 w.x6),.pl (.u32 w.x7),.pl (.u32 w.x8),.pl (.u32 w.x9),.pl (.u32 w.x10),.pl (.u32 w.x11),.pl (.u32 w.x12),.pl (.u32 w.x13),.pl (.u32 w.x14),.pl (.u32 w.x15)]
def W16.l (w:W16):List UInt32:=[w.x0,w.x1,w.x2,w.x3,w.x4,w.x5,w.x6,w.x7,w.x8,w.x9,w.x10,w.x11,w.x12,w.x13,w.x14,w.x15]
theorem W16.ls_l (w:W16):w.ls=Lv w.l:=rfl
theorem W16.l_len (w:W16):w.l.length=16:=rfl
theorem t1c (k:Nat) (w:W16):w.ls.map (Tx k)=w.ls:=rfl
theorem l1k (k:Nat):i0r.any (L.has k)=false:=by
 rw [List.any_eq_false]
 intro x hx
 obtain ⟨y,_,rfl⟩:=List.mem_map.mp hx
 simp [L.has]
attribute [go_sem] t1c l1k
def W16.col (y:Nat→UInt32) (w:W16):W16:=⟨(mA w.x0 w.x4 w.x8 w.x12 (y 0) (y 1)),(mA w.x1 w.x5 w.x9 w.x13 (y 2) (y 3)),(mA w.x2 w.x6 w.x10 w.x14 (y 4) (y 5)),(mA w.x3 w.x7 w.x11 w.x15 (y 6) (y 7)),(mB w.x0 w.x4 w.x8 w.x12 (y 0) (y 1)),(mB w.x1 w.x5 w.x9 w.x13 (y 2) (y 3)),(mB w.x2 w.x6 w.x10 w.x14 (y 4) (y 5)),(mB w.x3 w.x7 w.x11 w.x15 (y 6) (y 7)),(mC w.x0 w.x4 w.x8 w.x12 (y 0) (y 1)),(mC w.x1 w.x5 w.x9 w.x13 (y 2) (y 3)),(mC w.x2 w.x6 w.x10 w.x14 (y 4) (y 5)),(mC w.x3 w.x7 w.x11 w.x15 (y 6) (y 7)),(mD w.x0 w.x4 w.x8 w.x12 (y 0) (y 1)),(mD w.x1 w.x5 w.x9 w.x13 (y 2) (y 3)),(mD w.x2 w.x6 w.x10 w.x14 (y 4) (y 5)),(mD w.x3 w.x7 w.x11 w.x15 (y 6) (y 7))⟩
def W16.diag (y:Nat→UInt32) (w:W16):W16:=⟨(mA w.x0 w.x5 w.x10 w.x15 (y 8) (y 9)),(mA w.x1 w.x6 w.x11 w.x12 (y 10) (y 11)),(mA w.x2 w.x7 w.x8 w.x13 (y 12) (y 13)),(mA w.x3 w.x4 w.x9 w.x14 (y 14) (y 15)),(mB w.x3 w.x4 w.x9 w.x14 (y 14) (y 15)),(mB w.x0 w.x5 w.x10 w.x15 (y 8) (y 9)),(mB w.x1 w.x6 w.x11 w.x12 (y 10) (y 11)),(mB w.x2 w.x7 w.x8 w.x13 (y 12) (y 13)),(mC w.x2 w.x7 w.x8 w.x13 (y 12) (y 13)),(mC w.x3 w.x4 w.x9 w.x14 (y 14) (y 15)),(mC w.x0 w.x5 w.x10 w.x15 (y 8) (y 9)),(mC w.x1 w.x6 w.x11 w.x12 (y 10) (y 11)),(mD w.x1 w.x6 w.x11 w.x12 (y 10) (y 11)),(mD w.x2 w.x7 w.x8 w.x13 (y 12) (y 13)),(mD w.x3 w.x4 w.x9 w.x14 (y 14) (y 15)),(mD w.x0 w.x5 w.x10 w.x15 (y 8) (y 9))⟩
def b0h (b:List UInt8) (r i:Nat):UInt32:=q0v b (e0d r i)
def Wx (b:List UInt8):Nat→W16→W16
 |0,w=>w
 |k+1,w=>((Wx b k w).col (b0h b k)).diag (b0h b k)
def e0e (b:List UInt8) (k:Nat) (q:List UInt32):Nat→List UInt32
 |0=>q
 |i+1=>m0t (e0e b k q i) i (4+i) (8+i) (12+i) (b0h b k (2*i)) (b0h b k (2*i+1))
def l0z (b:List UInt8) (k:Nat) (q:List UInt32):Nat→List UInt32
 |0=>q
 |i+1=>m0t (l0z b k q i) i (4+(i+1)%4) (8+(i+2)%4) (12+(i+3)%4) (b0h b k (8+2*i)) (b0h b k (9+2*i))
theorem g0t (b:List UInt8) (k:Nat) (q:List UInt32): ∀ i,(e0e b k q i).length=q.length
 |0=>rfl
 |i+1=>by rw [e0e,p0u,g0t b k q i]
theorem t0n (b:List UInt8) (k:Nat) (q:List UInt32): ∀ i,(l0z b k q i).length=q.length
 |0=>rfl
 |i+1=>by rw [l0z,p0u,t0n b k q i]
theorem z0m (b:List UInt8) (k:Nat) (w:W16):e0e b k w.l 4=(w.col (b0h b k)).l:=by
 simp only [e0e,W16.l,Nat.zero_add,Nat.mul_zero,Nat.add_zero,Nat.mul_one,Nat.reduceAdd,Nat.reduceMul,p1k,p1j,p1i,p1h];rfl
theorem h1t (b:List UInt8) (k:Nat) (w:W16):l0z b k w.l 4=(w.diag (b0h b k)).l:=by
 simp only [l0z,W16.l,Nat.zero_add,Nat.mul_zero,Nat.add_zero,Nat.mul_one,Nat.reduceAdd,Nat.reduceMul,Nat.reduceMod,z1y,z1x,z1w,z1v];rfl
def w1d (r:Nat):List L:=(List.range 16).map fun i=>L.pl (PL.i ((e0d r i:Nat):Int))
theorem j0v (r:Nat):(w1d r).length=16:=by simp [w1d]
theorem row_one (r:Nat) {i:Nat} (h:i<16):List.take 1 (List.drop i (w1d r))=[L.pl (PL.i ((e0d r i:Nat):Int))]:=by
 rw [List.drop_eq_getElem_cons (by rw [j0v];exact h),List.take_succ_cons,List.take_zero];simp [w1d]
theorem l1h {r:Nat} (hr:r<10):List.take 16 (List.drop (r*16) i0r)=w1d r:=by rw [s1a hr];rfl
theorem l1j (k r:Nat):(w1d r).any (L.has k)=false:=by
 rw [List.any_eq_false]
 intro x hx
 obtain ⟨y,_,rfl⟩:=List.mem_map.mp hx
 simp [L.has]
attribute [go_sem] l1j
structure H8 where
 h0:UInt32
 h1:UInt32
 h2:UInt32
 h3:UInt32
 h4:UInt32
 h5:UInt32
 h6:UInt32
 h7:UInt32
def H8.ls (w:H8):List L:=[.pl (.u32 w.h0),.pl (.u32 w.h1),.pl (.u32 w.h2),.pl (.u32 w.h3),.pl (.u32 w.h4),.pl (.u32 w.h5),.pl (.u32 w.h6),.pl (.u32 w.h7)]
theorem u1f (k:Nat) (w:H8):w.ls.map (Tx k)=w.ls:=rfl
attribute [go_sem] u1f
def a2g (h:H8) (len:Nat) (last:Bool):W16:=⟨h.h0,h.h1,h.h2,h.h3,h.h4,h.h5,h.h6,h.h7,1779033703,3144134277,1013904242,2773480762,1359893119^^^UInt32.ofNat len,2600822924,if last then ~~~528734635 else 528734635,1541459225⟩
def c2t (h:H8) (w:W16):H8:=⟨h.h0^^^(w.x0^^^w.x8),h.h1^^^(w.x1^^^w.x9),h.h2^^^(w.x2^^^w.x10),h.h3^^^(w.x3^^^w.x11),h.h4^^^(w.x4^^^w.x12),h.h5^^^(w.x5^^^w.x13),h.h6^^^(w.x6^^^w.x14),h.h7^^^(w.x7^^^w.x15)⟩
def e0t (h:H8) (b:List UInt8) (len:Nat) (last:Bool):H8:=c2t h (Wx b 10 (a2g h len last))
end Bk
end Go.Sy
namespace Go.Sy
namespace Bk
open Go.Proofs
attribute [local irreducible] Dv HT Cz Px onC onE onO onG goV goA goS Qx Dw
theorem s1s (l:List UInt8) (hl:l.length≤4096):
 Ct Tryd.prog 81 [.w (.one (.pl (.str l)))] (fun v m=>v=.w (.one (.pl (.u64 (lev l))))):=by
 have hw0:Go.RowKit.wrap64 (((l.length:Nat):Int)-1)=((l.length:Nat):Int)-1:=w64 (by omega)
 refine Ct.k Tryd.func81 rfl Tryd.ntmps81 (congrArg Array.toList Tryd.results81) (by simp) fun w0 ro=>?_
 refine Dj fun zZ zhZ=>?_
 iterate 8 first
  |(refine Cx fun zK zhK=>?_;simp only [go_sem,hw0];(repeat' (first|apply And.intro|intro _)))
  |refine zhK _ ?_
  |refine Aj fun zB zbn zbx zbr zbi=>?_
  |refine Bz fun zN zM zhN zhM=>?_
 refine Gv [5,6,7] ?_
 simp only [Gj,Iq,Gq,List.contains_cons,List.contains_nil,Nat.reduceBEq,beq_self_eq_true,Bool.or_false,Bool.or_true,Bool.true_or,Bool.false_or,Bool.false_eq_true,reduceIte]
 refine Jz (fun y=>[(3,.w (.one (.pl (.u64 (lev (l.drop y.1)))))),(4,.w (.one (.pl (.i (((y.1:Nat):Int)-1)))))]) (fun _=>[]) (fun y=>y.1) (⟨l.length,Nat.le_refl _⟩:{y:Nat//y≤l.length}) ?_ ?_ ?_
 · (simp only [go_sem,List.drop_length,leX,List.cons_append,List.nil_append];first|rfl|simp [lev,leN])
 · (simp only [go_sem,leX,List.cons_append,List.nil_append];try simp)
 intro yy zN zM zhN zhM
 simp only [List.cons_append,List.nil_append]
 obtain ⟨j,hj⟩:=yy
 rcases j with _|j
 · have hc:¬(0:Int)≤((0:Nat):Int)-1:=by omega
   iterate 13 first
    |(refine Cx fun zK zhK=>?_;simp only [go_sem,hw0,hc];(repeat' (first|apply And.intro|intro _)))
    |refine zhK _ ?_
    |(refine zhM _ _ ?_;clear zhN zhM)
    |refine Ey ?_
    |(refine zbx _ ?_;clear zbn zbx zbr zbi)
    |(refine zhN _ ?_;clear zhN zhM)
    |refine Dx ?_
    |(refine zhZ _ _ ?_;simp only [go_sem,hw0,hc];(all_goals (simp only [List.drop_zero])))
    |refine Bz fun zN zM zhN zhM=>?_
    |(refine Cy ?_ ?_;focus (first|rfl|(simp [go_sem,hw0,hc];done)))
 · have hlt:j<l.length:=by omega
   have hd:=drop_cons hlt
   have hc:(0:Int)≤((j+1:Nat):Int)-1:=by omega
   have hij:((j+1:Nat):Int)-1=((j:Nat):Int):=by omega
   have hc1:(0:Int)≤((j:Nat):Int):=by omega
   have hc2:((j:Nat):Int)<((l.length:Nat):Int):=by omega
   have hg0:=d0k hlt
   have hw:Go.RowKit.wrap64 (((j:Nat):Int)-1)=((j:Nat):Int)-1:=w64 (by omega)
   have hle:lev (l.drop j)=lev (l.drop (j+1))*256+UInt64.ofNat (l.getD j 0).toNat:=by rw [hd];exact (t1j (l.drop (j+1)) _).symm
   have F9:=And.intro hc<|And.intro hij<|And.intro hc1<|And.intro hc2<|And.intro hg0<|hw
   iterate 14 first
    |refine zhK _ ?_
    |(refine zhN _ ?_;clear zhN zhM)
    |(refine Av fun zK zhK=>?_;simp only [go_sem,hw0,F9];(repeat' (first|apply And.intro|intro _)))
    |(refine Cx fun zK zhK=>?_;simp only [go_sem,hw0,F9];(repeat' (first|apply And.intro|intro _)))
    |refine Cw ?_
    |refine Aj fun zB zbn zbx zbr zbi=>?_
    |(refine zbn _ ?_;clear zbn zbx zbr zbi)
    |refine Bz fun zN zM zhN zhM=>?_
    |(refine Bv ?_ ?_;focus (first|rfl|(simp [go_sem,hw0,F9];done)))
   refine zhN ⟨j,by omega⟩ _ ?_ ?_ ?_
   · (show j<j+1;omega)
   · (rw [hle];simp only [go_sem,leX,List.cons_append,List.nil_append];try simp)
   · (simp only [go_sem,leX,List.cons_append,List.nil_append];try simp)
theorem d2a (n:UInt64) (k:Nat) (hk:k≤4096):
 Ct Tryd.prog 14 [.w (.one (.pl (.u64 n))),.w (.one (.pl (.i (k:Int))))] (fun v m=>v=.w (.one (.pl (.str (o0a n k))))):=by
 refine Ct.k Tryd.func14 rfl Tryd.ntmps14 (congrArg Array.toList Tryd.results14) (by simp) fun w0 ro=>?_
 refine Dj fun zZ zhZ=>?_
 iterate 8 first
  |(refine Cx fun zK zhK=>?_;simp only [go_sem];(repeat' (first|apply And.intro|intro _)))
  |refine zhK _ ?_
  |refine Aj fun zB zbn zbx zbr zbi=>?_
  |refine Bz fun zN zM zhN zhM=>?_
 refine Gv [1] ?_
 simp only [Gj,Iq,Gq,List.contains_cons,List.contains_nil,Nat.reduceBEq,beq_self_eq_true,Bool.or_false,Bool.or_true,Bool.true_or,Bool.false_or,Bool.false_eq_true,reduceIte]
 refine Jz (fun y=>[(0,.w (.one (.pl (.u64 y.1.2.2)))),(5,.w (.one (.pl (.str y.1.2.1)))),(7,.w (.one (.pl (.i ((y.1.1:Nat):Int)))))]) (fun _=>[]) (fun y=>k-y.1.1) (⟨(0,[],n),Nat.zero_le _,rfl,rfl⟩:{y:Nat×List UInt8×UInt64//y.1≤k∧y.2.1.length=y.1∧y.2.1++o0a y.2.2 (k-y.1)=o0a n k}) ?_ ?_ ?_
 · (simp only [go_sem,leX,List.cons_append,List.nil_append];try simp)
 · (simp only [go_sem,leX,List.cons_append,List.nil_append];try simp)
 intro yy zN zM zhN zhM
 simp only [List.cons_append,List.nil_append]
 obtain ⟨⟨i,s,x⟩,hi,hs,hx⟩:=yy
 rcases Nat.lt_or_ge i k with hlt|hge
 · simp only at hi hs hx
   have hc:((i:Nat):Int)<((k:Nat):Int):=by omega
   have hsl:s.length+1≤9223372036854775807:=by omega
   have hz:¬(256:UInt64)=0:=by decide
   have hk1:k-i=(k-(i+1))+1:=by omega
   rw [hk1,o0a] at hx
   have hs1:Go.RowKit.wrap64 (((i:Nat):Int)+1)=((i+1:Nat):Int):=Ny (by omega) (by omega)
   have F6:=And.intro hc<|And.intro hsl<|And.intro hz<|hs1
   iterate 16 first
    |refine zhK _ ?_
    |(refine Cx fun zK zhK=>?_;simp only [go_sem,F6];(repeat' (first|apply And.intro|intro _)))
    |(refine zhN _ ?_;clear zhN zhM)
    |(refine Av fun zK zhK=>?_;simp only [go_sem,F6];(repeat' (first|apply And.intro|intro _)))
    |refine Cw ?_
    |refine Aj fun zB zbn zbx zbr zbi=>?_
    |(refine zbn _ ?_;clear zbn zbx zbr zbi)
    |refine Bz fun zN zM zhN zhM=>?_
    |(refine Bv ?_ ?_;focus (first|rfl|(simp [go_sem,F6];done)))
   refine zhN ⟨(i+1,s++[UInt8.ofNat x.toNat],x/256),hlt,by simp [hs],by rw [←hx];simp⟩ _ ?_ ?_ ?_
   · (clear hs1;show k-(i+1)<k-i;omega)
   · (simp only [go_sem,leX,List.cons_append,List.nil_append];try simp)
   · (simp only [go_sem,leX,List.cons_append,List.nil_append];try simp)
 · simp only at hi hs hx
   have hik:i=k:=by omega
   subst hik
   rw [Nat.sub_self,o0a,List.append_nil] at hx
   have hc:¬((i:Nat):Int)<((i:Nat):Int):=by omega
   iterate 13 first
    |(refine Cx fun zK zhK=>?_;simp only [go_sem,hc];(repeat' (first|apply And.intro|intro _)))
    |refine zhK _ ?_
    |(refine zhM _ _ ?_;clear zhN zhM)
    |refine Ey ?_
    |(refine zbx _ ?_;clear zbn zbx zbr zbi)
    |(refine zhN _ ?_;clear zhN zhM)
    |refine Dx ?_
    |(refine zhZ _ _ ?_;simp only [go_sem,hc];(all_goals (rw [hx])))
    |refine Bz fun zN zM zhN zhM=>?_
    |(refine Cy ?_ ?_;focus (first|rfl|(simp [go_sem,hc];done)))
theorem w1o (b:List UInt8) (hb:b.length=64) (r i:Nat) (hr:r<10) (hi:i<16):
 CtM Tryd.prog 79 [.w (.one (.pl (.i (r:Int)))),.w (.one (.pl (.i (i:Int)))),.w (.one (.p 500000 []))] [(500000,⟨false,[.pl (.str b)]⟩)] (fun v m=>v=.w (.one (.pl (.u32 (b0h b r i))))∧m=[(500000,⟨false,[.pl (.str b)]⟩)]):=by
 obtain ⟨k,hk⟩: ∃ k,e0d r i=k:=⟨_,rfl⟩
 have hkl:=s0m hr hi
 rw [hk] at hkl
 have hu:b0h b r i=(lev ((b.drop (4*k)).take 4)).toUInt32:=by rw [b0h,hk,q0v]
 have hw:Go.RowKit.wrap64 (4*((k:Nat):Int))=((4*k:Nat):Int):=Ny (by omega) (by omega)
 have hw2:Go.RowKit.wrap64 (((4*k:Nat):Int)+4)=((4*k+4:Nat):Int):=Ny (by omega) (by omega)
 have d0:(0:Int)≤((4*k+4:Nat):Int)∧(0:Int)≤((4*k:Nat):Int)∧((4*k:Nat):Int)≤((4*k+4:Nat):Int)∧((4*k+4:Nat):Int)≤64:=by omega
 have d1:4*k≤4*k+4∧4*k+4≤64∧4*k+4-4*k=4:=by omega
 have F0:=And.intro hb<|And.intro hk<|And.intro hw<|And.intro hw2<|And.intro d0<|d1
 refine CtM.k Tryd.func79 rfl Tryd.ntmps79 (congrArg Array.toList Tryd.results79) (by simp) fun w0 ro may fx=>?_
 refine Dj fun zZ zhZ=>?_
 refine Cx fun zK zhK=>?_
 simp only [go_sem,F0]
 repeat' (first|apply And.intro|intro _)
 refine zhK _ ?_
 refine Cx fun zK zhK=>?_
 simp only [go_sem,F0]
 repeat' (first|apply And.intro|intro _)
 all_goals (refine Cq (fun k=>k) (fun _ _=>rfl) ?_ ((y1t r i hr hi).plain fun _ _ h=>h) ?_;focus (first|rfl|(simp only [go_sem,F0]<;>rfl)))
 all_goals (rintro v m ⟨hR,hm⟩;subst hR;subst hm)
 all_goals refine And.intro (by first|rfl|simp only [go_sem,F0]) (And.intro (by first|rfl|simp only [go_sem,F0]) ?_)
 all_goals simp only [go_sem,F0]
 all_goals repeat' (first|apply And.intro|intro _)
 refine zhK _ ?_
 refine Cx fun zK zhK=>?_
 simp only [go_sem,F0]
 repeat' (first|apply And.intro|intro _)
 all_goals refine Cq (fun k=>k) (fun _ _=>rfl) (by first|rfl|(simp only [go_sem,F0]<;>rfl)) ((s1s _ (by first|(simp [List.length_take,List.length_drop];done)|(simp only [List.length_take,List.length_drop];omega))).plain fun _ _ h=>h) ?_
 all_goals (rintro v m ⟨hR,hm⟩;subst hR;subst hm)
 all_goals refine And.intro (by first|rfl|simp only [go_sem,F0]) (And.intro (by first|rfl|simp only [go_sem,F0]) ?_)
 all_goals simp only [go_sem,F0]
 all_goals repeat' (first|apply And.intro|intro _)
 refine zhK _ ?_
 refine Dx ?_
 refine zhZ _ _ ?_
 simp only [go_sem,F0]
 all_goals (first|exact ⟨by rw [hu],rfl⟩|rw [hu]|(rw [hu];rfl))
theorem x0p (b:List UInt8) (hb:b.length=64) (r i:Nat) (hr:r<10) (hi:i<16):CtM Tryd.prog 79 ([.w (.one (.pl (.i (r:Int)))),.w (.one (.pl (.i (i:Int))))]++[500000].map fun k=>.w (.one (.p k []))) [(500000,⟨false,[.pl (.str b)]⟩)] (fun v m=>v=.w (.one (.pl (.u32 (b0h b r i))))∧m=[(500000,⟨false,[.pl (.str b)]⟩)]):=w1o b hb r i hr hi
def W16.sh (w:W16):W16:=⟨w.x0,w.x1,w.x2,w.x3,w.x5,w.x6,w.x7,w.x4,w.x10,w.x11,w.x8,w.x9,w.x15,w.x12,w.x13,w.x14⟩
def W16.unsh (w:W16):W16:=⟨w.x0,w.x1,w.x2,w.x3,w.x7,w.x4,w.x5,w.x6,w.x10,w.x11,w.x8,w.x9,w.x13,w.x14,w.x15,w.x12⟩
theorem d1y (x0 x1 x2 x3 x4 x5 x6 x7 x8 x9 x10 x11 x12 x13 x14 x15:UInt32):
 Ct Tryd.prog 82 [.w (.agg [.pl (.u32 x0),.pl (.u32 x1),.pl (.u32 x2),.pl (.u32 x3),.pl (.u32 x4),.pl (.u32 x5),.pl (.u32 x6),.pl (.u32 x7),.pl (.u32 x8),.pl (.u32 x9),.pl (.u32 x10),.pl (.u32 x11),.pl (.u32 x12),.pl (.u32 x13),.pl (.u32 x14),.pl (.u32 x15)]),.w (.one (.pl (.i 0)))] (fun v m=>v=.w (.agg (⟨x0,x1,x2,x3,x4,x5,x6,x7,x8,x9,x10,x11,x12,x13,x14,x15⟩:W16).ls)):=by
 refine Ct.k Tryd.func82 rfl Tryd.ntmps82 (congrArg Array.toList Tryd.results82) (by simp) fun w0 ro=>?_
 refine Dj fun zZ zhZ=>?_
 iterate 427 first
  |(refine Cv (x:=.seq (.region 6 _ _) _) [7,12,13,14,15,16,17,18,19,20,21,22,23,24,25,26,27,28,29] ?_;simp only [go_sem,St.forget,fgt];refine Fq fun zN zM zhN zhM=>?_)
  |(refine Cv (x:=.seq (.region 3 _ _) _) [6,7,9,10,11,12,13,14,15,16,17,18,19,20,21,22,23,24,25,26,27,28,29,30] ?_;simp only [go_sem,St.forget,fgt];refine Fq fun zN zM zhN zhM=>?_)
  |refine Fq fun zN zM zhN zhM=>?_
  |refine zhK _ ?_
  |(refine zhN _ ?_;clear zhN zhM)
  |(refine Cx fun zK zhK=>?_;simp only [go_sem,Int.reduceTMod,Int.toNat_one,Int.mul_zero,Int.zero_mul];(repeat' (first|apply And.intro|intro _)))
  |refine Aj fun zB zbn zbx zbr zbi=>?_
  |refine Cw ?_
  |(refine zbn _ ?_;clear zbn zbx zbr zbi)
  |(refine Av fun zK zhK=>?_;simp only [go_sem,Int.reduceTMod,Int.toNat_one,Int.mul_zero,Int.zero_mul];(repeat' (first|apply And.intro|intro _)))
  |(refine Vw (id:=8) [14,15,16,17,18,19,20,21,22,23,24,25,26,27,28] [0,0,0,0,8,0,0,96,248,504,4,2044,4092,1,16383,32767] [] mixed (by kernel_rfl) (by simp only [go_sem]) fun zK zhK=>?_;simp only [go_sem,Int.reduceTMod,Int.toNat_one,Int.mul_zero,Int.zero_mul];(repeat' (first|apply And.intro|intro _)))
  |refine zhK _ _ trivial ?_
  |(refine zhM _ _ ?_;clear zhN zhM)
  |refine Ey ?_
  |(refine zbx _ ?_;clear zbn zbx zbr zbi)
  |refine Fx (x:=.seq (.region 6 _ _) _) 5 ?_
  |refine Fx (x:=.seq (.region 3 _ _) _) 5 ?_
  |refine Dx ?_
  |(refine zhZ _ _ ?_;simp only [go_sem,Int.reduceTMod,Int.toNat_one,Int.mul_zero,Int.zero_mul];(all_goals (rfl)))
  |refine Bz fun zN zM zhN zhM=>?_
  |(refine Bv ?_ ?_;focus (first|rfl|(simp [go_sem,Int.reduceTMod,Int.toNat_one,Int.mul_zero,Int.zero_mul];done)))
  |(refine Cy ?_ ?_;focus (first|rfl|(simp [go_sem,Int.reduceTMod,Int.toNat_one,Int.mul_zero,Int.zero_mul];done)))
theorem d1x (x0 x1 x2 x3 x4 x5 x6 x7 x8 x9 x10 x11 x12 x13 x14 x15:UInt32):
 Ct Tryd.prog 82 [.w (.agg [.pl (.u32 x0),.pl (.u32 x1),.pl (.u32 x2),.pl (.u32 x3),.pl (.u32 x4),.pl (.u32 x5),.pl (.u32 x6),.pl (.u32 x7),.pl (.u32 x8),.pl (.u32 x9),.pl (.u32 x10),.pl (.u32 x11),.pl (.u32 x12),.pl (.u32 x13),.pl (.u32 x14),.pl (.u32 x15)]),.w (.one (.pl (.i 1)))] (fun v m=>v=.w (.agg (⟨x0,x1,x2,x3,x4,x5,x6,x7,x8,x9,x10,x11,x12,x13,x14,x15⟩:W16).sh.ls)):=by
 refine Ct.k Tryd.func82 rfl Tryd.ntmps82 (congrArg Array.toList Tryd.results82) (by simp) fun w0 ro=>?_
 refine Dj fun zZ zhZ=>?_
 iterate 427 first
  |(refine Cv (x:=.seq (.region 6 _ _) _) [7,12,13,14,15,16,17,18,19,20,21,22,23,24,25,26,27,28,29] ?_;simp only [go_sem,St.forget,fgt];refine Fq fun zN zM zhN zhM=>?_)
  |(refine Cv (x:=.seq (.region 3 _ _) _) [6,7,9,10,11,12,13,14,15,16,17,18,19,20,21,22,23,24,25,26,27,28,29,30] ?_;simp only [go_sem,St.forget,fgt];refine Fq fun zN zM zhN zhM=>?_)
  |refine Fq fun zN zM zhN zhM=>?_
  |refine zhK _ ?_
  |(refine zhN _ ?_;clear zhN zhM)
  |(refine Cx fun zK zhK=>?_;simp only [go_sem,Int.reduceTMod,Int.toNat_one,Int.mul_zero,Int.zero_mul];(repeat' (first|apply And.intro|intro _)))
  |refine Aj fun zB zbn zbx zbr zbi=>?_
  |refine Cw ?_
  |(refine zbn _ ?_;clear zbn zbx zbr zbi)
  |(refine Av fun zK zhK=>?_;simp only [go_sem,Int.reduceTMod,Int.toNat_one,Int.mul_zero,Int.zero_mul];(repeat' (first|apply And.intro|intro _)))
  |(refine Vw (id:=8) [14,15,16,17,18,19,20,21,22,23,24,25,26,27,28] [0,0,0,0,8,0,0,96,248,504,4,2044,4092,1,16383,32767] [] mixed (by kernel_rfl) (by simp only [go_sem]) fun zK zhK=>?_;simp only [go_sem,Int.reduceTMod,Int.toNat_one,Int.mul_zero,Int.zero_mul];(repeat' (first|apply And.intro|intro _)))
  |refine zhK _ _ trivial ?_
  |(refine zhM _ _ ?_;clear zhN zhM)
  |refine Ey ?_
  |(refine zbx _ ?_;clear zbn zbx zbr zbi)
  |refine Fx (x:=.seq (.region 6 _ _) _) 5 ?_
  |refine Fx (x:=.seq (.region 3 _ _) _) 5 ?_
  |refine Dx ?_
  |(refine zhZ _ _ ?_;simp only [go_sem,Int.reduceTMod,Int.toNat_one,Int.mul_zero,Int.zero_mul];(all_goals (rfl)))
  |refine Bz fun zN zM zhN zhM=>?_
  |(refine Bv ?_ ?_;focus (first|rfl|(simp [go_sem,Int.reduceTMod,Int.toNat_one,Int.mul_zero,Int.zero_mul];done)))
  |(refine Cy ?_ ?_;focus (first|rfl|(simp [go_sem,Int.reduceTMod,Int.toNat_one,Int.mul_zero,Int.zero_mul];done)))
theorem d1w (x0 x1 x2 x3 x4 x5 x6 x7 x8 x9 x10 x11 x12 x13 x14 x15:UInt32):
 Ct Tryd.prog 82 [.w (.agg [.pl (.u32 x0),.pl (.u32 x1),.pl (.u32 x2),.pl (.u32 x3),.pl (.u32 x4),.pl (.u32 x5),.pl (.u32 x6),.pl (.u32 x7),.pl (.u32 x8),.pl (.u32 x9),.pl (.u32 x10),.pl (.u32 x11),.pl (.u32 x12),.pl (.u32 x13),.pl (.u32 x14),.pl (.u32 x15)]),.w (.one (.pl (.i (-1))))] (fun v m=>v=.w (.agg (⟨x0,x1,x2,x3,x4,x5,x6,x7,x8,x9,x10,x11,x12,x13,x14,x15⟩:W16).unsh.ls)):=by
 refine Ct.k Tryd.func82 rfl Tryd.ntmps82 (congrArg Array.toList Tryd.results82) (by simp) fun w0 ro=>?_
 refine Dj fun zZ zhZ=>?_
 iterate 427 first
  |(refine Cv (x:=.seq (.region 6 _ _) _) [7,12,13,14,15,16,17,18,19,20,21,22,23,24,25,26,27,28,29] ?_;simp only [go_sem,St.forget,fgt];refine Fq fun zN zM zhN zhM=>?_)
  |(refine Cv (x:=.seq (.region 3 _ _) _) [6,7,9,10,11,12,13,14,15,16,17,18,19,20,21,22,23,24,25,26,27,28,29,30] ?_;simp only [go_sem,St.forget,fgt];refine Fq fun zN zM zhN zhM=>?_)
  |refine Fq fun zN zM zhN zhM=>?_
  |refine zhK _ ?_
  |(refine zhN _ ?_;clear zhN zhM)
  |(refine Cx fun zK zhK=>?_;simp only [go_sem,Int.reduceTMod,Int.toNat_one,Int.mul_zero,Int.zero_mul];(repeat' (first|apply And.intro|intro _)))
  |refine Aj fun zB zbn zbx zbr zbi=>?_
  |refine Cw ?_
  |(refine zbn _ ?_;clear zbn zbx zbr zbi)
  |(refine Av fun zK zhK=>?_;simp only [go_sem,Int.reduceTMod,Int.toNat_one,Int.mul_zero,Int.zero_mul];(repeat' (first|apply And.intro|intro _)))
  |(refine Vw (id:=8) [14,15,16,17,18,19,20,21,22,23,24,25,26,27,28] [0,0,0,0,8,0,0,96,248,504,4,2044,4092,1,16383,32767] [] mixed (by kernel_rfl) (by simp only [go_sem]) fun zK zhK=>?_;simp only [go_sem,Int.reduceTMod,Int.toNat_one,Int.mul_zero,Int.zero_mul];(repeat' (first|apply And.intro|intro _)))
  |refine zhK _ _ trivial ?_
  |(refine zhM _ _ ?_;clear zhN zhM)
  |refine Ey ?_
  |(refine zbx _ ?_;clear zbn zbx zbr zbi)
  |refine Fx (x:=.seq (.region 6 _ _) _) 5 ?_
  |refine Fx (x:=.seq (.region 3 _ _) _) 5 ?_
  |refine Dx ?_
  |(refine zhZ _ _ ?_;simp only [go_sem,Int.reduceTMod,Int.toNat_one,Int.mul_zero,Int.zero_mul];(all_goals (rfl)))
  |refine Bz fun zN zM zhN zhM=>?_
  |(refine Bv ?_ ?_;focus (first|rfl|(simp [go_sem,Int.reduceTMod,Int.toNat_one,Int.mul_zero,Int.zero_mul];done)))
  |(refine Cy ?_ ?_;focus (first|rfl|(simp [go_sem,Int.reduceTMod,Int.toNat_one,Int.mul_zero,Int.zero_mul];done)))
end Bk
end Go.Sy
namespace Go.Sy
open Go.Proofs
attribute [local irreducible] Dv HT Cz Px onC onE onO onG goV goA goS Qx Dw
def c0w (k:Kz):List PL:=k.peer.map .u8++(.i k.n::k.key.map .u8)
theorem Xw (k:Kz):pls (c0w k)=Az k.peer++(.pl (.i k.n)::Az k.key):=by simp [pls,c0w,Az,Function.comp_def]
theorem Aq {k:Kz} (h:k.ok):(c0w k).length=65:=by simp [c0w,h.1,h.2.1]
theorem getD_map {α β:Type} {f:α→β} {l:List α} {i:Nat} {p:α} {d:β} (h:l[i]? =some p):(l.map f).getD i d=f p:=by
 rw [List.getD_eq_getElem?_getD,List.getElem?_map,h];rfl
theorem Ny {a:Int} {n:Nat} (h:a=(n:Int)) (hn:n≤9223372036854775807):Go.RowKit.wrap64 a=(n:Int):=by subst h;exact w64 (by omega)
theorem g1n {α:Type} {l:List α} {i:Nat} (h:i<l.length): ∃ p,l[i]? =some p:=⟨_,List.getElem?_eq_getElem h⟩
def rtC (root own peer send:List UInt8) (out:Int) (recv:List UInt8) (inn last:Int) (can hear:Bool) (ks:List Kz):List L:=
 Az root++(Az own++(Az peer++(Az send++(.pl (.i out)::(Az recv++(.pl (.i inn)::.pl (.i last)::.pl (.b can)::.pl (.b hear)::[.pl (.R false 65 (ks.map c0w))]))))))
theorem n1k {p q:List UInt8} (h:p.length=32) (h2:q.length=32):f0j Tryd.prog 23 (Az p) (Az q)=some (decide (p=q)):=by
 rw [ae23 (Xj h) (Xj h2),l0v (h.trans h2.symm)]
theorem f1w (l:List UInt8) (hl:l.length=32):
 Ct Tryd.prog 13 [.w (.agg (Az l))] (fun v m=>v=.w (.one (.pl (.str l)))):=by
 refine Ct.k Tryd.func13 rfl Tryd.ntmps13 (congrArg Array.toList Tryd.results13) (by simp) fun w0 ro=>?_
 refine Dj fun zZ zhZ=>?_
 iterate 6 first
  |(refine Cx fun zK zhK=>?_;simp only [go_sem,hl];(repeat' (first|apply And.intro|intro _)))
  |refine zhK _ ?_
  |refine Dx ?_
  |(refine zhZ _ _ ?_;simp only [go_sem,hl];(all_goals rfl))
theorem t0b (n:Int):
 Ct Tryd.prog 10 [.w (.one (.pl (.i n)))] (fun v m=>v=.w (.one (.pl (.b (inN n))))):=by
 refine Ct.k Tryd.func10 rfl Tryd.ntmps10 (congrArg Array.toList Tryd.results10) (by simp) fun w0 ro=>?_
 refine Bz fun zN1 zM1 zhN1 zhM1=>?_
 refine Av fun zK2 zhK2=>?_
 simp only [go_sem]
 repeat' (first|apply And.intro|intro _)
 all_goals
  refine zhK2 _ ?_
  refine zhN1 _ ?_
  refine Bz fun zN3 zM3 zhN3 zhM3=>?_
  refine Av fun zK4 zhK4=>?_
  simp only [go_sem]
  repeat' (first|apply And.intro|intro _)
  all_goals
   refine zhK4 _ ?_
   refine zhN3 _ ?_
   refine Dx ?_
   simp only [go_sem]
   all_goals (refine congrArg (fun x=>V.w (W.one (L.pl (PL.b x)))) ?_;simp [inN];try omega)
theorem j1v (a:Int):
 Ct Tryd.prog 12 [.w (.one (.pl (.i a))),.w (.one (.pl (.i 1073741824)))] (fun v m=>v=.w (.one (.pl (.b (inN a))))):=by
 refine Ct.k Tryd.func12 rfl Tryd.ntmps12 (congrArg Array.toList Tryd.results12) (by simp) fun w0 ro=>?_
 refine Bz fun zN1 zM1 zhN1 zhM1=>?_
 refine Av fun zK2 zhK2=>?_
 simp only [go_sem]
 repeat' (first|apply And.intro|intro _)
 all_goals
  refine zhK2 _ ?_
  refine zhN1 _ ?_
  refine Bz fun zN3 zM3 zhN3 zhM3=>?_
  refine Av fun zK4 zhK4=>?_
  simp only [go_sem]
  repeat' (first|apply And.intro|intro _)
  all_goals
   refine zhK4 _ ?_
   refine zhN3 _ ?_
   refine Dx ?_
   simp only [go_sem]
   all_goals (refine congrArg (fun x=>V.w (W.one (L.pl (PL.b x)))) ?_;simp [inN];try omega)
theorem a1i (root own peer send:List UInt8) (out:Int) (recv:List UInt8) (inn last:Int) (can hear:Bool) (ks:List Kz) (hr:root.length=32) (hw:own.length=32) (hp:peer.length=32) (hs:send.length=32) (hv:recv.length=32) (hk: ∀ k∈ks,k.ok) (hb:inN out=false∨(inN out=true∧inN inn=false)∨(inN out=true∧inN inn=true∧inN last=false)∨(inN out=true∧inN inn=true∧inN last=true∧¬ks.length≤12)):
 Ct Tryd.prog 4 [.w (.agg (rtC root own peer send out recv inn last can hear ks))] (fun v m=>v=.w (.one (.pl (.i 9)))):=by
 obtain ⟨x1,e1⟩: ∃ x,inN out=x:=⟨_,rfl⟩
 obtain ⟨x2,e2⟩: ∃ x,inN inn=x:=⟨_,rfl⟩
 obtain ⟨x3,e3⟩: ∃ x,inN last=x:=⟨_,rfl⟩
 obtain ⟨x4,e4⟩: ∃ x,decide ((12:Int)<((ks.length:Nat):Int))=x:=⟨_,rfl⟩
 have h4:x4=true↔¬ks.length≤12:=by rw [←e4];first|(rw [decide_eq_true_eq];omega)|(rw [decide_eq_false_iff_not];omega)
 have hi1:=t0b out
 have hi2:=t0b inn
 have hi3:=t0b last
 rw [e1] at hi1
 rw [e2] at hi2
 rw [e3] at hi3
 rw [e1,e2,e3,←h4] at hb
 rcases hb with rfl|⟨rfl,rfl⟩|⟨rfl,rfl,rfl⟩|⟨rfl,rfl,rfl,rfl⟩
 all_goals
  have F0:=And.intro hr<|And.intro hw<|And.intro hp<|And.intro hs<|And.intro hv<|e4
  refine Ct.k Tryd.func4 rfl Tryd.ntmps4 (congrArg Array.toList Tryd.results4) (by simp) fun w0 ro=>?_
  refine Dj fun zZ zhZ=>?_
  refine Cx fun zK zhK=>?_
  simp only [go_sem,rtC,List.length_map,F0]
  repeat' (first|apply And.intro|intro _)
  refine zhK _ ?_
  refine Cx fun zK zhK=>?_
  simp only [go_sem,rtC,List.length_map,F0]
  repeat' (first|apply And.intro|intro _)
  refine zhK _ ?_
  refine Bz fun zN zM zhN zhM=>?_
  refine Cx fun zK zhK=>?_
  simp only [go_sem,rtC,List.length_map,F0]
  repeat' (first|apply And.intro|intro _)
  all_goals refine Pz (fun k=>k) (by first|rfl|simp only [go_sem,rtC,List.length_map,F0]) (by first|rfl|(simp only [go_sem,Vk,rtC,List.length_map,F0];rfl)|simp only [go_sem,Vk,rtC,List.length_map,F0]) (fun _ _=>rfl) (by first|rfl|(simp only [go_sem,rtC,List.length_map,F0]<;>rfl)) (hi1.plain fun _ _ h=>h) ?_
  all_goals (rintro v m ⟨hR,hm⟩;subst hR;subst hm)
  all_goals refine And.intro (by first|rfl|simp only [go_sem,rtC,List.length_map,F0]) (And.intro (by first|rfl|simp only [go_sem,rtC,List.length_map,F0]) ?_)
  all_goals simp only [go_sem,rtC,List.length_map,F0]
  all_goals repeat' (first|apply And.intro|intro _)
  all_goals (first|(refine Pz (fun k=>k) (by first|rfl|simp only [go_sem,rtC,List.length_map,F0]) (by first|rfl|(simp only [go_sem,Vk,rtC,List.length_map,F0];rfl)|simp only [go_sem,Vk,rtC,List.length_map,F0]) (fun _ _=>rfl) (by first|rfl|(simp only [go_sem,rtC,List.length_map,F0]<;>rfl)) (hi2.plain fun _ _ h=>h) ?_;all_goals (rintro v m ⟨hR,hm⟩;subst hR;subst hm);all_goals refine And.intro (by first|rfl|simp only [go_sem,rtC,List.length_map,F0]) (And.intro (by first|rfl|simp only [go_sem,rtC,List.length_map,F0]) ?_);all_goals simp only [go_sem,rtC,List.length_map,F0];all_goals repeat' (first|apply And.intro|intro _))|skip)
  all_goals (first|(refine Pz (fun k=>k) (by first|rfl|simp only [go_sem,rtC,List.length_map,F0]) (by first|rfl|(simp only [go_sem,Vk,rtC,List.length_map,F0];rfl)|simp only [go_sem,Vk,rtC,List.length_map,F0]) (fun _ _=>rfl) (by first|rfl|(simp only [go_sem,rtC,List.length_map,F0]<;>rfl)) (hi3.plain fun _ _ h=>h) ?_;all_goals (rintro v m ⟨hR,hm⟩;subst hR;subst hm);all_goals refine And.intro (by first|rfl|simp only [go_sem,rtC,List.length_map,F0]) (And.intro (by first|rfl|simp only [go_sem,rtC,List.length_map,F0]) ?_);all_goals simp only [go_sem,rtC,List.length_map,F0];all_goals repeat' (first|apply And.intro|intro _))|skip)
  refine zhK _ ?_
  (refine Bv ?_ ?_;focus (first|rfl|(simp [go_sem,rtC,List.length_map,F0];done)))
  refine Cx fun zK zhK=>?_
  simp only [go_sem,rtC,List.length_map,F0]
  repeat' (first|apply And.intro|intro _)
  refine zhK _ ?_
  refine Dx ?_
  refine zhM _ _ ?_;clear zhN zhM
  refine zhZ _ _ ?_
  simp only [go_sem,rtC,List.length_map,F0]
  all_goals rfl
end Go.Sy
namespace Go.Sy
open Go.Proofs
attribute [local irreducible] Dv HT Cz Px onC onE onO onG goV goA goS Qx Dw
theorem k0m {l:List Kz} {i j:Nat} {a:Kz} (h:l[j]? =some a) (hj:j<i):(List.take i (l.map c0w)).getD j []=c0w a:=by
 rw [List.getD_eq_getElem?_getD,List.getElem?_take,if_pos hj,List.getElem?_map,h];rfl
theorem t1r (j:Nat):(0:Int)≤((j:Nat):Int):=Int.natCast_nonneg j
theorem s0z {l:List Kz} {i:Nat} (h:i≤l.length):(List.take i (l.map c0w)).length=i:=by simp;omega
theorem e1n (root own peer send:List UInt8) (out:Int) (recv:List UInt8) (inn last:Int) (can hear:Bool) (ks:List Kz) (hr:root.length=32) (hw:own.length=32) (hp:peer.length=32) (hs:send.length=32) (hv:recv.length=32) (hk: ∀ k∈ks,k.ok) (h1:inN out=true) (h2:inN inn=true) (h3:inN last=true) (h4:ks.length≤12):
 Ct Tryd.prog 4 [.w (.agg (rtC root own peer send out recv inn last can hear ks))] (fun v m=>v=.w (.one (.pl (.i (e0b out inn last ks))))):=by
 have e4:decide ((12:Int)<((ks.length:Nat):Int))=false:=decide_eq_false (by omega)
 have hi1:=t0b out
 have hi2:=t0b inn
 have hi3:=t0b last
 rw [h1] at hi1
 rw [h2] at hi2
 rw [h3] at hi3
 have F0:=And.intro hr<|And.intro hw<|And.intro hp<|And.intro hs<|And.intro hv<|e4
 refine Ct.k Tryd.func4 rfl Tryd.ntmps4 (congrArg Array.toList Tryd.results4) (by simp) fun w0 ro=>?_
 refine Dj fun zZ zhZ=>?_
 refine Cx fun zK zhK=>?_
 simp only [go_sem,rtC,List.length_map,Aq,F0]
 repeat' (first|apply And.intro|intro _)
 refine zhK _ ?_
 refine Cx fun zK zhK=>?_
 simp only [go_sem,rtC,List.length_map,Aq,F0]
 repeat' (first|apply And.intro|intro _)
 refine zhK _ ?_
 refine Bz fun zN zM zhN zhM=>?_
 refine Cx fun zK zhK=>?_
 simp only [go_sem,rtC,List.length_map,Aq,F0]
 repeat' (first|apply And.intro|intro _)
 all_goals refine Pz (fun k=>k) (by first|rfl|simp only [go_sem,rtC,List.length_map,Aq,F0]) (by first|rfl|(simp only [go_sem,Vk,rtC,List.length_map,Aq,F0];rfl)|simp only [go_sem,Vk,rtC,List.length_map,Aq,F0]) (fun _ _=>rfl) (by first|rfl|(simp only [go_sem,rtC,List.length_map,Aq,F0]<;>rfl)) (hi1.plain fun _ _ h=>h) ?_
 all_goals (rintro v m ⟨hR,hm⟩;subst hR;subst hm)
 all_goals refine And.intro (by first|rfl|simp only [go_sem,rtC,List.length_map,Aq,F0]) (And.intro (by first|rfl|simp only [go_sem,rtC,List.length_map,Aq,F0]) ?_)
 all_goals simp only [go_sem,rtC,List.length_map,Aq,F0]
 all_goals repeat' (first|apply And.intro|intro _)
 all_goals refine Pz (fun k=>k) (by first|rfl|simp only [go_sem,rtC,List.length_map,Aq,F0]) (by first|rfl|(simp only [go_sem,Vk,rtC,List.length_map,Aq,F0];rfl)|simp only [go_sem,Vk,rtC,List.length_map,Aq,F0]) (fun _ _=>rfl) (by first|rfl|(simp only [go_sem,rtC,List.length_map,Aq,F0]<;>rfl)) (hi2.plain fun _ _ h=>h) ?_
 all_goals (rintro v m ⟨hR,hm⟩;subst hR;subst hm)
 all_goals refine And.intro (by first|rfl|simp only [go_sem,rtC,List.length_map,Aq,F0]) (And.intro (by first|rfl|simp only [go_sem,rtC,List.length_map,Aq,F0]) ?_)
 all_goals simp only [go_sem,rtC,List.length_map,Aq,F0]
 all_goals repeat' (first|apply And.intro|intro _)
 all_goals refine Pz (fun k=>k) (by first|rfl|simp only [go_sem,rtC,List.length_map,Aq,F0]) (by first|rfl|(simp only [go_sem,Vk,rtC,List.length_map,Aq,F0];rfl)|simp only [go_sem,Vk,rtC,List.length_map,Aq,F0]) (fun _ _=>rfl) (by first|rfl|(simp only [go_sem,rtC,List.length_map,Aq,F0]<;>rfl)) (hi3.plain fun _ _ h=>h) ?_
 all_goals (rintro v m ⟨hR,hm⟩;subst hR;subst hm)
 all_goals refine And.intro (by first|rfl|simp only [go_sem,rtC,List.length_map,Aq,F0]) (And.intro (by first|rfl|simp only [go_sem,rtC,List.length_map,Aq,F0]) ?_)
 all_goals simp only [go_sem,rtC,List.length_map,Aq,F0]
 all_goals repeat' (first|apply And.intro|intro _)
 refine zhK _ ?_
 (refine Cy ?_ ?_;focus (first|rfl|(simp [go_sem,rtC,List.length_map,Aq,F0];done)))
 refine Cw ?_
 refine zhN _ ?_;clear zhN zhM
 refine Bz fun zN zM zhN zhM=>?_
 refine Cx fun zK zhK=>?_
 simp only [go_sem,rtC,List.length_map,Aq,F0]
 repeat' (first|apply And.intro|intro _)
 refine zhK _ ?_
 refine Aj fun zB zbn zbx zbr zbi=>?_
 refine Gv [0,8,9,10,11,12,13,14,15,16,17,18,19,20,21,22,23,24,25,26,27,28,29,30,31,32,33] ?_
 simp only [Gj,Iq,Gq,List.contains_cons,List.contains_nil,Nat.reduceBEq,beq_self_eq_true,Bool.or_false,Bool.or_true,Bool.true_or,Bool.false_or,Bool.false_eq_true,reduceIte]
 refine Jz (fun y=>[(36,.w (.one (.pl (.i ((y.1:Nat):Int)))))]) (fun _=>[]) (fun y=>ks.length-y.1) (⟨0,Nat.zero_le _,fun j b hj=>absurd hj (Nat.not_lt_zero _)⟩:{y:Nat//y≤ks.length∧(∀ (j:Nat) (b:Kz),j<y→ks[j]? =some b→inN b.n=true∧∀ (q:Nat) (a:Kz),q<j→ks[q]? =some a→f0s a b=false)}) ?_ ?_ ?_
 · (simp only [go_sem,leX,List.cons_append,List.nil_append];try simp)
 · (simp only [go_sem,leX,List.cons_append,List.nil_append];try simp)
 intro ⟨i,hi,hg⟩ zN zM zhN zhM
 simp only [List.cons_append,List.nil_append]
 have hd:(∃ k,i<ks.length∧ks[i]? =some k∧inN k.n=false)∨(∃ k,i<ks.length∧ks[i]? =some k∧inN k.n=true)∨i=ks.length:=by
  rcases Nat.lt_or_ge i ks.length with hlt|hge
  · obtain ⟨k,hk0⟩:=g1n hlt
    rcases Bool.eq_false_or_eq_true (inN k.n) with e|e
    · exact .inr (.inl ⟨k,hlt,hk0,e⟩)
    · exact .inl ⟨k,hlt,hk0,e⟩
  · exact .inr (.inr (Nat.le_antisymm hi hge))
 rcases hd with ⟨k,hlt,hk0,hin⟩|⟨k,hlt,hk0,hin⟩|rfl
 · have hkk:=hk k (List.mem_of_getElem? hk0)
   have hpk:=hkk.1
   have hqk:=hkk.2.1
   have hlk:=Aq hkk
   have hgk:=getD_map (f:=c0w) (d:=([]:List PL)) hk0
   have hsk:=Xw k
   have hci:((i:Nat):Int)<((ks.length:Nat):Int):=Int.ofNat_lt.mpr hlt
   have hii:=t1r i
   have hic:=t0b k.n
   rw [hin] at hic
   have hile:((i:Nat):Int)≤((ks.length:Nat):Int):=Int.le_of_lt hci
   have htl:=s0z hi
   have hj12:i≤12:=Nat.le_trans hi h4
   have hsi:Go.RowKit.wrap64 (((i:Nat):Int)+1)=((i+1:Nat):Int):=Ny rfl (Nat.le_trans (Nat.succ_le_succ hj12) (by decide))
   have hfa:e0b out inn last ks=9:=o0z (.inr (.inr (.inr (.inr (.inl ⟨k,List.mem_of_getElem? hk0,hin⟩)))))
   have F8:=And.intro hpk<|And.intro hqk<|And.intro hlk<|And.intro hgk<|And.intro hsk<|And.intro hci<|And.intro hii<|And.intro hile<|And.intro htl<|hsi
   iterate 25 first
    |(refine Cx fun zK zhK=>?_;simp only [go_sem,rtC,List.length_map,Aq,F0,Nat.sub_zero,F8];(repeat' (first|apply And.intro|intro _)))
    |refine zhK _ ?_
    |(refine zhM _ _ ?_;clear zhN zhM)
    |(refine zbr _ ?_;clear zbn zbx zbr zbi)
    |refine Cw ?_
    |(refine zhN _ ?_;clear zhN zhM)
    |refine Aj fun zB zbn zbx zbr zbi=>?_
    |refine Dx ?_
    |(refine zhZ _ _ ?_;simp only [go_sem,rtC,List.length_map,Aq,F0,Nat.sub_zero,F8];(all_goals (rw [hfa])))
    |((all_goals refine Pz (fun k=>k) (by first|rfl|simp only [go_sem,rtC,List.length_map,Aq,F0,Nat.sub_zero,F8]) (by first|rfl|(simp only [go_sem,Vk,rtC,List.length_map,Aq,F0,Nat.sub_zero,F8];rfl)|simp only [go_sem,Vk,rtC,List.length_map,Aq,F0,Nat.sub_zero,F8]) (fun _ _=>rfl) (by first|rfl|(simp only [go_sem,rtC,List.length_map,Aq,F0,Nat.sub_zero,F8]<;>rfl)) (hic.plain fun _ _ h=>h) ?_);(all_goals (rintro v m ⟨hR,hm⟩;subst hR;subst hm));(all_goals refine And.intro (by first|rfl|simp only [go_sem,rtC,List.length_map,Aq,F0,Nat.sub_zero,F8]) (And.intro (by first|rfl|simp only [go_sem,rtC,List.length_map,Aq,F0,Nat.sub_zero,F8]) ?_));(all_goals simp only [go_sem,rtC,List.length_map,Aq,F0,Nat.sub_zero,F8]);(all_goals repeat' (first|apply And.intro|intro _)))
    |refine Bz fun zN zM zhN zhM=>?_
    |(refine Bv ?_ ?_;focus (first|rfl|(simp [go_sem,rtC,List.length_map,Aq,F0,Nat.sub_zero,F8];done)))
 · have hkk:=hk k (List.mem_of_getElem? hk0)
   have hpk:=hkk.1
   have hqk:=hkk.2.1
   have hlk:=Aq hkk
   have hgk:=getD_map (f:=c0w) (d:=([]:List PL)) hk0
   have hsk:=Xw k
   have hci:((i:Nat):Int)<((ks.length:Nat):Int):=Int.ofNat_lt.mpr hlt
   have hii:=t1r i
   have hic:=t0b k.n
   rw [hin] at hic
   have hile:((i:Nat):Int)≤((ks.length:Nat):Int):=Int.le_of_lt hci
   have htl:=s0z hi
   have hj12:i≤12:=Nat.le_trans hi h4
   have hsi:Go.RowKit.wrap64 (((i:Nat):Int)+1)=((i+1:Nat):Int):=Ny rfl (Nat.le_trans (Nat.succ_le_succ hj12) (by decide))
   have F16:=And.intro hpk<|And.intro hqk<|And.intro hlk<|And.intro hgk<|And.intro hsk<|And.intro hci<|And.intro hii<|And.intro hile<|And.intro htl<|hsi
   iterate 20 first
    |(refine Cx fun zK zhK=>?_;simp only [go_sem,rtC,List.length_map,Aq,F0,Nat.sub_zero,F16];(repeat' (first|apply And.intro|intro _)))
    |refine zhK _ ?_
    |refine Cw ?_
    |(refine zhN _ ?_;clear zhN zhM)
    |refine Aj fun zB zbn zbx zbr zbi=>?_
    |((all_goals refine Pz (fun k=>k) (by first|rfl|simp only [go_sem,rtC,List.length_map,Aq,F0,Nat.sub_zero,F16]) (by first|rfl|(simp only [go_sem,Vk,rtC,List.length_map,Aq,F0,Nat.sub_zero,F16];rfl)|simp only [go_sem,Vk,rtC,List.length_map,Aq,F0,Nat.sub_zero,F16]) (fun _ _=>rfl) (by first|rfl|(simp only [go_sem,rtC,List.length_map,Aq,F0,Nat.sub_zero,F16]<;>rfl)) (hic.plain fun _ _ h=>h) ?_);(all_goals (rintro v m ⟨hR,hm⟩;subst hR;subst hm));(all_goals refine And.intro (by first|rfl|simp only [go_sem,rtC,List.length_map,Aq,F0,Nat.sub_zero,F16]) (And.intro (by first|rfl|simp only [go_sem,rtC,List.length_map,Aq,F0,Nat.sub_zero,F16]) ?_));(all_goals simp only [go_sem,rtC,List.length_map,Aq,F0,Nat.sub_zero,F16]);(all_goals repeat' (first|apply And.intro|intro _)))
    |refine Bz fun zN zM zhN zhM=>?_
    |(refine Bv ?_ ?_;focus (first|rfl|(simp [go_sem,rtC,List.length_map,Aq,F0,Nat.sub_zero,F16];done)))
    |(refine Cy ?_ ?_;focus (first|rfl|(simp [go_sem,rtC,List.length_map,Aq,F0,Nat.sub_zero,F16];done)))
   refine Jz (fun y=>[(51,.w (.one (.pl (.i ((y.1:Nat):Int)))))]) (fun _=>[]) (fun y=>i-y.1) (⟨0,Nat.zero_le _,fun q a h=>absurd h (Nat.not_lt_zero _)⟩:{y:Nat//y≤i∧∀ (q:Nat) (a:Kz),q<y→ks[q]? =some a→f0s a k=false}) ?_ ?_ ?_
   · (simp only [go_sem,leX,List.cons_append,List.nil_append];try simp)
   · (simp only [go_sem,leX,List.cons_append,List.nil_append];try simp)
   intro ⟨j,hj,hq⟩ zN zM zhN zhM
   simp only [List.cons_append,List.nil_append]
   have hd:(∃ a,j<i∧ks[j]? =some a∧a.peer=k.peer∧a.n=k.n)∨(∃ a,j<i∧ks[j]? =some a∧¬a.peer=k.peer)∨(∃ a,j<i∧ks[j]? =some a∧a.peer=k.peer∧¬a.n=k.n)∨j=i:=by
    rcases Nat.lt_or_ge j i with hlt2|hge2
    · obtain ⟨a,ha⟩:=g1n (Nat.lt_trans hlt2 hlt)
      by_cases e1:a.peer=k.peer
      · by_cases e2:a.n=k.n
        · exact .inl ⟨a,hlt2,ha,e1,e2⟩
        · exact .inr (.inr (.inl ⟨a,hlt2,ha,e1,e2⟩))
      · exact .inr (.inl ⟨a,hlt2,ha,e1⟩)
    · exact .inr (.inr (.inr (Nat.le_antisymm hj hge2)))
   rcases hd with ⟨a,hlt2,ha,e1,e2⟩|⟨a,hlt2,ha,e1⟩|⟨a,hlt2,ha,e1,e2⟩|hji
   · have hka:=hk a (List.mem_of_getElem? ha)
     have hpa:=hka.1
     have hqa:=hka.2.1
     have hla:=Aq hka
     have hga:=getD_map (f:=c0w) (d:=([]:List PL)) ha
     have hsa:=Xw a
     have hga:=k0m ha hlt2
     have hEq:=n1k hpa hpk
     have hcj:((j:Nat):Int)<((i:Nat):Int):=Int.ofNat_lt.mpr hlt2
     have hij:=t1r j
     have hsj:Go.RowKit.wrap64 (((j:Nat):Int)+1)=((j+1:Nat):Int):=Ny rfl (Nat.le_trans (Nat.le_trans hlt2 hj12) (by decide))
     have hde:decide (a.peer=k.peer)=true:=decide_eq_true e1
     have hdn:decide (a.n=k.n)=true:=decide_eq_true e2
     have hfa:e0b out inn last ks=9:=o0z (.inr (.inr (.inr (.inr (.inr (n1w ha hk0 hlt2 (by simp [f0s,e1,e2])))))))
     have F26:=And.intro hpa<|And.intro hqa<|And.intro hla<|And.intro hga<|And.intro hsa<|And.intro hEq<|And.intro hcj<|And.intro hij<|And.intro hsj<|And.intro hlt2<|And.intro hde<|hdn
     iterate 26 first
      |(refine zhM _ _ ?_;clear zhN zhM)
      |(refine Cx fun zK zhK=>?_;simp only [go_sem,rtC,List.length_map,Aq,F0,Nat.sub_zero,F16,F26];(repeat' (first|apply And.intro|intro _)))
      |refine zhK _ ?_
      |(refine zbr _ ?_;clear zbn zbx zbr zbi)
      |refine Cw ?_
      |(refine zhN _ ?_;clear zhN zhM)
      |refine Aj fun zB zbn zbx zbr zbi=>?_
      |refine Dx ?_
      |(refine zhZ _ _ ?_;simp only [go_sem,rtC,List.length_map,Aq,F0,Nat.sub_zero,F16,F26];(all_goals (rw [hfa])))
      |refine Bz fun zN zM zhN zhM=>?_
      |(refine Bv ?_ ?_;focus (first|rfl|(simp [go_sem,rtC,List.length_map,Aq,F0,Nat.sub_zero,F16,F26];done)))
   · have hka:=hk a (List.mem_of_getElem? ha)
     have hpa:=hka.1
     have hqa:=hka.2.1
     have hla:=Aq hka
     have hga:=getD_map (f:=c0w) (d:=([]:List PL)) ha
     have hsa:=Xw a
     have hga:=k0m ha hlt2
     have hEq:=n1k hpa hpk
     have hcj:((j:Nat):Int)<((i:Nat):Int):=Int.ofNat_lt.mpr hlt2
     have hij:=t1r j
     have hsj:Go.RowKit.wrap64 (((j:Nat):Int)+1)=((j+1:Nat):Int):=Ny rfl (Nat.le_trans (Nat.le_trans hlt2 hj12) (by decide))
     have hde:decide (a.peer=k.peer)=false:=decide_eq_false e1
     have F33:=And.intro hpa<|And.intro hqa<|And.intro hla<|And.intro hga<|And.intro hsa<|And.intro hEq<|And.intro hcj<|And.intro hij<|And.intro hsj<|And.intro hlt2<|hde
     iterate 18 first
      |refine zhK _ ?_
      |(refine Cx fun zK zhK=>?_;simp only [go_sem,rtC,List.length_map,Aq,F0,Nat.sub_zero,F16,F33];(repeat' (first|apply And.intro|intro _)))
      |refine Cw ?_
      |(refine zhN _ ?_;clear zhN zhM)
      |refine Aj fun zB zbn zbx zbr zbi=>?_
      |(refine zbn _ ?_;clear zbn zbx zbr zbi)
      |(refine Av fun zK zhK=>?_;simp only [go_sem,rtC,List.length_map,Aq,F0,Nat.sub_zero,F16,F33];(repeat' (first|apply And.intro|intro _)))
      |refine Bz fun zN zM zhN zhM=>?_
      |(refine Bv ?_ ?_;focus (first|rfl|(simp [go_sem,rtC,List.length_map,Aq,F0,Nat.sub_zero,F16,F33];done)))
      |(refine Cy ?_ ?_;focus (first|rfl|(simp [go_sem,rtC,List.length_map,Aq,F0,Nat.sub_zero,F16,F33];done)))
     refine zhN ⟨j+1,hlt2,fun q b hqj hb=>by rcases Nat.lt_succ_iff_lt_or_eq.mp hqj with h|h;exact hq q b h hb;subst h;rw [ha] at hb;cases hb;simp [f0s,e1]⟩ _ ?_ ?_ ?_
     · (exact Nat.sub_lt_sub_left hlt2 (Nat.lt_succ_self j))
     · (simp only [go_sem,leX,List.cons_append,List.nil_append];try simp)
     · (simp only [go_sem,leX,List.cons_append,List.nil_append];try simp)
   · have hka:=hk a (List.mem_of_getElem? ha)
     have hpa:=hka.1
     have hqa:=hka.2.1
     have hla:=Aq hka
     have hga:=getD_map (f:=c0w) (d:=([]:List PL)) ha
     have hsa:=Xw a
     have hga:=k0m ha hlt2
     have hEq:=n1k hpa hpk
     have hcj:((j:Nat):Int)<((i:Nat):Int):=Int.ofNat_lt.mpr hlt2
     have hij:=t1r j
     have hsj:Go.RowKit.wrap64 (((j:Nat):Int)+1)=((j+1:Nat):Int):=Ny rfl (Nat.le_trans (Nat.le_trans hlt2 hj12) (by decide))
     have hde:decide (a.peer=k.peer)=true:=decide_eq_true e1
     have hdn:decide (a.n=k.n)=false:=decide_eq_false e2
     have F40:=And.intro hpa<|And.intro hqa<|And.intro hla<|And.intro hga<|And.intro hsa<|And.intro hEq<|And.intro hcj<|And.intro hij<|And.intro hsj<|And.intro hlt2<|And.intro hde<|hdn
     iterate 18 first
      |refine zhK _ ?_
      |(refine Cx fun zK zhK=>?_;simp only [go_sem,rtC,List.length_map,Aq,F0,Nat.sub_zero,F16,F40];(repeat' (first|apply And.intro|intro _)))
      |refine Cw ?_
      |(refine zhN _ ?_;clear zhN zhM)
      |refine Aj fun zB zbn zbx zbr zbi=>?_
      |(refine zbn _ ?_;clear zbn zbx zbr zbi)
      |(refine Av fun zK zhK=>?_;simp only [go_sem,rtC,List.length_map,Aq,F0,Nat.sub_zero,F16,F40];(repeat' (first|apply And.intro|intro _)))
      |refine Bz fun zN zM zhN zhM=>?_
      |(refine Bv ?_ ?_;focus (first|rfl|(simp [go_sem,rtC,List.length_map,Aq,F0,Nat.sub_zero,F16,F40];done)))
      |(refine Cy ?_ ?_;focus (first|rfl|(simp [go_sem,rtC,List.length_map,Aq,F0,Nat.sub_zero,F16,F40];done)))
     refine zhN ⟨j+1,hlt2,fun q b hqj hb=>by rcases Nat.lt_succ_iff_lt_or_eq.mp hqj with h|h;exact hq q b h hb;subst h;rw [ha] at hb;cases hb;simp [f0s,e2]⟩ _ ?_ ?_ ?_
     · (exact Nat.sub_lt_sub_left hlt2 (Nat.lt_succ_self j))
     · (simp only [go_sem,leX,List.cons_append,List.nil_append];try simp)
     · (simp only [go_sem,leX,List.cons_append,List.nil_append];try simp)
   · obtain rfl:i=j:=hji.symm
     have hcj:¬((i:Nat):Int)<((i:Nat):Int):=Int.lt_irrefl _
     refine Cx fun zK zhK=>?_
     simp only [go_sem,rtC,List.length_map,Aq,F0,Nat.sub_zero,F16,hcj]
     repeat' (first|apply And.intro|intro _)
     refine zhK _ ?_
     refine Bz fun zN zM zhN zhM=>?_
     (refine Cy ?_ ?_;focus (first|rfl|(simp [go_sem,rtC,List.length_map,Aq,F0,Nat.sub_zero,F16,hcj];done)))
     refine Ey ?_
     refine zhM _ _ ?_;clear zhN zhM
     refine zhM _ _ ?_;clear zhN zhM
     refine zbx _ ?_;clear zbn zbx zbr zbi
     refine zbn _ ?_;clear zbn zbx zbr zbi
     refine zhN _ ?_;clear zhN zhM
     refine Av fun zK zhK=>?_
     simp only [go_sem,rtC,List.length_map,Aq,F0,Nat.sub_zero,F16,hcj]
     repeat' (first|apply And.intro|intro _)
     refine zhK _ ?_
     refine zhN ⟨i+1,hlt,fun j2 b hj2 hb=>by rcases Nat.lt_succ_iff_lt_or_eq.mp hj2 with h|h;exact hg j2 b h hb;subst h;rw [hk0] at hb;cases hb;exact ⟨hin,hq⟩⟩ _ ?_ ?_ ?_
     · (exact Nat.sub_lt_sub_left hlt (Nat.lt_succ_self _))
     · (simp only [go_sem,leX,List.cons_append,List.nil_append];try simp)
     · (simp only [go_sem,leX,List.cons_append,List.nil_append];try simp)
 · have hci:¬((ks.length:Nat):Int)<((ks.length:Nat):Int):=Int.lt_irrefl _
   have hfa:e0b out inn last ks=0:=q1l h1 h2 h3 h4 (fun b hb=>by obtain ⟨j,hj,e⟩:=List.getElem_of_mem hb;exact (hg j b hj (by rw [List.getElem?_eq_getElem hj,e])).1) (v1k fun j b hb=>(hg j b (List.getElem?_eq_some_iff.mp hb).1 hb).2)
   iterate 13 first
    |(refine Cx fun zK zhK=>?_;simp only [go_sem,rtC,List.length_map,Aq,F0,hci];(repeat' (first|apply And.intro|intro _)))
    |refine zhK _ ?_
    |(refine zhM _ _ ?_;clear zhN zhM)
    |refine Ey ?_
    |(refine zbx _ ?_;clear zbn zbx zbr zbi)
    |(refine zhN _ ?_;clear zhN zhM)
    |refine Dx ?_
    |(refine zhZ _ _ ?_;simp only [go_sem,rtC,List.length_map,Aq,F0,hci];(all_goals (rw [hfa])))
    |refine Bz fun zN zM zhN zhM=>?_
    |(refine Cy ?_ ?_;focus (first|rfl|(simp [go_sem,rtC,List.length_map,Aq,F0,hci];done)))
theorem u0c {out inn last:Int} {ks:List Kz} (h:¬(inN out=true∧inN inn=true∧inN last=true∧ks.length≤12)):(inN out=false∨(inN out=true∧inN inn=false)∨(inN out=true∧inN inn=true∧inN last=false)∨(inN out=true∧inN inn=true∧inN last=true∧¬ks.length≤12))∧e0b out inn last ks=9:=by
 have hb:(inN out=false∨(inN out=true∧inN inn=false)∨(inN out=true∧inN inn=true∧inN last=false)∨(inN out=true∧inN inn=true∧inN last=true∧¬ks.length≤12)):=by
  cases h1:inN out<;>cases h2:inN inn<;>cases h3:inN last<;>simp [h1,h2,h3] at h ⊢
  omega
 refine ⟨hb,o0z ?_⟩
 rcases hb with h|h|h|h
 · exact .inl h
 · exact .inr (.inl h.2)
 · exact .inr (.inr (.inl h.2.2))
 · exact .inr (.inr (.inr (.inl h.2.2.2)))
theorem r1t (root own peer send:List UInt8) (out:Int) (recv:List UInt8) (inn last:Int) (can hear:Bool) (ks:List Kz) (hr:root.length=32) (hw:own.length=32) (hp:peer.length=32) (hs:send.length=32) (hv:recv.length=32) (hk: ∀ k∈ks,k.ok):Ct Tryd.prog 4 [.w (.agg (rtC root own peer send out recv inn last can hear ks))] (fun v m=>v=.w (.one (.pl (.i (e0b out inn last ks))))):=by
 by_cases h:inN out=true∧inN inn=true∧inN last=true∧ks.length≤12
 · exact e1n root own peer send out recv inn last can hear ks hr hw hp hs hv hk h.1 h.2.1 h.2.2.1 h.2.2.2
 · rw [(u0c h).2]
   exact a1i root own peer send out recv inn last can hear ks hr hw hp hs hv hk (u0c h).1
end Go.Sy
namespace Go.Sy
open Go.Proofs
attribute [local irreducible] Dv HT Cz Px onC onE onO onG goV goA goS Qx Dw
theorem r1m (root own peer send:List UInt8) (out:Int) (recv:List UInt8) (inn last:Int) (can hear:Bool) (ks:List Kz) (hr:root.length=32) (hw:own.length=32) (hp:peer.length=32) (hs:send.length=32) (hv:recv.length=32) (hk: ∀ k∈ks,k.ok) (hlen:ks.length≤9223372036854775807):
 Ct Tryd.prog 7 [.w (.agg (rtC root own peer send out recv inn last can hear ks))] (fun v m=>v=.w (.one (.pl (.i (e0b out inn last ks))))):=by
 obtain ⟨x1,e1⟩: ∃ x,inN out=x:=⟨_,rfl⟩
 obtain ⟨x2,e2⟩: ∃ x,inN inn=x:=⟨_,rfl⟩
 obtain ⟨x3,e3⟩: ∃ x,inN last=x:=⟨_,rfl⟩
 obtain ⟨x4,e4⟩: ∃ x,decide (((ks.length:Nat):Int)≤(12:Int))=x:=⟨_,rfl⟩
 have e5:decide (ks.length≤12)=x4:=by rw [←e4];simp only [decide_eq_decide];omega
 obtain ⟨k0,hk0⟩: ∃ b,(inN out&&(inN inn&&(inN last&&decide (ks.length≤12))))=b:=⟨_,rfl⟩
 have hi1:=j1v out
 have hi2:=j1v inn
 have hi3:=j1v last
 have hk1:=hk0
 rw [e1,e2,e3,e5] at hk1
 rw [e1] at hi1
 rw [e2] at hi2
 rw [e3] at hi3
 have hb:(x1=false∧k0=false)∨(x1=true∧x2=false∧k0=false)∨(x1=true∧x2=true∧x3=false∧k0=false)∨(x1=true∧x2=true∧x3=true∧k0=x4):=by
  cases x1<;>cases x2<;>cases x3<;>simp_all
 clear e1 e2 e3 e5 hk1
 rcases hb with ⟨rfl,hz⟩|⟨rfl,rfl,hz⟩|⟨rfl,rfl,rfl,hz⟩|⟨rfl,rfl,rfl,hz⟩
 all_goals
  have F0:=And.intro hr<|And.intro hw<|And.intro hp<|And.intro hs<|hv
  refine Ct.k Tryd.func7 rfl Tryd.ntmps7 (congrArg Array.toList Tryd.results7) (by simp) fun w0 ro=>?_
  refine Dj fun zZ zhZ=>?_
  iterate 12 first
   |(refine Cx fun zK zhK=>?_;simp only [go_sem,rtC,List.length_map,F0];(repeat' (first|apply And.intro|intro _)))
   |refine zhK _ ?_
   |((all_goals (refine mk_k ?_ fun mb hmb=>?_;focus (first|decide|(simp only [go_sem];done))));(all_goals (try simp only [go_sem,e0i,rtC,List.length_map,F0]));(all_goals repeat' (first|apply And.intro|intro _)))
   |refine Aj fun zB zbn zbx zbr zbi=>?_
   |((all_goals (refine Cq (fun k=>k) (fun _ _=>rfl) ?_ (hi1.plain fun _ _ h=>h) ?_;focus (first|rfl|(simp only [go_sem,rtC,List.length_map,F0]<;>rfl))));(all_goals (rintro v m ⟨hR,hm⟩;subst hR;subst hm));(all_goals refine And.intro (by first|rfl|simp only [go_sem,rtC,List.length_map,F0]) (And.intro (by first|rfl|simp only [go_sem,rtC,List.length_map,F0]) ?_));(all_goals simp only [go_sem,rtC,List.length_map,F0]);(all_goals repeat' (first|apply And.intro|intro _));(all_goals (first|((refine Cq (fun k=>k) (fun _ _=>rfl) ?_ (hi2.plain fun _ _ h=>h) ?_;focus (first|rfl|(simp only [go_sem,rtC,List.length_map,F0]<;>rfl)));all_goals (rintro v m ⟨hR,hm⟩;subst hR;subst hm);all_goals refine And.intro (by first|rfl|simp only [go_sem,rtC,List.length_map,F0]) (And.intro (by first|rfl|simp only [go_sem,rtC,List.length_map,F0]) ?_);all_goals simp only [go_sem,rtC,List.length_map,F0];all_goals repeat' (first|apply And.intro|intro _))|skip));(all_goals (first|((refine Cq (fun k=>k) (fun _ _=>rfl) ?_ (hi3.plain fun _ _ h=>h) ?_;focus (first|rfl|(simp only [go_sem,rtC,List.length_map,F0]<;>rfl)));all_goals (rintro v m ⟨hR,hm⟩;subst hR;subst hm);all_goals refine And.intro (by first|rfl|simp only [go_sem,rtC,List.length_map,F0]) (And.intro (by first|rfl|simp only [go_sem,rtC,List.length_map,F0]) ?_);all_goals simp only [go_sem,rtC,List.length_map,F0];all_goals repeat' (first|apply And.intro|intro _))|skip)))
   |refine Bz fun zN zM zhN zhM=>?_
  refine Gv [0,7,8,9,10,11,12,13,14,15,16,17,18,19,20,21,22,23,24,25,26,27] ?_
  simp only [Gj,Iq,Gq,List.contains_cons,List.contains_nil,Nat.reduceBEq,beq_self_eq_true,Bool.or_false,Bool.or_true,Bool.true_or,Bool.false_or,Bool.false_eq_true,reduceIte]
  refine Jz (fun y=>[(3,.w (.one (.pl (.b (okI k0 ks y.1))))),(30,.w (.one (.pl (.i ((y.1:Nat):Int)))))]) (fun y=>[(2000000+mb,⟨.m (j0x (ks.take y.1)),[]⟩)]) (fun y=>ks.length-y.1) (⟨0,Nat.zero_le _⟩:{y:Nat//y≤ks.length}) ?_ ?_ ?_
  · (simp only [p0r,hz,e4,List.take_zero,j0x,List.foldl_nil,go_sem,leX,List.cons_append,List.nil_append];try simp [p0r];try exact e4)
  · (simp only [p0r,hz,List.take_zero,j0x,List.foldl_nil,go_sem,leX,List.cons_append,List.nil_append];try simp)
  intro ⟨i,hi⟩ zN zM zhN zhM
  simp only [List.cons_append,List.nil_append]
  have hd:(∃ k,i<ks.length∧ks[i]? =some k∧okI k0 ks i=false)∨(∃ k x,i<ks.length∧ks[i]? =some k∧okI k0 ks i=true∧inN k.n=x)∨(i=ks.length∧okI k0 ks ks.length=false)∨(i=ks.length∧okI k0 ks ks.length=true∧(j0x ks).length<ks.length)∨(i=ks.length∧okI k0 ks ks.length=true∧¬(j0x ks).length<ks.length):=by
   rcases Nat.lt_or_ge i ks.length with hlt|hge
   · obtain ⟨k,hk0⟩:=g1n hlt
     rcases Bool.eq_false_or_eq_true (okI k0 ks i) with e|e
     · exact .inr (.inl ⟨k,_,hlt,hk0,e,rfl⟩)
     · exact .inl ⟨k,hlt,hk0,e⟩
   · have hi2:=Nat.le_antisymm hi hge
     rcases Bool.eq_false_or_eq_true (okI k0 ks ks.length) with e|e
     · by_cases hs:(j0x ks).length<ks.length
       · exact .inr (.inr (.inr (.inl ⟨hi2,e,hs⟩)))
       · exact .inr (.inr (.inr (.inr ⟨hi2,e,hs⟩)))
     · exact .inr (.inr (.inl ⟨hi2,e⟩))
  rcases hd with ⟨k,hlt,hkx,hok⟩|⟨k,x,hlt,hkx,hok,hin⟩|⟨rfl,hok⟩|⟨rfl,hok,hsh⟩|⟨rfl,hok,hsh⟩
  · have hkk:=hk k (List.mem_of_getElem? hkx)
    have hpk:=hkk.1
    have hqk:=hkk.2.1
    have hlk:=Aq hkk
    have hgk:=getD_map (f:=c0w) (d:=([]:List PL)) hkx
    have hsk:=Xw k
    have hci:((i:Nat):Int)<((ks.length:Nat):Int):=Int.ofNat_lt.mpr hlt
    have hii:=t1r i
    have hio:=y0q (k0:=k0) hkx
    have him:=s0x hkx
    rw [m0u] at him
    have hsi:Go.RowKit.wrap64 (((i:Nat):Int)+1)=((i+1:Nat):Int):=Ny rfl (Nat.le_trans hlt hlen)
    have hT:=f1w k.peer hpk
    have hLw:=Bk.d2a (UInt64.ofNat (k.n%18446744073709551616).toNat) 8 (by decide)
    have hLl:=Dq (UInt64.ofNat (k.n%18446744073709551616).toNat) 8
    have F7:=And.intro hpk<|And.intro hqk<|And.intro hlk<|And.intro hgk<|And.intro hsk<|And.intro hci<|And.intro hii<|And.intro hsi<|And.intro hok<|hLl
    refine Cx fun zK zhK=>?_
    simp only [go_sem,rtC,List.length_map,F0,F7]
    repeat' (first|apply And.intro|intro _)
    refine zhK _ ?_
    refine Bz fun zN zM zhN zhM=>?_
    (refine Bv ?_ ?_;focus (first|rfl|(simp [go_sem,rtC,List.length_map,F0,F7];done)))
    refine Cw ?_
    refine zhN _ ?_;clear zhN zhM
    refine Bz fun zN zM zhN zhM=>?_
    refine Aj fun zB zbn zbx zbr zbi=>?_
    refine Cx fun zK zhK=>?_
    simp only [go_sem,rtC,List.length_map,F0,F7]
    repeat' (first|apply And.intro|intro _)
    refine zhK _ ?_
    refine Cx fun zK zhK=>?_
    simp only [go_sem,rtC,List.length_map,F0,F7]
    repeat' (first|apply And.intro|intro _)
    all_goals (first|((refine Cq (fun k=>k) (fun _ _=>rfl) ?_ (hiu.plain fun _ _ h=>h) ?_;focus (first|rfl|(simp only [go_sem,rtC,List.length_map,F0,F7]<;>rfl)));all_goals (rintro v m ⟨hR,hm⟩;subst hR;subst hm);all_goals refine And.intro (by first|rfl|simp only [go_sem,rtC,List.length_map,F0,F7]) (And.intro (by first|rfl|simp only [go_sem,rtC,List.length_map,F0,F7]) ?_);all_goals simp only [go_sem,rtC,List.length_map,F0,F7];all_goals repeat' (first|apply And.intro|intro _))|skip)
    refine zhK _ ?_
    refine b0s (id:=7) mixed fun zE zhE=>?_
    refine Ck (p:=0) 9 [40,41,42,43,44,45,46,47,48] [0,0,2,6,0,16,48,126,254,511,1023,2047] [] rfl (by kernel_rfl) rfl (by simp only [go_sem]) fun zR zK zhR zhK=>?_
    simp only [go_sem,rtC,List.length_map,F0,F7]
    repeat' (first|apply And.intro|intro _)
    all_goals (refine Jj (fun k=>k) (.w (.one (.pl (.str k.peer)))) [] (fun _ _=>rfl) ?_ (hT.plain fun _ _ h=>h) ?_ ?_;focus (first|rfl|(simp only [go_sem,rtC,List.length_map,F0,F7]<;>rfl)))
    all_goals try (refine And.intro ?_ (And.intro ?_ (And.intro ?_ ?_))<;>first|rfl|simp only [go_sem])
    all_goals simp only [go_sem,rtC,List.length_map,F0,F7]
    all_goals repeat' (first|apply And.intro|intro _)
    all_goals (refine Jj (fun k=>k) (.w (.one (.pl (.str (o0a (UInt64.ofNat (k.n%18446744073709551616).toNat) 8))))) [] (fun _ _=>rfl) ?_ (hLw.plain fun _ _ h=>h) ?_ ?_;focus (first|rfl|(simp only [go_sem,rtC,List.length_map,F0,F7]<;>rfl)))
    all_goals try (refine And.intro ?_ (And.intro ?_ (And.intro ?_ ?_))<;>first|rfl|simp only [go_sem])
    all_goals simp only [go_sem,rtC,List.length_map,F0,F7]
    all_goals repeat' (first|apply And.intro|intro _)
    refine zhK _ _ trivial (zhR _ ?_)
    refine Dk 3 12 rfl (by kernel_rfl) rfl rfl fun zR zhR=>?_
    simp only [go_sem,rtC,List.length_map,F0,F7]
    repeat' (first|apply And.intro|intro _)
    all_goals refine e2c Tryd.underlying40 Tryd.underlying9 (by kernel_rfl) ?_
    all_goals (try simp only [go_sem,e0i,rtC,List.length_map,F0,F7])
    all_goals repeat' (first|apply And.intro|intro _)
    all_goals refine d2u Tryd.underlying40 Tryd.underlying9 hmb ?_
    all_goals (try simp only [go_sem,e0i,rtC,List.length_map,F0,F7])
    all_goals repeat' (first|apply And.intro|intro _)
    refine zhR _ ?_
    refine Jy rfl (zhE _ ?_)
    refine zbn _ ?_;clear zbn zbx zbr zbi
    refine zhN _ ?_;clear zhN zhM
    refine Av fun zK zhK=>?_
    simp only [go_sem,rtC,List.length_map,F0,F7]
    repeat' (first|apply And.intro|intro _)
    refine zhK _ ?_
    refine zhN ⟨i+1,hlt⟩ _ ?_ ?_ ?_
    · (exact Nat.sub_lt_sub_left hlt (Nat.lt_succ_self _))
    · (simp only [hio,hok,Bool.false_and,go_sem,leX,List.cons_append,List.nil_append];try simp)
    · (simp only [him,go_sem,leX,List.cons_append,List.nil_append];try simp)
  · have hkk:=hk k (List.mem_of_getElem? hkx)
    have hpk:=hkk.1
    have hqk:=hkk.2.1
    have hlk:=Aq hkk
    have hgk:=getD_map (f:=c0w) (d:=([]:List PL)) hkx
    have hsk:=Xw k
    have hci:((i:Nat):Int)<((ks.length:Nat):Int):=Int.ofNat_lt.mpr hlt
    have hii:=t1r i
    have hio:=y0q (k0:=k0) hkx
    have him:=s0x hkx
    rw [m0u] at him
    have hsi:Go.RowKit.wrap64 (((i:Nat):Int)+1)=((i+1:Nat):Int):=Ny rfl (Nat.le_trans hlt hlen)
    have hT:=f1w k.peer hpk
    have hLw:=Bk.d2a (UInt64.ofNat (k.n%18446744073709551616).toNat) 8 (by decide)
    have hLl:=Dq (UInt64.ofNat (k.n%18446744073709551616).toNat) 8
    have hiu:=j1v k.n
    rw [hin] at hiu
    have F17:=And.intro hpk<|And.intro hqk<|And.intro hlk<|And.intro hgk<|And.intro hsk<|And.intro hci<|And.intro hii<|And.intro hsi<|And.intro hok<|hLl
    refine Cx fun zK zhK=>?_
    simp only [go_sem,rtC,List.length_map,F0,F17]
    repeat' (first|apply And.intro|intro _)
    refine zhK _ ?_
    refine Bz fun zN zM zhN zhM=>?_
    (refine Bv ?_ ?_;focus (first|rfl|(simp [go_sem,rtC,List.length_map,F0,F17];done)))
    refine Cw ?_
    refine zhN _ ?_;clear zhN zhM
    refine Bz fun zN zM zhN zhM=>?_
    refine Aj fun zB zbn zbx zbr zbi=>?_
    refine Cx fun zK zhK=>?_
    simp only [go_sem,rtC,List.length_map,F0,F17]
    repeat' (first|apply And.intro|intro _)
    refine zhK _ ?_
    refine Cx fun zK zhK=>?_
    simp only [go_sem,rtC,List.length_map,F0,F17]
    repeat' (first|apply And.intro|intro _)
    all_goals (first|((refine Cq (fun k=>k) (fun _ _=>rfl) ?_ (hiu.plain fun _ _ h=>h) ?_;focus (first|rfl|(simp only [go_sem,rtC,List.length_map,F0,F17]<;>rfl)));all_goals (rintro v m ⟨hR,hm⟩;subst hR;subst hm);all_goals refine And.intro (by first|rfl|simp only [go_sem,rtC,List.length_map,F0,F17]) (And.intro (by first|rfl|simp only [go_sem,rtC,List.length_map,F0,F17]) ?_);all_goals simp only [go_sem,rtC,List.length_map,F0,F17];all_goals repeat' (first|apply And.intro|intro _))|skip)
    refine zhK _ ?_
    refine b0s (id:=7) mixed fun zE zhE=>?_
    refine Ck (p:=0) 9 [40,41,42,43,44,45,46,47,48] [0,0,2,6,0,16,48,126,254,511,1023,2047] [] rfl (by kernel_rfl) rfl (by simp only [go_sem]) fun zR zK zhR zhK=>?_
    simp only [go_sem,rtC,List.length_map,F0,F17]
    repeat' (first|apply And.intro|intro _)
    all_goals (refine Jj (fun k=>k) (.w (.one (.pl (.str k.peer)))) [] (fun _ _=>rfl) ?_ (hT.plain fun _ _ h=>h) ?_ ?_;focus (first|rfl|(simp only [go_sem,rtC,List.length_map,F0,F17]<;>rfl)))
    all_goals try (refine And.intro ?_ (And.intro ?_ (And.intro ?_ ?_))<;>first|rfl|simp only [go_sem])
    all_goals simp only [go_sem,rtC,List.length_map,F0,F17]
    all_goals repeat' (first|apply And.intro|intro _)
    all_goals (refine Jj (fun k=>k) (.w (.one (.pl (.str (o0a (UInt64.ofNat (k.n%18446744073709551616).toNat) 8))))) [] (fun _ _=>rfl) ?_ (hLw.plain fun _ _ h=>h) ?_ ?_;focus (first|rfl|(simp only [go_sem,rtC,List.length_map,F0,F17]<;>rfl)))
    all_goals try (refine And.intro ?_ (And.intro ?_ (And.intro ?_ ?_))<;>first|rfl|simp only [go_sem])
    all_goals simp only [go_sem,rtC,List.length_map,F0,F17]
    all_goals repeat' (first|apply And.intro|intro _)
    refine zhK _ _ trivial (zhR _ ?_)
    refine Dk 3 12 rfl (by kernel_rfl) rfl rfl fun zR zhR=>?_
    simp only [go_sem,rtC,List.length_map,F0,F17]
    repeat' (first|apply And.intro|intro _)
    all_goals refine e2c Tryd.underlying40 Tryd.underlying9 (by kernel_rfl) ?_
    all_goals (try simp only [go_sem,e0i,rtC,List.length_map,F0,F17])
    all_goals repeat' (first|apply And.intro|intro _)
    all_goals refine d2u Tryd.underlying40 Tryd.underlying9 hmb ?_
    all_goals (try simp only [go_sem,e0i,rtC,List.length_map,F0,F17])
    all_goals repeat' (first|apply And.intro|intro _)
    refine zhR _ ?_
    refine Jy rfl (zhE _ ?_)
    refine zbn _ ?_;clear zbn zbx zbr zbi
    refine zhN _ ?_;clear zhN zhM
    refine Av fun zK zhK=>?_
    simp only [go_sem,rtC,List.length_map,F0,F17]
    repeat' (first|apply And.intro|intro _)
    refine zhK _ ?_
    refine zhN ⟨i+1,hlt⟩ _ ?_ ?_ ?_
    · (exact Nat.sub_lt_sub_left hlt (Nat.lt_succ_self _))
    · (simp only [hio,hok,hin,Bool.true_and,go_sem,leX,List.cons_append,List.nil_append];try simp)
    · (simp only [him,go_sem,leX,List.cons_append,List.nil_append];try simp)
  · have hce:¬((ks.length:Nat):Int)<((ks.length:Nat):Int):=Int.lt_irrefl _
    have hfa:=a2q hk0 hok
    iterate 18 first
     |(refine Cx fun zK zhK=>?_;simp only [go_sem,rtC,List.length_map,F0,hce,hok];(repeat' (first|apply And.intro|intro _)))
     |refine zhK _ ?_
     |(refine zhM _ _ ?_;clear zhN zhM)
     |refine Ey ?_
     |(refine zbx _ ?_;clear zbn zbx zbr zbi)
     |(refine zhN _ ?_;clear zhN zhM)
     |refine Dx ?_
     |(refine zhZ _ _ ?_;simp only [go_sem,rtC,List.length_map,F0,hce,hok];(all_goals (rw [hfa])))
     |refine Bz fun zN zM zhN zhM=>?_
     |(refine Cy ?_ ?_;focus (first|rfl|(simp [go_sem,rtC,List.length_map,F0,hce,hok];done)))
     |(refine Bv ?_ ?_;focus (first|rfl|(simp [go_sem,rtC,List.length_map,F0,hce,hok];done)))
  · have hce:¬((ks.length:Nat):Int)<((ks.length:Nat):Int):=Int.lt_irrefl _
    have hfa:=t0j hk0 hk hok
    rw [if_pos hsh] at hfa
    have hsh2:(((j0x ks).length:Nat):Int)<((ks.length:Nat):Int):=Int.ofNat_lt.mpr hsh
    have F32:=And.intro hce<|And.intro hok<|hsh2
    iterate 18 first
     |(refine Cx fun zK zhK=>?_;simp only [go_sem,rtC,List.length_map,F0,List.take_length,Tryd.underlying40,F32];(repeat' (first|apply And.intro|intro _)))
     |refine zhK _ ?_
     |(refine zhM _ _ ?_;clear zhN zhM)
     |refine Ey ?_
     |(refine zbx _ ?_;clear zbn zbx zbr zbi)
     |(refine zhN _ ?_;clear zhN zhM)
     |refine Dx ?_
     |(refine zhZ _ _ ?_;simp only [go_sem,rtC,List.length_map,F0,List.take_length,Tryd.underlying40,F32];(all_goals (rw [hfa])))
     |refine Bz fun zN zM zhN zhM=>?_
     |(refine Cy ?_ ?_;focus (first|rfl|(simp [go_sem,rtC,List.length_map,F0,List.take_length,Tryd.underlying40,F32];done)))
     |(refine Bv ?_ ?_;focus (first|rfl|(simp [go_sem,rtC,List.length_map,F0,List.take_length,Tryd.underlying40,F32];done)))
  · have hce:¬((ks.length:Nat):Int)<((ks.length:Nat):Int):=Int.lt_irrefl _
    have hfa:=t0j hk0 hk hok
    rw [if_neg hsh] at hfa
    have hsh2:¬(((j0x ks).length:Nat):Int)<((ks.length:Nat):Int):=fun e=>hsh (Int.ofNat_lt.mp e)
    have F37:=And.intro hce<|And.intro hok<|hsh2
    iterate 19 first
     |(refine Cx fun zK zhK=>?_;simp only [go_sem,rtC,List.length_map,F0,List.take_length,Tryd.underlying40,F37];(repeat' (first|apply And.intro|intro _)))
     |refine zhK _ ?_
     |(refine zhM _ _ ?_;clear zhN zhM)
     |(refine zhN _ ?_;clear zhN zhM)
     |refine Ey ?_
     |(refine zbx _ ?_;clear zbn zbx zbr zbi)
     |refine Cw ?_
     |refine Dx ?_
     |(refine zhZ _ _ ?_;simp only [go_sem,rtC,List.length_map,F0,List.take_length,Tryd.underlying40,F37];(all_goals (rw [hfa])))
     |refine Bz fun zN zM zhN zhM=>?_
     |(refine Cy ?_ ?_;focus (first|rfl|(simp [go_sem,rtC,List.length_map,F0,List.take_length,Tryd.underlying40,F37];done)))
end Go.Sy
