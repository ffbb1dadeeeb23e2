/- Facts on the types of the program. -/
import Derived.Test.YtlmbdhfkdhjcfaaDoorProg
import Derived.Test.YtlmbdhfkdhjcfaaDoorvE3
import Derived.KernelRfl
set_option linter.unusedVariables false
set_option linter.unusedSimpArgs false
namespace Go.Sy
open Go.Proofs
attribute [local irreducible] Dv HT Cz Px onC onE onO onG goV goA goS Qx Dw
theorem mixed :Tryd.prog.follows .mixedOrders=true:=by kernel_rfl
@[go_sem] theorem sz3 :Tryd.prog.cellsOf 3=1:=by kernel_rfl
@[go_sem] theorem bo3 :Tryd.prog.bytesOf 3=8:=by kernel_rfl
attribute [go_sem] Tryd.underlying3
@[go_sem] theorem zc3 :Jw Tryd.prog 3=some (L.pl (.i 0)::[]):=by kernel_rfl
@[go_sem] theorem sz4 :Tryd.prog.cellsOf 4=1:=by kernel_rfl
@[go_sem] theorem bo4 :Tryd.prog.bytesOf 4=1:=by kernel_rfl
attribute [go_sem] Tryd.underlying4
@[go_sem] theorem zc4 :Jw Tryd.prog 4=some (L.pl (.b false)::[]):=by kernel_rfl
@[go_sem] theorem sz5 :Tryd.prog.cellsOf 5=1:=by kernel_rfl
@[go_sem] theorem bo5 :Tryd.prog.bytesOf 5=1:=by kernel_rfl
attribute [go_sem] Tryd.underlying5
@[go_sem] theorem zc5 :Jw Tryd.prog 5=some (L.pl (.u8 0)::[]):=by kernel_rfl
@[go_sem] theorem sz9 :Tryd.prog.cellsOf 9=1:=by kernel_rfl
@[go_sem] theorem bo9 :Tryd.prog.bytesOf 9=16:=by kernel_rfl
attribute [go_sem] Tryd.underlying9
@[go_sem] theorem zc9 :Jw Tryd.prog 9=some (L.pl (.str [])::[]):=by kernel_rfl
@[go_sem] theorem sz22 :Tryd.prog.cellsOf 22=32:=by kernel_rfl
@[go_sem] theorem bo22 :Tryd.prog.bytesOf 22=32:=by kernel_rfl
attribute [go_sem] Tryd.underlying22
@[go_sem] theorem zc22 :Jw Tryd.prog 22=some (Az (List.replicate 32 0)):=by kernel_rfl
@[go_sem] theorem ag22 :Kw Tryd.prog 22=true:=by kernel_rfl
@[go_sem] theorem ae22 {xs ys:List L} (hx:xs.map Xk=((List.replicate 32 (Kd.int .u8):List Kd)).map some) (hy:ys.map Xk=((List.replicate 32 (Kd.int .u8):List Kd)).map some):f0j Tryd.prog 22 xs ys=some (eqC xs ys):=z0t (by kernel_rfl) (by kernel_rfl) hx hy
@[go_sem] theorem sz23 :Tryd.prog.cellsOf 23=32:=by kernel_rfl
@[go_sem] theorem bo23 :Tryd.prog.bytesOf 23=32:=by kernel_rfl
attribute [go_sem] Tryd.underlying23
@[go_sem] theorem zc23 :Jw Tryd.prog 23=some (Az (List.replicate 32 0)):=by kernel_rfl
@[go_sem] theorem ag23 :Kw Tryd.prog 23=true:=by kernel_rfl
@[go_sem] theorem ae23 {xs ys:List L} (hx:xs.map Xk=((List.replicate 32 (Kd.int .u8):List Kd)).map some) (hy:ys.map Xk=((List.replicate 32 (Kd.int .u8):List Kd)).map some):f0j Tryd.prog 23 xs ys=some (eqC xs ys):=z0t (by kernel_rfl) (by kernel_rfl) hx hy
@[go_sem] theorem sz24 :Tryd.prog.cellsOf 24=1:=by kernel_rfl
@[go_sem] theorem bo24 :Tryd.prog.bytesOf 24=24:=by kernel_rfl
attribute [go_sem] Tryd.underlying24
@[go_sem] theorem zc24 :Jw Tryd.prog 24=some (L.pl (.R true 1 [])::[]):=by kernel_rfl
@[go_sem] theorem sz25 :Tryd.prog.cellsOf 25=166:=by kernel_rfl
@[go_sem] theorem bo25 :Tryd.prog.bytesOf 25=216:=by kernel_rfl
attribute [go_sem] Tryd.underlying25
@[go_sem] theorem zc25 :Jw Tryd.prog 25=some (Az (List.replicate 32 0)++(Az (List.replicate 32 0)++(Az (List.replicate 32 0)++(Az (List.replicate 32 0)++(L.pl (.i 0)::Az (List.replicate 32 0)++(L.pl (.i 0)::L.pl (.i 0)::L.pl (.b false)::L.pl (.b false)::L.pl (.R true 1 [])::[])))))):=by kernel_rfl
@[go_sem] theorem ag25 :Kw Tryd.prog 25=true:=by kernel_rfl
@[go_sem] theorem sz26 :Tryd.prog.cellsOf 26=166:=by kernel_rfl
@[go_sem] theorem bo26 :Tryd.prog.bytesOf 26=216:=by kernel_rfl
attribute [go_sem] Tryd.underlying26
@[go_sem] theorem zc26 :Jw Tryd.prog 26=some (Az (List.replicate 32 0)++(Az (List.replicate 32 0)++(Az (List.replicate 32 0)++(Az (List.replicate 32 0)++(L.pl (.i 0)::Az (List.replicate 32 0)++(L.pl (.i 0)::L.pl (.i 0)::L.pl (.b false)::L.pl (.b false)::L.pl (.R true 1 [])::[])))))):=by kernel_rfl
@[go_sem] theorem ag26 :Kw Tryd.prog 26=true:=by kernel_rfl
@[go_sem] theorem sz27 :Tryd.prog.cellsOf 27=1:=by kernel_rfl
@[go_sem] theorem bo27 :Tryd.prog.bytesOf 27=8:=by kernel_rfl
attribute [go_sem] Tryd.underlying27
@[go_sem] theorem zc27 :Jw Tryd.prog 27=some (L.pl (.i 0)::[]):=by kernel_rfl
@[go_sem] theorem sz35 :Tryd.prog.cellsOf 35=65:=by kernel_rfl
@[go_sem] theorem bo35 :Tryd.prog.bytesOf 35=72:=by kernel_rfl
attribute [go_sem] Tryd.underlying35
@[go_sem] theorem zc35 :Jw Tryd.prog 35=some (Az (List.replicate 32 0)++(L.pl (.i 0)::Az (List.replicate 32 0))):=by kernel_rfl
@[go_sem] theorem ag35 :Kw Tryd.prog 35=true:=by kernel_rfl
@[go_sem] theorem sz36 :Tryd.prog.cellsOf 36=65:=by kernel_rfl
@[go_sem] theorem bo36 :Tryd.prog.bytesOf 36=72:=by kernel_rfl
attribute [go_sem] Tryd.underlying36
@[go_sem] theorem zc36 :Jw Tryd.prog 36=some (Az (List.replicate 32 0)++(L.pl (.i 0)::Az (List.replicate 32 0))):=by kernel_rfl
@[go_sem] theorem ag36 :Kw Tryd.prog 36=true:=by kernel_rfl
@[go_sem] theorem sz43 :Tryd.prog.cellsOf 43=1:=by kernel_rfl
@[go_sem] theorem bo43 :Tryd.prog.bytesOf 43=8:=by kernel_rfl
attribute [go_sem] Tryd.underlying43
@[go_sem] theorem zc43 :Jw Tryd.prog 43=some (L.pl (.u64 0)::[]):=by kernel_rfl
@[go_sem] theorem sz46 :Tryd.prog.cellsOf 46=64:=by kernel_rfl
@[go_sem] theorem bo46 :Tryd.prog.bytesOf 46=64:=by kernel_rfl
attribute [go_sem] Tryd.underlying46
@[go_sem] theorem zc46 :Jw Tryd.prog 46=some (Az (List.replicate 32 0)++(Az (List.replicate 32 0))):=by kernel_rfl
@[go_sem] theorem ag46 :Kw Tryd.prog 46=true:=by kernel_rfl
@[go_sem] theorem sz48 :Tryd.prog.cellsOf 48=1:=by kernel_rfl
@[go_sem] theorem bo48 :Tryd.prog.bytesOf 48=24:=by kernel_rfl
attribute [go_sem] Tryd.underlying48
@[go_sem] theorem zc48 :Jw Tryd.prog 48=some (L.pl (.R true 1 [])::[]):=by kernel_rfl
@[go_sem] theorem sz49 :Tryd.prog.cellsOf 49=96:=by kernel_rfl
@[go_sem] theorem bo49 :Tryd.prog.bytesOf 49=96:=by kernel_rfl
attribute [go_sem] Tryd.underlying49
@[go_sem] theorem zc49 :Jw Tryd.prog 49=some (Az (List.replicate 32 0)++(Az (List.replicate 32 0)++(Az (List.replicate 32 0)))):=by kernel_rfl
@[go_sem] theorem ag49 :Kw Tryd.prog 49=true:=by kernel_rfl
@[go_sem] theorem sz52 :Tryd.prog.cellsOf 52=4:=by kernel_rfl
@[go_sem] theorem bo52 :Tryd.prog.bytesOf 52=32:=by kernel_rfl
attribute [go_sem] Tryd.underlying52
@[go_sem] theorem zc52 :Jw Tryd.prog 52=some (L.pl (.u64 0)::L.pl (.u64 0)::L.pl (.u64 0)::L.pl (.u64 0)::[]):=by kernel_rfl
@[go_sem] theorem ag52 :Kw Tryd.prog 52=true:=by kernel_rfl
@[go_sem] theorem sz53 :Tryd.prog.cellsOf 53=4:=by kernel_rfl
@[go_sem] theorem bo53 :Tryd.prog.bytesOf 53=32:=by kernel_rfl
attribute [go_sem] Tryd.underlying53
@[go_sem] theorem zc53 :Jw Tryd.prog 53=some (L.pl (.u64 0)::L.pl (.u64 0)::L.pl (.u64 0)::L.pl (.u64 0)::[]):=by kernel_rfl
@[go_sem] theorem ag53 :Kw Tryd.prog 53=true:=by kernel_rfl
@[go_sem] theorem sz55 :Tryd.prog.cellsOf 55=8:=by kernel_rfl
@[go_sem] theorem bo55 :Tryd.prog.bytesOf 55=64:=by kernel_rfl
attribute [go_sem] Tryd.underlying55
@[go_sem] theorem zc55 :Jw Tryd.prog 55=some (L.pl (.u64 0)::L.pl (.u64 0)::L.pl (.u64 0)::L.pl (.u64 0)::L.pl (.u64 0)::L.pl (.u64 0)::L.pl (.u64 0)::L.pl (.u64 0)::[]):=by kernel_rfl
@[go_sem] theorem ag55 :Kw Tryd.prog 55=true:=by kernel_rfl
@[go_sem] theorem sz56 :Tryd.prog.cellsOf 56=16:=by kernel_rfl
@[go_sem] theorem bo56 :Tryd.prog.bytesOf 56=128:=by kernel_rfl
attribute [go_sem] Tryd.underlying56
@[go_sem] theorem zc56 :Jw Tryd.prog 56=some (L.pl (.u64 0)::L.pl (.u64 0)::L.pl (.u64 0)::L.pl (.u64 0)::L.pl (.u64 0)::L.pl (.u64 0)::L.pl (.u64 0)::L.pl (.u64 0)::L.pl (.u64 0)::L.pl (.u64 0)::L.pl (.u64 0)::L.pl (.u64 0)::L.pl (.u64 0)::L.pl (.u64 0)::L.pl (.u64 0)::L.pl (.u64 0)::[]):=by kernel_rfl
@[go_sem] theorem ag56 :Kw Tryd.prog 56=true:=by kernel_rfl
@[go_sem] theorem sz57 :Tryd.prog.cellsOf 57=16:=by kernel_rfl
@[go_sem] theorem bo57 :Tryd.prog.bytesOf 57=128:=by kernel_rfl
attribute [go_sem] Tryd.underlying57
@[go_sem] theorem zc57 :Jw Tryd.prog 57=some (L.pl (.u64 0)::L.pl (.u64 0)::L.pl (.u64 0)::L.pl (.u64 0)::L.pl (.u64 0)::L.pl (.u64 0)::L.pl (.u64 0)::L.pl (.u64 0)::L.pl (.u64 0)::L.pl (.u64 0)::L.pl (.u64 0)::L.pl (.u64 0)::L.pl (.u64 0)::L.pl (.u64 0)::L.pl (.u64 0)::L.pl (.u64 0)::[]):=by kernel_rfl
@[go_sem] theorem ag57 :Kw Tryd.prog 57=true:=by kernel_rfl
@[go_sem] theorem sz66 :Tryd.prog.cellsOf 66=16:=by kernel_rfl
@[go_sem] theorem bo66 :Tryd.prog.bytesOf 66=128:=by kernel_rfl
attribute [go_sem] Tryd.underlying66
@[go_sem] theorem zc66 :Jw Tryd.prog 66=some (L.pl (.u64 0)::L.pl (.u64 0)::L.pl (.u64 0)::L.pl (.u64 0)::L.pl (.u64 0)::L.pl (.u64 0)::L.pl (.u64 0)::L.pl (.u64 0)::L.pl (.u64 0)::L.pl (.u64 0)::L.pl (.u64 0)::L.pl (.u64 0)::L.pl (.u64 0)::L.pl (.u64 0)::L.pl (.u64 0)::L.pl (.u64 0)::[]):=by kernel_rfl
@[go_sem] theorem ag66 :Kw Tryd.prog 66=true:=by kernel_rfl
@[go_sem] theorem sz67 :Tryd.prog.cellsOf 67=16:=by kernel_rfl
@[go_sem] theorem bo67 :Tryd.prog.bytesOf 67=128:=by kernel_rfl
attribute [go_sem] Tryd.underlying67
@[go_sem] theorem zc67 :Jw Tryd.prog 67=some (L.pl (.u64 0)::L.pl (.u64 0)::L.pl (.u64 0)::L.pl (.u64 0)::L.pl (.u64 0)::L.pl (.u64 0)::L.pl (.u64 0)::L.pl (.u64 0)::L.pl (.u64 0)::L.pl (.u64 0)::L.pl (.u64 0)::L.pl (.u64 0)::L.pl (.u64 0)::L.pl (.u64 0)::L.pl (.u64 0)::L.pl (.u64 0)::[]):=by kernel_rfl
@[go_sem] theorem ag67 :Kw Tryd.prog 67=true:=by kernel_rfl
@[go_sem] theorem sz68 :Tryd.prog.cellsOf 68=32:=by kernel_rfl
@[go_sem] theorem bo68 :Tryd.prog.bytesOf 68=256:=by kernel_rfl
attribute [go_sem] Tryd.underlying68
@[go_sem] theorem zc68 :Jw Tryd.prog 68=some (L.pl (.u64 0)::L.pl (.u64 0)::L.pl (.u64 0)::L.pl (.u64 0)::L.pl (.u64 0)::L.pl (.u64 0)::L.pl (.u64 0)::L.pl (.u64 0)::L.pl (.u64 0)::L.pl (.u64 0)::L.pl (.u64 0)::L.pl (.u64 0)::L.pl (.u64 0)::L.pl (.u64 0)::L.pl (.u64 0)::L.pl (.u64 0)::L.pl (.u64 0)::L.pl (.u64 0)::L.pl (.u64 0)::L.pl (.u64 0)::L.pl (.u64 0)::L.pl (.u64 0)::L.pl (.u64 0)::L.pl (.u64 0)::L.pl (.u64 0)::L.pl (.u64 0)::L.pl (.u64 0)::L.pl (.u64 0)::L.pl (.u64 0)::L.pl (.u64 0)::L.pl (.u64 0)::L.pl (.u64 0)::[]):=by kernel_rfl
@[go_sem] theorem ag68 :Kw Tryd.prog 68=true:=by kernel_rfl
@[go_sem] theorem sz69 :Tryd.prog.cellsOf 69=32:=by kernel_rfl
@[go_sem] theorem bo69 :Tryd.prog.bytesOf 69=256:=by kernel_rfl
attribute [go_sem] Tryd.underlying69
@[go_sem] theorem zc69 :Jw Tryd.prog 69=some (L.pl (.u64 0)::L.pl (.u64 0)::L.pl (.u64 0)::L.pl (.u64 0)::L.pl (.u64 0)::L.pl (.u64 0)::L.pl (.u64 0)::L.pl (.u64 0)::L.pl (.u64 0)::L.pl (.u64 0)::L.pl (.u64 0)::L.pl (.u64 0)::L.pl (.u64 0)::L.pl (.u64 0)::L.pl (.u64 0)::L.pl (.u64 0)::L.pl (.u64 0)::L.pl (.u64 0)::L.pl (.u64 0)::L.pl (.u64 0)::L.pl (.u64 0)::L.pl (.u64 0)::L.pl (.u64 0)::L.pl (.u64 0)::L.pl (.u64 0)::L.pl (.u64 0)::L.pl (.u64 0)::L.pl (.u64 0)::L.pl (.u64 0)::L.pl (.u64 0)::L.pl (.u64 0)::L.pl (.u64 0)::[]):=by kernel_rfl
@[go_sem] theorem ag69 :Kw Tryd.prog 69=true:=by kernel_rfl
@[go_sem] theorem sz84 :Tryd.prog.cellsOf 84=32:=by kernel_rfl
@[go_sem] theorem bo84 :Tryd.prog.bytesOf 84=256:=by kernel_rfl
attribute [go_sem] Tryd.underlying84
@[go_sem] theorem zc84 :Jw Tryd.prog 84=some (Aw (List.replicate 32 0)):=by kernel_rfl
@[go_sem] theorem ag84 :Kw Tryd.prog 84=true:=by kernel_rfl
@[go_sem] theorem sz89 :Tryd.prog.cellsOf 89=8:=by kernel_rfl
@[go_sem] theorem bo89 :Tryd.prog.bytesOf 89=64:=by kernel_rfl
attribute [go_sem] Tryd.underlying89
@[go_sem] theorem zc89 :Jw Tryd.prog 89=some (L.pl (.u64 0)::L.pl (.u64 0)::L.pl (.u64 0)::L.pl (.u64 0)::L.pl (.u64 0)::L.pl (.u64 0)::L.pl (.u64 0)::L.pl (.u64 0)::[]):=by kernel_rfl
@[go_sem] theorem ag89 :Kw Tryd.prog 89=true:=by kernel_rfl
@[go_sem] theorem sz95 :Tryd.prog.cellsOf 95=64:=by kernel_rfl
@[go_sem] theorem bo95 :Tryd.prog.bytesOf 95=64:=by kernel_rfl
attribute [go_sem] Tryd.underlying95
@[go_sem] theorem zc95 :Jw Tryd.prog 95=some (Az (List.replicate 64 0)):=by kernel_rfl
@[go_sem] theorem ag95 :Kw Tryd.prog 95=true:=by kernel_rfl
@[go_sem] theorem sz97 :Tryd.prog.cellsOf 97=1:=by kernel_rfl
@[go_sem] theorem bo97 :Tryd.prog.bytesOf 97=24:=by kernel_rfl
attribute [go_sem] Tryd.underlying97
@[go_sem] theorem zc97 :Jw Tryd.prog 97=some (L.pl (.R true 1 [])::[]):=by kernel_rfl
@[go_sem] theorem sz99 :Tryd.prog.cellsOf 99=1:=by kernel_rfl
@[go_sem] theorem bo99 :Tryd.prog.bytesOf 99=4:=by kernel_rfl
attribute [go_sem] Tryd.underlying99
@[go_sem] theorem zc99 :Jw Tryd.prog 99=some (L.pl (.u32 0)::[]):=by kernel_rfl
@[go_sem] theorem sz100 :Tryd.prog.cellsOf 100=8:=by kernel_rfl
@[go_sem] theorem bo100 :Tryd.prog.bytesOf 100=32:=by kernel_rfl
attribute [go_sem] Tryd.underlying100
@[go_sem] theorem zc100 :Jw Tryd.prog 100=some (L.pl (.u32 0)::L.pl (.u32 0)::L.pl (.u32 0)::L.pl (.u32 0)::L.pl (.u32 0)::L.pl (.u32 0)::L.pl (.u32 0)::L.pl (.u32 0)::[]):=by kernel_rfl
@[go_sem] theorem ag100 :Kw Tryd.prog 100=true:=by kernel_rfl
@[go_sem] theorem sz101 :Tryd.prog.cellsOf 101=74:=by kernel_rfl
@[go_sem] theorem bo101 :Tryd.prog.bytesOf 101=112:=by kernel_rfl
attribute [go_sem] Tryd.underlying101
@[go_sem] theorem zc101 :Jw Tryd.prog 101=some (L.pl (.u32 0)::L.pl (.u32 0)::L.pl (.u32 0)::L.pl (.u32 0)::L.pl (.u32 0)::L.pl (.u32 0)::L.pl (.u32 0)::L.pl (.u32 0)::Az (List.replicate 64 0)++(L.pl (.i 0)::L.pl (.i 0)::[])):=by kernel_rfl
@[go_sem] theorem ag101 :Kw Tryd.prog 101=true:=by kernel_rfl
@[go_sem] theorem sz102 :Tryd.prog.cellsOf 102=74:=by kernel_rfl
@[go_sem] theorem bo102 :Tryd.prog.bytesOf 102=112:=by kernel_rfl
attribute [go_sem] Tryd.underlying102
@[go_sem] theorem zc102 :Jw Tryd.prog 102=some (L.pl (.u32 0)::L.pl (.u32 0)::L.pl (.u32 0)::L.pl (.u32 0)::L.pl (.u32 0)::L.pl (.u32 0)::L.pl (.u32 0)::L.pl (.u32 0)::Az (List.replicate 64 0)++(L.pl (.i 0)::L.pl (.i 0)::[])):=by kernel_rfl
@[go_sem] theorem ag102 :Kw Tryd.prog 102=true:=by kernel_rfl
@[go_sem] theorem sz108 :Tryd.prog.cellsOf 108=1:=by kernel_rfl
@[go_sem] theorem bo108 :Tryd.prog.bytesOf 108=8:=by kernel_rfl
attribute [go_sem] Tryd.underlying108
@[go_sem] theorem zc108 :Jw Tryd.prog 108=some (L.pl (.u64 0)::[]):=by kernel_rfl
@[go_sem] theorem sz113 :Tryd.prog.cellsOf 113=4:=by kernel_rfl
@[go_sem] theorem bo113 :Tryd.prog.bytesOf 113=16:=by kernel_rfl
attribute [go_sem] Tryd.underlying113
@[go_sem] theorem zc113 :Jw Tryd.prog 113=some (L.pl (.u32 0)::L.pl (.u32 0)::L.pl (.u32 0)::L.pl (.u32 0)::[]):=by kernel_rfl
@[go_sem] theorem ag113 :Kw Tryd.prog 113=true:=by kernel_rfl
@[go_sem] theorem sz114 :Tryd.prog.cellsOf 114=16:=by kernel_rfl
@[go_sem] theorem bo114 :Tryd.prog.bytesOf 114=64:=by kernel_rfl
attribute [go_sem] Tryd.underlying114
@[go_sem] theorem zc114 :Jw Tryd.prog 114=some (L.pl (.u32 0)::L.pl (.u32 0)::L.pl (.u32 0)::L.pl (.u32 0)::L.pl (.u32 0)::L.pl (.u32 0)::L.pl (.u32 0)::L.pl (.u32 0)::L.pl (.u32 0)::L.pl (.u32 0)::L.pl (.u32 0)::L.pl (.u32 0)::L.pl (.u32 0)::L.pl (.u32 0)::L.pl (.u32 0)::L.pl (.u32 0)::[]):=by kernel_rfl
@[go_sem] theorem ag114 :Kw Tryd.prog 114=true:=by kernel_rfl
@[go_sem] theorem sz120 :Tryd.prog.cellsOf 120=16:=by kernel_rfl
@[go_sem] theorem bo120 :Tryd.prog.bytesOf 120=64:=by kernel_rfl
attribute [go_sem] Tryd.underlying120
@[go_sem] theorem zc120 :Jw Tryd.prog 120=some (L.pl (.u32 0)::L.pl (.u32 0)::L.pl (.u32 0)::L.pl (.u32 0)::L.pl (.u32 0)::L.pl (.u32 0)::L.pl (.u32 0)::L.pl (.u32 0)::L.pl (.u32 0)::L.pl (.u32 0)::L.pl (.u32 0)::L.pl (.u32 0)::L.pl (.u32 0)::L.pl (.u32 0)::L.pl (.u32 0)::L.pl (.u32 0)::[]):=by kernel_rfl
@[go_sem] theorem ag120 :Kw Tryd.prog 120=true:=by kernel_rfl
@[go_sem] theorem sz122 :Tryd.prog.cellsOf 122=16:=by kernel_rfl
@[go_sem] theorem bo122 :Tryd.prog.bytesOf 122=128:=by kernel_rfl
attribute [go_sem] Tryd.underlying122
@[go_sem] theorem zc122 :Jw Tryd.prog 122=some (L.pl (.i 0)::L.pl (.i 0)::L.pl (.i 0)::L.pl (.i 0)::L.pl (.i 0)::L.pl (.i 0)::L.pl (.i 0)::L.pl (.i 0)::L.pl (.i 0)::L.pl (.i 0)::L.pl (.i 0)::L.pl (.i 0)::L.pl (.i 0)::L.pl (.i 0)::L.pl (.i 0)::L.pl (.i 0)::[]):=by kernel_rfl
@[go_sem] theorem ag122 :Kw Tryd.prog 122=true:=by kernel_rfl
@[go_sem] theorem sz123 :Tryd.prog.cellsOf 123=160:=by kernel_rfl
@[go_sem] theorem bo123 :Tryd.prog.bytesOf 123=1280:=by kernel_rfl
attribute [go_sem] Tryd.underlying123
@[go_sem] theorem zc123 :Jw Tryd.prog 123=some (L.pl (.i 0)::L.pl (.i 0)::L.pl (.i 0)::L.pl (.i 0)::L.pl (.i 0)::L.pl (.i 0)::L.pl (.i 0)::L.pl (.i 0)::L.pl (.i 0)::L.pl (.i 0)::L.pl (.i 0)::L.pl (.i 0)::L.pl (.i 0)::L.pl (.i 0)::L.pl (.i 0)::L.pl (.i 0)::L.pl (.i 0)::L.pl (.i 0)::L.pl (.i 0)::L.pl (.i 0)::L.pl (.i 0)::L.pl (.i 0)::L.pl (.i 0)::L.pl (.i 0)::L.pl (.i 0)::L.pl (.i 0)::L.pl (.i 0)::L.pl (.i 0)::L.pl (.i 0)::L.pl (.i 0)::L.pl (.i 0)::L.pl (.i 0)::L.pl (.i 0)::L.pl (.i 0)::L.pl (.i 0)::L.pl (.i 0)::L.pl (.i 0)::L.pl (.i 0)::L.pl (.i 0)::L.pl (.i 0)::L.pl (.i 0)::L.pl (.i 0)::L.pl (.i 0)::L.pl (.i 0)::L.pl (.i 0)::L.pl (.i 0)::L.pl (.i 0)::L.pl (.i 0)::L.pl (.i 0)::L.pl (.i 0)::L.pl (.i 0)::L.pl (.i 0)::L.pl (.i 0)::L.pl (.i 0)::L.pl (.i 0)::L.pl (.i 0)::L.pl (.i 0)::L.pl (.i 0)::L.pl (.i 0)::L.pl (.i 0)::L.pl (.i 0)::L.pl (.i 0)::L.pl (.i 0)::L.pl (.i 0)::L.pl (.i 0)::L.pl (.i 0)::L.pl (.i 0)::L.pl (.i 0)::L.pl (.i 0)::L.pl (.i 0)::L.pl (.i 0)::L.pl (.i 0)::L.pl (.i 0)::L.pl (.i 0)::L.pl (.i 0)::L.pl (.i 0)::L.pl (.i 0)::L.pl (.i 0)::L.pl (.i 0)::L.pl (.i 0)::L.pl (.i 0)::L.pl (.i 0)::L.pl (.i 0)::L.pl (.i 0)::L.pl (.i 0)::L.pl (.i 0)::L.pl (.i 0)::L.pl (.i 0)::L.pl (.i 0)::L.pl (.i 0)::L.pl (.i 0)::L.pl (.i 0)::L.pl (.i 0)::L.pl (.i 0)::L.pl (.i 0)::L.pl (.i 0)::L.pl (.i 0)::L.pl (.i 0)::L.pl (.i 0)::L.pl (.i 0)::L.pl (.i 0)::L.pl (.i 0)::L.pl (.i 0)::L.pl (.i 0)::L.pl (.i 0)::L.pl (.i 0)::L.pl (.i 0)::L.pl (.i 0)::L.pl (.i 0)::L.pl (.i 0)::L.pl (.i 0)::L.pl (.i 0)::L.pl (.i 0)::L.pl (.i 0)::L.pl (.i 0)::L.pl (.i 0)::L.pl (.i 0)::L.pl (.i 0)::L.pl (.i 0)::L.pl (.i 0)::L.pl (.i 0)::L.pl (.i 0)::L.pl (.i 0)::L.pl (.i 0)::L.pl (.i 0)::L.pl (.i 0)::L.pl (.i 0)::L.pl (.i 0)::L.pl (.i 0)::L.pl (.i 0)::L.pl (.i 0)::L.pl (.i 0)::L.pl (.i 0)::L.pl (.i 0)::L.pl (.i 0)::L.pl (.i 0)::L.pl (.i 0)::L.pl (.i 0)::L.pl (.i 0)::L.pl (.i 0)::L.pl (.i 0)::L.pl (.i 0)::L.pl (.i 0)::L.pl (.i 0)::L.pl (.i 0)::L.pl (.i 0)::L.pl (.i 0)::L.pl (.i 0)::L.pl (.i 0)::L.pl (.i 0)::L.pl (.i 0)::L.pl (.i 0)::L.pl (.i 0)::L.pl (.i 0)::L.pl (.i 0)::L.pl (.i 0)::L.pl (.i 0)::L.pl (.i 0)::L.pl (.i 0)::L.pl (.i 0)::[]):=by kernel_rfl
@[go_sem] theorem ag123 :Kw Tryd.prog 123=true:=by kernel_rfl
end Go.Sy
