/- Facts on the types of the program. -/
import Derived.Test.YtkfcbhgkpknagaaGreatDoorProg
import Derived.Test.YtkfcbhgkpknagaaGreatDoorvE3
import Derived.KernelRfl
set_option linter.unusedVariables false
set_option linter.unusedSimpArgs false
namespace Go.Sy
open Go.Proofs
attribute [local irreducible] Bw HT Aj Jk onC onE onO onG goV goA goS Lx Bz
theorem mixed :Tryz.prog.follows .mixedOrders=true:=by kernel_rfl
@[go_sem] theorem sz3 :Tryz.prog.cellsOf 3=1:=by kernel_rfl
@[go_sem] theorem bo3 :Tryz.prog.bytesOf 3=8:=by kernel_rfl
attribute [go_sem] Tryz.underlying3
@[go_sem] theorem zc3 :Jq Tryz.prog 3=some (L.pl (.i 0)::[]):=by kernel_rfl
@[go_sem] theorem sz4 :Tryz.prog.cellsOf 4=1:=by kernel_rfl
@[go_sem] theorem bo4 :Tryz.prog.bytesOf 4=1:=by kernel_rfl
attribute [go_sem] Tryz.underlying4
@[go_sem] theorem zc4 :Jq Tryz.prog 4=some (L.pl (.b false)::[]):=by kernel_rfl
@[go_sem] theorem sz5 :Tryz.prog.cellsOf 5=1:=by kernel_rfl
@[go_sem] theorem bo5 :Tryz.prog.bytesOf 5=1:=by kernel_rfl
attribute [go_sem] Tryz.underlying5
@[go_sem] theorem zc5 :Jq Tryz.prog 5=some (L.pl (.u8 0)::[]):=by kernel_rfl
@[go_sem] theorem sz9 :Tryz.prog.cellsOf 9=1:=by kernel_rfl
@[go_sem] theorem bo9 :Tryz.prog.bytesOf 9=16:=by kernel_rfl
attribute [go_sem] Tryz.underlying9
@[go_sem] theorem zc9 :Jq Tryz.prog 9=some (L.pl (.str [])::[]):=by kernel_rfl
@[go_sem] theorem sz22 :Tryz.prog.cellsOf 22=32:=by kernel_rfl
@[go_sem] theorem bo22 :Tryz.prog.bytesOf 22=32:=by kernel_rfl
attribute [go_sem] Tryz.underlying22
@[go_sem] theorem zc22 :Jq Tryz.prog 22=some (Az (List.replicate 32 0)):=by kernel_rfl
@[go_sem] theorem ag22 :Hy Tryz.prog 22=true:=by kernel_rfl
@[go_sem] theorem ae22 {xs ys:List L} (hx:xs.map Tq=((List.replicate 32 (Kd.int .u8):List Kd)).map some) (hy:ys.map Tq=((List.replicate 32 (Kd.int .u8):List Kd)).map some):c0d Tryz.prog 22 xs ys=some (eqC xs ys):=g0p (by kernel_rfl) (by kernel_rfl) hx hy
@[go_sem] theorem sz23 :Tryz.prog.cellsOf 23=32:=by kernel_rfl
@[go_sem] theorem bo23 :Tryz.prog.bytesOf 23=32:=by kernel_rfl
attribute [go_sem] Tryz.underlying23
@[go_sem] theorem zc23 :Jq Tryz.prog 23=some (Az (List.replicate 32 0)):=by kernel_rfl
@[go_sem] theorem ag23 :Hy Tryz.prog 23=true:=by kernel_rfl
@[go_sem] theorem ae23 {xs ys:List L} (hx:xs.map Tq=((List.replicate 32 (Kd.int .u8):List Kd)).map some) (hy:ys.map Tq=((List.replicate 32 (Kd.int .u8):List Kd)).map some):c0d Tryz.prog 23 xs ys=some (eqC xs ys):=g0p (by kernel_rfl) (by kernel_rfl) hx hy
@[go_sem] theorem sz24 :Tryz.prog.cellsOf 24=1:=by kernel_rfl
@[go_sem] theorem bo24 :Tryz.prog.bytesOf 24=24:=by kernel_rfl
attribute [go_sem] Tryz.underlying24
@[go_sem] theorem zc24 :Jq Tryz.prog 24=some (L.pl (.R true 1 [])::[]):=by kernel_rfl
@[go_sem] theorem sz25 :Tryz.prog.cellsOf 25=166:=by kernel_rfl
@[go_sem] theorem bo25 :Tryz.prog.bytesOf 25=216:=by kernel_rfl
attribute [go_sem] Tryz.underlying25
@[go_sem] theorem ag25 :Hy Tryz.prog 25=true:=by kernel_rfl
@[go_sem] theorem sz26 :Tryz.prog.cellsOf 26=166:=by kernel_rfl
@[go_sem] theorem bo26 :Tryz.prog.bytesOf 26=216:=by kernel_rfl
attribute [go_sem] Tryz.underlying26
@[go_sem] theorem zc26 :Jq Tryz.prog 26=some (Az (List.replicate 32 0)++(Az (List.replicate 32 0)++(Az (List.replicate 32 0)++(Az (List.replicate 32 0)++(L.pl (.i 0)::Az (List.replicate 32 0)++(L.pl (.i 0)::L.pl (.i 0)::L.pl (.b false)::L.pl (.b false)::L.pl (.R true 1 [])::[])))))):=by kernel_rfl
@[go_sem] theorem ag26 :Hy Tryz.prog 26=true:=by kernel_rfl
@[go_sem] theorem sz27 :Tryz.prog.cellsOf 27=1:=by kernel_rfl
@[go_sem] theorem bo27 :Tryz.prog.bytesOf 27=24:=by kernel_rfl
attribute [go_sem] Tryz.underlying27
@[go_sem] theorem zc27 :Jq Tryz.prog 27=some (L.pl (.R true 1 [])::[]):=by kernel_rfl
@[go_sem] theorem sz28 :Tryz.prog.cellsOf 28=34:=by kernel_rfl
@[go_sem] theorem bo28 :Tryz.prog.bytesOf 28=48:=by kernel_rfl
attribute [go_sem] Tryz.underlying28
@[go_sem] theorem ag28 :Hy Tryz.prog 28=true:=by kernel_rfl
@[go_sem] theorem sz29 :Tryz.prog.cellsOf 29=34:=by kernel_rfl
@[go_sem] theorem bo29 :Tryz.prog.bytesOf 29=48:=by kernel_rfl
attribute [go_sem] Tryz.underlying29
@[go_sem] theorem zc29 :Jq Tryz.prog 29=some (Az (List.replicate 32 0)++(L.pl (.i 0)::L.pl (.i 0)::[])):=by kernel_rfl
@[go_sem] theorem ag29 :Hy Tryz.prog 29=true:=by kernel_rfl
@[go_sem] theorem ae29 {xs ys:List L} (hx:xs.map Tq=((List.replicate 32 (Kd.int .u8)++(Kd.int .i64::Kd.int .i64::[]):List Kd)).map some) (hy:ys.map Tq=((List.replicate 32 (Kd.int .u8)++(Kd.int .i64::Kd.int .i64::[]):List Kd)).map some):c0d Tryz.prog 29 xs ys=some (eqC xs ys):=g0p (by kernel_rfl) (by kernel_rfl) hx hy
@[go_sem] theorem sz30 :Tryz.prog.cellsOf 30=1:=by kernel_rfl
@[go_sem] theorem bo30 :Tryz.prog.bytesOf 30=8:=by kernel_rfl
attribute [go_sem] Tryz.underlying30
@[go_sem] theorem zc30 :Jq Tryz.prog 30=some (L.pl (.i 0)::[]):=by kernel_rfl
@[go_sem] theorem sz46 :Tryz.prog.cellsOf 46=12:=by kernel_rfl
@[go_sem] theorem bo46 :Tryz.prog.bytesOf 46=12:=by kernel_rfl
attribute [go_sem] Tryz.underlying46
@[go_sem] theorem zc46 :Jq Tryz.prog 46=some (Az (List.replicate 12 0)):=by kernel_rfl
@[go_sem] theorem ag46 :Hy Tryz.prog 46=true:=by kernel_rfl
@[go_sem] theorem sz49 :Tryz.prog.cellsOf 49=65:=by kernel_rfl
@[go_sem] theorem bo49 :Tryz.prog.bytesOf 49=72:=by kernel_rfl
attribute [go_sem] Tryz.underlying49
@[go_sem] theorem ag49 :Hy Tryz.prog 49=true:=by kernel_rfl
@[go_sem] theorem sz50 :Tryz.prog.cellsOf 50=65:=by kernel_rfl
@[go_sem] theorem bo50 :Tryz.prog.bytesOf 50=72:=by kernel_rfl
attribute [go_sem] Tryz.underlying50
@[go_sem] theorem zc50 :Jq Tryz.prog 50=some (Az (List.replicate 32 0)++(L.pl (.i 0)::Az (List.replicate 32 0))):=by kernel_rfl
@[go_sem] theorem ag50 :Hy Tryz.prog 50=true:=by kernel_rfl
@[go_sem] theorem ae50 {xs ys:List L} (hx:xs.map Tq=((List.replicate 32 (Kd.int .u8)++(Kd.int .i64::List.replicate 32 (Kd.int .u8)):List Kd)).map some) (hy:ys.map Tq=((List.replicate 32 (Kd.int .u8)++(Kd.int .i64::List.replicate 32 (Kd.int .u8)):List Kd)).map some):c0d Tryz.prog 50 xs ys=some (eqC xs ys):=g0p (by kernel_rfl) (by kernel_rfl) hx hy
@[go_sem] theorem sz60 :Tryz.prog.cellsOf 60=2:=by kernel_rfl
@[go_sem] theorem bo60 :Tryz.prog.bytesOf 60=16:=by kernel_rfl
attribute [go_sem] Tryz.underlying60
@[go_sem] theorem zc60 :Jq Tryz.prog 60=some (L.pl (.i 0)::L.pl (.i 0)::[]):=by kernel_rfl
@[go_sem] theorem ag60 :Hy Tryz.prog 60=true:=by kernel_rfl
@[go_sem] theorem sz61 :Tryz.prog.cellsOf 61=1:=by kernel_rfl
@[go_sem] theorem bo61 :Tryz.prog.bytesOf 61=8:=by kernel_rfl
attribute [go_sem] Tryz.underlying61
@[go_sem] theorem zc61 :Jq Tryz.prog 61=some (L.pl (.u64 0)::[]):=by kernel_rfl
@[go_sem] theorem sz64 :Tryz.prog.cellsOf 64=1:=by kernel_rfl
@[go_sem] theorem bo64 :Tryz.prog.bytesOf 64=4:=by kernel_rfl
attribute [go_sem] Tryz.underlying64
@[go_sem] theorem zc64 :Jq Tryz.prog 64=some (L.pl (.u32 0)::[]):=by kernel_rfl
@[go_sem] theorem sz65 :Tryz.prog.cellsOf 65=16:=by kernel_rfl
@[go_sem] theorem bo65 :Tryz.prog.bytesOf 65=16:=by kernel_rfl
attribute [go_sem] Tryz.underlying65
@[go_sem] theorem zc65 :Jq Tryz.prog 65=some (Az (List.replicate 16 0)):=by kernel_rfl
@[go_sem] theorem ag65 :Hy Tryz.prog 65=true:=by kernel_rfl
@[go_sem] theorem sz71 :Tryz.prog.cellsOf 71=1:=by kernel_rfl
@[go_sem] theorem bo71 :Tryz.prog.bytesOf 71=8:=by kernel_rfl
attribute [go_sem] Tryz.underlying71
@[go_sem] theorem zc71 :Jq Tryz.prog 71=some (L.pl (.u64 0)::[]):=by kernel_rfl
@[go_sem] theorem sz77 :Tryz.prog.cellsOf 77=4:=by kernel_rfl
@[go_sem] theorem bo77 :Tryz.prog.bytesOf 77=32:=by kernel_rfl
attribute [go_sem] Tryz.underlying77
@[go_sem] theorem ag77 :Hy Tryz.prog 77=true:=by kernel_rfl
@[go_sem] theorem sz78 :Tryz.prog.cellsOf 78=4:=by kernel_rfl
@[go_sem] theorem bo78 :Tryz.prog.bytesOf 78=32:=by kernel_rfl
attribute [go_sem] Tryz.underlying78
@[go_sem] theorem zc78 :Jq Tryz.prog 78=some (L.pl (.u64 0)::L.pl (.u64 0)::L.pl (.u64 0)::L.pl (.u64 0)::[]):=by kernel_rfl
@[go_sem] theorem ag78 :Hy Tryz.prog 78=true:=by kernel_rfl
@[go_sem] theorem sz80 :Tryz.prog.cellsOf 80=8:=by kernel_rfl
@[go_sem] theorem bo80 :Tryz.prog.bytesOf 80=64:=by kernel_rfl
attribute [go_sem] Tryz.underlying80
@[go_sem] theorem zc80 :Jq Tryz.prog 80=some (L.pl (.u64 0)::L.pl (.u64 0)::L.pl (.u64 0)::L.pl (.u64 0)::L.pl (.u64 0)::L.pl (.u64 0)::L.pl (.u64 0)::L.pl (.u64 0)::[]):=by kernel_rfl
@[go_sem] theorem ag80 :Hy Tryz.prog 80=true:=by kernel_rfl
@[go_sem] theorem sz81 :Tryz.prog.cellsOf 81=16:=by kernel_rfl
@[go_sem] theorem bo81 :Tryz.prog.bytesOf 81=128:=by kernel_rfl
attribute [go_sem] Tryz.underlying81
@[go_sem] theorem ag81 :Hy Tryz.prog 81=true:=by kernel_rfl
@[go_sem] theorem sz82 :Tryz.prog.cellsOf 82=16:=by kernel_rfl
@[go_sem] theorem bo82 :Tryz.prog.bytesOf 82=128:=by kernel_rfl
attribute [go_sem] Tryz.underlying82
@[go_sem] theorem zc82 :Jq Tryz.prog 82=some (L.pl (.u64 0)::L.pl (.u64 0)::L.pl (.u64 0)::L.pl (.u64 0)::L.pl (.u64 0)::L.pl (.u64 0)::L.pl (.u64 0)::L.pl (.u64 0)::L.pl (.u64 0)::L.pl (.u64 0)::L.pl (.u64 0)::L.pl (.u64 0)::L.pl (.u64 0)::L.pl (.u64 0)::L.pl (.u64 0)::L.pl (.u64 0)::[]):=by kernel_rfl
@[go_sem] theorem ag82 :Hy Tryz.prog 82=true:=by kernel_rfl
@[go_sem] theorem sz91 :Tryz.prog.cellsOf 91=64:=by kernel_rfl
@[go_sem] theorem bo91 :Tryz.prog.bytesOf 91=64:=by kernel_rfl
attribute [go_sem] Tryz.underlying91
@[go_sem] theorem zc91 :Jq Tryz.prog 91=some (Az (List.replicate 64 0)):=by kernel_rfl
@[go_sem] theorem ag91 :Hy Tryz.prog 91=true:=by kernel_rfl
@[go_sem] theorem sz97 :Tryz.prog.cellsOf 97=16:=by kernel_rfl
@[go_sem] theorem bo97 :Tryz.prog.bytesOf 97=128:=by kernel_rfl
attribute [go_sem] Tryz.underlying97
@[go_sem] theorem ag97 :Hy Tryz.prog 97=true:=by kernel_rfl
@[go_sem] theorem sz98 :Tryz.prog.cellsOf 98=16:=by kernel_rfl
@[go_sem] theorem bo98 :Tryz.prog.bytesOf 98=128:=by kernel_rfl
attribute [go_sem] Tryz.underlying98
@[go_sem] theorem zc98 :Jq Tryz.prog 98=some (L.pl (.u64 0)::L.pl (.u64 0)::L.pl (.u64 0)::L.pl (.u64 0)::L.pl (.u64 0)::L.pl (.u64 0)::L.pl (.u64 0)::L.pl (.u64 0)::L.pl (.u64 0)::L.pl (.u64 0)::L.pl (.u64 0)::L.pl (.u64 0)::L.pl (.u64 0)::L.pl (.u64 0)::L.pl (.u64 0)::L.pl (.u64 0)::[]):=by kernel_rfl
@[go_sem] theorem ag98 :Hy Tryz.prog 98=true:=by kernel_rfl
@[go_sem] theorem sz99 :Tryz.prog.cellsOf 99=32:=by kernel_rfl
@[go_sem] theorem bo99 :Tryz.prog.bytesOf 99=256:=by kernel_rfl
attribute [go_sem] Tryz.underlying99
@[go_sem] theorem ag99 :Hy Tryz.prog 99=true:=by kernel_rfl
@[go_sem] theorem sz100 :Tryz.prog.cellsOf 100=32:=by kernel_rfl
@[go_sem] theorem bo100 :Tryz.prog.bytesOf 100=256:=by kernel_rfl
attribute [go_sem] Tryz.underlying100
@[go_sem] theorem zc100 :Jq Tryz.prog 100=some (L.pl (.u64 0)::L.pl (.u64 0)::L.pl (.u64 0)::L.pl (.u64 0)::L.pl (.u64 0)::L.pl (.u64 0)::L.pl (.u64 0)::L.pl (.u64 0)::L.pl (.u64 0)::L.pl (.u64 0)::L.pl (.u64 0)::L.pl (.u64 0)::L.pl (.u64 0)::L.pl (.u64 0)::L.pl (.u64 0)::L.pl (.u64 0)::L.pl (.u64 0)::L.pl (.u64 0)::L.pl (.u64 0)::L.pl (.u64 0)::L.pl (.u64 0)::L.pl (.u64 0)::L.pl (.u64 0)::L.pl (.u64 0)::L.pl (.u64 0)::L.pl (.u64 0)::L.pl (.u64 0)::L.pl (.u64 0)::L.pl (.u64 0)::L.pl (.u64 0)::L.pl (.u64 0)::L.pl (.u64 0)::[]):=by kernel_rfl
@[go_sem] theorem ag100 :Hy Tryz.prog 100=true:=by kernel_rfl
@[go_sem] theorem sz111 :Tryz.prog.cellsOf 111=64:=by kernel_rfl
@[go_sem] theorem bo111 :Tryz.prog.bytesOf 111=64:=by kernel_rfl
attribute [go_sem] Tryz.underlying111
@[go_sem] theorem zc111 :Jq Tryz.prog 111=some (Az (List.replicate 32 0)++(Az (List.replicate 32 0))):=by kernel_rfl
@[go_sem] theorem ag111 :Hy Tryz.prog 111=true:=by kernel_rfl
@[go_sem] theorem sz113 :Tryz.prog.cellsOf 113=96:=by kernel_rfl
@[go_sem] theorem bo113 :Tryz.prog.bytesOf 113=96:=by kernel_rfl
attribute [go_sem] Tryz.underlying113
@[go_sem] theorem zc113 :Jq Tryz.prog 113=some (Az (List.replicate 32 0)++(Az (List.replicate 32 0)++(Az (List.replicate 32 0)))):=by kernel_rfl
@[go_sem] theorem ag113 :Hy Tryz.prog 113=true:=by kernel_rfl
@[go_sem] theorem sz118 :Tryz.prog.cellsOf 118=1:=by kernel_rfl
@[go_sem] theorem bo118 :Tryz.prog.bytesOf 118=24:=by kernel_rfl
attribute [go_sem] Tryz.underlying118
@[go_sem] theorem zc118 :Jq Tryz.prog 118=some (L.pl (.R true 1 [])::[]):=by kernel_rfl
@[go_sem] theorem sz119 :Tryz.prog.cellsOf 119=8:=by kernel_rfl
@[go_sem] theorem bo119 :Tryz.prog.bytesOf 119=32:=by kernel_rfl
attribute [go_sem] Tryz.underlying119
@[go_sem] theorem zc119 :Jq Tryz.prog 119=some (L.pl (.u32 0)::L.pl (.u32 0)::L.pl (.u32 0)::L.pl (.u32 0)::L.pl (.u32 0)::L.pl (.u32 0)::L.pl (.u32 0)::L.pl (.u32 0)::[]):=by kernel_rfl
@[go_sem] theorem ag119 :Hy Tryz.prog 119=true:=by kernel_rfl
@[go_sem] theorem sz120 :Tryz.prog.cellsOf 120=74:=by kernel_rfl
@[go_sem] theorem bo120 :Tryz.prog.bytesOf 120=112:=by kernel_rfl
attribute [go_sem] Tryz.underlying120
@[go_sem] theorem ag120 :Hy Tryz.prog 120=true:=by kernel_rfl
@[go_sem] theorem sz121 :Tryz.prog.cellsOf 121=74:=by kernel_rfl
@[go_sem] theorem bo121 :Tryz.prog.bytesOf 121=112:=by kernel_rfl
attribute [go_sem] Tryz.underlying121
@[go_sem] theorem zc121 :Jq Tryz.prog 121=some (L.pl (.u32 0)::L.pl (.u32 0)::L.pl (.u32 0)::L.pl (.u32 0)::L.pl (.u32 0)::L.pl (.u32 0)::L.pl (.u32 0)::L.pl (.u32 0)::Az (List.replicate 64 0)++(L.pl (.i 0)::L.pl (.i 0)::[])):=by kernel_rfl
@[go_sem] theorem ag121 :Hy Tryz.prog 121=true:=by kernel_rfl
@[go_sem] theorem sz127 :Tryz.prog.cellsOf 127=16:=by kernel_rfl
@[go_sem] theorem bo127 :Tryz.prog.bytesOf 127=64:=by kernel_rfl
attribute [go_sem] Tryz.underlying127
@[go_sem] theorem zc127 :Jq Tryz.prog 127=some (L.pl (.u32 0)::L.pl (.u32 0)::L.pl (.u32 0)::L.pl (.u32 0)::L.pl (.u32 0)::L.pl (.u32 0)::L.pl (.u32 0)::L.pl (.u32 0)::L.pl (.u32 0)::L.pl (.u32 0)::L.pl (.u32 0)::L.pl (.u32 0)::L.pl (.u32 0)::L.pl (.u32 0)::L.pl (.u32 0)::L.pl (.u32 0)::[]):=by kernel_rfl
@[go_sem] theorem ag127 :Hy Tryz.prog 127=true:=by kernel_rfl
@[go_sem] theorem sz128 :Tryz.prog.cellsOf 128=16:=by kernel_rfl
@[go_sem] theorem bo128 :Tryz.prog.bytesOf 128=64:=by kernel_rfl
attribute [go_sem] Tryz.underlying128
@[go_sem] theorem zc128 :Jq Tryz.prog 128=some (L.pl (.u32 0)::L.pl (.u32 0)::L.pl (.u32 0)::L.pl (.u32 0)::L.pl (.u32 0)::L.pl (.u32 0)::L.pl (.u32 0)::L.pl (.u32 0)::L.pl (.u32 0)::L.pl (.u32 0)::L.pl (.u32 0)::L.pl (.u32 0)::L.pl (.u32 0)::L.pl (.u32 0)::L.pl (.u32 0)::L.pl (.u32 0)::[]):=by kernel_rfl
@[go_sem] theorem ag128 :Hy Tryz.prog 128=true:=by kernel_rfl
@[go_sem] theorem sz132 :Tryz.prog.cellsOf 132=2:=by kernel_rfl
@[go_sem] theorem bo132 :Tryz.prog.bytesOf 132=16:=by kernel_rfl
attribute [go_sem] Tryz.underlying132
@[go_sem] theorem zc132 :Jq Tryz.prog 132=some (L.pl (.u64 0)::L.pl (.u64 0)::[]):=by kernel_rfl
@[go_sem] theorem ag132 :Hy Tryz.prog 132=true:=by kernel_rfl
@[go_sem] theorem ae132 {xs ys:List L} (hx:xs.map Tq=((Kd.int .u64::Kd.int .u64::[]:List Kd)).map some) (hy:ys.map Tq=((Kd.int .u64::Kd.int .u64::[]:List Kd)).map some):c0d Tryz.prog 132 xs ys=some (eqC xs ys):=g0p (by kernel_rfl) (by kernel_rfl) hx hy
@[go_sem] theorem sz133 :Tryz.prog.cellsOf 133=3:=by kernel_rfl
@[go_sem] theorem bo133 :Tryz.prog.bytesOf 133=24:=by kernel_rfl
attribute [go_sem] Tryz.underlying133
@[go_sem] theorem zc133 :Jq Tryz.prog 133=some (L.pl (.u64 0)::L.pl (.u64 0)::L.pl (.u64 0)::[]):=by kernel_rfl
@[go_sem] theorem ag133 :Hy Tryz.prog 133=true:=by kernel_rfl
@[go_sem] theorem ae133 {xs ys:List L} (hx:xs.map Tq=((Kd.int .u64::Kd.int .u64::Kd.int .u64::[]:List Kd)).map some) (hy:ys.map Tq=((Kd.int .u64::Kd.int .u64::Kd.int .u64::[]:List Kd)).map some):c0d Tryz.prog 133 xs ys=some (eqC xs ys):=g0p (by kernel_rfl) (by kernel_rfl) hx hy
@[go_sem] theorem sz134 :Tryz.prog.cellsOf 134=24:=by kernel_rfl
@[go_sem] theorem bo134 :Tryz.prog.bytesOf 134=80:=by kernel_rfl
attribute [go_sem] Tryz.underlying134
@[go_sem] theorem ag134 :Hy Tryz.prog 134=true:=by kernel_rfl
@[go_sem] theorem sz135 :Tryz.prog.cellsOf 135=24:=by kernel_rfl
@[go_sem] theorem bo135 :Tryz.prog.bytesOf 135=80:=by kernel_rfl
attribute [go_sem] Tryz.underlying135
@[go_sem] theorem zc135 :Jq Tryz.prog 135=some (L.pl (.u64 0)::L.pl (.u64 0)::L.pl (.u64 0)::L.pl (.u64 0)::L.pl (.u64 0)::L.pl (.u64 0)::L.pl (.u64 0)::Az (List.replicate 16 0)++(L.pl (.i 0)::[])):=by kernel_rfl
@[go_sem] theorem ag135 :Hy Tryz.prog 135=true:=by kernel_rfl
@[go_sem] theorem sz143 :Tryz.prog.cellsOf 143=32:=by kernel_rfl
@[go_sem] theorem bo143 :Tryz.prog.bytesOf 143=256:=by kernel_rfl
attribute [go_sem] Tryz.underlying143
@[go_sem] theorem zc143 :Jq Tryz.prog 143=some (Dz (List.replicate 32 0)):=by kernel_rfl
@[go_sem] theorem ag143 :Hy Tryz.prog 143=true:=by kernel_rfl
@[go_sem] theorem sz144 :Tryz.prog.cellsOf 144=4:=by kernel_rfl
@[go_sem] theorem bo144 :Tryz.prog.bytesOf 144=16:=by kernel_rfl
attribute [go_sem] Tryz.underlying144
@[go_sem] theorem ag144 :Hy Tryz.prog 144=true:=by kernel_rfl
@[go_sem] theorem sz145 :Tryz.prog.cellsOf 145=16:=by kernel_rfl
@[go_sem] theorem bo145 :Tryz.prog.bytesOf 145=64:=by kernel_rfl
attribute [go_sem] Tryz.underlying145
@[go_sem] theorem zc145 :Jq Tryz.prog 145=some (L.pl (.u32 0)::L.pl (.u32 0)::L.pl (.u32 0)::L.pl (.u32 0)::L.pl (.u32 0)::L.pl (.u32 0)::L.pl (.u32 0)::L.pl (.u32 0)::L.pl (.u32 0)::L.pl (.u32 0)::L.pl (.u32 0)::L.pl (.u32 0)::L.pl (.u32 0)::L.pl (.u32 0)::L.pl (.u32 0)::L.pl (.u32 0)::[]):=by kernel_rfl
@[go_sem] theorem ag145 :Hy Tryz.prog 145=true:=by kernel_rfl
@[go_sem] theorem sz152 :Tryz.prog.cellsOf 152=8:=by kernel_rfl
@[go_sem] theorem bo152 :Tryz.prog.bytesOf 152=64:=by kernel_rfl
attribute [go_sem] Tryz.underlying152
@[go_sem] theorem zc152 :Jq Tryz.prog 152=some (L.pl (.u64 0)::L.pl (.u64 0)::L.pl (.u64 0)::L.pl (.u64 0)::L.pl (.u64 0)::L.pl (.u64 0)::L.pl (.u64 0)::L.pl (.u64 0)::[]):=by kernel_rfl
@[go_sem] theorem ag152 :Hy Tryz.prog 152=true:=by kernel_rfl
@[go_sem] theorem sz170 :Tryz.prog.cellsOf 170=16:=by kernel_rfl
@[go_sem] theorem bo170 :Tryz.prog.bytesOf 170=128:=by kernel_rfl
attribute [go_sem] Tryz.underlying170
@[go_sem] theorem zc170 :Jq Tryz.prog 170=some (L.pl (.i 0)::L.pl (.i 0)::L.pl (.i 0)::L.pl (.i 0)::L.pl (.i 0)::L.pl (.i 0)::L.pl (.i 0)::L.pl (.i 0)::L.pl (.i 0)::L.pl (.i 0)::L.pl (.i 0)::L.pl (.i 0)::L.pl (.i 0)::L.pl (.i 0)::L.pl (.i 0)::L.pl (.i 0)::[]):=by kernel_rfl
@[go_sem] theorem ag170 :Hy Tryz.prog 170=true:=by kernel_rfl
@[go_sem] theorem sz171 :Tryz.prog.cellsOf 171=160:=by kernel_rfl
@[go_sem] theorem bo171 :Tryz.prog.bytesOf 171=1280:=by kernel_rfl
attribute [go_sem] Tryz.underlying171
@[go_sem] theorem ag171 :Hy Tryz.prog 171=true:=by kernel_rfl
@[go_sem] theorem sz174 :Tryz.prog.cellsOf 174=5:=by kernel_rfl
@[go_sem] theorem bo174 :Tryz.prog.bytesOf 174=40:=by kernel_rfl
attribute [go_sem] Tryz.underlying174
@[go_sem] theorem zc174 :Jq Tryz.prog 174=some (L.pl (.u64 0)::L.pl (.u64 0)::L.pl (.u64 0)::L.pl (.u64 0)::L.pl (.u64 0)::[]):=by kernel_rfl
@[go_sem] theorem ag174 :Hy Tryz.prog 174=true:=by kernel_rfl
@[go_sem] theorem sz175 :Tryz.prog.cellsOf 175=5:=by kernel_rfl
@[go_sem] theorem bo175 :Tryz.prog.bytesOf 175=40:=by kernel_rfl
attribute [go_sem] Tryz.underlying175
@[go_sem] theorem zc175 :Jq Tryz.prog 175=some (L.pl (.u64 0)::L.pl (.u64 0)::L.pl (.u64 0)::L.pl (.u64 0)::L.pl (.u64 0)::[]):=by kernel_rfl
@[go_sem] theorem ag175 :Hy Tryz.prog 175=true:=by kernel_rfl
@[go_sem] theorem sz131 :Tryz.prog.cellsOf 131=1:=by kernel_rfl
@[go_sem] theorem bo131 :Tryz.prog.bytesOf 131=8:=by kernel_rfl
attribute [go_sem] Tryz.underlying131
abbrev gFi :List L:=[.pl (.u32 1779033703),.pl (.u32 3144134277),.pl (.u32 1013904242),.pl (.u32 2773480762),.pl (.u32 1359893119),.pl (.u32 2600822924),.pl (.u32 528734635),.pl (.u32 1541459225)]
abbrev gPr :List L:=[.pl (.u64 18446744073709551597),.pl (.u64 18446744073709551615),.pl (.u64 18446744073709551615),.pl (.u64 9223372036854775807)]
attribute [go_sem] gFi gPr
end Go.Sy
