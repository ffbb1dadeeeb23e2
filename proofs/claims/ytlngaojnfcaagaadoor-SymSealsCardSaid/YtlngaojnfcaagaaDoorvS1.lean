/- Facts on the types of the program. -/
import Derived.Test.YtlngaojnfcaagaaDoorProg
import Derived.Test.YtlngaojnfcaagaaDoorvE3
import Derived.KernelRfl
set_option linter.unusedVariables false
set_option linter.unusedSimpArgs false
namespace Go.Sy
open Go.Proofs
attribute [local irreducible] Fz HT Cw Oj onC onE onO onG goV goA goS Qv Ey
theorem mixed :Tryd.prog.follows .mixedOrders=true:=by kernel_rfl
@[go_sem] theorem sz3 :Tryd.prog.cellsOf 3=1:=by kernel_rfl
@[go_sem] theorem bo3 :Tryd.prog.bytesOf 3=8:=by kernel_rfl
attribute [go_sem] Tryd.underlying3
@[go_sem] theorem zc3 :Lj Tryd.prog 3=some (L.pl (.i 0)::[]):=by kernel_rfl
@[go_sem] theorem sz4 :Tryd.prog.cellsOf 4=1:=by kernel_rfl
@[go_sem] theorem bo4 :Tryd.prog.bytesOf 4=1:=by kernel_rfl
attribute [go_sem] Tryd.underlying4
@[go_sem] theorem zc4 :Lj Tryd.prog 4=some (L.pl (.b false)::[]):=by kernel_rfl
@[go_sem] theorem sz5 :Tryd.prog.cellsOf 5=1:=by kernel_rfl
@[go_sem] theorem bo5 :Tryd.prog.bytesOf 5=1:=by kernel_rfl
attribute [go_sem] Tryd.underlying5
@[go_sem] theorem zc5 :Lj Tryd.prog 5=some (L.pl (.u8 0)::[]):=by kernel_rfl
@[go_sem] theorem sz9 :Tryd.prog.cellsOf 9=1:=by kernel_rfl
@[go_sem] theorem bo9 :Tryd.prog.bytesOf 9=16:=by kernel_rfl
attribute [go_sem] Tryd.underlying9
@[go_sem] theorem zc9 :Lj Tryd.prog 9=some (L.pl (.str [])::[]):=by kernel_rfl
@[go_sem] theorem sz22 :Tryd.prog.cellsOf 22=32:=by kernel_rfl
@[go_sem] theorem bo22 :Tryd.prog.bytesOf 22=32:=by kernel_rfl
attribute [go_sem] Tryd.underlying22
@[go_sem] theorem zc22 :Lj Tryd.prog 22=some (Aq (List.replicate 32 0)):=by kernel_rfl
@[go_sem] theorem ag22 :Nk Tryd.prog 22=true:=by kernel_rfl
@[go_sem] theorem sz23 :Tryd.prog.cellsOf 23=32:=by kernel_rfl
@[go_sem] theorem bo23 :Tryd.prog.bytesOf 23=32:=by kernel_rfl
attribute [go_sem] Tryd.underlying23
@[go_sem] theorem zc23 :Lj Tryd.prog 23=some (Aq (List.replicate 32 0)):=by kernel_rfl
@[go_sem] theorem ag23 :Nk Tryd.prog 23=true:=by kernel_rfl
@[go_sem] theorem ae23 {xs ys:List L} (hx:xs.map Uj=((List.replicate 32 (Kd.int .u8):List Kd)).map some) (hy:ys.map Uj=((List.replicate 32 (Kd.int .u8):List Kd)).map some):f0m Tryd.prog 23 xs ys=some (eqC xs ys):=i0n (by kernel_rfl) (by kernel_rfl) hx hy
@[go_sem] theorem sz24 :Tryd.prog.cellsOf 24=1:=by kernel_rfl
@[go_sem] theorem bo24 :Tryd.prog.bytesOf 24=8:=by kernel_rfl
attribute [go_sem] Tryd.underlying24
@[go_sem] theorem zc24 :Lj Tryd.prog 24=some (L.pl (.u64 0)::[]):=by kernel_rfl
@[go_sem] theorem sz25 :Tryd.prog.cellsOf 25=34:=by kernel_rfl
@[go_sem] theorem bo25 :Tryd.prog.bytesOf 25=48:=by kernel_rfl
attribute [go_sem] Tryd.underlying25
@[go_sem] theorem zc25 :Lj Tryd.prog 25=some (L.pl (.b false)::Aq (List.replicate 32 0)++(L.pl (.u64 0)::[])):=by kernel_rfl
@[go_sem] theorem ag25 :Nk Tryd.prog 25=true:=by kernel_rfl
@[go_sem] theorem sz26 :Tryd.prog.cellsOf 26=34:=by kernel_rfl
@[go_sem] theorem bo26 :Tryd.prog.bytesOf 26=48:=by kernel_rfl
attribute [go_sem] Tryd.underlying26
@[go_sem] theorem zc26 :Lj Tryd.prog 26=some (L.pl (.b false)::Aq (List.replicate 32 0)++(L.pl (.u64 0)::[])):=by kernel_rfl
@[go_sem] theorem ag26 :Nk Tryd.prog 26=true:=by kernel_rfl
@[go_sem] theorem ae26 {xs ys:List L} (hx:xs.map Uj=((Kd.b::List.replicate 32 (Kd.int .u8)++(Kd.int .u64::[]):List Kd)).map some) (hy:ys.map Uj=((Kd.b::List.replicate 32 (Kd.int .u8)++(Kd.int .u64::[]):List Kd)).map some):f0m Tryd.prog 26 xs ys=some (eqC xs ys):=i0n (by kernel_rfl) (by kernel_rfl) hx hy
@[go_sem] theorem sz27 :Tryd.prog.cellsOf 27=98:=by kernel_rfl
@[go_sem] theorem bo27 :Tryd.prog.bytesOf 27=112:=by kernel_rfl
attribute [go_sem] Tryd.underlying27
@[go_sem] theorem zc27 :Lj Tryd.prog 27=some (L.pl (.b false)::Aq (List.replicate 32 0)++(L.pl (.u64 0)::Aq (List.replicate 32 0)++(Aq (List.replicate 32 0)))):=by kernel_rfl
@[go_sem] theorem ag27 :Nk Tryd.prog 27=true:=by kernel_rfl
@[go_sem] theorem sz28 :Tryd.prog.cellsOf 28=98:=by kernel_rfl
@[go_sem] theorem bo28 :Tryd.prog.bytesOf 28=112:=by kernel_rfl
attribute [go_sem] Tryd.underlying28
@[go_sem] theorem zc28 :Lj Tryd.prog 28=some (L.pl (.b false)::Aq (List.replicate 32 0)++(L.pl (.u64 0)::Aq (List.replicate 32 0)++(Aq (List.replicate 32 0)))):=by kernel_rfl
@[go_sem] theorem ag28 :Nk Tryd.prog 28=true:=by kernel_rfl
@[go_sem] theorem ae28 {xs ys:List L} (hx:xs.map Uj=((Kd.b::List.replicate 32 (Kd.int .u8)++(Kd.int .u64::List.replicate 32 (Kd.int .u8)++(List.replicate 32 (Kd.int .u8))):List Kd)).map some) (hy:ys.map Uj=((Kd.b::List.replicate 32 (Kd.int .u8)++(Kd.int .u64::List.replicate 32 (Kd.int .u8)++(List.replicate 32 (Kd.int .u8))):List Kd)).map some):f0m Tryd.prog 28 xs ys=some (eqC xs ys):=i0n (by kernel_rfl) (by kernel_rfl) hx hy
@[go_sem] theorem sz29 :Tryd.prog.cellsOf 29=1:=by kernel_rfl
@[go_sem] theorem bo29 :Tryd.prog.bytesOf 29=24:=by kernel_rfl
attribute [go_sem] Tryd.underlying29
@[go_sem] theorem zc29 :Lj Tryd.prog 29=some (L.pl (.R true 1 [])::[]):=by kernel_rfl
@[go_sem] theorem sz30 :Tryd.prog.cellsOf 30=1:=by kernel_rfl
@[go_sem] theorem bo30 :Tryd.prog.bytesOf 30=8:=by kernel_rfl
attribute [go_sem] Tryd.underlying30
@[go_sem] theorem zc30 :Lj Tryd.prog 30=some (L.pl (.i 0)::[]):=by kernel_rfl
@[go_sem] theorem sz46 :Tryd.prog.cellsOf 46=12:=by kernel_rfl
@[go_sem] theorem bo46 :Tryd.prog.bytesOf 46=12:=by kernel_rfl
attribute [go_sem] Tryd.underlying46
@[go_sem] theorem zc46 :Lj Tryd.prog 46=some (Aq (List.replicate 12 0)):=by kernel_rfl
@[go_sem] theorem ag46 :Nk Tryd.prog 46=true:=by kernel_rfl
@[go_sem] theorem sz51 :Tryd.prog.cellsOf 51=1:=by kernel_rfl
@[go_sem] theorem bo51 :Tryd.prog.bytesOf 51=4:=by kernel_rfl
attribute [go_sem] Tryd.underlying51
@[go_sem] theorem zc51 :Lj Tryd.prog 51=some (L.pl (.u32 0)::[]):=by kernel_rfl
@[go_sem] theorem sz52 :Tryd.prog.cellsOf 52=16:=by kernel_rfl
@[go_sem] theorem bo52 :Tryd.prog.bytesOf 52=16:=by kernel_rfl
attribute [go_sem] Tryd.underlying52
@[go_sem] theorem zc52 :Lj Tryd.prog 52=some (Aq (List.replicate 16 0)):=by kernel_rfl
@[go_sem] theorem ag52 :Nk Tryd.prog 52=true:=by kernel_rfl
@[go_sem] theorem sz54 :Tryd.prog.cellsOf 54=8:=by kernel_rfl
@[go_sem] theorem bo54 :Tryd.prog.bytesOf 54=32:=by kernel_rfl
attribute [go_sem] Tryd.underlying54
@[go_sem] theorem zc54 :Lj Tryd.prog 54=some (L.pl (.u32 0)::L.pl (.u32 0)::L.pl (.u32 0)::L.pl (.u32 0)::L.pl (.u32 0)::L.pl (.u32 0)::L.pl (.u32 0)::L.pl (.u32 0)::[]):=by kernel_rfl
@[go_sem] theorem ag54 :Nk Tryd.prog 54=true:=by kernel_rfl
@[go_sem] theorem sz55 :Tryd.prog.cellsOf 55=64:=by kernel_rfl
@[go_sem] theorem bo55 :Tryd.prog.bytesOf 55=64:=by kernel_rfl
attribute [go_sem] Tryd.underlying55
@[go_sem] theorem zc55 :Lj Tryd.prog 55=some (Aq (List.replicate 64 0)):=by kernel_rfl
@[go_sem] theorem ag55 :Nk Tryd.prog 55=true:=by kernel_rfl
@[go_sem] theorem sz56 :Tryd.prog.cellsOf 56=74:=by kernel_rfl
@[go_sem] theorem bo56 :Tryd.prog.bytesOf 56=112:=by kernel_rfl
attribute [go_sem] Tryd.underlying56
@[go_sem] theorem zc56 :Lj Tryd.prog 56=some (L.pl (.u32 0)::L.pl (.u32 0)::L.pl (.u32 0)::L.pl (.u32 0)::L.pl (.u32 0)::L.pl (.u32 0)::L.pl (.u32 0)::L.pl (.u32 0)::Aq (List.replicate 64 0)++(L.pl (.i 0)::L.pl (.i 0)::[])):=by kernel_rfl
@[go_sem] theorem ag56 :Nk Tryd.prog 56=true:=by kernel_rfl
@[go_sem] theorem sz57 :Tryd.prog.cellsOf 57=74:=by kernel_rfl
@[go_sem] theorem bo57 :Tryd.prog.bytesOf 57=112:=by kernel_rfl
attribute [go_sem] Tryd.underlying57
@[go_sem] theorem zc57 :Lj Tryd.prog 57=some (L.pl (.u32 0)::L.pl (.u32 0)::L.pl (.u32 0)::L.pl (.u32 0)::L.pl (.u32 0)::L.pl (.u32 0)::L.pl (.u32 0)::L.pl (.u32 0)::Aq (List.replicate 64 0)++(L.pl (.i 0)::L.pl (.i 0)::[])):=by kernel_rfl
@[go_sem] theorem ag57 :Nk Tryd.prog 57=true:=by kernel_rfl
@[go_sem] theorem sz76 :Tryd.prog.cellsOf 76=16:=by kernel_rfl
@[go_sem] theorem bo76 :Tryd.prog.bytesOf 76=64:=by kernel_rfl
attribute [go_sem] Tryd.underlying76
@[go_sem] theorem zc76 :Lj Tryd.prog 76=some (L.pl (.u32 0)::L.pl (.u32 0)::L.pl (.u32 0)::L.pl (.u32 0)::L.pl (.u32 0)::L.pl (.u32 0)::L.pl (.u32 0)::L.pl (.u32 0)::L.pl (.u32 0)::L.pl (.u32 0)::L.pl (.u32 0)::L.pl (.u32 0)::L.pl (.u32 0)::L.pl (.u32 0)::L.pl (.u32 0)::L.pl (.u32 0)::[]):=by kernel_rfl
@[go_sem] theorem ag76 :Nk Tryd.prog 76=true:=by kernel_rfl
@[go_sem] theorem sz77 :Tryd.prog.cellsOf 77=16:=by kernel_rfl
@[go_sem] theorem bo77 :Tryd.prog.bytesOf 77=64:=by kernel_rfl
attribute [go_sem] Tryd.underlying77
@[go_sem] theorem zc77 :Lj Tryd.prog 77=some (L.pl (.u32 0)::L.pl (.u32 0)::L.pl (.u32 0)::L.pl (.u32 0)::L.pl (.u32 0)::L.pl (.u32 0)::L.pl (.u32 0)::L.pl (.u32 0)::L.pl (.u32 0)::L.pl (.u32 0)::L.pl (.u32 0)::L.pl (.u32 0)::L.pl (.u32 0)::L.pl (.u32 0)::L.pl (.u32 0)::L.pl (.u32 0)::[]):=by kernel_rfl
@[go_sem] theorem ag77 :Nk Tryd.prog 77=true:=by kernel_rfl
@[go_sem] theorem sz81 :Tryd.prog.cellsOf 81=2:=by kernel_rfl
@[go_sem] theorem bo81 :Tryd.prog.bytesOf 81=16:=by kernel_rfl
attribute [go_sem] Tryd.underlying81
@[go_sem] theorem zc81 :Lj Tryd.prog 81=some (L.pl (.u64 0)::L.pl (.u64 0)::[]):=by kernel_rfl
@[go_sem] theorem ag81 :Nk Tryd.prog 81=true:=by kernel_rfl
@[go_sem] theorem ae81 {xs ys:List L} (hx:xs.map Uj=((Kd.int .u64::Kd.int .u64::[]:List Kd)).map some) (hy:ys.map Uj=((Kd.int .u64::Kd.int .u64::[]:List Kd)).map some):f0m Tryd.prog 81 xs ys=some (eqC xs ys):=i0n (by kernel_rfl) (by kernel_rfl) hx hy
@[go_sem] theorem sz82 :Tryd.prog.cellsOf 82=3:=by kernel_rfl
@[go_sem] theorem bo82 :Tryd.prog.bytesOf 82=24:=by kernel_rfl
attribute [go_sem] Tryd.underlying82
@[go_sem] theorem zc82 :Lj Tryd.prog 82=some (L.pl (.u64 0)::L.pl (.u64 0)::L.pl (.u64 0)::[]):=by kernel_rfl
@[go_sem] theorem ag82 :Nk Tryd.prog 82=true:=by kernel_rfl
@[go_sem] theorem ae82 {xs ys:List L} (hx:xs.map Uj=((Kd.int .u64::Kd.int .u64::Kd.int .u64::[]:List Kd)).map some) (hy:ys.map Uj=((Kd.int .u64::Kd.int .u64::Kd.int .u64::[]:List Kd)).map some):f0m Tryd.prog 82 xs ys=some (eqC xs ys):=i0n (by kernel_rfl) (by kernel_rfl) hx hy
@[go_sem] theorem sz83 :Tryd.prog.cellsOf 83=24:=by kernel_rfl
@[go_sem] theorem bo83 :Tryd.prog.bytesOf 83=80:=by kernel_rfl
attribute [go_sem] Tryd.underlying83
@[go_sem] theorem zc83 :Lj Tryd.prog 83=some (L.pl (.u64 0)::L.pl (.u64 0)::L.pl (.u64 0)::L.pl (.u64 0)::L.pl (.u64 0)::L.pl (.u64 0)::L.pl (.u64 0)::Aq (List.replicate 16 0)++(L.pl (.i 0)::[])):=by kernel_rfl
@[go_sem] theorem ag83 :Nk Tryd.prog 83=true:=by kernel_rfl
@[go_sem] theorem sz84 :Tryd.prog.cellsOf 84=24:=by kernel_rfl
@[go_sem] theorem bo84 :Tryd.prog.bytesOf 84=80:=by kernel_rfl
attribute [go_sem] Tryd.underlying84
@[go_sem] theorem zc84 :Lj Tryd.prog 84=some (L.pl (.u64 0)::L.pl (.u64 0)::L.pl (.u64 0)::L.pl (.u64 0)::L.pl (.u64 0)::L.pl (.u64 0)::L.pl (.u64 0)::Aq (List.replicate 16 0)++(L.pl (.i 0)::[])):=by kernel_rfl
@[go_sem] theorem ag84 :Nk Tryd.prog 84=true:=by kernel_rfl
@[go_sem] theorem sz90 :Tryd.prog.cellsOf 90=1:=by kernel_rfl
@[go_sem] theorem bo90 :Tryd.prog.bytesOf 90=8:=by kernel_rfl
attribute [go_sem] Tryd.underlying90
@[go_sem] theorem zc90 :Lj Tryd.prog 90=some (L.pl (.u64 0)::[]):=by kernel_rfl
@[go_sem] theorem sz93 :Tryd.prog.cellsOf 93=16:=by kernel_rfl
@[go_sem] theorem bo93 :Tryd.prog.bytesOf 93=128:=by kernel_rfl
attribute [go_sem] Tryd.underlying93
@[go_sem] theorem zc93 :Lj Tryd.prog 93=some (L.pl (.i 0)::L.pl (.i 0)::L.pl (.i 0)::L.pl (.i 0)::L.pl (.i 0)::L.pl (.i 0)::L.pl (.i 0)::L.pl (.i 0)::L.pl (.i 0)::L.pl (.i 0)::L.pl (.i 0)::L.pl (.i 0)::L.pl (.i 0)::L.pl (.i 0)::L.pl (.i 0)::L.pl (.i 0)::[]):=by kernel_rfl
@[go_sem] theorem ag93 :Nk Tryd.prog 93=true:=by kernel_rfl
@[go_sem] theorem sz94 :Tryd.prog.cellsOf 94=160:=by kernel_rfl
@[go_sem] theorem bo94 :Tryd.prog.bytesOf 94=1280:=by kernel_rfl
attribute [go_sem] Tryd.underlying94
@[go_sem] theorem zc94 :Lj Tryd.prog 94=some (L.pl (.i 0)::L.pl (.i 0)::L.pl (.i 0)::L.pl (.i 0)::L.pl (.i 0)::L.pl (.i 0)::L.pl (.i 0)::L.pl (.i 0)::L.pl (.i 0)::L.pl (.i 0)::L.pl (.i 0)::L.pl (.i 0)::L.pl (.i 0)::L.pl (.i 0)::L.pl (.i 0)::L.pl (.i 0)::L.pl (.i 0)::L.pl (.i 0)::L.pl (.i 0)::L.pl (.i 0)::L.pl (.i 0)::L.pl (.i 0)::L.pl (.i 0)::L.pl (.i 0)::L.pl (.i 0)::L.pl (.i 0)::L.pl (.i 0)::L.pl (.i 0)::L.pl (.i 0)::L.pl (.i 0)::L.pl (.i 0)::L.pl (.i 0)::L.pl (.i 0)::L.pl (.i 0)::L.pl (.i 0)::L.pl (.i 0)::L.pl (.i 0)::L.pl (.i 0)::L.pl (.i 0)::L.pl (.i 0)::L.pl (.i 0)::L.pl (.i 0)::L.pl (.i 0)::L.pl (.i 0)::L.pl (.i 0)::L.pl (.i 0)::L.pl (.i 0)::L.pl (.i 0)::L.pl (.i 0)::L.pl (.i 0)::L.pl (.i 0)::L.pl (.i 0)::L.pl (.i 0)::L.pl (.i 0)::L.pl (.i 0)::L.pl (.i 0)::L.pl (.i 0)::L.pl (.i 0)::L.pl (.i 0)::L.pl (.i 0)::L.pl (.i 0)::L.pl (.i 0)::L.pl (.i 0)::L.pl (.i 0)::L.pl (.i 0)::L.pl (.i 0)::L.pl (.i 0)::L.pl (.i 0)::L.pl (.i 0)::L.pl (.i 0)::L.pl (.i 0)::L.pl (.i 0)::L.pl (.i 0)::L.pl (.i 0)::L.pl (.i 0)::L.pl (.i 0)::L.pl (.i 0)::L.pl (.i 0)::L.pl (.i 0)::L.pl (.i 0)::L.pl (.i 0)::L.pl (.i 0)::L.pl (.i 0)::L.pl (.i 0)::L.pl (.i 0)::L.pl (.i 0)::L.pl (.i 0)::L.pl (.i 0)::L.pl (.i 0)::L.pl (.i 0)::L.pl (.i 0)::L.pl (.i 0)::L.pl (.i 0)::L.pl (.i 0)::L.pl (.i 0)::L.pl (.i 0)::L.pl (.i 0)::L.pl (.i 0)::L.pl (.i 0)::L.pl (.i 0)::L.pl (.i 0)::L.pl (.i 0)::L.pl (.i 0)::L.pl (.i 0)::L.pl (.i 0)::L.pl (.i 0)::L.pl (.i 0)::L.pl (.i 0)::L.pl (.i 0)::L.pl (.i 0)::L.pl (.i 0)::L.pl (.i 0)::L.pl (.i 0)::L.pl (.i 0)::L.pl (.i 0)::L.pl (.i 0)::L.pl (.i 0)::L.pl (.i 0)::L.pl (.i 0)::L.pl (.i 0)::L.pl (.i 0)::L.pl (.i 0)::L.pl (.i 0)::L.pl (.i 0)::L.pl (.i 0)::L.pl (.i 0)::L.pl (.i 0)::L.pl (.i 0)::L.pl (.i 0)::L.pl (.i 0)::L.pl (.i 0)::L.pl (.i 0)::L.pl (.i 0)::L.pl (.i 0)::L.pl (.i 0)::L.pl (.i 0)::L.pl (.i 0)::L.pl (.i 0)::L.pl (.i 0)::L.pl (.i 0)::L.pl (.i 0)::L.pl (.i 0)::L.pl (.i 0)::L.pl (.i 0)::L.pl (.i 0)::L.pl (.i 0)::L.pl (.i 0)::L.pl (.i 0)::L.pl (.i 0)::L.pl (.i 0)::L.pl (.i 0)::L.pl (.i 0)::L.pl (.i 0)::L.pl (.i 0)::L.pl (.i 0)::L.pl (.i 0)::L.pl (.i 0)::L.pl (.i 0)::L.pl (.i 0)::L.pl (.i 0)::[]):=by kernel_rfl
@[go_sem] theorem ag94 :Nk Tryd.prog 94=true:=by kernel_rfl
@[go_sem] theorem sz95 :Tryd.prog.cellsOf 95=4:=by kernel_rfl
@[go_sem] theorem bo95 :Tryd.prog.bytesOf 95=16:=by kernel_rfl
attribute [go_sem] Tryd.underlying95
@[go_sem] theorem zc95 :Lj Tryd.prog 95=some (L.pl (.u32 0)::L.pl (.u32 0)::L.pl (.u32 0)::L.pl (.u32 0)::[]):=by kernel_rfl
@[go_sem] theorem ag95 :Nk Tryd.prog 95=true:=by kernel_rfl
@[go_sem] theorem sz96 :Tryd.prog.cellsOf 96=16:=by kernel_rfl
@[go_sem] theorem bo96 :Tryd.prog.bytesOf 96=64:=by kernel_rfl
attribute [go_sem] Tryd.underlying96
@[go_sem] theorem zc96 :Lj Tryd.prog 96=some (L.pl (.u32 0)::L.pl (.u32 0)::L.pl (.u32 0)::L.pl (.u32 0)::L.pl (.u32 0)::L.pl (.u32 0)::L.pl (.u32 0)::L.pl (.u32 0)::L.pl (.u32 0)::L.pl (.u32 0)::L.pl (.u32 0)::L.pl (.u32 0)::L.pl (.u32 0)::L.pl (.u32 0)::L.pl (.u32 0)::L.pl (.u32 0)::[]):=by kernel_rfl
@[go_sem] theorem ag96 :Nk Tryd.prog 96=true:=by kernel_rfl
@[go_sem] theorem sz112 :Tryd.prog.cellsOf 112=5:=by kernel_rfl
@[go_sem] theorem bo112 :Tryd.prog.bytesOf 112=40:=by kernel_rfl
attribute [go_sem] Tryd.underlying112
@[go_sem] theorem zc112 :Lj Tryd.prog 112=some (L.pl (.u64 0)::L.pl (.u64 0)::L.pl (.u64 0)::L.pl (.u64 0)::L.pl (.u64 0)::[]):=by kernel_rfl
@[go_sem] theorem ag112 :Nk Tryd.prog 112=true:=by kernel_rfl
@[go_sem] theorem sz113 :Tryd.prog.cellsOf 113=5:=by kernel_rfl
@[go_sem] theorem bo113 :Tryd.prog.bytesOf 113=40:=by kernel_rfl
attribute [go_sem] Tryd.underlying113
@[go_sem] theorem zc113 :Lj Tryd.prog 113=some (L.pl (.u64 0)::L.pl (.u64 0)::L.pl (.u64 0)::L.pl (.u64 0)::L.pl (.u64 0)::[]):=by kernel_rfl
@[go_sem] theorem ag113 :Nk Tryd.prog 113=true:=by kernel_rfl
@[go_sem] theorem sz80 :Tryd.prog.cellsOf 80=1:=by kernel_rfl
@[go_sem] theorem bo80 :Tryd.prog.bytesOf 80=8:=by kernel_rfl
attribute [go_sem] Tryd.underlying80
end Go.Sy
