/- Facts on the types of the program. -/
import Derived.Test.YtijngjidkdkmeaaProg
import Derived.Test.YtijngjidkdkmeaavE3
import Derived.KernelRfl
set_option linter.unusedVariables false
set_option linter.unusedSimpArgs false
namespace Go.Sy
open Go.Proofs
attribute [local irreducible] Cj HT Bv Rj onC onE onO onG goV goA goS Tj Ck
theorem mixed :Try.prog.follows .mixedOrders=true:=by kernel_rfl
@[go_sem] theorem sz3 :Try.prog.cellsOf 3=1:=by kernel_rfl
@[go_sem] theorem bo3 :Try.prog.bytesOf 3=8:=by kernel_rfl
attribute [go_sem] Try.underlying3
@[go_sem] theorem zc3 :Ox Try.prog 3=some (L.pl (.i 0)::[]):=by kernel_rfl
@[go_sem] theorem sz4 :Try.prog.cellsOf 4=1:=by kernel_rfl
@[go_sem] theorem bo4 :Try.prog.bytesOf 4=1:=by kernel_rfl
attribute [go_sem] Try.underlying4
@[go_sem] theorem zc4 :Ox Try.prog 4=some (L.pl (.b false)::[]):=by kernel_rfl
@[go_sem] theorem sz5 :Try.prog.cellsOf 5=1:=by kernel_rfl
@[go_sem] theorem bo5 :Try.prog.bytesOf 5=1:=by kernel_rfl
attribute [go_sem] Try.underlying5
@[go_sem] theorem zc5 :Ox Try.prog 5=some (L.pl (.u8 0)::[]):=by kernel_rfl
@[go_sem] theorem sz9 :Try.prog.cellsOf 9=1:=by kernel_rfl
@[go_sem] theorem bo9 :Try.prog.bytesOf 9=16:=by kernel_rfl
attribute [go_sem] Try.underlying9
@[go_sem] theorem zc9 :Ox Try.prog 9=some (L.pl (.str [])::[]):=by kernel_rfl
@[go_sem] theorem sz22 :Try.prog.cellsOf 22=1:=by kernel_rfl
@[go_sem] theorem bo22 :Try.prog.bytesOf 22=24:=by kernel_rfl
attribute [go_sem] Try.underlying22
@[go_sem] theorem zc22 :Ox Try.prog 22=some (L.pl (.R true 1 [])::[]):=by kernel_rfl
@[go_sem] theorem sz23 :Try.prog.cellsOf 23=4:=by kernel_rfl
@[go_sem] theorem bo23 :Try.prog.bytesOf 23=48:=by kernel_rfl
attribute [go_sem] Try.underlying23
@[go_sem] theorem zc23 :Ox Try.prog 23=some (L.pl (.i 0)::L.pl (.i 0)::L.pl (.i 0)::L.pl (.R true 1 [])::[]):=by kernel_rfl
@[go_sem] theorem ag23 :Wz Try.prog 23=true:=by kernel_rfl
@[go_sem] theorem sz24 :Try.prog.cellsOf 24=4:=by kernel_rfl
@[go_sem] theorem bo24 :Try.prog.bytesOf 24=48:=by kernel_rfl
attribute [go_sem] Try.underlying24
@[go_sem] theorem zc24 :Ox Try.prog 24=some (L.pl (.i 0)::L.pl (.i 0)::L.pl (.i 0)::L.pl (.R true 1 [])::[]):=by kernel_rfl
@[go_sem] theorem ag24 :Wz Try.prog 24=true:=by kernel_rfl
@[go_sem] theorem sz25 :Try.prog.cellsOf 25=1:=by kernel_rfl
@[go_sem] theorem bo25 :Try.prog.bytesOf 25=8:=by kernel_rfl
attribute [go_sem] Try.underlying25
@[go_sem] theorem zc25 :Ox Try.prog 25=some (L.pl (.i 0)::[]):=by kernel_rfl
@[go_sem] theorem sz29 :Try.prog.cellsOf 29=1:=by kernel_rfl
@[go_sem] theorem bo29 :Try.prog.bytesOf 29=24:=by kernel_rfl
attribute [go_sem] Try.underlying29
@[go_sem] theorem zc29 :Ox Try.prog 29=some (L.pl (.R true 1 [])::[]):=by kernel_rfl
@[go_sem] theorem sz30 :Try.prog.cellsOf 30=2:=by kernel_rfl
@[go_sem] theorem bo30 :Try.prog.bytesOf 30=48:=by kernel_rfl
attribute [go_sem] Try.underlying30
@[go_sem] theorem zc30 :Ox Try.prog 30=some (L.pl (.R true 1 [])::L.pl (.R true 1 [])::[]):=by kernel_rfl
@[go_sem] theorem ag30 :Wz Try.prog 30=true:=by kernel_rfl
@[go_sem] theorem sz31 :Try.prog.cellsOf 31=1:=by kernel_rfl
@[go_sem] theorem bo31 :Try.prog.bytesOf 31=24:=by kernel_rfl
attribute [go_sem] Try.underlying31
@[go_sem] theorem zc31 :Ox Try.prog 31=some (L.pl (.R true 1 [])::[]):=by kernel_rfl
@[go_sem] theorem sz32 :Try.prog.cellsOf 32=6:=by kernel_rfl
@[go_sem] theorem bo32 :Try.prog.bytesOf 32=120:=by kernel_rfl
attribute [go_sem] Try.underlying32
@[go_sem] theorem zc32 :Ox Try.prog 32=some (L.pl (.str [])::L.pl (.b false)::L.pl (.R true 1 [])::L.pl (.R true 1 [])::L.pl (.R true 1 [])::L.pl (.R true 1 [])::[]):=by kernel_rfl
@[go_sem] theorem ag32 :Wz Try.prog 32=true:=by kernel_rfl
@[go_sem] theorem sz33 :Try.prog.cellsOf 33=6:=by kernel_rfl
@[go_sem] theorem bo33 :Try.prog.bytesOf 33=120:=by kernel_rfl
attribute [go_sem] Try.underlying33
@[go_sem] theorem zc33 :Ox Try.prog 33=some (L.pl (.str [])::L.pl (.b false)::L.pl (.R true 1 [])::L.pl (.R true 1 [])::L.pl (.R true 1 [])::L.pl (.R true 1 [])::[]):=by kernel_rfl
@[go_sem] theorem ag33 :Wz Try.prog 33=true:=by kernel_rfl
@[go_sem] theorem sz38 :Try.prog.cellsOf 38=1:=by kernel_rfl
@[go_sem] theorem bo38 :Try.prog.bytesOf 38=24:=by kernel_rfl
attribute [go_sem] Try.underlying38
@[go_sem] theorem zc38 :Ox Try.prog 38=some (L.pl (.R true 1 [])::[]):=by kernel_rfl
@[go_sem] theorem sz52 :Try.prog.cellsOf 52=11:=by kernel_rfl
@[go_sem] theorem bo52 :Try.prog.bytesOf 52=136:=by kernel_rfl
attribute [go_sem] Try.underlying52
@[go_sem] theorem zc52 :Ox Try.prog 52=some (L.pl (.i 0)::L.pl (.i 0)::L.pl (.i 0)::L.pl (.R true 1 [])::L.pl (.i 0)::L.pl (.i 0)::L.pl (.i 0)::L.pl (.R true 1 [])::L.pl (.b false)::L.pl (.i 0)::L.pl (.R true 1 [])::[]):=by kernel_rfl
@[go_sem] theorem ag52 :Wz Try.prog 52=true:=by kernel_rfl
@[go_sem] theorem sz53 :Try.prog.cellsOf 53=11:=by kernel_rfl
@[go_sem] theorem bo53 :Try.prog.bytesOf 53=136:=by kernel_rfl
attribute [go_sem] Try.underlying53
@[go_sem] theorem zc53 :Ox Try.prog 53=some (L.pl (.i 0)::L.pl (.i 0)::L.pl (.i 0)::L.pl (.R true 1 [])::L.pl (.i 0)::L.pl (.i 0)::L.pl (.i 0)::L.pl (.R true 1 [])::L.pl (.b false)::L.pl (.i 0)::L.pl (.R true 1 [])::[]):=by kernel_rfl
@[go_sem] theorem ag53 :Wz Try.prog 53=true:=by kernel_rfl
@[go_sem] theorem sz58 :Try.prog.cellsOf 58=1:=by kernel_rfl
@[go_sem] theorem bo58 :Try.prog.bytesOf 58=24:=by kernel_rfl
attribute [go_sem] Try.underlying58
@[go_sem] theorem zc58 :Ox Try.prog 58=some (L.pl (.R true 1 [])::[]):=by kernel_rfl
@[go_sem] theorem sz60 :Try.prog.cellsOf 60=3:=by kernel_rfl
@[go_sem] theorem bo60 :Try.prog.bytesOf 60=3:=by kernel_rfl
attribute [go_sem] Try.underlying60
@[go_sem] theorem zc60 :Ox Try.prog 60=some (L.pl (.b false)::L.pl (.b false)::L.pl (.b false)::[]):=by kernel_rfl
@[go_sem] theorem ag60 :Wz Try.prog 60=true:=by kernel_rfl
@[go_sem] theorem sz61 :Try.prog.cellsOf 61=3:=by kernel_rfl
@[go_sem] theorem bo61 :Try.prog.bytesOf 61=3:=by kernel_rfl
attribute [go_sem] Try.underlying61
@[go_sem] theorem zc61 :Ox Try.prog 61=some (L.pl (.b false)::L.pl (.b false)::L.pl (.b false)::[]):=by kernel_rfl
@[go_sem] theorem ag61 :Wz Try.prog 61=true:=by kernel_rfl
@[go_sem] theorem sz62 :Try.prog.cellsOf 62=6:=by kernel_rfl
@[go_sem] theorem bo62 :Try.prog.bytesOf 62=6:=by kernel_rfl
attribute [go_sem] Try.underlying62
@[go_sem] theorem zc62 :Ox Try.prog 62=some (L.pl (.b false)::L.pl (.b false)::L.pl (.b false)::L.pl (.b false)::L.pl (.b false)::L.pl (.b false)::[]):=by kernel_rfl
@[go_sem] theorem ag62 :Wz Try.prog 62=true:=by kernel_rfl
@[go_sem] theorem sz63 :Try.prog.cellsOf 63=8:=by kernel_rfl
@[go_sem] theorem bo63 :Try.prog.bytesOf 63=8:=by kernel_rfl
attribute [go_sem] Try.underlying63
@[go_sem] theorem zc63 :Ox Try.prog 63=some (L.pl (.b false)::L.pl (.b false)::L.pl (.b false)::L.pl (.b false)::L.pl (.b false)::L.pl (.b false)::L.pl (.b false)::L.pl (.b false)::[]):=by kernel_rfl
@[go_sem] theorem ag63 :Wz Try.prog 63=true:=by kernel_rfl
@[go_sem] theorem sz64 :Try.prog.cellsOf 64=15:=by kernel_rfl
@[go_sem] theorem bo64 :Try.prog.bytesOf 64=15:=by kernel_rfl
attribute [go_sem] Try.underlying64
@[go_sem] theorem zc64 :Ox Try.prog 64=some (L.pl (.b false)::L.pl (.b false)::L.pl (.b false)::L.pl (.b false)::L.pl (.b false)::L.pl (.b false)::L.pl (.b false)::L.pl (.b false)::L.pl (.b false)::L.pl (.b false)::L.pl (.b false)::L.pl (.b false)::L.pl (.b false)::L.pl (.b false)::L.pl (.b false)::[]):=by kernel_rfl
@[go_sem] theorem ag64 :Wz Try.prog 64=true:=by kernel_rfl
@[go_sem] theorem sz65 :Try.prog.cellsOf 65=15:=by kernel_rfl
@[go_sem] theorem bo65 :Try.prog.bytesOf 65=15:=by kernel_rfl
attribute [go_sem] Try.underlying65
@[go_sem] theorem zc65 :Ox Try.prog 65=some (L.pl (.b false)::L.pl (.b false)::L.pl (.b false)::L.pl (.b false)::L.pl (.b false)::L.pl (.b false)::L.pl (.b false)::L.pl (.b false)::L.pl (.b false)::L.pl (.b false)::L.pl (.b false)::L.pl (.b false)::L.pl (.b false)::L.pl (.b false)::L.pl (.b false)::[]):=by kernel_rfl
@[go_sem] theorem ag65 :Wz Try.prog 65=true:=by kernel_rfl
@[go_sem] theorem sz70 :Try.prog.cellsOf 70=1:=by kernel_rfl
@[go_sem] theorem bo70 :Try.prog.bytesOf 70=24:=by kernel_rfl
attribute [go_sem] Try.underlying70
@[go_sem] theorem zc70 :Ox Try.prog 70=some (L.pl (.R true 1 [])::[]):=by kernel_rfl
@[go_sem] theorem sz73 :Try.prog.cellsOf 73=2:=by kernel_rfl
@[go_sem] theorem bo73 :Try.prog.bytesOf 73=16:=by kernel_rfl
attribute [go_sem] Try.underlying73
@[go_sem] theorem zc73 :Ox Try.prog 73=some (L.pl (.i 0)::L.pl (.i 0)::[]):=by kernel_rfl
@[go_sem] theorem ag73 :Wz Try.prog 73=true:=by kernel_rfl
@[go_sem] theorem sz74 :Try.prog.cellsOf 74=2:=by kernel_rfl
@[go_sem] theorem bo74 :Try.prog.bytesOf 74=16:=by kernel_rfl
attribute [go_sem] Try.underlying74
@[go_sem] theorem zc74 :Ox Try.prog 74=some (L.pl (.i 0)::L.pl (.i 0)::[]):=by kernel_rfl
@[go_sem] theorem ag74 :Wz Try.prog 74=true:=by kernel_rfl
@[go_sem] theorem sz76 :Try.prog.cellsOf 76=8:=by kernel_rfl
@[go_sem] theorem bo76 :Try.prog.bytesOf 76=64:=by kernel_rfl
attribute [go_sem] Try.underlying76
@[go_sem] theorem zc76 :Ox Try.prog 76=some (L.pl (.i 0)::L.pl (.i 0)::L.pl (.i 0)::L.pl (.i 0)::L.pl (.i 0)::L.pl (.i 0)::L.pl (.i 0)::L.pl (.i 0)::[]):=by kernel_rfl
@[go_sem] theorem ag76 :Wz Try.prog 76=true:=by kernel_rfl
@[go_sem] theorem sz78 :Try.prog.cellsOf 78=2:=by kernel_rfl
@[go_sem] theorem bo78 :Try.prog.bytesOf 78=16:=by kernel_rfl
attribute [go_sem] Try.underlying78
@[go_sem] theorem zc78 :Ox Try.prog 78=some (L.pl (.i 0)::L.pl (.i 0)::[]):=by kernel_rfl
@[go_sem] theorem ag78 :Wz Try.prog 78=true:=by kernel_rfl
@[go_sem] theorem sz79 :Try.prog.cellsOf 79=4:=by kernel_rfl
@[go_sem] theorem bo79 :Try.prog.bytesOf 79=32:=by kernel_rfl
attribute [go_sem] Try.underlying79
@[go_sem] theorem zc79 :Ox Try.prog 79=some (L.pl (.i 0)::L.pl (.i 0)::L.pl (.i 0)::L.pl (.i 0)::[]):=by kernel_rfl
@[go_sem] theorem ag79 :Wz Try.prog 79=true:=by kernel_rfl
@[go_sem] theorem sz1 :Try.prog.cellsOf 1=1:=by kernel_rfl
@[go_sem] theorem bo1 :Try.prog.bytesOf 1=8:=by kernel_rfl
attribute [go_sem] Try.underlying1
@[go_sem] theorem sz40 :Try.prog.cellsOf 40=1:=by kernel_rfl
@[go_sem] theorem bo40 :Try.prog.bytesOf 40=8:=by kernel_rfl
attribute [go_sem] Try.underlying40
@[go_sem] theorem sz42 :Try.prog.cellsOf 42=1:=by kernel_rfl
@[go_sem] theorem bo42 :Try.prog.bytesOf 42=8:=by kernel_rfl
attribute [go_sem] Try.underlying42
@[go_sem] theorem sz45 :Try.prog.cellsOf 45=1:=by kernel_rfl
@[go_sem] theorem bo45 :Try.prog.bytesOf 45=8:=by kernel_rfl
attribute [go_sem] Try.underlying45
@[go_sem] theorem sz48 :Try.prog.cellsOf 48=1:=by kernel_rfl
@[go_sem] theorem bo48 :Try.prog.bytesOf 48=8:=by kernel_rfl
attribute [go_sem] Try.underlying48
@[go_sem] theorem sz51 :Try.prog.cellsOf 51=1:=by kernel_rfl
@[go_sem] theorem bo51 :Try.prog.bytesOf 51=8:=by kernel_rfl
attribute [go_sem] Try.underlying51
@[go_sem] theorem sz54 :Try.prog.cellsOf 54=1:=by kernel_rfl
@[go_sem] theorem bo54 :Try.prog.bytesOf 54=8:=by kernel_rfl
attribute [go_sem] Try.underlying54
@[go_sem] theorem sz59 :Try.prog.cellsOf 59=1:=by kernel_rfl
@[go_sem] theorem bo59 :Try.prog.bytesOf 59=8:=by kernel_rfl
attribute [go_sem] Try.underlying59
@[go_sem] theorem sz77 :Try.prog.cellsOf 77=1:=by kernel_rfl
@[go_sem] theorem bo77 :Try.prog.bytesOf 77=8:=by kernel_rfl
attribute [go_sem] Try.underlying77
@[go_sem] theorem zc40 :Ox Try.prog 40=some (L.pl (.val .nilFunc)::[]):=by kernel_rfl
@[go_sem] theorem zc45 :Ox Try.prog 45=some (L.pl (.val .nilFunc)::[]):=by kernel_rfl
@[go_sem] theorem zc48 :Ox Try.prog 48=some (L.pl (.val .nilFunc)::[]):=by kernel_rfl
@[go_sem] theorem zc54 :Ox Try.prog 54=some (L.pl (.val .nilFunc)::[]):=by kernel_rfl
@[go_sem] theorem zc42 :Ox Try.prog 42=some (L.pl (.val (.map none))::[]):=by kernel_rfl
end Go.Sy
