/- Macs of bytes: both at once. -/
import Derived.Test.YtcmcnfjdfcianaaDoorvqgB24
import Derived.Test.YtcmcnfjdfcianaaDoorvqgB20
set_option linter.unusedVariables false
set_option linter.unusedSimpArgs false
namespace Go.Sy
namespace Bk
open Go.Proofs
attribute [local irreducible] atCall HT runOps runD onC onE onO onG goV goA goS onSt onGuard
theorem mac_ (k b : List UInt8) (exk ex : Bool) (hk : k.length ≤ 140737488351232) (hb : b.length ≤ 140737488351232) : CtM Tryd.prog 61 [.w (.one (.pl (.R exk 1 (byteRows k)))), .w (.one (.pl (.R ex 1 (byteRows b))))] [(1000000, ⟨false, [.pl (.u32 1779033703), .pl (.u32 3144134277), .pl (.u32 1013904242), .pl (.u32 2773480762), .pl (.u32 1359893119), .pl (.u32 2600822924), .pl (.u32 528734635), .pl (.u32 1541459225)]⟩), (1000002, ⟨false, ordC⟩)] (Told (fun v m => v = .w (.agg (bytesC (macB k b))) ∧ m = [])) := by
 by_cases h : 64 < k.length
 · exact mac_long k b exk ex hk hb h
 · exact mac_short k b exk ex hk hb h
theorem macof_ (k b : List UInt8) (hk : k.length ≤ 140737488351232) (hb : b.length ≤ 140737488351232) : CtM Tryd.prog 47 [.w (.one (.pl (.str k))), .w (.one (.pl (.str b)))] [(1000001, ⟨false, [.pl (.u32 1779033703), .pl (.u32 3144134277), .pl (.u32 1013904242), .pl (.u32 2773480762), .pl (.u32 1359893119), .pl (.u32 2600822924), .pl (.u32 528734635), .pl (.u32 1541459225)]⟩)] (Told (fun v m => v = .w (.agg (bytesC (macB k b))) ∧ m = [])) := by
 by_cases h : 64 < k.length
 · exact macof_long k b hk hb h
 · exact macof_short k b hk hb h
end Bk
end Go.Sy
