/- Walks and what they compute. CONDITIONS: those that each theorem names. -/
import Derived.Test.YtkfcbhgkpknagaaGreatDoorvS8
import Derived.Test.YtkfcbhgkpknagaaGreatDoorvE3
import Derived.Test.YtkfcbhgkpknagaaGreatDoorvS9
set_option linter.unusedVariables false
set_option linter.unusedSimpArgs false
namespace Go.Sy
namespace Bk
open Go.Proofs
attribute [local irreducible] Bw HT Aj Jk onC onE onO onG goV goA goS Lx Bz
end Bk
end Go.Sy
namespace Go.Sy
namespace Bk
open Go.Proofs
attribute [local irreducible] Bw HT Aj Jk onC onE onO onG goV goA goS Lx Bz
end Bk
end Go.Sy
namespace Go.Sy
namespace Bk
open Go.Proofs
attribute [local irreducible] Bw HT Aj Jk onC onE onO onG goV goA goS Lx Bz
theorem s2e (k b:List UInt8) (exk ex:Bool) (hk:k.length≤140737488351232) (hb:b.length≤140737488351232):CtM Tryz.prog 32 [.w (.one (.pl (.R exk 1 (Av k)))),.w (.one (.pl (.R ex 1 (Av b))))] [(1000002,⟨false,gFi⟩),(1000004,⟨false,j0h⟩)] (Told (fun v m=>v=.w (.agg (Az (r0t k b)))∧m=[])):=by
 by_cases h:64<k.length
 ·exact x1h k b exk ex hk hb h
 exact p1f k b exk ex hk hb h
theorem a2x (k b:List UInt8) (hk:k.length≤140737488351232) (hb:b.length≤140737488351232):CtM Tryz.prog 42 [.w (.one (.pl (.str k))),.w (.one (.pl (.str b)))] [(1000003,⟨false,gFi⟩)] (Told (fun v m=>v=.w (.agg (Az (r0t k b)))∧m=[])):=by
 by_cases h:64<k.length
 ·exact j1k k b hk hb h
 exact c1h k b hk hb h
end Bk
end Go.Sy
