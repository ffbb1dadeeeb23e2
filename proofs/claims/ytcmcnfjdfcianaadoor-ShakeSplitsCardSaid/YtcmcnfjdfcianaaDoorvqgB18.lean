/- Bytes added to a sum: both at once. -/
import Derived.Test.YtcmcnfjdfcianaaDoorvqgB17
import Derived.Test.YtcmcnfjdfcianaaDoorvE3
set_option linter.unusedVariables false
set_option linter.unusedSimpArgs false
namespace Go.Sy
namespace Bk
open Go.Proofs
attribute [local irreducible] atCall HT runOps runD onC onE onO onG goV goA goS onSt onGuard
theorem kinds_hash {h : H8} {held : List UInt8} (hh : held.length = 64) (n len : Int) : (hashC h held n len).map kindL = ((.int .u32 :: .int .u32 :: .int .u32 :: .int .u32 :: .int .u32 :: .int .u32 :: .int .u32 :: .int .u32 :: (List.replicate 64 (.int .u8) ++ [.int .i64, .int .i64]) : List Kd)).map some := by
 simp only [hashC, H8.ls, List.map_cons, List.map_append, kinds_bytes hh, List.map_replicate, List.map_nil, List.cons_append, List.nil_append]
 rfl
theorem hash_same {h : H8} {held : List UInt8} (hh : held.length = 64) (n len : Int) : aggEq Tryd.prog 75 (hashC h held n len) (hashC h held n len) = some true := by
 rw [ae75 (kinds_hash hh n len) (kinds_hash hh n len)]
 simp only [hashC, H8.ls, List.cons_append, List.nil_append, eqC_cons, eqC_seg rfl, eqC_nil, eqL_u32, eqL_i]; simp
theorem hadd_bigK (h0 h1 h2 h3 h4 h5 h6 h7 : UInt32) (held : List UInt8) (hh : held.length = 64) (k l : Nat) (hok : HashOk held (k : Int) (l : Int)) (b : List UInt8) (hbl : l + b.length ≤ 9223372036854775807) (ex : Bool) (hbig : 1073741824 < l + b.length) : CtM Tryd.prog 37 [.w (.agg (hashC ⟨h0, h1, h2, h3, h4, h5, h6, h7⟩ held (k : Int) (l : Int))), .w (.one (.pl (.R ex 1 (byteRows b))))] [(1000000, ⟨false, [.pl (.u32 1779033703), .pl (.u32 3144134277), .pl (.u32 1013904242), .pl (.u32 2773480762), .pl (.u32 1359893119), .pl (.u32 2600822924), .pl (.u32 528734635), .pl (.u32 1541459225)]⟩), (1000002, ⟨false, ordC⟩)] (Told (fun v m => v = .tup [.agg (hashC ⟨0, 0, 0, 0, 0, 0, 0, 0⟩ (List.replicate 64 0) 0 0), .one (.pl (.i 1))] ∧ m = [])) := by
 obtain ⟨e1, e2⟩ := st_of hh hok ⟨h0, h1, h2, h3, h4, h5, h6, h7⟩
 have e3 : (held.take k).length = k := by rw [List.length_take]; have := hok.hi; omega
 have e4 : k ≤ l := by have := hok.le; omega
 rw [← e2]
 exact hadd_big h0 h1 h2 h3 h4 h5 h6 h7 (l - k) (held.take k) e1 b (by rw [e3]; omega) ex (by rw [e3]; omega)
theorem hadd_mainK (h0 h1 h2 h3 h4 h5 h6 h7 : UInt32) (held : List UInt8) (hh : held.length = 64) (k l : Nat) (hok : HashOk held (k : Int) (l : Int)) (b : List UInt8) (hbl : l + b.length ≤ 9223372036854775807) (ex : Bool) (hnb : ¬ 1073741824 < l + b.length) : CtM Tryd.prog 37 [.w (.agg (hashC ⟨h0, h1, h2, h3, h4, h5, h6, h7⟩ held (k : Int) (l : Int))), .w (.one (.pl (.R ex 1 (byteRows b))))] [(1000000, ⟨false, [.pl (.u32 1779033703), .pl (.u32 3144134277), .pl (.u32 1013904242), .pl (.u32 2773480762), .pl (.u32 1359893119), .pl (.u32 2600822924), .pl (.u32 528734635), .pl (.u32 1541459225)]⟩), (1000002, ⟨false, ordC⟩)] (Told (fun v m => v = .tup [.agg (stB (absB ⟨⟨h0, h1, h2, h3, h4, h5, h6, h7⟩, l - k, held.take k⟩ b)), .one (.pl (.i 0))] ∧ m = [])) := by
 obtain ⟨e1, e2⟩ := st_of hh hok ⟨h0, h1, h2, h3, h4, h5, h6, h7⟩
 have e3 : (held.take k).length = k := by rw [List.length_take]; have := hok.hi; omega
 have e4 : k ≤ l := by have := hok.le; omega
 rw [← e2]
 exact hadd_ok h0 h1 h2 h3 h4 h5 h6 h7 (l - k) (held.take k) e1 b (by rw [e3]; omega) ex (by rw [e3]; omega)
theorem hadded_bigK (h0 h1 h2 h3 h4 h5 h6 h7 : UInt32) (held : List UInt8) (hh : held.length = 64) (k l : Nat) (hok : HashOk held (k : Int) (l : Int)) (b : List UInt8) (hbl : l + b.length ≤ 9223372036854775807) (ex : Bool) (hbig : 1073741824 < l + b.length) : CtM Tryd.prog 43 [.w (.agg (hashC ⟨h0, h1, h2, h3, h4, h5, h6, h7⟩ held (k : Int) (l : Int))), .w (.one (.pl (.R ex 1 (byteRows b))))] [(1000001, ⟨false, [.pl (.u32 1779033703), .pl (.u32 3144134277), .pl (.u32 1013904242), .pl (.u32 2773480762), .pl (.u32 1359893119), .pl (.u32 2600822924), .pl (.u32 528734635), .pl (.u32 1541459225)]⟩)] (Told (fun v m => v = .tup [.agg (hashC ⟨0, 0, 0, 0, 0, 0, 0, 0⟩ (List.replicate 64 0) 0 0), .one (.pl (.i 1))] ∧ m = [])) := by
 obtain ⟨e1, e2⟩ := st_of hh hok ⟨h0, h1, h2, h3, h4, h5, h6, h7⟩
 have e3 : (held.take k).length = k := by rw [List.length_take]; have := hok.hi; omega
 have e4 : k ≤ l := by have := hok.le; omega
 rw [← e2]
 exact hadded_big h0 h1 h2 h3 h4 h5 h6 h7 (l - k) (held.take k) e1 b (by rw [e3]; omega) ex (by rw [e3]; omega)
theorem hadded_mainK (h0 h1 h2 h3 h4 h5 h6 h7 : UInt32) (held : List UInt8) (hh : held.length = 64) (k l : Nat) (hok : HashOk held (k : Int) (l : Int)) (b : List UInt8) (hbl : l + b.length ≤ 9223372036854775807) (ex : Bool) (hnb : ¬ 1073741824 < l + b.length) : CtM Tryd.prog 43 [.w (.agg (hashC ⟨h0, h1, h2, h3, h4, h5, h6, h7⟩ held (k : Int) (l : Int))), .w (.one (.pl (.R ex 1 (byteRows b))))] [(1000001, ⟨false, [.pl (.u32 1779033703), .pl (.u32 3144134277), .pl (.u32 1013904242), .pl (.u32 2773480762), .pl (.u32 1359893119), .pl (.u32 2600822924), .pl (.u32 528734635), .pl (.u32 1541459225)]⟩)] (Told (fun v m => v = .tup [.agg (stB (absB ⟨⟨h0, h1, h2, h3, h4, h5, h6, h7⟩, l - k, held.take k⟩ b)), .one (.pl (.i 0))] ∧ m = [])) := by
 obtain ⟨e1, e2⟩ := st_of hh hok ⟨h0, h1, h2, h3, h4, h5, h6, h7⟩
 have e3 : (held.take k).length = k := by rw [List.length_take]; have := hok.hi; omega
 have e4 : k ≤ l := by have := hok.le; omega
 rw [← e2]
 exact hadded_ok h0 h1 h2 h3 h4 h5 h6 h7 (l - k) (held.take k) e1 b (by rw [e3]; omega) ex (by rw [e3]; omega)
end Bk
end Go.Sy
