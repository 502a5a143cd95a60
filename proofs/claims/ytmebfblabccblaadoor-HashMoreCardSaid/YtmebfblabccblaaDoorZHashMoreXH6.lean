-- cut down by bundle.py (the session's own program) from the text YtmebfblabccblaaDoorXH6, to what this claim names
-- laid by xprint.py (the session's own program) out of the translation; Lean checks it
import Derived.Test.YtmebfblabccblaaDoorZHashMoreXH0
import Derived.Test.YtmebfblabccblaaDoorZHashMoreXH5
namespace Go.Proofs.YtmebfblabccblaaDoor.XH
open Go.RowKit Go.Proofs.YtmebfblabccblaaDoorW.PrintWords Go.Proofs.YtmebfblabccblaaDoorW.PrintLast Go.Proofs.YtmebfblabccblaaDoorW.PrintMore
attribute [local go_sem] max2_int min2_int max_two min_two max_three min_three max_four min_four   -- for this text's walks alone
set_option linter.unusedVariables false
set_option linter.unusedSimpArgs false

mutual
def spinneyref01_Compare.j0 : Nat → Int → Bool → Int → Int → ByteArray → List (S24) → Int → Int → ByteArray → List (S24) → Option (Int)
  | 0, _, _, _, _, _, _, _, _, _, _ => none
  | k + 1, x19, x20, x150000, x150001, x150002, x150003, x151000, x151001, x151002, x151003 => if x20 = true then ((spinneyref01_sign.f (decide (x150001 < x151001)) (decide (x150001 > x151001))).bind fun t152 => (some t152)) else (if x19 = 3 then ((spinneyref01_sign.f (Op.bytesLess x150002.toList x151002.toList) (Op.bytesLess x151002.toList x150002.toList)).bind fun t153 => (some t153)) else (if x19 = 4 then (spinneyref01_Compare.j1 k (x19 == 4) x150000 x150001 x150002 x150003 x151000 x151001 x151002 x151003) else (if x19 = 5 then (spinneyref01_Compare.j1 k (x19 == 5) x150000 x150001 x150002 x150003 x151000 x151001 x151002 x151003) else (spinneyref01_Compare.j1 k (x19 == 6) x150000 x150001 x150002 x150003 x151000 x151001 x151002 x151003))))
def spinneyref01_Compare.j1 : Nat → Bool → Int → Int → ByteArray → List (S24) → Int → Int → ByteArray → List (S24) → Option (Int)
  | 0, _, _, _, _, _, _, _, _, _ => none
  | k + 1, x47, x150000, x150001, x150002, x150003, x151000, x151001, x151002, x151003 => if x47 = true then (spinneyref01_Compare.l0 k 0 x150000 x150001 x150002 x150003 x151000 x151001 x151002 x151003) else (some 0)
def spinneyref01_Compare.l0 : Nat → Int → Int → Int → ByteArray → List (S24) → Int → Int → ByteArray → List (S24) → Option (Int)
  | 0, _, _, _, _, _, _, _, _, _ => none
  | k + 1, x5, x150000, x150001, x150002, x150003, x151000, x151001, x151002, x151003 => if x5 < (x150003.length : Int) then (spinneyref01_Compare.j3 k x5 (decide (x5 < (x151003.length : Int))) x150000 x150001 x150002 x150003 x151000 x151001 x151002 x151003) else (spinneyref01_Compare.j3 k x5 false x150000 x150001 x150002 x150003 x151000 x151001 x151002 x151003)
def spinneyref01_Compare.j3 : Nat → Int → Bool → Int → Int → ByteArray → List (S24) → Int → Int → ByteArray → List (S24) → Option (Int)
  | 0, _, _, _, _, _, _, _, _, _, _ => none
  | k + 1, x5, x62, x150000, x150001, x150002, x150003, x151000, x151001, x151002, x151003 => if x62 = true then (if 0 ≤ x5 then (if x5 < (x150003.length : Int) then (if x5 < (x151003.length : Int) then ((spinneyref01_Compare.f k ((rd_T24 x150003 x5).f0) ((rd_T24 x150003 x5).f1) ((rd_T24 x150003 x5).f2) ((rd_T24 x150003 x5).f3) ((rd_T24 x151003 x5).f0) ((rd_T24 x151003 x5).f1) ((rd_T24 x151003 x5).f2) ((rd_T24 x151003 x5).f3)).bind fun t156 => (if t156 = 0 then (spinneyref01_Compare.l0 k (wrap64 (x5 + 1)) x150000 x150001 x150002 x150003 x151000 x151001 x151002 x151003) else (some t156))) else (none)) else (none)) else (none)) else ((spinneyref01_sign.f (decide ((x150003.length : Int) < (x151003.length : Int))) (decide ((x150003.length : Int) > (x151003.length : Int)))).bind fun t157 => (some t157))
def spinneyref01_Compare.f : Nat → Int → Int → ByteArray → List (S24) → Int → Int → ByteArray → List (S24) → Option (Int)
  | 0, _, _, _, _, _, _, _, _ => none
  | k + 1, a0_0, a0_1, a0_2, l0_3, a1_0, a1_1, a1_2, l1_3 => if a0_0 = a1_0 then (if a0_0 = 1 then (spinneyref01_Compare.j0 k a0_0 (a0_0 == 1) a0_0 a0_1 a0_2 l0_3 a1_0 a1_1 a1_2 l1_3) else (spinneyref01_Compare.j0 k a0_0 (a0_0 == 2) a0_0 a0_1 a0_2 l0_3 a1_0 a1_1 a1_2 l1_3)) else ((spinneyref01_sign.f (decide (a0_0 < a1_0)) true).bind fun t151 => (some t151))
end
end Go.Proofs.YtmebfblabccblaaDoor.XH
