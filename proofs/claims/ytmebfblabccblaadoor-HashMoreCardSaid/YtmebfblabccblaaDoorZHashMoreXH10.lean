-- cut down by bundle.py (the session's own program) from the text YtmebfblabccblaaDoorXH10, to what this claim names
-- laid by xprint.py (the session's own program) out of the translation; Lean checks it
import Derived.Test.YtmebfblabccblaaDoorZHashMoreXH0
import Derived.Test.YtmebfblabccblaaDoorZHashMoreXH9
namespace Go.Proofs.YtmebfblabccblaaDoor.XH
open Go.RowKit Go.Proofs.YtmebfblabccblaaDoorW.PrintWords Go.Proofs.YtmebfblabccblaaDoorW.PrintLast Go.Proofs.YtmebfblabccblaaDoorW.PrintMore
attribute [local go_sem] max2_int min2_int max_two min_two max_three min_three max_four min_four   -- for this text's walks alone
set_option linter.unusedVariables false
set_option linter.unusedSimpArgs false

mutual
def spinneyref01_fits.j0 : Nat → Int → Int → Bool → Int → Int → ByteArray → List (S24) → Option (Int)
  | 0, _, _, _, _, _, _, _ => none
  | k + 1, x1, x2, x29, x166000, x166001, x166002, x166003 => if x29 = true then (some (-1)) else (spinneyref01_fits.l0 k x1 x2 1 x166003 (x166003.length : Int) 0 x166000 x166001 x166002 x166003)
def spinneyref01_fits.l0 : Nat → Int → Int → Int → List (S24) → Int → Int → Int → Int → ByteArray → List (S24) → Option (Int)
  | 0, _, _, _, _, _, _, _, _, _, _ => none
  | k + 1, x1, x2, x7, x31, x32, x33, x166000, x166001, x166002, x166003 => if x33 < x32 then (if 0 ≤ x33 then (if x33 < (x31.length : Int) then ((spinneyref01_fits.f k ((rd_T24 x31 x33).f0) ((rd_T24 x31 x33).f1) ((rd_T24 x31 x33).f2) ((rd_T24 x31 x33).f3) (wrap64 (x1 - 1)) (wrap64 (x2 - x7))).bind fun t168 => (if t168 < 0 then (some (-1)) else (spinneyref01_fits.l0 k x1 x2 (wrap64 (x7 + t168)) x31 x32 (wrap64 (x33 + 1)) x166000 x166001 x166002 x166003))) else (none)) else (none)) else ((spinneyref01_own.f k x166000 x166001 x166002 x166003).bind fun t169 => (if t169 = true then (some x7) else (some (-1))))
def spinneyref01_fits.f : Nat → Int → Int → ByteArray → List (S24) → Int → Int → Option (Int)
  | 0, _, _, _, _, _, _ => none
  | k + 1, a0_0, a0_1, a0_2, l0_3, a1, a2 => if a2 < 1 then (spinneyref01_fits.j0 k a1 a2 true a0_0 a0_1 a0_2 l0_3) else (if (l0_3.length : Int) > 0 then (if a1 = 0 then (spinneyref01_fits.j0 k a1 a2 true a0_0 a0_1 a0_2 l0_3) else (spinneyref01_fits.j0 k a1 a2 (decide ((l0_3.length : Int) > a2)) a0_0 a0_1 a0_2 l0_3)) else (spinneyref01_fits.j0 k a1 a2 (decide ((l0_3.length : Int) > a2)) a0_0 a0_1 a0_2 l0_3))
end
def spinneyref01_Right.f (k : Nat) (a0_0 : Int) (a0_1 : Int) (a0_2 : ByteArray) (l0_3 : List (S24)) : Option (Bool) := (spinneyref01_fits.f k a0_0 a0_1 a0_2 l0_3 16 1024).bind fun t171 => (some (decide (t171 ≥ 0)))
end Go.Proofs.YtmebfblabccblaaDoor.XH
