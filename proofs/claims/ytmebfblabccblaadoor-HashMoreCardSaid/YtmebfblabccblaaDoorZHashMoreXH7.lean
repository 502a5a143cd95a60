-- cut down by bundle.py (the session's own program) from the text YtmebfblabccblaaDoorXH7, to what this claim names
-- laid by xprint.py (the session's own program) out of the translation; Lean checks it
import Derived.Test.YtmebfblabccblaaDoorZHashMoreXH0
namespace Go.Proofs.YtmebfblabccblaaDoor.XH
open Go.RowKit Go.Proofs.YtmebfblabccblaaDoorW.PrintWords Go.Proofs.YtmebfblabccblaaDoorW.PrintLast Go.Proofs.YtmebfblabccblaaDoorW.PrintMore
attribute [local go_sem] max2_int min2_int max_two min_two max_three min_three max_four min_four   -- for this text's walks alone
set_option linter.unusedVariables false
set_option linter.unusedSimpArgs false

mutual
def spinneyref01_utf.j2 : Nat → ByteArray → Int → Int → Int → Int → Int → Option (Int)
  | 0, _, _, _, _, _, _ => none
  | k + 1, x0, x1, x5, x6, x7, x8 => if x5 = 224 then (spinneyref01_utf.j3 k x0 x1 x6 160 x8) else (if x5 = 237 then (spinneyref01_utf.j3 k x0 x1 x6 x7 159) else (if x5 = 240 then (spinneyref01_utf.j3 k x0 x1 x6 144 x8) else (if x5 = 244 then (spinneyref01_utf.j3 k x0 x1 x6 x7 143) else (spinneyref01_utf.j3 k x0 x1 x6 x7 x8))))
def spinneyref01_utf.j3 : Nat → ByteArray → Int → Int → Int → Int → Option (Int)
  | 0, _, _, _, _, _ => none
  | k + 1, x0, x1, x6, x7, x8 => if (wrap64 (x1 + x6)) > (x0.size : Int) then (spinneyref01_utf.j4 k x0 x1 x6 true) else (if 0 ≤ (wrap64 (x1 + 1)) then (if (wrap64 (x1 + 1)) < (x0.size : Int) then (if (bt x0 (wrap64 (x1 + 1))) < x7 then (spinneyref01_utf.j4 k x0 x1 x6 true) else (spinneyref01_utf.j4 k x0 x1 x6 (decide ((bt x0 (wrap64 (x1 + 1))) > x8)))) else (none)) else (none))
def spinneyref01_utf.j4 : Nat → ByteArray → Int → Int → Bool → Option (Int)
  | 0, _, _, _, _ => none
  | k + 1, x0, x1, x6, x67 => if x67 = true then (some 0) else (spinneyref01_utf.l0 k x0 x1 x6 2)
def spinneyref01_utf.l0 : Nat → ByteArray → Int → Int → Int → Option (Int)
  | 0, _, _, _, _ => none
  | k + 1, x0, x1, x6, x9 => if x9 < x6 then (if 0 ≤ (wrap64 (x1 + x9)) then (if (wrap64 (x1 + x9)) < (x0.size : Int) then (if (bt x0 (wrap64 (x1 + x9))) < 128 then (some 0) else (if (bt x0 (wrap64 (x1 + x9))) > 191 then (some 0) else (spinneyref01_utf.l0 k x0 x1 x6 (wrap64 (x9 + 1))))) else (none)) else (none)) else (some x6)
def spinneyref01_utf.j0 : Nat → ByteArray → Int → Int → Int → Int → Bool → Option (Int)
  | 0, _, _, _, _, _, _ => none
  | k + 1, x0, x1, x5, x7, x8, x16 => if x16 = true then (spinneyref01_utf.j2 k x0 x1 x5 2 x7 x8) else (if x5 ≥ 224 then (spinneyref01_utf.j1 k x0 x1 x5 x7 x8 (decide (x5 ≤ 239))) else (spinneyref01_utf.j1 k x0 x1 x5 x7 x8 false))
def spinneyref01_utf.j1 : Nat → ByteArray → Int → Int → Int → Int → Bool → Option (Int)
  | 0, _, _, _, _, _, _ => none
  | k + 1, x0, x1, x5, x7, x8, x23 => if x23 = true then (spinneyref01_utf.j2 k x0 x1 x5 3 x7 x8) else (if x5 ≥ 240 then (if x5 ≤ 244 then (spinneyref01_utf.j2 k x0 x1 x5 4 x7 x8) else (some 0)) else (some 0))
end
def spinneyref01_utf.f (k : Nat) (a0 : ByteArray) (a1 : Int) : Option (Int) := if 0 ≤ a1 then (if a1 < (a0.size : Int) then (if (bt a0 a1) < 128 then (some 1) else (if (bt a0 a1) ≥ 194 then (spinneyref01_utf.j0 k a0 a1 (bt a0 a1) 128 191 (decide ((bt a0 a1) ≤ 223))) else (spinneyref01_utf.j0 k a0 a1 (bt a0 a1) 128 191 false))) else (none)) else (none)
end Go.Proofs.YtmebfblabccblaaDoor.XH
