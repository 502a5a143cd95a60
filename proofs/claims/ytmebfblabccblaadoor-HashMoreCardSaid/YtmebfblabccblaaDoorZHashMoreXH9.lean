-- cut down by bundle.py (the session's own program) from the text YtmebfblabccblaaDoorXH9, to what this claim names
-- laid by xprint.py (the session's own program) out of the translation; Lean checks it
import Derived.Test.YtmebfblabccblaaDoorZHashMoreXH0
import Derived.Test.YtmebfblabccblaaDoorZHashMoreXH6
import Derived.Test.YtmebfblabccblaaDoorZHashMoreXH8
namespace Go.Proofs.YtmebfblabccblaaDoor.XH
open Go.RowKit Go.Proofs.YtmebfblabccblaaDoorW.PrintWords Go.Proofs.YtmebfblabccblaaDoorW.PrintLast Go.Proofs.YtmebfblabccblaaDoorW.PrintMore
attribute [local go_sem] max2_int min2_int max_two min_two max_three min_three max_four min_four   -- for this text's walks alone
set_option linter.unusedVariables false
set_option linter.unusedSimpArgs false

mutual
def spinneyref01_own.j0 : Nat → Bool → Int → Int → ByteArray → List (S24) → Option (Bool)
  | 0, _, _, _, _, _ => none
  | k + 1, x12, x160000, x160001, x160002, x160003 => if x12 = true then (some false) else (if x160000 = 2 then (spinneyref01_own.j1 k false x160000 x160001 x160002 x160003) else (if x160001 = 0 then (spinneyref01_own.j1 k false x160000 x160001 x160002 x160003) else (if x160000 = 1 then (spinneyref01_own.j1 k (!(x160001 == 1)) x160000 x160001 x160002 x160003) else (spinneyref01_own.j1 k (!false) x160000 x160001 x160002 x160003))))
def spinneyref01_own.j1 : Nat → Bool → Int → Int → ByteArray → List (S24) → Option (Bool)
  | 0, _, _, _, _, _ => none
  | k + 1, x31, x160000, x160001, x160002, x160003 => if x31 = true then (some false) else (if x160000 = 3 then (if (x160002.size : Int) ≤ 256 then ((spinneyref01_Letters.f k x160002).bind fun t160 => (if t160 ≥ 0 then (some ((x160003.length : Int) == 0)) else (some false))) else (some false)) else (if x160002.toList = ([] : List UInt8) then ((spinneyref01_coll.f x160000).bind fun t161 => (if t161 = true then (spinneyref01_own.j2 k false x160000 x160001 x160002 x160003) else (spinneyref01_own.j2 k (decide ((x160003.length : Int) > 0)) x160000 x160001 x160002 x160003))) else (spinneyref01_own.j2 k true x160000 x160001 x160002 x160003)))
def spinneyref01_own.j2 : Nat → Bool → Int → Int → ByteArray → List (S24) → Option (Bool)
  | 0, _, _, _, _, _ => none
  | k + 1, x65, x160000, x160001, x160002, x160003 => if x65 = true then (some false) else (if x160000 = 6 then (spinneyref01_own.j3 k 2 x160000 x160001 x160002 x160003) else (spinneyref01_own.j3 k 1 x160000 x160001 x160002 x160003))
def spinneyref01_own.j3 : Nat → Int → Int → Int → ByteArray → List (S24) → Option (Bool)
  | 0, _, _, _, _, _ => none
  | k + 1, x3, x160000, x160001, x160002, x160003 => if x3 = 0 then (none) else (if ((x160003.length : Int) % x3) = 0 then (if x160000 = 4 then (some true) else (spinneyref01_own.l0 k x3 x3 x160000 x160001 x160002 x160003)) else (some false))
def spinneyref01_own.l0 : Nat → Int → Int → Int → Int → ByteArray → List (S24) → Option (Bool)
  | 0, _, _, _, _, _, _ => none
  | k + 1, x3, x4, x160000, x160001, x160002, x160003 => if x4 < (x160003.length : Int) then (if 0 ≤ (wrap64 (x4 - x3)) then (if (wrap64 (x4 - x3)) < (x160003.length : Int) then (if 0 ≤ x4 then ((spinneyref01_Compare.f k ((rd_T24 x160003 (wrap64 (x4 - x3))).f0) ((rd_T24 x160003 (wrap64 (x4 - x3))).f1) ((rd_T24 x160003 (wrap64 (x4 - x3))).f2) ((rd_T24 x160003 (wrap64 (x4 - x3))).f3) ((rd_T24 x160003 x4).f0) ((rd_T24 x160003 x4).f1) ((rd_T24 x160003 x4).f2) ((rd_T24 x160003 x4).f3)).bind fun t164 => (if t164 ≥ 0 then (some false) else (spinneyref01_own.l0 k x3 (wrap64 (x4 + x3)) x160000 x160001 x160002 x160003))) else (none)) else (none)) else (none)) else (some true)
end
def spinneyref01_own.f (k : Nat) (a0_0 : Int) (a0_1 : Int) (a0_2 : ByteArray) (l0_3 : List (S24)) : Option (Bool) := if a0_0 < 0 then (spinneyref01_own.j0 k true a0_0 a0_1 a0_2 l0_3) else (spinneyref01_own.j0 k (decide (a0_0 > 6)) a0_0 a0_1 a0_2 l0_3)
end Go.Proofs.YtmebfblabccblaaDoor.XH
