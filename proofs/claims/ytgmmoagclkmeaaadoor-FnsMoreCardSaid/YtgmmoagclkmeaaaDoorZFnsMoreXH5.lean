-- cut down by bundle.py (the session's own program) from the texts YtgmmoagclkmeaaaDoorXH5, YtgmmoagclkmeaaaDoorXH6, YtgmmoagclkmeaaaDoorXH7, YtgmmoagclkmeaaaDoorXH8, YtgmmoagclkmeaaaDoorXH9, to what this claim names
import Derived.Test.YtgmmoagclkmeaaaDoorZFnsMoreXH0
section
-- laid by xprint.py (the session's own program) out of the translation; Lean checks it
namespace Go.Proofs.YtgmmoagclkmeaaaDoor.XH
open Go.RowKit Go.Proofs.YtgmmoagclkmeaaaDoorW.PrintWords Go.Proofs.YtgmmoagclkmeaaaDoorW.PrintLast Go.Proofs.YtgmmoagclkmeaaaDoorW.PrintMore
attribute [local go_sem] max2_int min2_int max_two min_two max_three min_three max_four min_four   -- for this text's walks alone
set_option linter.unusedVariables false
set_option linter.unusedSimpArgs false

def spinneyref01_sign.f (a0 : Bool) (a1 : Bool) : Option (Int) := if a0 = true then (some (-1)) else (if a1 = true then (some 1) else (some 0))
end Go.Proofs.YtgmmoagclkmeaaaDoor.XH
end
section
-- laid by xprint.py (the session's own program) out of the translation; Lean checks it
namespace Go.Proofs.YtgmmoagclkmeaaaDoor.XH
open Go.RowKit Go.Proofs.YtgmmoagclkmeaaaDoorW.PrintWords Go.Proofs.YtgmmoagclkmeaaaDoorW.PrintLast Go.Proofs.YtgmmoagclkmeaaaDoorW.PrintMore
attribute [local go_sem] max2_int min2_int max_two min_two max_three min_three max_four min_four   -- for this text's walks alone
set_option linter.unusedVariables false
set_option linter.unusedSimpArgs false

mutual
def spinneyref01_Compare.j0 : Nat → Int → Bool → Int → Int → ByteArray → List (S24) → Int → Int → ByteArray → List (S24) → Option (Int)
 | 0, _, _, _, _, _, _, _, _, _, _ => none
 | k + 1, x19, x20, x136000, x136001, x136002, x136003, x137000, x137001, x137002, x137003 => if x20 = true then ((spinneyref01_sign.f (decide (x136001 < x137001)) (decide (x136001 > x137001))).bind fun t138 => (some t138)) else (if x19 = 3 then ((spinneyref01_sign.f (Op.bytesLess x136002.toList x137002.toList) (Op.bytesLess x137002.toList x136002.toList)).bind fun t139 => (some t139)) else (if x19 = 4 then (spinneyref01_Compare.j1 k (x19 == 4) x136000 x136001 x136002 x136003 x137000 x137001 x137002 x137003) else (if x19 = 5 then (spinneyref01_Compare.j1 k (x19 == 5) x136000 x136001 x136002 x136003 x137000 x137001 x137002 x137003) else (spinneyref01_Compare.j1 k (x19 == 6) x136000 x136001 x136002 x136003 x137000 x137001 x137002 x137003))))
def spinneyref01_Compare.j1 : Nat → Bool → Int → Int → ByteArray → List (S24) → Int → Int → ByteArray → List (S24) → Option (Int)
 | 0, _, _, _, _, _, _, _, _, _ => none
 | k + 1, x47, x136000, x136001, x136002, x136003, x137000, x137001, x137002, x137003 => if x47 = true then (spinneyref01_Compare.l0 k 0 x136000 x136001 x136002 x136003 x137000 x137001 x137002 x137003) else (some 0)
def spinneyref01_Compare.l0 : Nat → Int → Int → Int → ByteArray → List (S24) → Int → Int → ByteArray → List (S24) → Option (Int)
 | 0, _, _, _, _, _, _, _, _, _ => none
 | k + 1, x5, x136000, x136001, x136002, x136003, x137000, x137001, x137002, x137003 => if x5 < (x136003.length : Int) then (spinneyref01_Compare.j3 k x5 (decide (x5 < (x137003.length : Int))) x136000 x136001 x136002 x136003 x137000 x137001 x137002 x137003) else (spinneyref01_Compare.j3 k x5 false x136000 x136001 x136002 x136003 x137000 x137001 x137002 x137003)
def spinneyref01_Compare.j3 : Nat → Int → Bool → Int → Int → ByteArray → List (S24) → Int → Int → ByteArray → List (S24) → Option (Int)
 | 0, _, _, _, _, _, _, _, _, _, _ => none
 | k + 1, x5, x62, x136000, x136001, x136002, x136003, x137000, x137001, x137002, x137003 => if x62 = true then (if 0 ≤ x5 then (if x5 < (x136003.length : Int) then (if x5 < (x137003.length : Int) then ((spinneyref01_Compare.f k ((rd_T24 x136003 x5).f0) ((rd_T24 x136003 x5).f1) ((rd_T24 x136003 x5).f2) ((rd_T24 x136003 x5).f3) ((rd_T24 x137003 x5).f0) ((rd_T24 x137003 x5).f1) ((rd_T24 x137003 x5).f2) ((rd_T24 x137003 x5).f3)).bind fun t142 => (if t142 = 0 then (spinneyref01_Compare.l0 k (wrap64 (x5 + 1)) x136000 x136001 x136002 x136003 x137000 x137001 x137002 x137003) else (some t142))) else (none)) else (none)) else (none)) else ((spinneyref01_sign.f (decide ((x136003.length : Int) < (x137003.length : Int))) (decide ((x136003.length : Int) > (x137003.length : Int)))).bind fun t143 => (some t143))
def spinneyref01_Compare.f : Nat → Int → Int → ByteArray → List (S24) → Int → Int → ByteArray → List (S24) → Option (Int)
 | 0, _, _, _, _, _, _, _, _ => none
 | k + 1, a0_0, a0_1, a0_2, l0_3, a1_0, a1_1, a1_2, l1_3 => if a0_0 = a1_0 then (if a0_0 = 1 then (spinneyref01_Compare.j0 k a0_0 (a0_0 == 1) a0_0 a0_1 a0_2 l0_3 a1_0 a1_1 a1_2 l1_3) else (spinneyref01_Compare.j0 k a0_0 (a0_0 == 2) a0_0 a0_1 a0_2 l0_3 a1_0 a1_1 a1_2 l1_3)) else ((spinneyref01_sign.f (decide (a0_0 < a1_0)) true).bind fun t137 => (some t137))
end
end Go.Proofs.YtgmmoagclkmeaaaDoor.XH
end
section
-- laid by xprint.py (the session's own program) out of the translation; Lean checks it
namespace Go.Proofs.YtgmmoagclkmeaaaDoor.XH
open Go.RowKit Go.Proofs.YtgmmoagclkmeaaaDoorW.PrintWords Go.Proofs.YtgmmoagclkmeaaaDoorW.PrintLast Go.Proofs.YtgmmoagclkmeaaaDoorW.PrintMore
attribute [local go_sem] max2_int min2_int max_two min_two max_three min_three max_four min_four   -- for this text's walks alone
set_option linter.unusedVariables false
set_option linter.unusedSimpArgs false

mutual
def spinneyref01_utf.j2 : Nat → ByteArray → Int → Int → Int → Int → Int → Option (Int)
 | 0, _, _, _, _, _, _ => none
 | k + 1, x0, x1, x5, x6, x7, x8 => if x5 = 224 then (spinneyref01_utf.j3 k x0 x1 x6 160 x8) else (if x5 = 237 then (spinneyref01_utf.j3 k x0 x1 x6 x7 159) else (if x5 = 240 then (spinneyref01_utf.j3 k x0 x1 x6 144 x8) else (if x5 = 244 then (spinneyref01_utf.j3 k x0 x1 x6 x7 143) else (spinneyref01_utf.j3 k x0 x1 x6 x7 x8))))
def spinneyref01_utf.j3 : Nat → ByteArray → Int → Int → Int → Int → Option (Int)
 | 0, _, _, _, _, _ => none
 | k + 1, x0, x1, x6, x7, x8 => if (wrap64 (x1 + x6)) > (x0.size : Int) then (spinneyref01_utf.j4 k x0 x1 x6 true) else (if 0 ≤ (wrap64 (x1 + 1)) then (if (wrap64 (x1 + 1)) < (x0.size : Int) then (if (bt x0 (wrap64 (x1 + 1))) < x7 then (spinneyref01_utf.j4 k x0 x1 x6 true) else (spinneyref01_utf.j4 k x0 x1 x6 (decide ((bt x0 (wrap64 (x1 + 1))) > x8)))) else (none)) else (none))
def spinneyref01_utf.j4 : Nat → ByteArray → Int → Int → Bool → Option (Int)
 | 0, _, _, _, _ => none
 | k + 1, x0, x1, x6, x67 => if x67 = true then (some 0) else (spinneyref01_utf.l0 k x0 x1 x6 2)
def spinneyref01_utf.l0 : Nat → ByteArray → Int → Int → Int → Option (Int)
 | 0, _, _, _, _ => none
 | k + 1, x0, x1, x6, x9 => if x9 < x6 then (if 0 ≤ (wrap64 (x1 + x9)) then (if (wrap64 (x1 + x9)) < (x0.size : Int) then (if (bt x0 (wrap64 (x1 + x9))) < 128 then (some 0) else (if (bt x0 (wrap64 (x1 + x9))) > 191 then (some 0) else (spinneyref01_utf.l0 k x0 x1 x6 (wrap64 (x9 + 1))))) else (none)) else (none)) else (some x6)
def spinneyref01_utf.j0 : Nat → ByteArray → Int → Int → Int → Int → Bool → Option (Int)
 | 0, _, _, _, _, _, _ => none
 | k + 1, x0, x1, x5, x7, x8, x16 => if x16 = true then (spinneyref01_utf.j2 k x0 x1 x5 2 x7 x8) else (if x5 ≥ 224 then (spinneyref01_utf.j1 k x0 x1 x5 x7 x8 (decide (x5 ≤ 239))) else (spinneyref01_utf.j1 k x0 x1 x5 x7 x8 false))
def spinneyref01_utf.j1 : Nat → ByteArray → Int → Int → Int → Int → Bool → Option (Int)
 | 0, _, _, _, _, _, _ => none
 | k + 1, x0, x1, x5, x7, x8, x23 => if x23 = true then (spinneyref01_utf.j2 k x0 x1 x5 3 x7 x8) else (if x5 ≥ 240 then (if x5 ≤ 244 then (spinneyref01_utf.j2 k x0 x1 x5 4 x7 x8) else (some 0)) else (some 0))
end
def spinneyref01_utf.f (k : Nat) (a0 : ByteArray) (a1 : Int) : Option (Int) := if 0 ≤ a1 then (if a1 < (a0.size : Int) then (if (bt a0 a1) < 128 then (some 1) else (if (bt a0 a1) ≥ 194 then (spinneyref01_utf.j0 k a0 a1 (bt a0 a1) 128 191 (decide ((bt a0 a1) ≤ 223))) else (spinneyref01_utf.j0 k a0 a1 (bt a0 a1) 128 191 false))) else (none)) else (none)
end Go.Proofs.YtgmmoagclkmeaaaDoor.XH
end
section
-- laid by xprint.py (the session's own program) out of the translation; Lean checks it
namespace Go.Proofs.YtgmmoagclkmeaaaDoor.XH
open Go.RowKit Go.Proofs.YtgmmoagclkmeaaaDoorW.PrintWords Go.Proofs.YtgmmoagclkmeaaaDoorW.PrintLast Go.Proofs.YtgmmoagclkmeaaaDoorW.PrintMore
attribute [local go_sem] max2_int min2_int max_two min_two max_three min_three max_four min_four   -- for this text's walks alone
set_option linter.unusedVariables false
set_option linter.unusedSimpArgs false

def spinneyref01_Letters.l0 : Nat → ByteArray → Int → Int → Option (Int)
 | 0, _, _, _ => none
 | k + 1, x0, x3, x4 => if x4 < (x0.size : Int) then ((spinneyref01_utf.f k x0 x4).bind fun t144 => (if t144 = 0 then (some (-1)) else (spinneyref01_Letters.l0 k x0 (wrap64 (x3 + 1)) (wrap64 (x4 + t144))))) else (some x3)
def spinneyref01_Letters.f (k : Nat) (a0 : ByteArray) : Option (Int) := spinneyref01_Letters.l0 k a0 0 0
def spinneyref01_coll.f (a0 : Int) : Option (Bool) := if a0 = 4 then (some true) else (if a0 = 5 then (some true) else (some (a0 == 6)))
end Go.Proofs.YtgmmoagclkmeaaaDoor.XH
end
section
-- laid by xprint.py (the session's own program) out of the translation; Lean checks it
namespace Go.Proofs.YtgmmoagclkmeaaaDoor.XH
open Go.RowKit Go.Proofs.YtgmmoagclkmeaaaDoorW.PrintWords Go.Proofs.YtgmmoagclkmeaaaDoorW.PrintLast Go.Proofs.YtgmmoagclkmeaaaDoorW.PrintMore
attribute [local go_sem] max2_int min2_int max_two min_two max_three min_three max_four min_four   -- for this text's walks alone
set_option linter.unusedVariables false
set_option linter.unusedSimpArgs false

mutual
def spinneyref01_own.j0 : Nat → Bool → Int → Int → ByteArray → List (S24) → Option (Bool)
 | 0, _, _, _, _, _ => none
 | k + 1, x12, x146000, x146001, x146002, x146003 => if x12 = true then (some false) else (if x146000 = 2 then (spinneyref01_own.j1 k false x146000 x146001 x146002 x146003) else (if x146001 = 0 then (spinneyref01_own.j1 k false x146000 x146001 x146002 x146003) else (if x146000 = 1 then (spinneyref01_own.j1 k (!(x146001 == 1)) x146000 x146001 x146002 x146003) else (spinneyref01_own.j1 k (!false) x146000 x146001 x146002 x146003))))
def spinneyref01_own.j1 : Nat → Bool → Int → Int → ByteArray → List (S24) → Option (Bool)
 | 0, _, _, _, _, _ => none
 | k + 1, x31, x146000, x146001, x146002, x146003 => if x31 = true then (some false) else (if x146000 = 3 then (if (x146002.size : Int) ≤ 256 then ((spinneyref01_Letters.f k x146002).bind fun t146 => (if t146 ≥ 0 then (some ((x146003.length : Int) == 0)) else (some false))) else (some false)) else (if x146002.toList = ([] : List UInt8) then ((spinneyref01_coll.f x146000).bind fun t147 => (if t147 = true then (spinneyref01_own.j2 k false x146000 x146001 x146002 x146003) else (spinneyref01_own.j2 k (decide ((x146003.length : Int) > 0)) x146000 x146001 x146002 x146003))) else (spinneyref01_own.j2 k true x146000 x146001 x146002 x146003)))
def spinneyref01_own.j2 : Nat → Bool → Int → Int → ByteArray → List (S24) → Option (Bool)
 | 0, _, _, _, _, _ => none
 | k + 1, x65, x146000, x146001, x146002, x146003 => if x65 = true then (some false) else (if x146000 = 6 then (spinneyref01_own.j3 k 2 x146000 x146001 x146002 x146003) else (spinneyref01_own.j3 k 1 x146000 x146001 x146002 x146003))
def spinneyref01_own.j3 : Nat → Int → Int → Int → ByteArray → List (S24) → Option (Bool)
 | 0, _, _, _, _, _ => none
 | k + 1, x3, x146000, x146001, x146002, x146003 => if x3 = 0 then (none) else (if ((x146003.length : Int) % x3) = 0 then (if x146000 = 4 then (some true) else (spinneyref01_own.l0 k x3 x3 x146000 x146001 x146002 x146003)) else (some false))
def spinneyref01_own.l0 : Nat → Int → Int → Int → Int → ByteArray → List (S24) → Option (Bool)
 | 0, _, _, _, _, _, _ => none
 | k + 1, x3, x4, x146000, x146001, x146002, x146003 => if x4 < (x146003.length : Int) then (if 0 ≤ (wrap64 (x4 - x3)) then (if (wrap64 (x4 - x3)) < (x146003.length : Int) then (if 0 ≤ x4 then ((spinneyref01_Compare.f k ((rd_T24 x146003 (wrap64 (x4 - x3))).f0) ((rd_T24 x146003 (wrap64 (x4 - x3))).f1) ((rd_T24 x146003 (wrap64 (x4 - x3))).f2) ((rd_T24 x146003 (wrap64 (x4 - x3))).f3) ((rd_T24 x146003 x4).f0) ((rd_T24 x146003 x4).f1) ((rd_T24 x146003 x4).f2) ((rd_T24 x146003 x4).f3)).bind fun t150 => (if t150 ≥ 0 then (some false) else (spinneyref01_own.l0 k x3 (wrap64 (x4 + x3)) x146000 x146001 x146002 x146003))) else (none)) else (none)) else (none)) else (some true)
end
def spinneyref01_own.f (k : Nat) (a0_0 : Int) (a0_1 : Int) (a0_2 : ByteArray) (l0_3 : List (S24)) : Option (Bool) := if a0_0 < 0 then (spinneyref01_own.j0 k true a0_0 a0_1 a0_2 l0_3) else (spinneyref01_own.j0 k (decide (a0_0 > 6)) a0_0 a0_1 a0_2 l0_3)
end Go.Proofs.YtgmmoagclkmeaaaDoor.XH
end
