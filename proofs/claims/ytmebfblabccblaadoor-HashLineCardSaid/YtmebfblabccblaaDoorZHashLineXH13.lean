-- cut down by bundle.py (the session's own program) from the text YtmebfblabccblaaDoorXH13, to what this claim names
-- laid by xprint.py (the session's own program) out of the translation; Lean checks it
import Derived.Test.YtmebfblabccblaaDoorZHashLineXH0
import Derived.Test.YtmebfblabccblaaDoorZHashLineXH10
import Derived.Test.YtmebfblabccblaaDoorZHashLineXH11
import Derived.Test.YtmebfblabccblaaDoorZHashLineXH12
namespace Go.Proofs.YtmebfblabccblaaDoor.XH
open Go.RowKit Go.Proofs.YtmebfblabccblaaDoorW.PrintWords Go.Proofs.YtmebfblabccblaaDoorW.PrintLast Go.Proofs.YtmebfblabccblaaDoorW.PrintMore
attribute [local go_sem] max2_int min2_int max_two min_two max_three min_three max_four min_four   -- for this text's walks alone
set_option linter.unusedVariables false
set_option linter.unusedSimpArgs false

def spinneyref04_Kind.f (a0 : Int) : Option (Bool) := if a0 ≥ 0 then (some (decide (a0 ≤ 63))) else (some false)
def spinneyref04_Left.f (a0 : Int) (a1 : Int) : Option (Int) := if a0 = 0 then (some a1) else (if a0 < 32 then (if 0 ≤ (IntKind.u64.wrap (a0)) then (if (shl .u32 1 (IntKind.u64.wrap (a0))) = 0 then (none) else (some (Int.tmod a1 (shl .u32 1 (IntKind.u64.wrap (a0)))))) else (none)) else (if a0 = 32 then (some 0) else (if 0 ≤ (IntKind.u64.wrap (wrap64 (64 - a0))) then (some (shl .u32 (shr .u32 a1 (IntKind.u64.wrap (wrap64 (64 - a0)))) (IntKind.u64.wrap (wrap64 (64 - a0))))) else (none))))
def spinneyref04_Kinded.f (k : Nat) (a0 : Int) (a1_0 : Int) (a1_1 : Int) (a1_2 : ByteArray) (l1_3 : List (S24)) : Option (Int) := (spinneyref04_Whole.f k a1_0 a1_1 a1_2 l1_3).bind fun t268 => ((spinneyref04_Left.f a0 t268).bind fun t269 => (some t269))
def spinneyref04_Of.f (k : Nat) (a0 : Int) (a1_0 : Int) (a1_1 : Int) (a1_2 : ByteArray) (l1_3 : List (S24)) : Option (Int × Int) := (spinneyref04_Kind.f a0).bind fun t271 => (if t271 = true then ((spinneyref01_Right.f k a1_0 a1_1 a1_2 l1_3).bind fun t272 => (if t272 = true then ((spinneyref04_Kinded.f k a0 a1_0 a1_1 a1_2 l1_3).bind fun t273 => (some (t273, 0))) else (some (0, 3)))) else (some (0, 4)))
end Go.Proofs.YtmebfblabccblaaDoor.XH
