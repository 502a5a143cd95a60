-- cut down by bundle.py (the session's own program) from the text YtmebfblabccblaaDoorWInvWords, to what this claim names
-- PRINTED BY print.sh 35421559b90ae4d0a3588c463048766b98c2df88dd9212a6774a882060cdf62d: not written by this session
import Derived.Test.YtmebfblabccblaaDoorZHashMoreWInv
import Derived.Test.YtmebfblabccblaaDoorZHashMoreWFootNe
namespace Go.Proofs.YtmebfblabccblaaDoorW.PrintWords
open Go.RowKit
end Go.Proofs.YtmebfblabccblaaDoorW.PrintWords
namespace Go.Proofs.YtmebfblabccblaaDoorW.PrintLast
section
variable {ops : Array Oper} {a : Act} {o og : Oper} {g : Nat} {t : Tmp} {u : Bool}
end
end Go.Proofs.YtmebfblabccblaaDoorW.PrintLast
