-- cut down by bundle.py (the session's own program) from the text YtmebfblabccblaaDoorPureHashParts, to what this claim names
import Derived.Test.YtmebfblabccblaaDoorZHashPartsXH0
import Derived.Test.YtmebfblabccblaaDoorZHashPartsPl0
namespace Go.Proofs.YtmebfblabccblaaDoor.XH
open Go.RowKit Go.Proofs.YtmebfblabccblaaDoorW.PrintWords Go.Proofs.YtmebfblabccblaaDoorW.PrintLast Go.Proofs.YtmebfblabccblaaDoorW.PrintMore
attribute [local go_sem] max2_int min2_int max_two min_two max_three min_three max_four min_four   -- for this text's walks alone
set_option linter.unusedVariables false
set_option linter.unusedSimpArgs false

theorem HashParts_pure (a : Int) (ha : (Lit.int .u32 a).wf = true) (j : Int) (_ : (Lit.int .i64 j).wf = true) (b : Int) (_ : (Lit.int .u32 b).wf = true) : ∃ i, spinneylaw04_HashParts.f i a j b = some true := (parts_ev a j b (wf_u32 ha)).rounds
end Go.Proofs.YtmebfblabccblaaDoor.XH
