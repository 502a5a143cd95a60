-- cut down by bundle.py (the session's own program) from the text YtmebfblabccblaaDoorXH14, to what this claim names
-- laid by xprint.py (the session's own program) out of the translation; Lean checks it
import Derived.Test.YtmebfblabccblaaDoorZHashMoreXH0
import Derived.Test.YtmebfblabccblaaDoorZHashMoreXH2
import Derived.Test.YtmebfblabccblaaDoorZHashMoreXH6
import Derived.Test.YtmebfblabccblaaDoorZHashMoreXH10
import Derived.Test.YtmebfblabccblaaDoorZHashMoreXH12
import Derived.Test.YtmebfblabccblaaDoorZHashMoreXH13
namespace Go.Proofs.YtmebfblabccblaaDoor.XH
open Go.RowKit Go.Proofs.YtmebfblabccblaaDoorW.PrintWords Go.Proofs.YtmebfblabccblaaDoorW.PrintLast Go.Proofs.YtmebfblabccblaaDoorW.PrintMore
attribute [local go_sem] max2_int min2_int max_two min_two max_three min_three max_four min_four   -- for this text's walks alone
set_option linter.unusedVariables false
set_option linter.unusedSimpArgs false

end Go.Proofs.YtmebfblabccblaaDoor.XH
