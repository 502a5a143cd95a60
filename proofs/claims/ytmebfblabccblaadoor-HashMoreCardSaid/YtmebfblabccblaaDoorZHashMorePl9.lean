-- cut down by bundle.py (the session's own program) from the text YtmebfblabccblaaDoorPl9, to what this claim names
import Derived.Test.YtmebfblabccblaaDoorZHashMoreXH0
import Derived.Test.YtmebfblabccblaaDoorZHashMorePl8
import Derived.Test.YtmebfblabccblaaDoorZHashMoreXH14
namespace Go.Proofs.YtmebfblabccblaaDoor.XH
open Go.RowKit Go.Proofs.YtmebfblabccblaaDoorW.PrintWords Go.Proofs.YtmebfblabccblaaDoorW.PrintLast Go.Proofs.YtmebfblabccblaaDoorW.PrintMore
attribute [local go_sem] max2_int min2_int max_two min_two max_three min_three max_four min_four   -- for this text's walks alone
set_option linter.unusedVariables false
set_option linter.unusedSimpArgs false

def grp (x j : Int) : Int := Int.tmod (shr .u32 x (5 * j)) 32
def ahd (x y : Int) : Nat → Int → Int
  | 0, _ => 0
  | d + 1, j => if grp x j = grp y j then ahd x y d (j + 1) else if grp x j < grp y j then -1 else 1
def befV (a x y : Int) (v u : S24) : Prop := ahd (leftZ a x) (leftZ a y) 7 0 < 0 ∨ (ahd (leftZ a x) (leftZ a y) 7 0 = 0 ∧ cmpV v u < 0)
instance (a x y : Int) (v u : S24) : Decidable (befV a x y v u) := by unfold befV; infer_instance
end Go.Proofs.YtmebfblabccblaaDoor.XH
