-- cut down by bundle.py (the session's own program) from the text YtmebfblabccblaaDoorPureHashKinds, to what this claim names
import Derived.Test.YtmebfblabccblaaDoorZHashKindsXH0
import Derived.Test.YtmebfblabccblaaDoorZHashKindsPl8
import Derived.Test.YtmebfblabccblaaDoorZHashKindsXH14
namespace Go.Proofs.YtmebfblabccblaaDoor.XH
open Go.RowKit Go.Proofs.YtmebfblabccblaaDoorW.PrintWords Go.Proofs.YtmebfblabccblaaDoorW.PrintLast Go.Proofs.YtmebfblabccblaaDoorW.PrintMore
attribute [local go_sem] max2_int min2_int max_two min_two max_three min_three max_four min_four   -- for this text's walks alone
set_option linter.unusedVariables false
set_option linter.unusedSimpArgs false

theorem kinds_join (k : Nat) (a b k0 n : Int) (t : ByteArray) (l : List S24) (p q u v : Int) (h1 : hash_Of.f k a k0 n t l = some (p, q)) (h2 : spinneyref04_Of.f k a k0 n t l = some (p, q)) (h3 : hash_Cut.f a b = some (u, v)) (h4 : spinneyref04_Cut.f a b = some (u, v)) (h5 : spinneylaw04_speaks.f k = some true) : spinneylaw04_HashKinds.f k a k0 n t l b = some true := by
  unfold spinneylaw04_HashKinds.f
  rw [h1, h2, h3, h4, h5]
  simp only [Option.bind_some, if_true]
theorem HashKinds_pure (a : Int) (_ : (Lit.int .i64 a).wf = true) (k n : Int) (t : ByteArray) (l : List S24) (hw : WfV ⟨k, n, t, l⟩) (b : Int) (hb : (Lit.int .u32 b).wf = true) : ∃ i, spinneylaw04_HashKinds.f i a k n t l b = some true := by
  obtain ⟨p, q, ⟨K1, h1⟩, ⟨K2, h2⟩⟩ := of_same a k n t l hw
  obtain ⟨u, v, h3, h4⟩ := cut_same a b (wf_u32 hb)
  obtain ⟨K5, h5⟩ := speaks_ev
  exact ⟨K1 + K2 + K5, kinds_join _ a b k n t l p q u v (h1 _ (by omega)) (h2 _ (by omega)) h3 h4 (h5 _ (by omega))⟩
end Go.Proofs.YtmebfblabccblaaDoor.XH
