-- cut down by bundle.py (the session's own program) from the text YtmebfblabccblaaDoorPureHashBefore, to what this claim names
import Derived.Test.YtmebfblabccblaaDoorZHashBeforeXH0
import Derived.Test.YtmebfblabccblaaDoorZHashBeforePl9
import Derived.Test.YtmebfblabccblaaDoorZHashBeforeXH15
namespace Go.Proofs.YtmebfblabccblaaDoor.XH
open Go.RowKit Go.Proofs.YtmebfblabccblaaDoorW.PrintWords Go.Proofs.YtmebfblabccblaaDoorW.PrintLast Go.Proofs.YtmebfblabccblaaDoorW.PrintMore
attribute [local go_sem] max2_int min2_int max_two min_two max_three min_three max_four min_four   -- for this text's walks alone
set_option linter.unusedVariables false
set_option linter.unusedSimpArgs false

theorem before_join (i : Nat) (a k n : Int) (t : ByteArray) (l : List S24) (k' n' : Int) (t' : ByteArray) (l' : List S24) (p : Bool) (q : Int) (h1 : hash_Before.f i a k n t l k' n' t' l' = some (p, q)) (h2 : spinneyref04_Before.f i a k n t l k' n' t' l' = some (p, q)) (h5 : spinneylaw04_speaks.f i = some true) : spinneylaw04_HashBefore.f i a k n t l k' n' t' l' = some true := by
  unfold spinneylaw04_HashBefore.f
  rw [h1, h2, h5]
  simp only [Option.bind_some, if_true, beq_self_eq_true]
theorem HashBefore_pure (a : Int) (_ : (Lit.int .i64 a).wf = true) (k n : Int) (t : ByteArray) (l : List S24) (hw : WfV ⟨k, n, t, l⟩) (k' n' : Int) (t' : ByteArray) (l' : List S24) (hw' : WfV ⟨k', n', t', l'⟩) : ∃ i, spinneylaw04_HashBefore.f i a k n t l k' n' t' l' = some true := by
  have : ∃ p q, Ev (fun i => hash_Before.f i a k n t l k' n' t' l') (p, q) ∧ Ev (fun i => spinneyref04_Before.f i a k n t l k' n' t' l') (p, q) := by
    rcases before_ev a k n t l hw k' n' t' l' hw' with ⟨x, y, _, _, _, _, _, _, h1, h2⟩ | ⟨c, _, h1, h2⟩
    · exact ⟨_, _, h1, h2⟩
    · exact ⟨_, _, h1, h2⟩
  obtain ⟨p, q, ⟨K1, h1⟩, ⟨K2, h2⟩⟩ := this
  obtain ⟨K5, h5⟩ := speaks_ev
  exact ⟨K1 + K2 + K5, before_join _ a k n t l k' n' t' l' p q (h1 _ (by omega)) (h2 _ (by omega)) (h5 _ (by omega))⟩
end Go.Proofs.YtmebfblabccblaaDoor.XH
