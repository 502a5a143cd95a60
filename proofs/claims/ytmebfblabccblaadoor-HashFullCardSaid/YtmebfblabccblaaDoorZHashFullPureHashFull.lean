-- cut down by bundle.py (the session's own program) from the text YtmebfblabccblaaDoorPureHashFull, to what this claim names
import Derived.Test.YtmebfblabccblaaDoorZHashFullXH0
import Derived.Test.YtmebfblabccblaaDoorZHashFullPl7
import Derived.Test.YtmebfblabccblaaDoorZHashFullXH12
namespace Go.Proofs.YtmebfblabccblaaDoor.XH
open Go.RowKit Go.Proofs.YtmebfblabccblaaDoorW.PrintWords Go.Proofs.YtmebfblabccblaaDoorW.PrintLast Go.Proofs.YtmebfblabccblaaDoorW.PrintMore
attribute [local go_sem] max2_int min2_int max_two min_two max_three min_three max_four min_four   -- for this text's walks alone
set_option linter.unusedVariables false
set_option linter.unusedSimpArgs false

theorem full_join (k : Nat) (a0 a1 : Int) (a2 : ByteArray) (a3 : List S24) (s : ByteArray) (p q u v : Int) (h1 : hash_Full.f k a0 a1 a2 a3 = some (p, q)) (h2 : spinneyref04_Full.f k a0 a1 a2 a3 = some (p, q)) (h3 : hash_Full.f k 3 0 s [] = some (u, v)) (h4 : spinneyref04_Full.f k 3 0 s [] = some (u, v)) (h5 : spinneylaw04_speaks.f k = some true) : spinneylaw04_HashFull.f k a0 a1 a2 a3 s = some true := by
  unfold spinneylaw04_HashFull.f hash_Text.f spinneyref04_Text.f
  rw [h1, h2, h3, h4, h5]
  simp only [Option.bind_some, if_true]
theorem HashFull_pure (k n : Int) (t : ByteArray) (l : List S24) (hw : WfV ⟨k, n, t, l⟩) (s : ByteArray) (hs : s.size ≤ 9223372036854775807) : ∃ i, spinneylaw04_HashFull.f i k n t l s = some true := by
  obtain ⟨p, q, ⟨K1, h1⟩, ⟨K2, h2⟩⟩ := full_same k n t l hw
  obtain ⟨u, v, ⟨K3, h3⟩, ⟨K4, h4⟩⟩ := full_same 3 0 s [] (wfV_text s hs)
  obtain ⟨K5, h5⟩ := speaks_ev
  exact ⟨K1 + K2 + K3 + K4 + K5, full_join _ k n t l s p q u v (h1 _ (by omega)) (h2 _ (by omega)) (h3 _ (by omega)) (h4 _ (by omega)) (h5 _ (by omega))⟩
end Go.Proofs.YtmebfblabccblaaDoor.XH
