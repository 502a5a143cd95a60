-- cut down by bundle.py (the session's own program) from the text YtmebfblabccblaaDoorPureHashMore, to what this claim names
import Derived.Test.YtmebfblabccblaaDoorZHashMoreXH0
import Derived.Test.YtmebfblabccblaaDoorZHashMorePl10
import Derived.Test.YtmebfblabccblaaDoorZHashMoreXH13
namespace Go.Proofs.YtmebfblabccblaaDoor.XH
open Go.RowKit Go.Proofs.YtmebfblabccblaaDoorW.PrintWords Go.Proofs.YtmebfblabccblaaDoorW.PrintLast Go.Proofs.YtmebfblabccblaaDoorW.PrintMore
attribute [local go_sem] max2_int min2_int max_two min_two max_three min_three max_four min_four   -- for this text's walks alone
set_option linter.unusedVariables false
set_option linter.unusedSimpArgs false

theorem left_less (a b r s : Int) (h1 : 1 ≤ a) (h2 : a ≤ b) (h3 : b ≤ 31) (h : leftZ b r = leftZ b s) : leftZ a r = leftZ a s := by
  unfold leftZ at *
  rw [if_neg (by omega), if_pos (by omega), if_neg (by omega), if_pos (by omega)] at h
  rw [if_neg (by omega), if_pos (by omega), if_neg (by omega), if_pos (by omega)]
  have hd : (2 : Int) ^ a.toNat ∣ 2 ^ b.toNat := by
    rw [show b.toNat = a.toNat + (b.toNat - a.toNat) by omega, Int.pow_add]
    exact Int.dvd_mul_right _ _
  rw [← Int.emod_emod_of_dvd r hd, ← Int.emod_emod_of_dvd s hd, h]
theorem more_join (i : Nat) (a b k0 k n : Int) (t : ByteArray) (l : List S24) (k' n' : Int) (t' : ByteArray) (l' : List S24) (k'' n'' : Int) (t'' : ByteArray) (l'' : List S24) (p1 q1 p2 q2 p3 q3 p4 q4 : Int)
    (h1 : hash_Of.f (i + 1) a k n t l = some (p1, q1)) (h2 : hash_Of.f (i + 1) a k' n' t' l' = some (p2, q2)) (h3 : hash_Of.f (i + 1) b k n t l = some (p3, q3)) (h4 : hash_Of.f (i + 1) b k' n' t' l' = some (p4, q4)) (h5 : spinneylaw04_speaks.f i = some true) (h6 : spinneylaw04_speaks.f (i + 1) = some true)
    (hs : 1 ≤ a → a ≤ b → b ≤ 31 → q1 = 0 → q2 = 0 → q3 = 0 → q4 = 0 → p3 = p4 → p1 = p2) :
    spinneylaw04_HashMore.f (i + 1 + 1) a b k0 k n t l k' n' t' l' k'' n'' t'' l'' = some true := by
  have T : spinneylaw04_HashMore.j0 (i + 1 + 1) a b true k n t l k' n' t' l' = some true := by
    simp only [spinneylaw04_HashMore.j0, if_true]
    rw [h6, Option.bind_some]
  have T1 : ∀ x y z w, spinneylaw04_HashMore.j1 (i + 1) x y z w true = some true := by
    intro x y z w
    simp only [spinneylaw04_HashMore.j1, if_true]
    rw [h5, Option.bind_some]
  unfold spinneylaw04_HashMore.f
  by_cases c1 : a < 1
  · rw [if_pos c1]; exact T
  rw [if_neg c1]
  by_cases c2 : b > 31
  · rw [if_pos c2]; exact T
  rw [if_neg c2]
  by_cases c3 : a > b
  · rw [decide_eq_true c3]; exact T
  rw [decide_eq_false c3]
  simp only [spinneylaw04_HashMore.j0]
  rw [if_neg (by decide), h1, Option.bind_some, h2, Option.bind_some, h3, Option.bind_some, h4, Option.bind_some]
  dsimp only
  by_cases z1 : q1 = 0
  · rw [if_pos z1]
    by_cases z2 : q2 = 0
    · rw [if_pos z2]
      by_cases z3 : q3 = 0
      · rw [if_pos z3]
        by_cases z4 : q4 = 0
        · rw [bne_eq_false_iff_eq.2 z4]
          simp only [spinneylaw04_HashMore.j1]
          rw [if_neg (by decide)]
          by_cases e : p3 = p4
          · rw [if_pos e, if_pos (hs (by omega) (by omega) (by omega) z1 z2 z3 z4 e), h5, Option.bind_some]
          · rw [if_neg e, h5, Option.bind_some]
        · rw [bne_iff_ne.2 z4]; exact T1 _ _ _ _
      · rw [if_neg z3]; exact T1 _ _ _ _
    · rw [if_neg z2]; exact T1 _ _ _ _
  · rw [if_neg z1]; exact T1 _ _ _ _
theorem HashMore_pure (a : Int) (_ : (Lit.int .i64 a).wf = true) (b : Int) (_ : (Lit.int .i64 b).wf = true) (k0 k n : Int) (t : ByteArray) (l : List S24) (k' n' : Int) (t' : ByteArray) (l' : List S24) (k'' n'' : Int) (t'' : ByteArray) (l'' : List S24) (_ : In64 k0) (ha : WfV ⟨k, n, t, l⟩) (hb : WfV ⟨k', n', t', l'⟩) (_ : WfV ⟨k'', n'', t'', l''⟩) :
    ∃ i, spinneylaw04_HashMore.f i a b k0 k n t l k' n' t' l' k'' n'' t'' l'' = some true := by
  have any : ∀ (a k n : Int) (t : ByteArray) (l : List S24), WfV ⟨k, n, t, l⟩ → ∃ p q, Ev (fun i => hash_Of.f i a k n t l) (p, q) ∧ (q = 0 → ∃ r, p = leftZ a r ∧ (Ev (fun i => hashV (fun _ => hash_units.f) i ⟨k, n, t, l⟩) r)) := by
    intro a k n t l h
    rcases of_ev a k n t l h with ⟨r, _, _, _, hr, _, o, _⟩ | ⟨c, hc, o, _⟩
    · exact ⟨_, _, o, fun _ => ⟨r, rfl, hr⟩⟩
    · exact ⟨_, _, o, fun h => absurd h hc⟩
  obtain ⟨p1, q1, ⟨K1, h1⟩, g1⟩ := any a k n t l ha
  obtain ⟨p2, q2, ⟨K2, h2⟩, g2⟩ := any a k' n' t' l' hb
  obtain ⟨p3, q3, ⟨K3, h3⟩, g3⟩ := any b k n t l ha
  obtain ⟨p4, q4, ⟨K4, h4⟩, g4⟩ := any b k' n' t' l' hb
  obtain ⟨K5, h5⟩ := speaks_ev
  refine ⟨K1 + K2 + K3 + K4 + K5 + 1 + 1, more_join _ a b k0 k n t l k' n' t' l' k'' n'' t'' l'' p1 q1 p2 q2 p3 q3 p4 q4 (h1 _ (by omega)) (h2 _ (by omega)) (h3 _ (by omega)) (h4 _ (by omega)) (h5 _ (by omega)) (h5 _ (by omega)) ?_⟩
  intro c1 c2 c3 z1 z2 z3 z4 e
  obtain ⟨r, rfl, hr⟩ := g1 z1
  obtain ⟨s, rfl, hs⟩ := g2 z2
  obtain ⟨r', rfl, hr'⟩ := g3 z3
  obtain ⟨s', rfl, hs'⟩ := g4 z4
  obtain rfl := ev_one hr hr'
  obtain rfl := ev_one hs hs'
  exact left_less a b r s c1 c2 c3 e
end Go.Proofs.YtmebfblabccblaaDoor.XH
