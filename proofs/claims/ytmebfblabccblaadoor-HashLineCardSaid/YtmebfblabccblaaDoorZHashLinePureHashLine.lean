-- cut down by bundle.py (the session's own program) from the text YtmebfblabccblaaDoorPureHashLine, to what this claim names
import Derived.Test.YtmebfblabccblaaDoorZHashLineXH0
import Derived.Test.YtmebfblabccblaaDoorZHashLinePl10
import Derived.Test.YtmebfblabccblaaDoorZHashLineXH15
namespace Go.Proofs.YtmebfblabccblaaDoor.XH
open Go.RowKit Go.Proofs.YtmebfblabccblaaDoorW.PrintWords Go.Proofs.YtmebfblabccblaaDoorW.PrintLast Go.Proofs.YtmebfblabccblaaDoorW.PrintMore
attribute [local go_sem] max2_int min2_int max_two min_two max_three min_three max_four min_four   -- for this text's walks alone
set_option linter.unusedVariables false
set_option linter.unusedSimpArgs false

theorem line_join (i : Nat) (k0 k n : Int) (t : ByteArray) (l : List S24) (k' n' : Int) (t' : ByteArray) (l' : List S24) (k'' n'' : Int) (t'' : ByteArray) (l'' : List S24) (p1 p2 p3 p4 : Bool) (q1 q2 q3 q4 : Int)
    (h1 : hash_Before.f (i + 1) k0 k n t l k' n' t' l' = some (p1, q1)) (h2 : hash_Before.f (i + 1) k0 k' n' t' l' k n t l = some (p2, q2)) (h3 : hash_Before.f (i + 1) k0 k' n' t' l' k'' n'' t'' l'' = some (p3, q3)) (h4 : hash_Before.f (i + 1) k0 k n t l k'' n'' t'' l'' = some (p4, q4)) (h5 : spinneylaw04_speaks.f i = some true)
    (hs : q1 = 0 → q2 = 0 → q3 = 0 → q4 = 0 → (p1 = true → p2 = false ∧ cmpV ⟨k, n, t, l⟩ ⟨k', n', t', l'⟩ ≠ 0 ∧ (p3 = true → p4 = true)) ∧ (p1 = false → (p2 = true ↔ cmpV ⟨k, n, t, l⟩ ⟨k', n', t', l'⟩ ≠ 0))) :
    spinneylaw04_HashLine.f (i + 1) k0 k n t l k' n' t' l' k'' n'' t'' l'' = some true := by
  have T : ∀ x3 x5 x7 x9, spinneylaw04_HashLine.j0 (i + 1) x3 x5 x7 x9 true k0 k n t l k' n' t' l' k'' n'' t'' l'' = some true := by
    intro x3 x5 x7 x9
    simp only [spinneylaw04_HashLine.j0, if_true]
    rw [h5, Option.bind_some]
  have E : value_Equal.f k n t l k' n' t' l' = some (cmpV ⟨k, n, t, l⟩ ⟨k', n', t', l'⟩ == 0) := by
    unfold value_Equal.f value_Compare.f
    rw [Option.bind_some]
  unfold spinneylaw04_HashLine.f
  rw [h1, Option.bind_some, h2, Option.bind_some, h3, Option.bind_some, h4, Option.bind_some]
  dsimp only
  by_cases z1 : q1 = 0
  · rw [if_pos z1]
    by_cases z2 : q2 = 0
    · rw [if_pos z2]
      by_cases z3 : q3 = 0
      · rw [if_pos z3]
        by_cases z4 : q4 = 0
        · rw [bne_eq_false_iff_eq.2 z4]
          obtain ⟨g1, g2⟩ := hs z1 z2 z3 z4
          simp only [spinneylaw04_HashLine.j0]
          rw [if_neg (by decide), E]
          cases p1 with
          | true =>
            obtain ⟨e1, e2, e3⟩ := g1 rfl
            rw [if_pos rfl, e1, if_neg (by decide), Option.bind_some, beq_eq_false_iff_ne.2 e2, if_neg (by decide), h5, Option.bind_some]
            cases p3 with
            | true => rw [if_pos rfl, e3 rfl, if_pos rfl]
            | false => rw [if_neg (by decide)]
          | false =>
            have e := g2 rfl
            rw [if_neg (by decide), Option.bind_some, h5, Option.bind_some]
            by_cases z : cmpV ⟨k, n, t, l⟩ ⟨k', n', t', l'⟩ = 0
            · rw [beq_iff_eq.2 z, show p2 = false by cases p2; rfl; exact absurd z (e.1 rfl)]; rfl
            · rw [beq_eq_false_iff_ne.2 z, e.2 z]; rfl
        · rw [bne_iff_ne.2 z4]; exact T _ _ _ _
      · rw [if_neg z3]; exact T _ _ _ _
    · rw [if_neg z2]; exact T _ _ _ _
  · rw [if_neg z1]; exact T _ _ _ _
theorem line_law (k0 x y z : Int) (a b c : S24) (ra : RightV a) (rb : RightV b) (rc : RightV c) (hxy : a = b → x = y) (hyz : b = c → y = z) (hxz : a = c → x = z) :
    (befV k0 x y a b → ¬ befV k0 y x b a ∧ cmpV a b ≠ 0 ∧ (befV k0 y z b c → befV k0 x z a c)) ∧ (¬ befV k0 x y a b → (befV k0 y x b a ↔ cmpV a b ≠ 0)) := by
  have ht := ahd_turn (leftZ k0 x) (leftZ k0 y) 7 0
  have hv := cmpV_turn a b
  have tr := ahd_trans (leftZ k0 x) (leftZ k0 y) (leftZ k0 z) 7 0
  have hz : cmpV a b = 0 → ahd (leftZ k0 x) (leftZ k0 y) 7 0 = 0 := fun h => by
    have e := hxy (cmpV_zero a b ra rb h)
    rw [e]; exact ahd_self _ _ _
  have tv := cmpV_trans a b c ra rb rc
  unfold befV
  refine ⟨fun h => ⟨?_, ?_, fun g => ?_⟩, fun h => ⟨?_, ?_⟩⟩
  · omega
  · intro e; have := hz e; omega
  · rcases h with h | ⟨h, h'⟩
    · rcases g with g | ⟨g, g'⟩
      · have := tr (by omega) (by omega)
        left; rcases Int.lt_or_eq_of_le this.1 with u | u
        · exact u
        · have := (this.2 u).1; omega
      · have := tr (by omega) (by omega)
        left; rcases Int.lt_or_eq_of_le this.1 with u | u
        · exact u
        · have := (this.2 u).1; omega
    · rcases g with g | ⟨g, g'⟩
      · have := tr (by omega) (by omega)
        left; rcases Int.lt_or_eq_of_le this.1 with u | u
        · exact u
        · have := (this.2 u).2; omega
      · have := tr (by omega) (by omega)
        rcases Int.lt_or_eq_of_le this.1 with u | u
        · exact .inl u
        · exact .inr ⟨u, tv h' g'⟩
  · intro g e; have := hz e; omega
  · intro e
    by_cases q : ahd (leftZ k0 x) (leftZ k0 y) 7 0 = 0
    · right; omega
    · left; omega
theorem HashLine_pure (k0 k n : Int) (t : ByteArray) (l : List S24) (k' n' : Int) (t' : ByteArray) (l' : List S24) (k'' n'' : Int) (t'' : ByteArray) (l'' : List S24) (_ : In64 k0) (ha : WfV ⟨k, n, t, l⟩) (hb : WfV ⟨k', n', t', l'⟩) (hc : WfV ⟨k'', n'', t'', l''⟩) :
    ∃ i, spinneylaw04_HashLine.f i k0 k n t l k' n' t' l' k'' n'' t'' l'' = some true := by
  have U : ∀ {k n : Int} {t : ByteArray} {l : List S24} {k' n' : Int} {t' : ByteArray} {l' : List S24} {x y : Int}, (Ev (fun i => hashV (fun _ => hash_units.f) i ⟨k, n, t, l⟩) x) → (Ev (fun i => hashV (fun _ => hash_units.f) i ⟨k', n', t', l'⟩) y) → (⟨k, n, t, l⟩ : S24) = ⟨k', n', t', l'⟩ → x = y := by
    intro k n t l k' n' t' l' x y h1 h2 e
    rw [e] at h1
    exact ev_one h1 h2
  have key : ∃ p1 q1 p2 q2 p3 q3 p4 q4, Ev (fun i => hash_Before.f i k0 k n t l k' n' t' l') (p1, q1) ∧ Ev (fun i => hash_Before.f i k0 k' n' t' l' k n t l) (p2, q2) ∧ Ev (fun i => hash_Before.f i k0 k' n' t' l' k'' n'' t'' l'') (p3, q3) ∧ Ev (fun i => hash_Before.f i k0 k n t l k'' n'' t'' l'') (p4, q4) ∧
      (q1 = 0 → q2 = 0 → q3 = 0 → q4 = 0 → (p1 = true → p2 = false ∧ cmpV ⟨k, n, t, l⟩ ⟨k', n', t', l'⟩ ≠ 0 ∧ (p3 = true → p4 = true)) ∧ (p1 = false → (p2 = true ↔ cmpV ⟨k, n, t, l⟩ ⟨k', n', t', l'⟩ ≠ 0))) := by
    have bad : ∀ {g : Nat → Option (Bool × Int)} {c : Int}, Ev g (false, c) → ∃ p q, Ev g (p, q) := fun h => ⟨_, _, h⟩
    have ab := before_ev k0 k n t l ha k' n' t' l' hb
    have ba := before_ev k0 k' n' t' l' hb k n t l ha
    have bc := before_ev k0 k' n' t' l' hb k'' n'' t'' l'' hc
    have ac := before_ev k0 k n t l ha k'' n'' t'' l'' hc
    rcases ab with ⟨x, y, _, _, ra, rb, hx, hy, o1, _⟩ | ⟨c1, n1, o1, _⟩
    · rcases ba with ⟨y', x', _, _, _, _, hy', hx', o2, _⟩ | ⟨c2, n2, o2, _⟩
      · rcases bc with ⟨y'', z, _, _, _, rc, hy'', hz, o3, _⟩ | ⟨c3, n3, o3, _⟩
        · rcases ac with ⟨x'', z', _, _, _, _, hx'', hz', o4, _⟩ | ⟨c4, n4, o4, _⟩
          · refine ⟨_, _, _, _, _, _, _, _, o1, o2, o3, o4, fun _ _ _ _ => ?_⟩
            obtain rfl := ev_one hx hx'
            obtain rfl := ev_one hx hx''
            obtain rfl := ev_one hy hy'
            obtain rfl := ev_one hy hy''
            obtain rfl := ev_one hz hz'
            obtain ⟨g1, g2⟩ := line_law k0 x y z ⟨k, n, t, l⟩ ⟨k', n', t', l'⟩ ⟨k'', n'', t'', l''⟩ ra rb rc (fun e => U hx hy e) (fun e => U hy hz e) (fun e => U hx hz e)
            simp only [decide_eq_true_eq, decide_eq_false_iff_not]
            exact ⟨g1, g2⟩
          · exact ⟨_, _, _, _, _, _, _, _, o1, o2, o3, o4, fun _ _ _ h => absurd h n4⟩
        · rcases ac with ⟨_, _, _, _, _, _, _, _, o4, _⟩ | ⟨c4, n4, o4, _⟩
          · exact ⟨_, _, _, _, _, _, _, _, o1, o2, o3, o4, fun _ _ h => absurd h n3⟩
          · exact ⟨_, _, _, _, _, _, _, _, o1, o2, o3, o4, fun _ _ h => absurd h n3⟩
      · obtain ⟨p3, q3, o3⟩ : ∃ p q, Ev (fun i => hash_Before.f i k0 k' n' t' l' k'' n'' t'' l'') (p, q) := by
          rcases bc with ⟨_, _, _, _, _, _, _, _, o, _⟩ | ⟨_, _, o, _⟩ <;> exact ⟨_, _, o⟩
        obtain ⟨p4, q4, o4⟩ : ∃ p q, Ev (fun i => hash_Before.f i k0 k n t l k'' n'' t'' l'') (p, q) := by
          rcases ac with ⟨_, _, _, _, _, _, _, _, o, _⟩ | ⟨_, _, o, _⟩ <;> exact ⟨_, _, o⟩
        exact ⟨_, _, _, _, _, _, _, _, o1, o2, o3, o4, fun _ h => absurd h n2⟩
    · obtain ⟨p2, q2, o2⟩ : ∃ p q, Ev (fun i => hash_Before.f i k0 k' n' t' l' k n t l) (p, q) := by
        rcases ba with ⟨_, _, _, _, _, _, _, _, o, _⟩ | ⟨_, _, o, _⟩ <;> exact ⟨_, _, o⟩
      obtain ⟨p3, q3, o3⟩ : ∃ p q, Ev (fun i => hash_Before.f i k0 k' n' t' l' k'' n'' t'' l'') (p, q) := by
        rcases bc with ⟨_, _, _, _, _, _, _, _, o, _⟩ | ⟨_, _, o, _⟩ <;> exact ⟨_, _, o⟩
      obtain ⟨p4, q4, o4⟩ : ∃ p q, Ev (fun i => hash_Before.f i k0 k n t l k'' n'' t'' l'') (p, q) := by
        rcases ac with ⟨_, _, _, _, _, _, _, _, o, _⟩ | ⟨_, _, o, _⟩ <;> exact ⟨_, _, o⟩
      exact ⟨_, _, _, _, _, _, _, _, o1, o2, o3, o4, fun h => absurd h n1⟩
  obtain ⟨p1, q1, p2, q2, p3, q3, p4, q4, ⟨K1, h1⟩, ⟨K2, h2⟩, ⟨K3, h3⟩, ⟨K4, h4⟩, hs⟩ := key
  obtain ⟨K5, h5⟩ := speaks_ev
  exact ⟨K1 + K2 + K3 + K4 + K5 + 1, line_join _ k0 k n t l k' n' t' l' k'' n'' t'' l'' p1 p2 p3 p4 q1 q2 q3 q4 (h1 _ (by omega)) (h2 _ (by omega)) (h3 _ (by omega)) (h4 _ (by omega)) (h5 _ (by omega)) hs⟩
end Go.Proofs.YtmebfblabccblaaDoor.XH
