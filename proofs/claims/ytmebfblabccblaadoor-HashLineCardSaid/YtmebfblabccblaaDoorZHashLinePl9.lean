-- cut down by bundle.py (the session's own program) from the text YtmebfblabccblaaDoorPl9, to what this claim names
import Derived.Test.YtmebfblabccblaaDoorZHashLineXH0
import Derived.Test.YtmebfblabccblaaDoorZHashLinePl8
import Derived.Test.YtmebfblabccblaaDoorZHashLineXH14
namespace Go.Proofs.YtmebfblabccblaaDoor.XH
open Go.RowKit Go.Proofs.YtmebfblabccblaaDoorW.PrintWords Go.Proofs.YtmebfblabccblaaDoorW.PrintLast Go.Proofs.YtmebfblabccblaaDoorW.PrintMore
attribute [local go_sem] max2_int min2_int max_two min_two max_three min_three max_four min_four   -- for this text's walks alone
set_option linter.unusedVariables false
set_option linter.unusedSimpArgs false

def grp (x j : Int) : Int := Int.tmod (shr .u32 x (5 * j)) 32
def ahd (x y : Int) : Nat → Int → Int
  | 0, _ => 0
  | d + 1, j => if grp x j = grp y j then ahd x y d (j + 1) else if grp x j < grp y j then -1 else 1
theorem ahd_turn (x y : Int) : ∀ (d : Nat) (j : Int), ahd y x d j = - ahd x y d j
  | 0, _ => rfl
  | d + 1, j => by
    simp only [ahd]
    by_cases c : grp x j = grp y j
    · rw [if_pos c, if_pos c.symm]; exact ahd_turn x y d _
    · rw [if_neg c, if_neg (fun h => c h.symm)]
      by_cases e : grp x j < grp y j
      · rw [if_pos e, if_neg (by omega)]; rfl
      · rw [if_neg e, if_pos (by omega)]
theorem ahd_self (x : Int) : ∀ (d : Nat) (j : Int), ahd x x d j = 0
  | 0, _ => rfl
  | d + 1, j => by simp only [ahd, if_true]; exact ahd_self x d _
theorem ahd_trans (x y z : Int) : ∀ (d : Nat) (j : Int), ahd x y d j ≤ 0 → ahd y z d j ≤ 0 → ahd x z d j ≤ 0 ∧ (ahd x z d j = 0 → ahd x y d j = 0 ∧ ahd y z d j = 0)
  | 0, _ => fun _ _ => ⟨Int.le_refl _, fun _ => ⟨rfl, rfl⟩⟩
  | d + 1, j => by
    have ih := ahd_trans x y z d (j + 1)
    simp only [ahd]
    by_cases c1 : grp x j = grp y j
    · rw [if_pos c1]
      by_cases c2 : grp y j = grp z j
      · rw [if_pos c2, if_pos (c1.trans c2)]; exact ih
      · rw [if_neg c2, if_neg (fun h => c2 (c1.symm.trans h)), c1]
        intro _ h
        by_cases e : grp y j < grp z j
        · rw [if_pos e]; exact ⟨by omega, fun h => by omega⟩
        · rw [if_neg e] at h; omega
    · rw [if_neg c1]
      intro h1 h2
      by_cases e1 : grp x j < grp y j
      · by_cases c2 : grp y j = grp z j
        · rw [if_neg (by omega), if_pos (by omega)]; exact ⟨by omega, fun h => by omega⟩
        · rw [if_neg c2] at h2
          by_cases e2 : grp y j < grp z j
          · rw [if_neg (by omega), if_pos (by omega)]; exact ⟨by omega, fun h => by omega⟩
          · rw [if_neg e2] at h2; omega
      · rw [if_neg e1] at h1; omega
theorem loop_before (x y : Int) (hx : U32 x) (hy : U32 y) (k n : Int) (t : ByteArray) (l : List S24) (k' n' : Int) (t' : ByteArray) (l' : List S24) (d : Nat) :
    ∀ j : Int, 0 ≤ j → 7 - j = (d : Int) → Ev (fun i => spinneyref04_Ahead.l0 i x y j) (ahd x y d j) ∧ Ev (fun i => hash_Before.l0 i x y j k n t l k' n' t' l') (decide (ahd x y d j < 0 ∨ (ahd x y d j = 0 ∧ cmpV ⟨k, n, t, l⟩ ⟨k', n', t', l'⟩ < 0)), 0) := by
  induction d with
  | zero =>
    intro j h0 hd
    refine ⟨Ev.step (f := fun _ => some 0) (fun i => ?_) (Ev.now _), ?_⟩
    · simp only [spinneyref04_Ahead.l0]
      rw [if_neg (by omega)]
    · refine Ev.step (f := fun _ => some (decide (cmpV ⟨k, n, t, l⟩ ⟨k', n', t', l'⟩ < 0), 0)) (fun i => ?_) (Ev.congr (fun _ => ?_) (Ev.now _))
      · simp only [hash_Before.l0]
        rw [if_neg (by omega)]; rfl
      · congr 2
        exact decide_eq_decide.2 ⟨fun h => .inr ⟨rfl, h⟩, fun h => by rcases h with h | h; (simp only [ahd] at h; omega); exact h.2⟩
  | succ d ih =>
    intro j h0 hd
    have e1 : wrap64 (5 * j) = 5 * j := w64_ (by omega) (by omega)
    have e2 : IntKind.u64.wrap (5 * j) = 5 * j := u64w _ (by omega) (by omega)
    have e3 : wrap64 (j + 1) = j + 1 := w64_ (by omega) (by omega)
    have sA : ∀ i, spinneyref04_Ahead.l0 (i + 1) x y j = if grp x j = grp y j then spinneyref04_Ahead.l0 i x y (j + 1) else if grp x j < grp y j then some (-1) else some 1 := by
      intro i
      simp only [spinneyref04_Ahead.l0]
      rw [if_pos (by omega), e1, e2, if_pos (by omega), e3]
      rfl
    have sB : ∀ i, hash_Before.l0 (i + 1) x y j k n t l k' n' t' l' = if grp x j = grp y j then hash_Before.l0 i x y (j + 1) k n t l k' n' t' l' else some (decide (grp x j < grp y j), 0) := by
      intro i
      simp only [hash_Before.l0]
      rw [if_pos (by omega), group_some x j hx h0 (by omega), Option.bind_some, group_some y j hy h0 (by omega), Option.bind_some, e3]
      rfl
    simp only [ahd]
    by_cases c : grp x j = grp y j
    · simp only [if_pos c] at sA sB ⊢
      obtain ⟨a, b⟩ := ih (j + 1) (by omega) (by omega)
      exact ⟨Ev.step sA a, Ev.step sB b⟩
    · simp only [if_neg c] at sA sB ⊢
      by_cases e : grp x j < grp y j
      · simp only [if_pos e] at sA ⊢
        refine ⟨Ev.step sA (Ev.now _), Ev.step sB (Ev.congr (fun _ => ?_) (Ev.now _))⟩
        rw [decide_eq_true e]
        congr 2
      · simp only [if_neg e] at sA ⊢
        refine ⟨Ev.step sA (Ev.now _), Ev.step sB (Ev.congr (fun _ => ?_) (Ev.now _))⟩
        rw [decide_eq_false e]
        congr 2
def befV (a x y : Int) (v u : S24) : Prop := ahd (leftZ a x) (leftZ a y) 7 0 < 0 ∨ (ahd (leftZ a x) (leftZ a y) 7 0 = 0 ∧ cmpV v u < 0)
instance (a x y : Int) (v u : S24) : Decidable (befV a x y v u) := by unfold befV; infer_instance
theorem before_ev (a k n : Int) (t : ByteArray) (l : List S24) (h : WfV ⟨k, n, t, l⟩) (k' n' : Int) (t' : ByteArray) (l' : List S24) (h' : WfV ⟨k', n', t', l'⟩) :
    (∃ x y, U32 x ∧ U32 y ∧ RightV ⟨k, n, t, l⟩ ∧ RightV ⟨k', n', t', l'⟩ ∧ (Ev (fun i => hashV (fun _ => hash_units.f) i ⟨k, n, t, l⟩) x) ∧ (Ev (fun i => hashV (fun _ => hash_units.f) i ⟨k', n', t', l'⟩) y) ∧ Ev (fun i => hash_Before.f i a k n t l k' n' t' l') (decide (befV a x y ⟨k, n, t, l⟩ ⟨k', n', t', l'⟩), 0) ∧ Ev (fun i => spinneyref04_Before.f i a k n t l k' n' t' l') (decide (befV a x y ⟨k, n, t, l⟩ ⟨k', n', t', l'⟩), 0)) ∨
    (∃ c, c ≠ 0 ∧ Ev (fun i => hash_Before.f i a k n t l k' n' t' l') (false, c) ∧ Ev (fun i => spinneyref04_Before.f i a k n t l k' n' t' l') (false, c)) := by
  rcases of_ev a k n t l h with ⟨x, hk, hx, hr, hX, hR, o1, o2, o3⟩ | ⟨c, hc, o1, o2, hw⟩
  · have rB : ∀ i, spinneyref04_Before.f i a k n t l k' n' t' l' = (spinneyref01_Right.f i k n t l).bind fun b => if b = true then (spinneyref01_Right.f i k' n' t' l').bind fun b => (if b = true then (spinneyref04_Trie.f i a k n t l k' n' t' l').bind fun x => some (decide (x < 0), 0) else some (false, 3)) else some (false, 3) := by
      intro i
      unfold spinneyref04_Before.f
      rw [kind_is, Option.bind_some, decide_eq_true hk, if_pos rfl]
    rcases of_ev a k' n' t' l' h' with ⟨y, _, hy, hr', hY, hR', p1, p2, p3⟩ | ⟨c, hc, p1, p2, hw⟩
    · obtain ⟨q1, q2⟩ := loop_before (leftZ a x) (leftZ a y) (leftZ_u32 a x hx) (leftZ_u32 a y hy) k n t l k' n' t' l' 7 0 (by omega) (by omega)
      refine .inl ⟨x, y, hx, hy, hr, hr', hX, hY, ?_, ?_⟩
      · refine o1.bind (f := fun i b => if b.2 = 0 then (hash_Of.f i a k' n' t' l').bind fun b' => (if b'.2 = 0 then hash_Before.l0 i b.1 b'.1 0 k n t l k' n' t' l' else some (false, b'.2)) else some (false, b.2)) ?_
        refine Ev.congr (f := fun i => (hash_Of.f i a k' n' t' l').bind fun b' => if b'.2 = 0 then hash_Before.l0 i (leftZ a x) b'.1 0 k n t l k' n' t' l' else some (false, b'.2)) (fun i => by rw [if_pos rfl]) ?_
        refine p1.bind (f := fun i b' => if b'.2 = 0 then hash_Before.l0 i (leftZ a x) b'.1 0 k n t l k' n' t' l' else some (false, b'.2)) ?_
        exact Ev.congr (f := fun i => hash_Before.l0 i (leftZ a x) (leftZ a y) 0 k n t l k' n' t' l') (fun i => by rw [if_pos rfl]) q2
      · have hA : Ev (fun i => spinneyref04_Ahead.f i (leftZ a x) (leftZ a y)) (ahd (leftZ a x) (leftZ a y) 7 0) := q1
        have hC : Ev (fun i => spinneyref01_Compare.f i k n t l k' n' t' l') (cmpV ⟨k, n, t, l⟩ ⟨k', n', t', l'⟩) := cmp_ev _ h ⟨k', n', t', l'⟩
        have hT : Ev (fun i => spinneyref04_Trie.f i a k n t l k' n' t' l') (if ahd (leftZ a x) (leftZ a y) 7 0 = 0 then cmpV ⟨k, n, t, l⟩ ⟨k', n', t', l'⟩ else ahd (leftZ a x) (leftZ a y) 7 0) := by
          refine o3.bind (f := fun i u => (spinneyref04_Kinded.f i a k' n' t' l').bind fun w => (spinneyref04_Ahead.f i u w).bind fun z => if z = 0 then (spinneyref01_Compare.f i k n t l k' n' t' l').bind fun x => some x else some z) ?_
          refine p3.bind (f := fun i w => (spinneyref04_Ahead.f i (leftZ a x) w).bind fun z => if z = 0 then (spinneyref01_Compare.f i k n t l k' n' t' l').bind fun x => some x else some z) ?_
          refine hA.bind (f := fun i z => if z = 0 then (spinneyref01_Compare.f i k n t l k' n' t' l').bind fun x => some x else some z) ?_
          by_cases hz : ahd (leftZ a x) (leftZ a y) 7 0 = 0
          · rw [if_pos hz]
            exact Ev.congr (f := fun i => (spinneyref01_Compare.f i k n t l k' n' t' l').bind fun x => some x) (fun i => if_pos hz) (hC.bind (f := fun _ x => some x) (Ev.now _))
          · rw [if_neg hz]
            exact Ev.congr (fun i => if_neg hz) (Ev.now _)
        refine Ev.congr rB (hR.bind (f := fun i b => if b = true then (spinneyref01_Right.f i k' n' t' l').bind fun b => (if b = true then (spinneyref04_Trie.f i a k n t l k' n' t' l').bind fun x => some (decide (x < 0), 0) else some (false, 3)) else some (false, 3)) ?_)
        refine Ev.congr (f := fun i => (spinneyref01_Right.f i k' n' t' l').bind fun b => if b = true then (spinneyref04_Trie.f i a k n t l k' n' t' l').bind fun x => some (decide (x < 0), 0) else some (false, 3)) (fun _ => rfl) ?_
        refine hR'.bind (f := fun i b => if b = true then (spinneyref04_Trie.f i a k n t l k' n' t' l').bind fun x => some (decide (x < 0), 0) else some (false, 3)) ?_
        refine Ev.congr (f := fun i => (spinneyref04_Trie.f i a k n t l k' n' t' l').bind fun x => some (decide (x < 0), 0)) (fun _ => rfl) ?_
        refine hT.bind (f := fun _ x => some (decide (x < 0), 0)) (Ev.congr (fun _ => ?_) (Ev.now _))
        congr 2
        refine decide_eq_decide.2 ?_
        unfold befV
        by_cases hz : ahd (leftZ a x) (leftZ a y) 7 0 = 0
        · rw [if_pos hz]; exact ⟨fun h => .inr ⟨hz, h⟩, fun h => by rcases h with h | h; omega; exact h.2⟩
        · rw [if_neg hz]; exact ⟨fun h => .inl h, fun h => by rcases h with h | h; exact h; exact absurd h.1 hz⟩
    · refine .inr ⟨c, hc, ?_, ?_⟩
      · refine o1.bind (f := fun i b => if b.2 = 0 then (hash_Of.f i a k' n' t' l').bind fun b' => (if b'.2 = 0 then hash_Before.l0 i b.1 b'.1 0 k n t l k' n' t' l' else some (false, b'.2)) else some (false, b.2)) ?_
        refine Ev.congr (f := fun i => (hash_Of.f i a k' n' t' l').bind fun b' => if b'.2 = 0 then hash_Before.l0 i (leftZ a x) b'.1 0 k n t l k' n' t' l' else some (false, b'.2)) (fun i => by rw [if_pos rfl]) ?_
        refine p1.bind (f := fun i b' => if b'.2 = 0 then hash_Before.l0 i (leftZ a x) b'.1 0 k n t l k' n' t' l' else some (false, b'.2)) ?_
        exact Ev.congr (f := fun _ => some (false, c)) (fun i => by rw [if_neg hc]) (Ev.now _)
      · rcases hw with ⟨hn, _⟩ | ⟨_, rfl, hR'⟩
        · exact absurd hk hn
        · refine Ev.congr rB (hR.bind (f := fun i b => if b = true then (spinneyref01_Right.f i k' n' t' l').bind fun b => (if b = true then (spinneyref04_Trie.f i a k n t l k' n' t' l').bind fun x => some (decide (x < 0), 0) else some (false, 3)) else some (false, 3)) ?_)
          refine Ev.congr (f := fun i => (spinneyref01_Right.f i k' n' t' l').bind fun b => if b = true then (spinneyref04_Trie.f i a k n t l k' n' t' l').bind fun x => some (decide (x < 0), 0) else some (false, 3)) (fun _ => rfl) ?_
          exact hR'.bind (f := fun i b => if b = true then (spinneyref04_Trie.f i a k n t l k' n' t' l').bind fun x => some (decide (x < 0), 0) else some (false, 3)) (Ev.congr (f := fun _ => some (false, 3)) (fun _ => rfl) (Ev.now _))
  · refine .inr ⟨c, hc, ?_, ?_⟩
    · refine o1.bind (f := fun i b => if b.2 = 0 then (hash_Of.f i a k' n' t' l').bind fun b' => (if b'.2 = 0 then hash_Before.l0 i b.1 b'.1 0 k n t l k' n' t' l' else some (false, b'.2)) else some (false, b.2)) ?_
      exact Ev.congr (f := fun _ => some (false, c)) (fun i => by rw [if_neg hc]) (Ev.now _)
    · rcases hw with ⟨hn, rfl⟩ | ⟨hk, rfl, hR⟩
      · refine Ev.congr (f := fun _ => some (false, 4)) (fun i => ?_) (Ev.now _)
        unfold spinneyref04_Before.f
        rw [kind_is, Option.bind_some, decide_eq_false hn, if_neg (by decide)]
      · refine Ev.congr (f := fun i => (spinneyref01_Right.f i k n t l).bind fun b => if b = true then (spinneyref01_Right.f i k' n' t' l').bind fun b => (if b = true then (spinneyref04_Trie.f i a k n t l k' n' t' l').bind fun x => some (decide (x < 0), 0) else some (false, 3)) else some (false, 3)) (fun i => ?_) ?_
        · unfold spinneyref04_Before.f
          rw [kind_is, Option.bind_some, decide_eq_true hk, if_pos rfl]
        · exact hR.bind (f := fun i b => if b = true then (spinneyref01_Right.f i k' n' t' l').bind fun b => (if b = true then (spinneyref04_Trie.f i a k n t l k' n' t' l').bind fun x => some (decide (x < 0), 0) else some (false, 3)) else some (false, 3)) (Ev.congr (f := fun _ => some (false, 3)) (fun _ => rfl) (Ev.now _))
end Go.Proofs.YtmebfblabccblaaDoor.XH
