-- cut down by bundle.py (the session's own program) from the text YtmebfblabccblaaDoorPl10, to what this claim names
import Derived.Test.YtmebfblabccblaaDoorZHashLineXH0
import Derived.Test.YtmebfblabccblaaDoorZHashLinePl9
import Derived.WideShapes
namespace Go.Proofs.YtmebfblabccblaaDoor.XH
open Go.RowKit Go.Proofs.YtmebfblabccblaaDoorW.PrintWords Go.Proofs.YtmebfblabccblaaDoorW.PrintLast Go.Proofs.YtmebfblabccblaaDoorW.PrintMore
attribute [local go_sem] max2_int min2_int max_two min_two max_three min_three max_four min_four   -- for this text's walks alone
set_option linter.unusedVariables false
set_option linter.unusedSimpArgs false

theorem ev_one {α : Type} {g : Nat → Option α} {a b : α} (h1 : Ev g a) (h2 : Ev g b) : a = b := by
  obtain ⟨K, h1⟩ := h1
  obtain ⟨L, h2⟩ := h2
  exact Option.some.inj ((h1 (K + L) (by omega)).symm.trans (h2 (K + L) (by omega)))
theorem cmpI_turn (x y : Int) : cmpI y x = - cmpI x y := by
  unfold cmpI
  repeat' split
  all_goals omega
theorem cmpI_neg {x y : Int} : cmpI x y < 0 ↔ x < y := by
  unfold cmpI
  by_cases h : x < y
  · rw [if_pos h]; exact ⟨fun _ => h, fun _ => by decide⟩
  · rw [if_neg h]; split <;> exact ⟨fun h' => by omega, fun h' => by omega⟩
theorem cmpI_zero {x y : Int} : cmpI x y = 0 ↔ x = y := by
  unfold cmpI
  by_cases h : x < y
  · rw [if_pos h]; exact ⟨fun h' => by omega, fun h' => by omega⟩
  · rw [if_neg h]; split <;> exact ⟨fun h' => by omega, fun h' => by omega⟩
theorem cb_turn : ∀ a b : List UInt8, Lib.compareBytes b a = - Lib.compareBytes a b
  | [], [] => by simp [Lib.compareBytes]
  | [], _ :: _ => by simp [Lib.compareBytes]
  | _ :: _, [] => by simp [Lib.compareBytes]
  | a :: x, b :: y => by
    simp only [Lib.compareBytes]
    rcases u8_lt_or a b with h | rfl | h
    · rw [if_pos h, if_neg (u8_asym h), if_pos h]; rfl
    · simp only [if_neg (u8_irr a)]; exact cb_turn x y
    · rw [if_pos h, if_neg (u8_asym h), if_pos h]
theorem cb_zero : ∀ a b : List UInt8, Lib.compareBytes a b = 0 → a = b
  | [], [] => fun _ => rfl
  | [], _ :: _ => fun h => by simp [Lib.compareBytes] at h
  | _ :: _, [] => fun h => by simp [Lib.compareBytes] at h
  | a :: x, b :: y => by
    simp only [Lib.compareBytes]
    rcases u8_lt_or a b with h | rfl | h
    · rw [if_pos h]; intro h'; cases h'
    · simp only [if_neg (u8_irr a)]; intro h; rw [cb_zero x y h]
    · rw [if_neg (u8_asym h), if_pos h]; intro h'; cases h'
theorem cb_trans : ∀ a b c : List UInt8, Lib.compareBytes a b < 0 → Lib.compareBytes b c < 0 → Lib.compareBytes a c < 0
  | [], [], _ => fun h => by simp [Lib.compareBytes] at h
  | _ :: _, [], _ => fun h => by simp [Lib.compareBytes] at h
  | [], _ :: _, [] => fun _ h => by simp [Lib.compareBytes] at h
  | [], _ :: _, _ :: _ => fun _ _ => by simp [Lib.compareBytes]
  | _ :: _, _ :: _, [] => fun _ h => by simp [Lib.compareBytes] at h
  | a :: x, b :: y, c :: z => by
    simp only [Lib.compareBytes]
    rcases u8_lt_or a b with h | rfl | h
    · intro _
      rcases u8_lt_or b c with g | rfl | g
      · intro _
        have : a < c := UInt8.lt_iff_toNat_lt.2 (Nat.lt_trans (UInt8.lt_iff_toNat_lt.1 h) (UInt8.lt_iff_toNat_lt.1 g))
        rw [if_pos this]; decide
      · intro _; rw [if_pos h]; decide
      · rw [if_neg (u8_asym g), if_pos g]; intro h'; omega
    · simp only [if_neg (u8_irr a)]
      intro h1
      rcases u8_lt_or a c with g | rfl | g
      · intro _; rw [if_pos g]; decide
      · simp only [if_neg (u8_irr a)]; exact cb_trans x y z h1
      · rw [if_neg (u8_asym g), if_pos g]; intro h'; omega
    · rw [if_neg (u8_asym h), if_pos h]; intro h'; omega
mutual
theorem cmpV_turn : (a b : S24) → cmpV b a = - cmpV a b
  | ⟨k, n, t, l⟩, ⟨k', n', t', l'⟩ => by
    have IH := cmpL_turn l l'
    simp only [cmpV]
    by_cases hk : k = k'
    · subst hk
      rw [if_pos rfl, if_pos rfl]
      by_cases h1 : k = 1 ∨ k = 2
      · rw [if_pos h1, if_pos h1]; exact cmpI_turn n n'
      · rw [if_neg h1, if_neg h1]
        by_cases h3 : k = 3
        · rw [if_pos h3, if_pos h3]; exact cb_turn _ _
        · rw [if_neg h3, if_neg h3]
          by_cases h4 : k = 4 ∨ k = 5 ∨ k = 6
          · rw [if_pos h4, if_pos h4]; exact IH
          · rw [if_neg h4, if_neg h4]; rfl
    · rw [if_neg hk, if_neg (fun h => hk h.symm)]; exact cmpI_turn k k'
theorem cmpL_turn : (l m : List S24) → cmpL m l = - cmpL l m
  | [], [] => by simp only [cmpL]; rfl
  | [], _ :: _ => by simp only [cmpL]; rfl
  | _ :: _, [] => by simp only [cmpL]
  | a :: l, b :: m => by
    have h1 := cmpV_turn a b
    have h2 := cmpL_turn l m
    simp only [cmpL]
    by_cases h : cmpV a b = 0
    · rw [if_pos h, if_pos (by omega)]; exact h2
    · rw [if_neg h, if_neg (by omega)]; exact h1
end
theorem bytes_nil {t : ByteArray} (h : t.toList = []) : t = ⟨#[]⟩ := by
  rw [ByteArray.toList_eq] at h
  exact Go.WideShapes.bytes_inj (by rw [h])
theorem right_shape {k n : Int} {t : ByteArray} {l : List S24} (h : RightV ⟨k, n, t, l⟩) : (k = 3 ∨ t = ⟨#[]⟩) ∧ (k = 1 ∨ k = 2 ∨ n = 0) ∧ (k = 4 ∨ k = 5 ∨ k = 6 ∨ l = []) ∧ RightL l := by
  simp only [RightV] at h
  obtain ⟨hp, _, hs, _, hl⟩ := h
  refine ⟨?_, ?_, hs, hl⟩
  · rcases hp.2.1 with h | h
    · exact .inl h
    · exact .inr (bytes_nil h)
  · have := hp.2.2.1; omega
mutual
theorem cmpV_zero : (a b : S24) → RightV a → RightV b → cmpV a b = 0 → a = b
  | ⟨k, n, t, l⟩, ⟨k', n', t', l'⟩, ha, hb, h => by
    obtain ⟨a1, a2, a3, a4⟩ := right_shape ha
    obtain ⟨b1, b2, b3, b4⟩ := right_shape hb
    have IH := cmpL_zero l l' a4 b4
    simp only [cmpV] at h
    by_cases hk : k = k'
    · subst hk
      rw [if_pos rfl] at h
      by_cases h1 : k = 1 ∨ k = 2
      · rw [if_pos h1] at h
        have e1 := cmpI_zero.1 h
        have e2 : t = t' := by rw [a1.resolve_left (by omega), b1.resolve_left (by omega)]
        have e3 : l = l' := by rcases a3 with c | c | c | c <;> rcases b3 with d | d | d | d <;> first | omega | (rw [c, d])
        rw [e1, e2, e3]
      · rw [if_neg h1] at h
        have e1 : n = n' := by omega
        by_cases h3 : k = 3
        · rw [if_pos h3] at h
          have e2 : t = t' := Go.WideShapes.bytes_inj (cb_zero _ _ h)
          have e3 : l = l' := by rcases a3 with c | c | c | c <;> rcases b3 with d | d | d | d <;> first | omega | (rw [c, d])
          rw [e1, e2, e3]
        · rw [if_neg h3] at h
          have e2 : t = t' := by rw [a1.resolve_left h3, b1.resolve_left h3]
          by_cases h4 : k = 4 ∨ k = 5 ∨ k = 6
          · rw [if_pos h4] at h
            rw [e1, e2, IH h]
          · have e3 : l = l' := by rcases a3 with c | c | c | c <;> rcases b3 with d | d | d | d <;> first | omega | (rw [c, d])
            rw [e1, e2, e3]
    · rw [if_neg hk] at h; exact absurd (cmpI_zero.1 h) hk
theorem cmpL_zero : (l m : List S24) → RightL l → RightL m → cmpL l m = 0 → l = m
  | [], [], _, _, _ => rfl
  | [], _ :: _, _, _, h => by simp only [cmpL] at h; cases h
  | _ :: _, [], _, _, h => by simp only [cmpL] at h; cases h
  | a :: l, b :: m, ha, hb, h => by
    simp only [RightL] at ha hb
    simp only [cmpL] at h
    by_cases c : cmpV a b = 0
    · rw [if_pos c] at h
      rw [cmpV_zero a b ha.1 hb.1 c, cmpL_zero l m ha.2 hb.2 h]
    · rw [if_neg c] at h; exact absurd h c
end
mutual
theorem cmpV_trans : (a b c : S24) → RightV a → RightV b → RightV c → cmpV a b < 0 → cmpV b c < 0 → cmpV a c < 0
  | ⟨k, n, t, l⟩, ⟨k', n', t', l'⟩, ⟨k'', n'', t'', l''⟩, ha, hb, hc, h1, h2 => by
    have IH := cmpL_trans l l' l'' (right_shape ha).2.2.2 (right_shape hb).2.2.2 (right_shape hc).2.2.2
    simp only [cmpV] at h1 h2 ⊢
    by_cases e1 : k = k'
    · subst e1
      rw [if_pos rfl] at h1
      by_cases e2 : k = k''
      · subst e2
        rw [if_pos rfl] at h2 ⊢
        by_cases g : k = 1 ∨ k = 2
        · rw [if_pos g] at h1 h2 ⊢
          have := cmpI_neg.1 h1
          have := cmpI_neg.1 h2
          exact cmpI_neg.2 (by omega)
        · rw [if_neg g] at h1 h2 ⊢
          by_cases g3 : k = 3
          · rw [if_pos g3] at h1 h2 ⊢; exact cb_trans _ _ _ h1 h2
          · rw [if_neg g3] at h1 h2 ⊢
            by_cases g4 : k = 4 ∨ k = 5 ∨ k = 6
            · rw [if_pos g4] at h1 h2 ⊢; exact IH h1 h2
            · rw [if_neg g4] at h1; omega
      · rw [if_neg e2] at h2 ⊢; exact h2
    · rw [if_neg e1] at h1
      have l1 := cmpI_neg.1 h1
      by_cases e2 : k' = k''
      · subst e2
        rw [if_neg e1]; exact h1
      · rw [if_neg e2] at h2
        have l2 := cmpI_neg.1 h2
        rw [if_neg (by omega)]
        exact cmpI_neg.2 (by omega)
theorem cmpL_trans : (l m p : List S24) → RightL l → RightL m → RightL p → cmpL l m < 0 → cmpL m p < 0 → cmpL l p < 0
  | [], [], _, _, _, _, h, _ => by simp only [cmpL] at h; omega
  | _ :: _, [], _, _, _, _, h, _ => by simp only [cmpL] at h; omega
  | [], _ :: _, [], _, _, _, _, h => by simp only [cmpL] at h; omega
  | [], _ :: _, _ :: _, _, _, _, _, _ => by simp only [cmpL]; decide
  | _ :: _, _ :: _, [], _, _, _, _, h => by simp only [cmpL] at h; omega
  | a :: l, b :: m, c :: p, ha, hb, hc, h1, h2 => by
    simp only [RightL] at ha hb hc
    have T := cmpV_trans a b c ha.1 hb.1 hc.1
    have IH := cmpL_trans l m p ha.2 hb.2 hc.2
    simp only [cmpL] at h1 h2 ⊢
    by_cases z1 : cmpV a b = 0
    · rw [if_pos z1] at h1
      have e := cmpV_zero a b ha.1 hb.1 z1
      subst e
      by_cases z2 : cmpV a c = 0
      · rw [if_pos z2] at h2 ⊢; exact IH h1 h2
      · rw [if_neg z2] at h2 ⊢; exact h2
    · rw [if_neg z1] at h1
      by_cases z2 : cmpV b c = 0
      · have e := cmpV_zero b c hb.1 hc.1 z2
        subst e
        rw [if_neg z1]; exact h1
      · rw [if_neg z2] at h2
        have := T h1 h2
        rw [if_neg (by omega)]; exact this
end
end Go.Proofs.YtmebfblabccblaaDoor.XH
