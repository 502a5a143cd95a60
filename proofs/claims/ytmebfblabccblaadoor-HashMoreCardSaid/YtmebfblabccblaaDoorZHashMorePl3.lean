-- cut down by bundle.py (the session's own program) from the text YtmebfblabccblaaDoorPl3, to what this claim names
import Derived.Test.YtmebfblabccblaaDoorZHashMoreXH0
import Derived.Test.YtmebfblabccblaaDoorZHashMoreRk
import Derived.Test.YtmebfblabccblaaDoorZHashMoreXH6
import Derived.Test.YtmebfblabccblaaDoorZHashMoreXH2
import Derived.Test.YtmebfblabccblaaDoorZHashMoreXH5
namespace Go.Proofs.YtmebfblabccblaaDoor.XH
open Go.RowKit Go.Proofs.YtmebfblabccblaaDoorW.PrintWords Go.Proofs.YtmebfblabccblaaDoorW.PrintLast Go.Proofs.YtmebfblabccblaaDoorW.PrintMore
attribute [local go_sem] max2_int min2_int max_two min_two max_three min_three max_four min_four   -- for this text's walks alone
set_option linter.unusedVariables false
set_option linter.unusedSimpArgs false

theorem u8_lt_or (a b : UInt8) : a < b ∨ a = b ∨ b < a := by
  rcases Nat.lt_trichotomy a.toNat b.toNat with h | h | h
  · exact .inl (UInt8.lt_iff_toNat_lt.2 h)
  · exact .inr (.inl (UInt8.toNat_inj.1 h))
  · exact .inr (.inr (UInt8.lt_iff_toNat_lt.2 h))
theorem u8_irr (a : UInt8) : ¬ a < a := fun h => Nat.lt_irrefl _ (UInt8.lt_iff_toNat_lt.1 h)
theorem u8_asym {a b : UInt8} (h : a < b) : ¬ b < a := fun g => Nat.lt_asymm (UInt8.lt_iff_toNat_lt.1 h) (UInt8.lt_iff_toNat_lt.1 g)
theorem cmp_less : ∀ a b : List UInt8, Lib.compareBytes a b = if Op.bytesLess a b = true then -1 else if Op.bytesLess b a = true then 1 else 0
  | [], [] => by simp [Lib.compareBytes, Op.bytesLess]
  | [], _ :: _ => by simp [Lib.compareBytes, Op.bytesLess]
  | _ :: _, [] => by simp [Lib.compareBytes, Op.bytesLess]
  | a :: x, b :: y => by
    simp only [Lib.compareBytes, Op.bytesLess]
    rcases u8_lt_or a b with h | rfl | h
    · simp [h]
    · simp [u8_irr, cmp_less x y]
    · have hn := u8_asym h
      have he : ¬ a = b := fun e => u8_irr b (e ▸ h)
      simp [h, hn, he]
theorem sign_is (p q : Bool) : spinneyref01_sign.f p q = some (if p = true then -1 else if q = true then 1 else 0) := by
  unfold spinneyref01_sign.f
  cases p <;> cases q <;> rfl
theorem rd_at (l : List S24) (i : Nat) (h : i < l.length) : rd_T24 l (i : Int) = l[i] := by
  unfold rd_T24
  simp [List.getD_eq_getElem?_getD, h]
def CmpEv (a b : S24) : Prop := Ev (fun k => spinneyref01_Compare.f k a.f0 a.f1 a.f2 a.f3 b.f0 b.f1 b.f2 b.f3) (cmpV a b)
theorem cmp_loop (l m : List S24) (hl : l.length ≤ 9223372036854775807) (E : ∀ a ∈ l, ∀ b ∈ m, CmpEv a b) (x0 x1 : Int) (x2 : ByteArray) (y0 y1 : Int) (y2 : ByteArray) (d : Nat) :
    ∀ i : Nat, l.length - i = d → i ≤ l.length → i ≤ m.length → Ev (fun k => spinneyref01_Compare.l0 k (i : Int) x0 x1 x2 l y0 y1 y2 m) (cmpL (l.drop i) (m.drop i)) := by
  have last : ∀ (i : Nat) (r : Int), (if ((l.length : Int) < (m.length : Int)) then (-1 : Int) else if ((l.length : Int) > (m.length : Int)) then 1 else 0) = r → Ev (fun k => spinneyref01_Compare.j3 k (i : Int) false x0 x1 x2 l y0 y1 y2 m) r := by
    intro i r hr
    refine Ev.step (f := fun _ => some r) (fun k => ?_) (Ev.now _)
    simp only [spinneyref01_Compare.j3]
    rw [if_neg (by decide), sign_is, Option.bind_some]
    simp only [decide_eq_true_eq]
    rw [hr]
  induction d with
  | zero =>
    intro i hd h1 h2
    obtain rfl : i = l.length := by omega
    refine Ev.step (f := fun k => spinneyref01_Compare.j3 k (l.length : Int) false x0 x1 x2 l y0 y1 y2 m) (fun k => ?_) (last _ _ ?_)
    · simp only [spinneyref01_Compare.l0]
      rw [if_neg (by omega)]
    · rw [List.drop_length]
      by_cases hm : l.length < m.length
      · rw [if_pos (by omega), List.drop_eq_getElem_cons hm]
        simp only [cmpL]
      · rw [if_neg (by omega), if_neg (by omega), List.drop_eq_nil_of_le (by omega)]
        simp only [cmpL]
  | succ d ih =>
    intro i hd h1 h2
    have hi : i < l.length := by omega
    by_cases hm : i < m.length
    · refine Ev.step (f := fun k => spinneyref01_Compare.j3 k (i : Int) true x0 x1 x2 l y0 y1 y2 m) (fun k => ?_) ?_
      · simp only [spinneyref01_Compare.l0]
        rw [if_pos (by omega), show decide ((i : Int) < (m.length : Int)) = true from decide_eq_true (by omega)]
      · refine Ev.step (f := fun k => (spinneyref01_Compare.f k (l[i]).f0 (l[i]).f1 (l[i]).f2 (l[i]).f3 (m[i]).f0 (m[i]).f1 (m[i]).f2 (m[i]).f3).bind fun t => if t = 0 then spinneyref01_Compare.l0 k ((i + 1 : Nat) : Int) x0 x1 x2 l y0 y1 y2 m else some t) (fun k => ?_) ?_
        · simp only [spinneyref01_Compare.j3]
          rw [if_pos trivial, if_pos (by omega), if_pos (by omega), if_pos (by omega), rd_at l i hi, rd_at m i hm, show wrap64 ((i : Int) + 1) = ((i + 1 : Nat) : Int) by unfold wrap64; omega]
        · rw [List.drop_eq_getElem_cons hi, List.drop_eq_getElem_cons hm]
          simp only [cmpL]
          refine (E _ (List.getElem_mem hi) _ (List.getElem_mem hm)).bind (f := fun k t => if t = 0 then spinneyref01_Compare.l0 k ((i + 1 : Nat) : Int) x0 x1 x2 l y0 y1 y2 m else some t) ?_
          by_cases hz : cmpV l[i] m[i] = 0
          · rw [if_pos hz]
            exact Ev.congr (f := fun k => spinneyref01_Compare.l0 k ((i + 1 : Nat) : Int) x0 x1 x2 l y0 y1 y2 m) (fun k => if_pos hz) (ih (i + 1) (by omega) (by omega) (by omega))
          · rw [if_neg hz]
            exact Ev.congr (f := fun _ => some _) (fun k => if_neg hz) (Ev.now _)
    · refine Ev.step (f := fun k => spinneyref01_Compare.j3 k (i : Int) false x0 x1 x2 l y0 y1 y2 m) (fun k => ?_) (last _ _ ?_)
      · simp only [spinneyref01_Compare.l0]
        rw [if_pos (by omega), show decide ((i : Int) < (m.length : Int)) = false from decide_eq_false (by omega)]
      · rw [if_neg (by omega), if_pos (by omega), List.drop_eq_getElem_cons hi, show m.drop i = [] from List.drop_eq_nil_of_le (by omega)]
        simp only [cmpL]
theorem cmp_one (k n : Int) (t : ByteArray) (l : List S24) (hl : l.length ≤ 9223372036854775807) (b : S24) (E : ∀ a ∈ l, ∀ c ∈ b.f3, CmpEv a c) : CmpEv ⟨k, n, t, l⟩ b := by
  obtain ⟨k', n', t', m⟩ := b
  have j1t : Ev (fun i => spinneyref01_Compare.j1 i true k n t l k' n' t' m) (cmpL l m) := by
    refine Ev.step (f := fun i => spinneyref01_Compare.l0 i ((0 : Nat) : Int) k n t l k' n' t' m) (fun i => ?_) ?_
    · simp only [spinneyref01_Compare.j1, if_true]; rfl
    · have := cmp_loop l m hl E k n t k' n' t' l.length 0 (by omega) (by omega) (by omega)
      simpa using this
  unfold CmpEv
  simp only [cmpV]
  by_cases hk : k = k'
  · subst hk
    rw [if_pos rfl]
    by_cases h12 : k = 1 ∨ k = 2
    · rw [if_pos h12]
      refine Ev.step (f := fun i => spinneyref01_Compare.j0 i k true k n t l k n' t' m) (fun i => ?_) ?_
      · simp only [spinneyref01_Compare.f, if_true]
        rcases h12 with rfl | rfl
        · rfl
        · rfl
      · refine Ev.step (f := fun _ => some (cmpI n n')) (fun i => ?_) (Ev.now _)
        simp only [spinneyref01_Compare.j0, if_true]
        rw [sign_is, Option.bind_some]
        simp only [decide_eq_true_eq]
        rfl
    · rw [if_neg h12]
      refine Ev.step (f := fun i => spinneyref01_Compare.j0 i k false k n t l k n' t' m) (fun i => ?_) ?_
      · simp only [spinneyref01_Compare.f, if_true]
        rw [if_neg (by omega), beq_eq_false_iff_ne.2 (show k ≠ 2 by omega)]
      · by_cases h3 : k = 3
        · rw [if_pos h3]
          refine Ev.step (f := fun _ => some _) (fun i => ?_) (Ev.now _)
          simp only [spinneyref01_Compare.j0]
          rw [if_neg (by decide), if_pos h3, sign_is, Option.bind_some, cmp_less, ByteArray.toList_eq, ByteArray.toList_eq]
        · rw [if_neg h3]
          by_cases h4 : k = 4 ∨ k = 5 ∨ k = 6
          · rw [if_pos h4]
            refine Ev.step (f := fun i => spinneyref01_Compare.j1 i true k n t l k n' t' m) (fun i => ?_) j1t
            simp only [spinneyref01_Compare.j0]
            rw [if_neg (by decide), if_neg h3]
            rcases h4 with rfl | rfl | rfl
            · rfl
            · rfl
            · rfl
          · rw [if_neg h4]
            refine Ev.step (f := fun i => spinneyref01_Compare.j1 i false k n t l k n' t' m) (fun i => ?_) ?_
            · simp only [spinneyref01_Compare.j0]
              rw [if_neg (by decide), if_neg h3, if_neg (by omega), if_neg (by omega), beq_eq_false_iff_ne.2 (show k ≠ 6 by omega)]
            · refine Ev.step (f := fun _ => some _) (fun i => ?_) (Ev.now _)
              simp only [spinneyref01_Compare.j1]
              rw [if_neg (by decide)]
  · rw [if_neg hk]
    refine Ev.step (f := fun _ => some _) (fun i => ?_) (Ev.now _)
    simp only [spinneyref01_Compare.f]
    rw [if_neg hk, sign_is, Option.bind_some]
    unfold cmpI
    simp only [decide_eq_true_eq, if_true]
    by_cases hlt : k < k'
    · rw [if_pos hlt, if_pos hlt]
    · rw [if_neg hlt, if_neg hlt, if_pos (by omega)]
mutual
theorem cmp_ev : (a : S24) → WfV a → (b : S24) → CmpEv a b
  | ⟨k, n, t, l⟩, h, b => cmp_one k n t l (by simp only [WfV] at h; exact h.2.2.2.1) b (fun a ha c _ => cmp_evL l (by simp only [WfV] at h; exact h.2.2.2.2) a ha c)
theorem cmp_evL : (l : List S24) → WfL l → ∀ a ∈ l, ∀ b : S24, CmpEv a b
  | [], _, a, ha, _ => by cases ha
  | x :: l, h, a, ha, b => by
    rcases List.mem_cons.1 ha with e | ha
    · rw [e]; exact cmp_ev x (by simp only [WfL] at h; exact h.1) b
    · exact cmp_evL l (by simp only [WfL] at h; exact h.2) a ha b
end
end Go.Proofs.YtmebfblabccblaaDoor.XH
