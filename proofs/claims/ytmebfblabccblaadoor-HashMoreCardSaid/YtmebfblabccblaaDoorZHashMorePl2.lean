-- cut down by bundle.py (the session's own program) from the text YtmebfblabccblaaDoorPl2, to what this claim names
import Derived.Test.YtmebfblabccblaaDoorZHashMoreXH0
import Derived.Test.YtmebfblabccblaaDoorZHashMorePl1
import Derived.Test.YtmebfblabccblaaDoorZHashMoreXH8
import Derived.Test.YtmebfblabccblaaDoorZHashMoreXH1
import Derived.Lib.DecodeN
namespace Go.Proofs.YtmebfblabccblaaDoor.XH
open Go.RowKit Go.Proofs.YtmebfblabccblaaDoorW.PrintWords Go.Proofs.YtmebfblabccblaaDoorW.PrintLast Go.Proofs.YtmebfblabccblaaDoorW.PrintMore
attribute [local go_sem] max2_int min2_int max_two min_two max_three min_three max_four min_four   -- for this text's walks alone
set_option linter.unusedVariables false
set_option linter.unusedSimpArgs false

def chkN (m b1 b2 b3 n lo hi : Nat) : Nat := if m < n then 0 else if b1 < lo ∨ hi < b1 then 0 else if n ≥ 3 ∧ ¬ (128 ≤ b2 ∧ b2 ≤ 191) then 0 else if n ≥ 4 ∧ ¬ (128 ≤ b3 ∧ b3 ≤ 191) then 0 else n
theorem chk_two (s : ByteArray) (p lo hi : Nat) (hp : p < s.size) : chk s p 2 lo hi = chkN (s.size - p) (by_ s (p + 1)) (by_ s (p + 2)) (by_ s (p + 3)) 2 lo hi := by
  unfold chk chkN
  rw [show (if rest_ s p 2 2 (2 - 2) = true then (2 : Nat) else 0) = 2 from rfl]
  repeat' split
  all_goals omega
theorem chk_three (s : ByteArray) (p lo hi : Nat) (hp : p < s.size) : chk s p 3 lo hi = chkN (s.size - p) (by_ s (p + 1)) (by_ s (p + 2)) (by_ s (p + 3)) 3 lo hi := by
  unfold chk chkN
  have e : (rest_ s p 3 2 (3 - 2) = true) = (128 ≤ by_ s (p + 2) ∧ by_ s (p + 2) ≤ 191) := by
    show (rest_ s p 3 2 (0 + 1) = true) = _
    simp only [rest_]
    rw [if_pos (by decide)]
    simp only [Bool.and_true, Bool.and_eq_true, decide_eq_true_eq]
  rw [show (if rest_ s p 3 2 (3 - 2) = true then (3 : Nat) else 0) = if (128 ≤ by_ s (p + 2) ∧ by_ s (p + 2) ≤ 191) then 3 else 0 from by simp only [e]]
  repeat' split
  all_goals omega
theorem chk_four (s : ByteArray) (p lo hi : Nat) (hp : p < s.size) : chk s p 4 lo hi = chkN (s.size - p) (by_ s (p + 1)) (by_ s (p + 2)) (by_ s (p + 3)) 4 lo hi := by
  unfold chk chkN
  have e : (rest_ s p 4 2 (4 - 2) = true) = ((128 ≤ by_ s (p + 2) ∧ by_ s (p + 2) ≤ 191) ∧ (128 ≤ by_ s (p + 3) ∧ by_ s (p + 3) ≤ 191)) := by
    show (rest_ s p 4 2 (0 + 1 + 1) = true) = _
    simp only [rest_]
    rw [if_pos (by decide), if_pos (by decide)]
    simp only [Bool.and_true, Bool.and_eq_true, decide_eq_true_eq]
  rw [show (if rest_ s p 4 2 (4 - 2) = true then (4 : Nat) else 0) = if ((128 ≤ by_ s (p + 2) ∧ by_ s (p + 2) ≤ 191) ∧ (128 ≤ by_ s (p + 3) ∧ by_ s (p + 3) ≤ 191)) then 4 else 0 from by simp only [e]]
  repeat' split
  all_goals omega
def utfB (m b0 b1 b2 b3 : Nat) : Nat :=
  if b0 < 128 then 1
  else if 194 ≤ b0 ∧ b0 ≤ 223 then chkN m b1 b2 b3 2 128 191
  else if b0 = 224 then chkN m b1 b2 b3 3 160 191
  else if b0 = 237 then chkN m b1 b2 b3 3 128 159
  else if 224 ≤ b0 ∧ b0 ≤ 239 then chkN m b1 b2 b3 3 128 191
  else if b0 = 240 then chkN m b1 b2 b3 4 144 191
  else if b0 = 244 then chkN m b1 b2 b3 4 128 143
  else if 240 ≤ b0 ∧ b0 ≤ 244 then chkN m b1 b2 b3 4 128 191
  else 0
theorem utfN_B (s : ByteArray) (p : Nat) (hp : p < s.size) : utfN s p = utfB (s.size - p) (by_ s p) (by_ s (p + 1)) (by_ s (p + 2)) (by_ s (p + 3)) := by
  unfold utfN utfB
  simp only [chk_two s p _ _ hp, chk_three s p _ _ hp, chk_four s p _ _ hp]
def badD (d : Nat × Nat) : Prop := d.1 = 65533 ∧ d.2 = 1
set_option maxHeartbeats 4000000 in
theorem utfB_dec (m b0 b1 b2 b3 : Nat) (h0 : b0 < 256) (h1 : b1 < 256) (h2 : b2 < 256) (h3 : b3 < 256) :
    (utfB m b0 b1 b2 b3 = 0 ∧ badD (Lib.decodeN m b0 b1 b2 b3)) ∨ (utfB m b0 b1 b2 b3 = (Lib.decodeN m b0 b1 b2 b3).2 ∧ 0 < utfB m b0 b1 b2 b3 ∧ ¬ badD (Lib.decodeN m b0 b1 b2 b3)) := by
  unfold utfB Lib.decodeN badD
  by_cases c0 : b0 < 128
  · rw [if_pos c0, if_pos c0]; exact .inr ⟨rfl, by omega, fun h => by have : b0 = 65533 := h.1; omega⟩
  simp only [if_neg c0]
  by_cases c1 : b0 / 32 = 6
  · rw [if_neg (show ¬ b0 = 224 by omega), if_neg (show ¬ b0 = 237 by omega), if_neg (show ¬ (224 ≤ b0 ∧ b0 ≤ 239) by omega), if_neg (show ¬ b0 = 240 by omega), if_neg (show ¬ b0 = 244 by omega), if_neg (show ¬ (240 ≤ b0 ∧ b0 ≤ 244) by omega)]
    rw [if_neg (show ¬ (b0 / 16 = 14 ∧ (1 < m ∧ b1 / 64 = 2) ∧ (2 < m ∧ b2 / 64 = 2)) by omega), if_neg (show ¬ (b0 / 8 = 30 ∧ (1 < m ∧ b1 / 64 = 2) ∧ (2 < m ∧ b2 / 64 = 2) ∧ (3 < m ∧ b3 / 64 = 2)) by omega)]
    unfold chkN
    repeat' split
    all_goals (dsimp only at *; omega)
  rw [if_neg (show ¬ (194 ≤ b0 ∧ b0 ≤ 223) by omega), if_neg (show ¬ (b0 / 32 = 6 ∧ (1 < m ∧ b1 / 64 = 2)) by omega)]
  by_cases c2 : b0 / 16 = 14
  · rw [if_neg (show ¬ b0 = 240 by omega), if_neg (show ¬ b0 = 244 by omega), if_neg (show ¬ (240 ≤ b0 ∧ b0 ≤ 244) by omega)]
    rw [if_neg (show ¬ (b0 / 8 = 30 ∧ (1 < m ∧ b1 / 64 = 2) ∧ (2 < m ∧ b2 / 64 = 2) ∧ (3 < m ∧ b3 / 64 = 2)) by omega), if_pos (show 224 ≤ b0 ∧ b0 ≤ 239 by omega)]
    unfold chkN
    by_cases k1 : b0 = 224
    · subst k1
      repeat' split
      all_goals (dsimp only at *; omega)
    rw [if_neg k1]
    by_cases k2 : b0 = 237
    · subst k2
      repeat' split
      all_goals (dsimp only at *; omega)
    rw [if_neg k2]
    repeat' split
    all_goals (dsimp only at *; omega)
  rw [if_neg (show ¬ b0 = 224 by omega), if_neg (show ¬ b0 = 237 by omega), if_neg (show ¬ (224 ≤ b0 ∧ b0 ≤ 239) by omega), if_neg (show ¬ (b0 / 16 = 14 ∧ (1 < m ∧ b1 / 64 = 2) ∧ (2 < m ∧ b2 / 64 = 2)) by omega)]
  by_cases c3 : b0 / 8 = 30
  · unfold chkN
    by_cases k1 : b0 = 240
    · subst k1
      repeat' split
      all_goals (dsimp only at *; omega)
    rw [if_neg k1]
    by_cases k2 : b0 = 244
    · subst k2
      repeat' split
      all_goals (dsimp only at *; omega)
    rw [if_neg k2]
    repeat' split
    all_goals (dsimp only at *; omega)
  · rw [if_neg (show ¬ b0 = 240 by omega), if_neg (show ¬ b0 = 244 by omega), if_neg (show ¬ (240 ≤ b0 ∧ b0 ≤ 244) by omega), if_neg (show ¬ (b0 / 8 = 30 ∧ (1 < m ∧ b1 / 64 = 2) ∧ (2 < m ∧ b2 / 64 = 2) ∧ (3 < m ∧ b3 / 64 = 2)) by omega)]
    left; exact ⟨rfl, rfl, rfl⟩
theorem utfN_dec (s : ByteArray) (p : Nat) (hp : p < s.size) : (utfN s p = 0 ∧ badD (Utf8.decode s p)) ∨ (utfN s p = (Utf8.decode s p).2 ∧ 0 < utfN s p ∧ ¬ badD (Utf8.decode s p)) := by
  rw [utfN_B s p hp, Lib.decode_at]
  exact utfB_dec _ _ _ _ _ (by_lt ..) (by_lt ..) (by_lt ..) (by_lt ..)
theorem get_extract (s : ByteArray) (p k : Nat) : (s.extract p s.size).get! k = s.get! (p + k) := by
  have hs : (s.extract p s.size).size = s.size - p := by simp [ByteArray.size_extract]
  have g : ∀ (t : ByteArray) (i : Nat), t.get! i = if h : i < t.size then t[i]'h else 0 := by
    intro t i
    obtain ⟨a⟩ := t
    show a[i]! = _
    split
    · next h => exact getElem!_pos a i h
    · next h => exact getElem!_neg a i h
  rw [g, g]
  by_cases h : p + k < s.size
  · rw [dif_pos (show k < (s.extract p s.size).size by omega), dif_pos h]
    simp [ByteArray.getElem_extract]
  · rw [dif_neg (show ¬ k < (s.extract p s.size).size by omega), dif_neg h]
theorem decode_extract (s : ByteArray) (p : Nat) : Utf8.decode (s.extract p s.size) 0 = Utf8.decode s p := by
  rw [Lib.decode_at, Lib.decode_at]
  simp only [get_extract, Nat.add_zero]
  rw [show (s.extract p s.size).size - 0 = s.size - p by simp [ByteArray.size_extract]]
theorem decodeGo_extract (s : ByteArray) (p : Nat) (hp : p < s.size) : Lib.decodeGo (s.extract p s.size) = Utf8.decode s p := by
  unfold Lib.decodeGo
  rw [if_neg (by simp [ByteArray.size_extract]; omega), decode_extract]
theorem dec_le (s : ByteArray) (p : Nat) : 1 ≤ (Utf8.decode s p).2 ∧ (Utf8.decode s p).2 ≤ 4 ∧ (Utf8.decode s p).1 ≤ 1114111 := by
  rw [Lib.decode_at]
  have := (s.get! p).toNat_lt
  unfold Lib.decodeN
  repeat' split
  all_goals (simp only; omega)
theorem letters_ev (s : ByteArray) (hS : s.size ≤ 4611686018427387904) (b : Nat) : ∀ (p c : Nat), s.size ≤ p + b → p ≤ s.size + 4 → c ≤ p → ∃ r : Int, Ev (fun k => spinneyref01_Letters.l0 k s (c : Int) (p : Int)) r ∧ (r ≥ 0 ↔ utfFrom s b p = true) := by
  induction b with
  | zero =>
    intro p c h1 h2 h3
    refine ⟨(c : Int), Ev.step (f := fun _ => some (c : Int)) (fun k => ?_) (Ev.now _), by simp [utfFrom]⟩
    simp only [spinneyref01_Letters.l0]
    rw [if_neg (by omega)]
  | succ b ih =>
    intro p c h1 h2 h3
    by_cases hp : p < s.size
    · have hd := dec_le s p
      have hu := utf_ev s p hp hS
      rcases utfN_dec s p hp with ⟨e, hb⟩ | ⟨e, h0, hb⟩
      · refine ⟨-1, ?_, ?_⟩
        · refine Ev.step (f := fun k => (spinneyref01_utf.f k s (p : Int)).bind fun t158 => if t158 = 0 then some (-1) else spinneyref01_Letters.l0 k s (wrap64 ((c : Int) + 1)) (wrap64 ((p : Int) + t158))) (fun k => ?_) ?_
          · simp only [spinneyref01_Letters.l0]
            rw [if_pos (by omega)]
          · rw [e] at hu
            exact hu.bind (f := fun k t158 => if t158 = 0 then some (-1) else spinneyref01_Letters.l0 k s (wrap64 ((c : Int) + 1)) (wrap64 ((p : Int) + t158))) (Ev.congr (f := fun _ => some (-1)) (fun k => if_pos rfl) (Ev.now _))
        · rw [utfFrom, if_pos hp, if_pos ⟨hb.1, by rw [decodeGo_extract s p hp]; exact hb.2⟩]
          constructor
          · intro h; omega
          · intro h; cases h
      · obtain ⟨r, hr, hi⟩ := ih (p + (Utf8.decode s p).2) (c + 1) (by omega) (by omega) (by omega)
        refine ⟨r, ?_, ?_⟩
        · refine Ev.step (f := fun k => (spinneyref01_utf.f k s (p : Int)).bind fun t158 => if t158 = 0 then some (-1) else spinneyref01_Letters.l0 k s (wrap64 ((c : Int) + 1)) (wrap64 ((p : Int) + t158))) (fun k => ?_) ?_
          · simp only [spinneyref01_Letters.l0]
            rw [if_pos (by omega)]
          · refine hu.bind (f := fun k t158 => if t158 = 0 then some (-1) else spinneyref01_Letters.l0 k s (wrap64 ((c : Int) + 1)) (wrap64 ((p : Int) + t158))) ?_
            rw [e]
            refine Ev.congr (f := fun k => spinneyref01_Letters.l0 k s ((c + 1 : Nat) : Int) ((p + (Utf8.decode s p).2 : Nat) : Int)) (fun k => ?_) hr
            rw [if_neg (by omega), w64 (by omega) (by omega), w64 (by omega) (by omega)]
            rfl
        · rw [hi]
          rw [utfFrom, if_pos hp, if_neg]
          rintro ⟨g1, g2⟩
          rw [decodeGo_extract s p hp] at g2
          exact hb ⟨g1, g2⟩
    · refine ⟨(c : Int), Ev.step (f := fun _ => some (c : Int)) (fun k => ?_) (Ev.now _), by simp [utfFrom, hp]⟩
      simp only [spinneyref01_Letters.l0]
      rw [if_neg (by omega)]
theorem lettersw_ev (s : ByteArray) (hS : s.size ≤ 4611686018427387904) : ∃ r : Int, Ev (fun k => spinneyref01_Letters.f k s) r ∧ (r ≥ 0 ↔ utfOk s = true) := letters_ev s hS s.size 0 0 (by omega) (by omega) (by omega)
end Go.Proofs.YtmebfblabccblaaDoor.XH
