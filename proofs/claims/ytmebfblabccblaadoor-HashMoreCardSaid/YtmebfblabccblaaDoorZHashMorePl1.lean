-- cut down by bundle.py (the session's own program) from the text YtmebfblabccblaaDoorPl1, to what this claim names
import Derived.Test.YtmebfblabccblaaDoorZHashMoreXH0
import Derived.Test.YtmebfblabccblaaDoorZHashMoreRk
import Derived.Test.YtmebfblabccblaaDoorZHashMoreXH7
namespace Go.Proofs.YtmebfblabccblaaDoor.XH
open Go.RowKit Go.Proofs.YtmebfblabccblaaDoorW.PrintWords Go.Proofs.YtmebfblabccblaaDoorW.PrintLast Go.Proofs.YtmebfblabccblaaDoorW.PrintMore
attribute [local go_sem] max2_int min2_int max_two min_two max_three min_three max_four min_four   -- for this text's walks alone
set_option linter.unusedVariables false
set_option linter.unusedSimpArgs false

theorem bt_get (s : ByteArray) (p : Nat) : bt s (p : Int) = ((s.get! p).toNat : Int) := by
  unfold bt
  by_cases h : p < s.size
  · rw [dif_pos (show ((p : Int)).toNat < s.size by simpa using h)]
    have e : s.get! p = s[p]'h := by
      obtain ⟨a⟩ := s
      show a[p]! = _
      exact getElem!_pos a p h
    rw [e]; simp
  · rw [dif_neg (show ¬ ((p : Int)).toNat < s.size by simpa using h)]
    have e : s.get! p = 0 := by
      obtain ⟨a⟩ := s
      show a[p]! = _
      exact getElem!_neg a p h
    rw [e]; rfl
def by_ (s : ByteArray) (p : Nat) : Nat := (s.get! p).toNat
theorem by_lt (s : ByteArray) (p : Nat) : by_ s p < 256 := (s.get! p).toNat_lt
theorem bt_by (s : ByteArray) (p : Nat) : bt s (p : Int) = (by_ s p : Int) := bt_get s p
theorem w64 {x : Int} (h0 : -9223372036854775808 ≤ x) (h1 : x ≤ 9223372036854775807) : wrap64 x = x := by unfold wrap64; omega
def rest_ (s : ByteArray) (p n j : Nat) : Nat → Bool
  | 0 => true
  | d + 1 => if j < n then (128 ≤ by_ s (p + j) && by_ s (p + j) ≤ 191 && rest_ s p n (j + 1) d) else true
theorem l0_ev (s : ByteArray) (p n : Nat) (hn : p + n ≤ s.size) (hS : s.size ≤ 4611686018427387904) (d : Nat) : ∀ j : Nat, n - j = d → j ≤ n → Ev (fun k => spinneyref01_utf.l0 k s (p : Int) (n : Int) (j : Int)) (if rest_ s p n j d = true then (n : Int) else 0) := by
  induction d with
  | zero =>
    intro j hd hj
    obtain rfl : j = n := by omega
    refine Ev.step (f := fun _ => some _) (fun k => ?_) (Ev.now _)
    simp only [spinneyref01_utf.l0, rest_, if_true]
    rw [if_neg (by omega)]
  | succ d ih =>
    intro j hd hj
    have hlt : j < n := by omega
    have e1 : wrap64 ((p : Int) + (j : Int)) = ((p + j : Nat) : Int) := by rw [w64 (by omega) (by omega)]; omega
    have e2 : wrap64 ((j : Int) + 1) = ((j + 1 : Nat) : Int) := by rw [w64 (by omega) (by omega)]; omega
    have hb := by_lt s (p + j)
    by_cases c1 : by_ s (p + j) < 128
    · have e : rest_ s p n j (d + 1) = false := by
        simp only [rest_]
        rw [if_pos hlt, show decide (128 ≤ by_ s (p + j)) = false from decide_eq_false (by omega)]; rfl
      rw [e, if_neg (by decide)]
      refine Ev.step (f := fun _ => some _) (fun k => ?_) (Ev.now _)
      simp only [spinneyref01_utf.l0]
      rw [e1, if_pos (by omega), if_pos (by omega), if_pos (by omega), bt_by, if_pos (by omega)]
    · by_cases c2 : by_ s (p + j) ≤ 191
      · have e : rest_ s p n j (d + 1) = rest_ s p n (j + 1) d := by
          conv => lhs; simp only [rest_]
          rw [if_pos hlt, show decide (128 ≤ by_ s (p + j)) = true from decide_eq_true (by omega), show decide (by_ s (p + j) ≤ 191) = true from decide_eq_true c2]; rfl
        rw [e]
        refine Ev.step (f := fun k => spinneyref01_utf.l0 k s (p : Int) (n : Int) ((j + 1 : Nat) : Int)) (fun k => ?_) (ih (j + 1) (by omega) (by omega))
        simp only [spinneyref01_utf.l0]
        rw [e1, if_pos (by omega), if_pos (by omega), if_pos (by omega), bt_by, if_neg (by omega), if_neg (by omega), e2]
      · have e : rest_ s p n j (d + 1) = false := by
          simp only [rest_]
          rw [if_pos hlt, show decide (by_ s (p + j) ≤ 191) = false from decide_eq_false c2]; simp
        rw [e, if_neg (by decide)]
        refine Ev.step (f := fun _ => some _) (fun k => ?_) (Ev.now _)
        simp only [spinneyref01_utf.l0]
        rw [e1, if_pos (by omega), if_pos (by omega), if_pos (by omega), bt_by, if_neg (by omega), if_pos (by omega)]
def chk (s : ByteArray) (p n lo hi : Nat) : Nat := if s.size < p + n then 0 else if by_ s (p + 1) < lo ∨ hi < by_ s (p + 1) then 0 else if rest_ s p n 2 (n - 2) = true then n else 0
theorem j3_ev (s : ByteArray) (p n lo hi : Nat) (h2 : 2 ≤ n) (hn4 : n ≤ 4) (hp : p < s.size) (hS : s.size ≤ 4611686018427387904) : Ev (fun k => spinneyref01_utf.j3 k s (p : Int) (n : Int) (lo : Int) (hi : Int)) (chk s p n lo hi : Int) := by
  have e1 : wrap64 ((p : Int) + (n : Int)) = ((p + n : Nat) : Int) := by rw [w64 (by omega) (by omega)]; omega
  have e2 : wrap64 ((p : Int) + 1) = ((p + 1 : Nat) : Int) := by rw [w64 (by omega) (by omega)]; omega
  have jt : Ev (fun k => spinneyref01_utf.j4 k s (p : Int) (n : Int) true) 0 := Ev.step (f := fun _ => some 0) (fun k => by simp only [spinneyref01_utf.j4, if_true]) (Ev.now _)
  unfold chk
  by_cases c1 : s.size < p + n
  · refine Ev.step (f := fun k => spinneyref01_utf.j4 k s (p : Int) (n : Int) true) (fun k => ?_) ?_
    · simp only [spinneyref01_utf.j3]
      rw [e1, if_pos (by omega)]
    · rw [if_pos c1]; exact jt
  · rw [if_neg c1]
    by_cases c2 : by_ s (p + 1) < lo
    · refine Ev.step (f := fun k => spinneyref01_utf.j4 k s (p : Int) (n : Int) true) (fun k => ?_) ?_
      · simp only [spinneyref01_utf.j3]
        rw [e1, e2, if_neg (by omega), if_pos (by omega), if_pos (by omega), bt_by, if_pos (by omega)]
      · rw [if_pos (.inl c2)]; exact jt
    · by_cases c3 : hi < by_ s (p + 1)
      · refine Ev.step (f := fun k => spinneyref01_utf.j4 k s (p : Int) (n : Int) true) (fun k => ?_) ?_
        · simp only [spinneyref01_utf.j3]
          rw [e1, e2, if_neg (by omega), if_pos (by omega), if_pos (by omega), bt_by, if_neg (by omega), show decide ((by_ s (p + 1) : Int) > (hi : Int)) = true from decide_eq_true (by omega)]
        · rw [if_pos (.inr c3)]; exact jt
      · refine Ev.step (f := fun k => spinneyref01_utf.j4 k s (p : Int) (n : Int) false) (fun k => ?_) ?_
        · simp only [spinneyref01_utf.j3]
          rw [e1, e2, if_neg (by omega), if_pos (by omega), if_pos (by omega), bt_by, if_neg (by omega), show decide ((by_ s (p + 1) : Int) > (hi : Int)) = false from decide_eq_false (by omega)]
        · rw [if_neg (by omega)]
          have := l0_ev s p n (by omega) hS (n - 2) 2 rfl h2
          refine Ev.step (f := fun k => spinneyref01_utf.l0 k s (p : Int) (n : Int) 2) (fun k => by simp only [spinneyref01_utf.j4]; rfl) ?_
          have e : (if rest_ s p n 2 (n - 2) = true then (n : Int) else 0) = ((if rest_ s p n 2 (n - 2) = true then n else 0 : Nat) : Int) := by split <;> rfl
          rw [← e]; exact this
def utfN (s : ByteArray) (p : Nat) : Nat :=
  if by_ s p < 128 then 1
  else if 194 ≤ by_ s p ∧ by_ s p ≤ 223 then chk s p 2 128 191
  else if by_ s p = 224 then chk s p 3 160 191
  else if by_ s p = 237 then chk s p 3 128 159
  else if 224 ≤ by_ s p ∧ by_ s p ≤ 239 then chk s p 3 128 191
  else if by_ s p = 240 then chk s p 4 144 191
  else if by_ s p = 244 then chk s p 4 128 143
  else if 240 ≤ by_ s p ∧ by_ s p ≤ 244 then chk s p 4 128 191
  else 0
theorem utf_ev (s : ByteArray) (p : Nat) (hp : p < s.size) (hS : s.size ≤ 4611686018427387904) : Ev (fun k => spinneyref01_utf.f k s (p : Int)) (utfN s p : Int) := by
  have hb := by_lt s p
  have j2 : ∀ n : Nat, 2 ≤ n → n ≤ 4 → ∀ x : Nat, x = by_ s p → Ev (fun k => spinneyref01_utf.j2 k s (p : Int) (x : Int) (n : Int) 128 191) ((if x = 224 then chk s p n 160 191 else if x = 237 then chk s p n 128 159 else if x = 240 then chk s p n 144 191 else if x = 244 then chk s p n 128 143 else chk s p n 128 191 : Nat) : Int) := by
    intro n h2 h4 x hx
    by_cases c1 : x = 224
    · exact Ev.step (f := fun k => spinneyref01_utf.j3 k s (p : Int) (n : Int) ((160 : Nat) : Int) ((191 : Nat) : Int)) (fun k => by simp only [spinneyref01_utf.j2]; rw [if_pos (by omega)]; rfl) (by rw [if_pos c1]; exact j3_ev s p n 160 191 h2 h4 hp hS)
    by_cases c2 : x = 237
    · exact Ev.step (f := fun k => spinneyref01_utf.j3 k s (p : Int) (n : Int) ((128 : Nat) : Int) ((159 : Nat) : Int)) (fun k => by simp only [spinneyref01_utf.j2]; rw [if_neg (by omega), if_pos (by omega)]; rfl) (by rw [if_neg c1, if_pos c2]; exact j3_ev s p n 128 159 h2 h4 hp hS)
    by_cases c3 : x = 240
    · exact Ev.step (f := fun k => spinneyref01_utf.j3 k s (p : Int) (n : Int) ((144 : Nat) : Int) ((191 : Nat) : Int)) (fun k => by simp only [spinneyref01_utf.j2]; rw [if_neg (by omega), if_neg (by omega), if_pos (by omega)]; rfl) (by rw [if_neg c1, if_neg c2, if_pos c3]; exact j3_ev s p n 144 191 h2 h4 hp hS)
    by_cases c4 : x = 244
    · exact Ev.step (f := fun k => spinneyref01_utf.j3 k s (p : Int) (n : Int) ((128 : Nat) : Int) ((143 : Nat) : Int)) (fun k => by simp only [spinneyref01_utf.j2]; rw [if_neg (by omega), if_neg (by omega), if_neg (by omega), if_pos (by omega)]; rfl) (by rw [if_neg c1, if_neg c2, if_neg c3, if_pos c4]; exact j3_ev s p n 128 143 h2 h4 hp hS)
    · exact Ev.step (f := fun k => spinneyref01_utf.j3 k s (p : Int) (n : Int) ((128 : Nat) : Int) ((191 : Nat) : Int)) (fun k => by simp only [spinneyref01_utf.j2]; rw [if_neg (by omega), if_neg (by omega), if_neg (by omega), if_neg (by omega)]; rfl) (by rw [if_neg c1, if_neg c2, if_neg c3, if_neg c4]; exact j3_ev s p n 128 191 h2 h4 hp hS)
  have hd : ∀ k, spinneyref01_utf.f k s (p : Int) = if (by_ s p : Int) < 128 then some 1 else if (by_ s p : Int) ≥ 194 then spinneyref01_utf.j0 k s (p : Int) (by_ s p : Int) 128 191 (decide ((by_ s p : Int) ≤ 223)) else spinneyref01_utf.j0 k s (p : Int) (by_ s p : Int) 128 191 false := by
    intro k
    unfold spinneyref01_utf.f
    rw [if_pos (by omega), if_pos (by omega), bt_by]
  refine Ev.congr hd ?_
  unfold utfN
  by_cases c1 : by_ s p < 128
  · rw [if_pos c1]; exact Ev.congr (f := fun _ => some 1) (fun k => by rw [if_pos (by omega)]) (Ev.now _)
  rw [if_neg c1]
  by_cases c2 : 194 ≤ by_ s p ∧ by_ s p ≤ 223
  · rw [if_pos c2]
    refine Ev.congr (f := fun k => spinneyref01_utf.j0 k s (p : Int) (by_ s p : Int) 128 191 true) (fun k => by rw [if_neg (by omega), if_pos (by omega), show decide ((by_ s p : Int) ≤ 223) = true from decide_eq_true (by omega)]) ?_
    have := j2 2 (by omega) (by omega) _ rfl
    rw [if_neg (by omega), if_neg (by omega), if_neg (by omega), if_neg (by omega)] at this
    exact Ev.step (f := fun k => spinneyref01_utf.j2 k s (p : Int) (by_ s p : Int) 2 128 191) (fun k => by simp only [spinneyref01_utf.j0, if_true]) this
  rw [if_neg c2]
  have j0f : ∀ r : Int, Ev (fun k => if (by_ s p : Int) ≥ 224 then spinneyref01_utf.j1 k s (p : Int) (by_ s p : Int) 128 191 (decide ((by_ s p : Int) ≤ 239)) else spinneyref01_utf.j1 k s (p : Int) (by_ s p : Int) 128 191 false) r →
      Ev (fun k => if (by_ s p : Int) < 128 then some 1 else if (by_ s p : Int) ≥ 194 then spinneyref01_utf.j0 k s (p : Int) (by_ s p : Int) 128 191 (decide ((by_ s p : Int) ≤ 223)) else spinneyref01_utf.j0 k s (p : Int) (by_ s p : Int) 128 191 false) r := by
    intro r h
    refine Ev.congr (f := fun k => spinneyref01_utf.j0 k s (p : Int) (by_ s p : Int) 128 191 false) (fun k => ?_) ?_
    · rw [if_neg (by omega)]
      by_cases c : (by_ s p : Int) ≥ 194
      · rw [if_pos c, show decide ((by_ s p : Int) ≤ 223) = false from decide_eq_false (by omega)]
      · rw [if_neg c]
    · exact Ev.step (fun k => by simp only [spinneyref01_utf.j0]; rfl) h
  refine j0f _ ?_
  by_cases c3 : 224 ≤ by_ s p ∧ by_ s p ≤ 239
  · refine Ev.congr (f := fun k => spinneyref01_utf.j1 k s (p : Int) (by_ s p : Int) 128 191 true) (fun k => by rw [if_pos (by omega), show decide ((by_ s p : Int) ≤ 239) = true from decide_eq_true (by omega)]) ?_
    have := j2 3 (by omega) (by omega) _ rfl
    rw [if_neg (c := by_ s p = 240) (by omega), if_neg (c := by_ s p = 244) (by omega)] at this
    rw [if_pos c3]
    exact Ev.step (f := fun k => spinneyref01_utf.j2 k s (p : Int) (by_ s p : Int) 3 128 191) (fun k => by simp only [spinneyref01_utf.j1, if_true]) this
  rw [if_neg (show ¬ by_ s p = 224 by omega), if_neg (show ¬ by_ s p = 237 by omega), if_neg c3]
  refine Ev.congr (f := fun k => spinneyref01_utf.j1 k s (p : Int) (by_ s p : Int) 128 191 false) (fun k => ?_) ?_
  · by_cases c : (by_ s p : Int) ≥ 224
    · rw [if_pos c, show decide ((by_ s p : Int) ≤ 239) = false from decide_eq_false (by omega)]
    · rw [if_neg c]
  by_cases c4 : 240 ≤ by_ s p ∧ by_ s p ≤ 244
  · have := j2 4 (by omega) (by omega) _ rfl
    rw [if_neg (c := by_ s p = 224) (by omega), if_neg (c := by_ s p = 237) (by omega)] at this
    rw [if_pos c4]
    exact Ev.step (f := fun k => spinneyref01_utf.j2 k s (p : Int) (by_ s p : Int) 4 128 191) (fun k => by simp only [spinneyref01_utf.j1]; rw [if_neg (by decide), if_pos (by omega), if_pos (by omega)]) this
  · rw [if_neg (show ¬ by_ s p = 240 by omega), if_neg (show ¬ by_ s p = 244 by omega), if_neg c4]
    refine Ev.step (f := fun _ => some 0) (fun k => ?_) (Ev.now _)
    simp only [spinneyref01_utf.j1]
    rw [if_neg (by decide)]
    by_cases c : (by_ s p : Int) ≥ 240
    · rw [if_pos c, if_neg (by omega)]
    · rw [if_neg c]
end Go.Proofs.YtmebfblabccblaaDoor.XH
