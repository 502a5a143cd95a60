-- cut down by bundle.py (the session's own program) from the text YtmebfblabccblaaDoorPl6, to what this claim names
import Derived.Test.YtmebfblabccblaaDoorZHashMoreXH0
import Derived.Test.YtmebfblabccblaaDoorZHashMorePl5
import Derived.Test.YtmebfblabccblaaDoorZHashMorePl0
import Derived.Test.YtmebfblabccblaaDoorZHashMoreXH11
import Derived.Laws.BitsLemmas
namespace Go.Proofs.YtmebfblabccblaaDoor.XH
open Go.RowKit Go.Proofs.YtmebfblabccblaaDoorW.PrintWords Go.Proofs.YtmebfblabccblaaDoorW.PrintLast Go.Proofs.YtmebfblabccblaaDoorW.PrintMore
attribute [local go_sem] max2_int min2_int max_two min_two max_three min_three max_four min_four   -- for this text's walks alone
set_option linter.unusedVariables false
set_option linter.unusedSimpArgs false

theorem dec_fits (s : ByteArray) (p : Nat) (hp : p < s.size) (hb : ¬ badD (Utf8.decode s p)) : p + (Utf8.decode s p).2 ≤ s.size := by
  rw [Lib.decode_at] at hb ⊢
  have := (s.get! p).toNat_lt
  unfold Lib.decodeN badD at *
  revert hb
  repeat' split
  all_goals (intro hb; dsimp only at *; omega)
theorem some_pair {a w : Int} {c n : Nat} (h1 : a = (c : Int)) (h2 : w = (n : Int)) : some (a, w) = some (((c, n).1 : Int), ((c, n).2 : Int)) := by rw [h1, h2]
set_option maxHeartbeats 4000000 in
theorem code_is (x : ByteArray) (h : 0 < x.size) (hb : ¬ badD (Utf8.decode x 0)) : spinneyref04_code.f x = some (((Utf8.decode x 0).1 : Int), ((Utf8.decode x 0).2 : Int)) := by
  have hfit := dec_fits x 0 h hb
  rw [Lib.decode_at] at hb hfit ⊢
  have g0 : bt x 0 = (by_ x 0 : Int) := bt_by x 0
  have g1 : bt x 1 = (by_ x 1 : Int) := bt_by x 1
  have g2 : bt x 2 = (by_ x 2 : Int) := bt_by x 2
  have g3 : bt x 3 = (by_ x 3 : Int) := bt_by x 3
  have l0 := by_lt x 0
  have l1 := by_lt x 1
  have l2 := by_lt x 2
  have l3 := by_lt x 3
  unfold spinneyref04_code.f
  rw [g0, g1, g2, g3]
  simp only [Nat.zero_add, Nat.sub_zero] at *
  have q0 : (x.get! 0).toNat = by_ x 0 := rfl
  have q1 : (x.get! 1).toNat = by_ x 1 := rfl
  have q2 : (x.get! 2).toNat = by_ x 2 := rfl
  have q3 : (x.get! 3).toNat = by_ x 3 := rfl
  rw [q0, q1, q2, q3] at hb hfit ⊢
  generalize by_ x 0 = b0 at *
  generalize by_ x 1 = b1 at *
  generalize by_ x 2 = b2 at *
  generalize by_ x 3 = b3 at *
  have w0 : ∀ b : Nat, b < 256 → wrap64 (b : Int) = (b : Int) := fun b hb => w64 (by omega) (by omega)
  have tm : ∀ (b : Nat) (m : Int), Int.tmod (b : Int) m = (b : Int) % m := fun b m => Int.tmod_eq_emod_of_nonneg (by omega)
  rw [w0 b0 l0, w0 b1 l1, w0 b2 l2, w0 b3 l3]
  simp only [tm]
  rw [if_pos (show (0 : Int) < (x.size : Int) by omega)]
  unfold Lib.decodeN badD at *
  by_cases c0 : b0 < 128
  · rw [if_pos (show (b0 : Int) < 128 by omega), if_pos c0]; exact some_pair rfl rfl
  rw [if_neg c0] at hb hfit
  rw [if_neg (show ¬ (b0 : Int) < 128 by omega), if_neg c0]
  by_cases c1 : b0 / 32 = 6 ∧ (1 < x.size ∧ b1 / 64 = 2)
  · rw [if_pos c1] at hb hfit ⊢
    rw [if_pos (show (b0 : Int) < 224 by omega), if_pos (show (1 : Int) < (x.size : Int) by omega)]
    by_cases d : b0 % 32 * 64 + b1 % 64 ≥ 128
    · rw [if_pos d]
      exact some_pair (by rw [w64 (x := (b0 : Int) % 32 * 64) (by omega) (by omega), w64 (by omega) (by omega)]; omega) rfl
    · rw [if_neg d] at hb; exact absurd ⟨rfl, rfl⟩ hb
  rw [if_neg c1] at hb hfit ⊢
  by_cases c2 : b0 / 16 = 14 ∧ (1 < x.size ∧ b1 / 64 = 2) ∧ (2 < x.size ∧ b2 / 64 = 2)
  · rw [if_pos c2] at hb hfit ⊢
    rw [if_neg (show ¬ (b0 : Int) < 224 by omega), if_pos (show (b0 : Int) < 240 by omega), if_pos (show (1 : Int) < (x.size : Int) by omega), if_pos (show (2 : Int) < (x.size : Int) by omega)]
    split
    · exact some_pair (by rw [w64 (x := (b0 : Int) % 16 * 4096) (by omega) (by omega), w64 (x := (b1 : Int) % 64 * 64) (by omega) (by omega), w64 (x := (b0 : Int) % 16 * 4096 + (b1 : Int) % 64 * 64) (by omega) (by omega), w64 (by omega) (by omega)]; omega) rfl
    · next d => rw [if_neg d] at hb; exact absurd ⟨rfl, rfl⟩ hb
  rw [if_neg c2] at hb hfit ⊢
  by_cases c3 : b0 / 8 = 30 ∧ (1 < x.size ∧ b1 / 64 = 2) ∧ (2 < x.size ∧ b2 / 64 = 2) ∧ (3 < x.size ∧ b3 / 64 = 2)
  · rw [if_pos c3] at hb hfit ⊢
    rw [if_neg (show ¬ (b0 : Int) < 224 by omega), if_neg (show ¬ (b0 : Int) < 240 by omega), if_pos (show (1 : Int) < (x.size : Int) by omega), if_pos (show (2 : Int) < (x.size : Int) by omega), if_pos (show (3 : Int) < (x.size : Int) by omega)]
    split
    · exact some_pair (by rw [w64 (x := (b0 : Int) % 8 * 262144) (by omega) (by omega), w64 (x := (b1 : Int) % 64 * 4096) (by omega) (by omega), w64 (x := (b0 : Int) % 8 * 262144 + (b1 : Int) % 64 * 4096) (by omega) (by omega), w64 (x := (b2 : Int) % 64 * 64) (by omega) (by omega), w64 (x := (b0 : Int) % 8 * 262144 + (b1 : Int) % 64 * 4096 + (b2 : Int) % 64 * 64) (by omega) (by omega), w64 (by omega) (by omega)]; omega) rfl
    · next d => rw [if_neg d] at hb; exact absurd ⟨rfl, rfl⟩ hb
  · rw [if_neg c3] at hb; exact absurd ⟨rfl, rfl⟩ hb
theorem wraps_i32_ (n : Int) (h₀ : 0 ≤ n) (h₁ : n < 2 ^ 31) : IntKind.i32.wrap n = n := by rw [IntKind.wrap_i32]; omega
theorem u16w (n : Int) (h0 : 0 ≤ n) (h1 : n < 65536) : IntKind.u16.wrap n = n := by
  have e : IntKind.u16.wrap n = n % 65536 := by simp [IntKind.wrap, IntKind.bits, IntKind.signed]
  rw [e]; omega
theorem hi_is (c : Int) (h0 : 65536 ≤ c) (h1 : c ≤ 1114111) : Go.bits .or .i32 55296 ((c - 65536) / 1024) = 55296 + (c - 65536) / 1024 :=
  bits_join .i32 31 (by decide) wraps_i32_ 10 _ _ (by omega) (by omega) (by omega) (by omega) (by omega) (by omega)
theorem lo_is (c : Int) (h0 : 65536 ≤ c) (h1 : c ≤ 1114111) : Go.bits .or .i32 56320 (Go.bits .and .i32 (c - 65536) 1023) = 56320 + (c - 65536) % 1024 := by
  rw [show Go.bits .and .i32 (c - 65536) 1023 = (c - 65536) % 1024 from bits_mask .i32 31 (by decide) wraps_i32_ 10 (by decide) _ (by omega) (by omega)]
  exact bits_join .i32 31 (by decide) wraps_i32_ 10 _ _ (by omega) (by omega) (by omega) (by omega) (by omega) (by omega)
theorem extract_twice (s : ByteArray) (p n : Nat) (hp : p ≤ s.size) : (s.extract p s.size).extract n (s.extract p s.size).size = s.extract (p + n) s.size := by
  rw [ByteArray.extract_extract]
  congr 1
  simp [ByteArray.size_extract]
  omega
theorem units_ev (s : ByteArray) (hS : s.size ≤ 1024) (b : Nat) : ∀ (p : Nat) (acc : List Int), s.size ≤ p + b → p ≤ s.size → utfFrom s b p = true → acc.length ≤ 2 * p → Ev (fun k => spinneyref04_units.l0 k (s.extract p s.size) acc) (acc ++ unitsFrom s b p) := by
  have sz : ∀ p, p ≤ s.size → (s.extract p s.size).size = s.size - p := fun p hp => by simp [ByteArray.size_extract]
  have stop : ∀ (b p : Nat) (acc : List Int), p = s.size → Ev (fun k => spinneyref04_units.l0 k (s.extract p s.size) acc) (acc ++ unitsFrom s b p) := by
    intro b p acc h
    have e : unitsFrom s b p = [] := by cases b with
      | zero => simp only [unitsFrom]
      | succ b => simp only [unitsFrom]; rw [if_neg (by omega)]
    rw [e, List.append_nil]
    refine Ev.step (f := fun _ => some acc) (fun k => ?_) (Ev.now _)
    simp only [spinneyref04_units.l0]
    rw [if_neg (by rw [sz p (by omega)]; omega)]
  induction b with
  | zero => intro p acc h1 h2 _ _; exact stop 0 p acc (by omega)
  | succ b ih =>
    intro p acc h1 h2 hu ha
    by_cases hp : p < s.size
    · rw [utfFrom, if_pos hp] at hu
      have hnb : ¬ badD (Utf8.decode s p) := by
        rintro ⟨g1, g2⟩
        rw [if_pos ⟨g1, by rw [decodeGo_extract s p hp]; exact g2⟩] at hu
        cases hu
      rw [if_neg (fun h => hnb ⟨h.1, by rw [← decodeGo_extract s p hp]; exact h.2⟩)] at hu
      have hd := dec_le s p
      have hf := dec_fits s p hp hnb
      have hc := code_is (s.extract p s.size) (by rw [sz p h2]; omega) (by rw [decode_extract]; exact hnb)
      rw [decode_extract] at hc
      simp only [unitsFrom]
      rw [if_pos hp]
      have hsz := sz p h2
      have hex : (s.extract p s.size).extract (((Utf8.decode s p).2 : Int)).toNat (s.extract p s.size).size = s.extract (p + (Utf8.decode s p).2) s.size := by
        rw [Int.toNat_natCast]; exact extract_twice s p _ h2
      by_cases hbig : 65535 < (Utf8.decode s p).1
      · rw [if_pos hbig, hi_is _ (by omega) (by omega), lo_is _ (by omega) (by omega), ← List.append_assoc]
        refine Ev.step (f := fun k => spinneyref04_units.l0 k (s.extract (p + (Utf8.decode s p).2) s.size) (acc ++ [IntKind.u16.wrap (55296 + (((Utf8.decode s p).1 : Int) - 65536) / 1024), IntKind.u16.wrap (56320 + (((Utf8.decode s p).1 : Int) - 65536) % 1024)])) (fun k => ?_) (ih _ _ (by omega) hf hu (by simp; omega))
        simp only [spinneyref04_units.l0]
        rw [if_pos (by omega), hc, Option.bind_some, if_pos (by omega), if_pos (by omega), if_pos (by omega), Option.bind_some]
        have e1 : wrap64 (((Utf8.decode s p).1 : Int) - 65536) = ((Utf8.decode s p).1 : Int) - 65536 := w64 (by omega) (by omega)
        have e2 : Int.tdiv (((Utf8.decode s p).1 : Int) - 65536) 1024 = (((Utf8.decode s p).1 : Int) - 65536) / 1024 := Int.tdiv_eq_ediv_of_nonneg (by omega)
        have e3 : Int.tmod (((Utf8.decode s p).1 : Int) - 65536) 1024 = (((Utf8.decode s p).1 : Int) - 65536) % 1024 := Int.tmod_eq_emod_of_nonneg (by omega)
        rw [e1, e2, e3]
        have e4 : wrap64 ((((Utf8.decode s p).1 : Int) - 65536) / 1024) = (((Utf8.decode s p).1 : Int) - 65536) / 1024 := w64 (by omega) (by omega)
        have e5 : wrap64 (55296 + (((Utf8.decode s p).1 : Int) - 65536) / 1024) = 55296 + (((Utf8.decode s p).1 : Int) - 65536) / 1024 := w64 (by omega) (by omega)
        have e6 : wrap64 (56320 + (((Utf8.decode s p).1 : Int) - 65536) % 1024) = 56320 + (((Utf8.decode s p).1 : Int) - 65536) % 1024 := w64 (by omega) (by omega)
        rw [e4, e5, e6, if_pos (by simp only [List.length_cons, List.length_nil]; omega), hex]
      · rw [if_neg hbig, ← List.append_assoc]
        refine Ev.step (f := fun k => spinneyref04_units.l0 k (s.extract (p + (Utf8.decode s p).2) s.size) (acc ++ [((Utf8.decode s p).1 : Int)])) (fun k => ?_) (ih _ _ (by omega) hf hu (by simp only [List.length_append, List.length_cons, List.length_nil]; omega))
        simp only [spinneyref04_units.l0]
        rw [if_pos (by omega), hc, Option.bind_some, if_pos (by omega), if_pos (by omega), if_neg (by omega), if_pos (by omega), hex, u16w _ (by omega) (by omega)]
    · exact stop (b + 1) p acc (by omega)
theorem unitsw_ev (s : ByteArray) (hS : s.size ≤ 1024) (h : utfOk s = true) : Ev (fun k => spinneyref04_units.f k s) (unitsFrom s s.size 0) := by
  have := units_ev s hS s.size 0 [] (by omega) (by omega) h (by simp)
  rw [List.nil_append, show s.extract 0 s.size = s from ByteArray.extract_zero_size] at this
  exact this
end Go.Proofs.YtmebfblabccblaaDoor.XH
