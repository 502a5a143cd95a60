-- cut down by bundle.py (the session's own program) from the text YtmebfblabccblaaDoorPl8, to what this claim names
import Derived.Test.YtmebfblabccblaaDoorZHashMoreXH0
import Derived.Test.YtmebfblabccblaaDoorZHashMorePl7
import Derived.Test.YtmebfblabccblaaDoorZHashMoreXH13
namespace Go.Proofs.YtmebfblabccblaaDoor.XH
open Go.RowKit Go.Proofs.YtmebfblabccblaaDoorW.PrintWords Go.Proofs.YtmebfblabccblaaDoorW.PrintLast Go.Proofs.YtmebfblabccblaaDoorW.PrintMore
attribute [local go_sem] max2_int min2_int max_two min_two max_three min_three max_four min_four   -- for this text's walks alone
set_option linter.unusedVariables false
set_option linter.unusedSimpArgs false

theorem pow_nat (i : Nat) : (2 : Int) ^ i = ((2 ^ i : Nat) : Int) := by rw [Int.natCast_pow]; rfl
theorem pow_le32 (i : Nat) (h : i < 32) : (2 : Int) ^ i ≤ 2147483648 ∧ 1 ≤ (2 : Int) ^ i := by
  have h1 : 2 ^ i ≤ 2147483648 := Nat.le_trans (Nat.pow_le_pow_right (by decide) (show i ≤ 31 by omega)) (by decide)
  have h2 : 1 ≤ 2 ^ i := Nat.one_le_two_pow
  rw [pow_nat]
  omega
theorem shl_one (i : Nat) (h : i < 32) : shl .u32 1 (i : Int) = 2 ^ i := by
  unfold shl
  rw [Int.toNat_natCast, show IntKind.u32.bits = 32 from rfl, Nat.min_eq_left (by omega), Int.one_mul, IntKind.wrap_u32]
  have := pow_le32 i h
  omega
theorem mask_is (i : Nat) (h : i < 32) : (shl .u32 1 (i : Int) - 1) % 4294967296 = 2 ^ i - 1 := by
  rw [shl_one i h]
  have := pow_le32 i h
  omega
theorem andNot_is (a : Int) (ha : U32 a) (i : Nat) (h : i < 32) : Go.bits .andNot .u32 a (2 ^ i - 1) = a / 2 ^ i * 2 ^ i := by
  obtain ⟨n, rfl⟩ := Int.eq_ofNat_of_zero_le ha.1
  have hn : n < 2 ^ 32 := by have := ha.2; omega
  have hp : 2 ^ i ≤ 2 ^ 31 := Nat.pow_le_pow_right (by decide) (by omega)
  have h1 : 1 ≤ 2 ^ i := Nat.one_le_two_pow
  have e : ((2 : Int) ^ i - 1) = ((2 ^ i - 1 : Nat) : Int) := by rw [pow_nat]; omega
  rw [e]
  have key : (BitVec.ofNat 32 n &&& ~~~ BitVec.ofNat 32 (2 ^ i - 1)).toNat = n / 2 ^ i * 2 ^ i := by
    apply Nat.eq_of_testBit_eq
    intro j
    rw [show n / 2 ^ i * 2 ^ i = (n >>> i) <<< i by rw [Nat.shiftLeft_eq, Nat.shiftRight_eq_div_pow]]
    rw [Nat.testBit_shiftLeft, Nat.testBit_shiftRight]
    simp only [BitVec.testBit_toNat, BitVec.getLsbD_and, BitVec.getLsbD_not, BitVec.getLsbD_ofNat, Nat.testBit_two_pow_sub_one]
    by_cases hj : j < 32
    · by_cases hi : i ≤ j
      · simp [hj, hi, show ¬ j < i by omega]
      · simp [hj, hi, show j < i by omega]
    · have : n.testBit j = false := Nat.testBit_lt_two_pow (Nat.lt_of_lt_of_le hn (Nat.pow_le_pow_right (by decide) (by omega)))
      by_cases hi : i ≤ j
      · simp [hj, hi, show i + (j - i) = j by omega, this]
      · simp [hj, hi]
  unfold bits
  simp only [BitVec.ofInt_natCast]
  show IntKind.u32.wrap ((BitVec.ofNat 32 n &&& ~~~ BitVec.ofNat 32 (2 ^ i - 1)).toNat : Int) = _
  rw [key, IntKind.wrap_u32]
  have hle : n / 2 ^ i * 2 ^ i ≤ n := Nat.div_mul_le_self n _
  have : ((n / 2 ^ i * 2 ^ i : Nat) : Int) = (n : Int) / 2 ^ i * 2 ^ i := by rw [pow_nat, Int.natCast_mul, Int.natCast_ediv]
  rw [← this]
  omega
def leftZ (a h : Int) : Int := if a = 0 then h else if a < 32 then h % 2 ^ a.toNat else if a = 32 then 0 else h / 2 ^ (64 - a).toNat * 2 ^ (64 - a).toNat
theorem cut_is (a h : Int) (h0 : 0 ≤ a) (h1 : a ≤ 63) (hh : U32 h) : hash_cut.f a h = some (leftZ a h) := by
  unfold hash_cut.f leftZ
  by_cases c0 : a = 0
  · rw [if_pos c0, if_pos c0]
  rw [if_neg c0, if_neg c0]
  by_cases c1 : a < 32
  · rw [if_pos c1, if_pos c1, if_pos h0]
    obtain ⟨i, rfl⟩ := Int.eq_ofNat_of_zero_le h0
    rw [mask_is i (by omega), Int.toNat_natCast, bits_mask .u32 32 (by decide) wraps_u32 i (by omega) h hh.1 (by have := hh.2; omega)]
  rw [if_neg c1, if_neg c1]
  by_cases c2 : a = 32
  · rw [if_pos c2, if_pos c2]
  rw [if_neg c2, if_neg c2]
  have e : wrap64 (64 - a) = 64 - a := w64_ (by omega) (by omega)
  obtain ⟨i, hi⟩ := Int.eq_ofNat_of_zero_le (show 0 ≤ 64 - a by omega)
  rw [e, if_pos (by omega), hi, mask_is i (by omega), andNot_is h hh i (by omega), Int.toNat_natCast]
theorem left_is (a h : Int) (h0 : 0 ≤ a) (h1 : a ≤ 63) (hh : U32 h) : spinneyref04_Left.f a h = some (leftZ a h) := by
  unfold spinneyref04_Left.f leftZ
  by_cases c0 : a = 0
  · rw [if_pos c0, if_pos c0]
  rw [if_neg c0, if_neg c0]
  by_cases c1 : a < 32
  · rw [if_pos c1, if_pos c1, u64w a h0 (by omega), if_pos h0]
    obtain ⟨i, rfl⟩ := Int.eq_ofNat_of_zero_le h0
    have := pow_le32 i (by omega)
    rw [shl_one i (by omega), if_neg (by omega), Int.tmod_eq_emod_of_nonneg hh.1, Int.toNat_natCast]
  rw [if_neg c1, if_neg c1]
  by_cases c2 : a = 32
  · rw [if_pos c2, if_pos c2]
  rw [if_neg c2, if_neg c2]
  have e : wrap64 (64 - a) = 64 - a := w64_ (by omega) (by omega)
  obtain ⟨i, hi⟩ := Int.eq_ofNat_of_zero_le (show 0 ≤ 64 - a by omega)
  rw [e, u64w (64 - a) (by omega) (by omega), if_pos (by omega), hi, Int.toNat_natCast]
  have hp : (0 : Int) < 2 ^ i := Int.pow_pos (by decide)
  have e2 : shl .u32 (shr .u32 h (i : Int)) (i : Int) = h / 2 ^ i * 2 ^ i := by
    unfold shl shr
    rw [Int.toNat_natCast, show IntKind.u32.bits = 32 from rfl, Nat.min_eq_left (by omega), IntKind.wrap_u32]
    exact Int.emod_eq_of_lt (Int.mul_nonneg (Int.ediv_nonneg hh.1 (Int.le_of_lt hp)) (Int.le_of_lt hp)) (Int.lt_of_le_of_lt (Int.ediv_mul_le _ (Int.ne_of_gt hp)) hh.2)
  rw [e2]
theorem known_is (a : Int) : hash_known.f a = some (decide (0 ≤ a ∧ a ≤ 63)) := by
  unfold hash_known.f
  by_cases c : a ≥ 0
  · rw [if_pos c]; congr 1; exact decide_eq_decide.2 ⟨fun h => ⟨c, h⟩, fun h => h.2⟩
  · rw [if_neg c]; congr 1; exact (decide_eq_false (fun h => c h.1)).symm
theorem kind_is (a : Int) : spinneyref04_Kind.f a = some (decide (0 ≤ a ∧ a ≤ 63)) := by
  unfold spinneyref04_Kind.f
  by_cases c : a ≥ 0
  · rw [if_pos c]; congr 1; exact decide_eq_decide.2 ⟨fun h => ⟨c, h⟩, fun h => h.2⟩
  · rw [if_neg c]; congr 1; exact (decide_eq_false (fun h => c h.1)).symm
theorem of_ev (a k n : Int) (t : ByteArray) (l : List S24) (h : WfV ⟨k, n, t, l⟩) :
    (∃ r, (0 ≤ a ∧ a ≤ 63) ∧ U32 r ∧ RightV ⟨k, n, t, l⟩ ∧ (Ev (fun i => hashV (fun _ => hash_units.f) i ⟨k, n, t, l⟩) r) ∧ Ev (fun i => spinneyref01_Right.f i k n t l) true ∧ Ev (fun i => hash_Of.f i a k n t l) (leftZ a r, 0) ∧ Ev (fun i => spinneyref04_Of.f i a k n t l) (leftZ a r, 0) ∧ Ev (fun i => spinneyref04_Kinded.f i a k n t l) (leftZ a r)) ∨
    (∃ c, c ≠ 0 ∧ Ev (fun i => hash_Of.f i a k n t l) (0, c) ∧ Ev (fun i => spinneyref04_Of.f i a k n t l) (0, c) ∧ ((¬ (0 ≤ a ∧ a ≤ 63) ∧ c = 4) ∨ ((0 ≤ a ∧ a ≤ 63) ∧ c = 3 ∧ Ev (fun i => spinneyref01_Right.f i k n t l) false))) := by
  by_cases hk : 0 ≤ a ∧ a ≤ 63
  · have e1 : ∀ i, hash_Of.f i a k n t l = (hash_Full.f i k n t l).bind fun b => if b.2 = 0 then (hash_cut.f a b.1).bind fun x => some (x, 0) else some (0, b.2) := by
      intro i
      unfold hash_Of.f
      rw [known_is, Option.bind_some, decide_eq_true hk, if_pos rfl]
    have e2 : ∀ i, spinneyref04_Of.f i a k n t l = (spinneyref01_Right.f i k n t l).bind fun b => if b = true then (spinneyref04_Kinded.f i a k n t l).bind fun x => some (x, 0) else some (0, 3) := by
      intro i
      unfold spinneyref04_Of.f
      rw [kind_is, Option.bind_some, decide_eq_true hk, if_pos rfl]
    rcases full_ev k n t l h with ⟨r, hu, hr, hR, h1, h2, h3⟩ | ⟨hR, h1, h2⟩
    · have hK : Ev (fun i => spinneyref04_Kinded.f i a k n t l) (leftZ a r) := h3.bind (f := fun _ x => (spinneyref04_Left.f a x).bind fun y => some y) (Ev.congr (f := fun _ => some (leftZ a r)) (fun _ => by rw [left_is a r hk.1 hk.2 hu, Option.bind_some]) (Ev.now _))
      refine .inl ⟨r, hk, hu, hr, ?_, hR, ?_, ?_, hK⟩
      · obtain ⟨r', _, g1, g2⟩ := hash_ev _ hr
        have h3 : Ev (fun i => hashV spinneyref04_units.f i ⟨k, n, t, l⟩) r := h3
        obtain ⟨A, hA⟩ := g2
        obtain ⟨B, hB⟩ := h3
        have e := (hA (A + B) (by omega)).symm.trans (hB (A + B) (by omega))
        rw [← Option.some.inj e]; exact g1
      · refine Ev.congr e1 (h1.bind (f := fun _ b => if b.2 = 0 then (hash_cut.f a b.1).bind fun x => some (x, 0) else some (0, b.2)) (Ev.congr (f := fun _ => some (leftZ a r, 0)) (fun _ => ?_) (Ev.now _)))
        rw [if_pos rfl, cut_is a r hk.1 hk.2 hu, Option.bind_some]
      · refine Ev.congr e2 (hR.bind (f := fun i b => if b = true then (spinneyref04_Kinded.f i a k n t l).bind fun x => some (x, 0) else some (0, 3)) ?_)
        exact Ev.congr (f := fun i => (spinneyref04_Kinded.f i a k n t l).bind fun x => some (x, 0)) (fun _ => rfl) (hK.bind (f := fun _ x => some (x, 0)) (Ev.now _))
    · refine .inr ⟨3, by decide, ?_, ?_, .inr ⟨hk, rfl, hR⟩⟩
      · exact Ev.congr e1 (h1.bind (f := fun _ b => if b.2 = 0 then (hash_cut.f a b.1).bind fun x => some (x, 0) else some (0, b.2)) (Ev.congr (f := fun _ => some (0, 3)) (fun _ => rfl) (Ev.now _)))
      · exact Ev.congr e2 (hR.bind (f := fun i b => if b = true then (spinneyref04_Kinded.f i a k n t l).bind fun x => some (x, 0) else some (0, 3)) (Ev.now _))
  · refine .inr ⟨4, by decide, Ev.congr (f := fun _ => some (0, 4)) (fun i => ?_) (Ev.now _), Ev.congr (f := fun _ => some (0, 4)) (fun i => ?_) (Ev.now _), .inl ⟨hk, rfl⟩⟩
    · unfold hash_Of.f
      rw [known_is, Option.bind_some, decide_eq_false hk, if_neg (by decide)]
    · unfold spinneyref04_Of.f
      rw [kind_is, Option.bind_some, decide_eq_false hk, if_neg (by decide)]
end Go.Proofs.YtmebfblabccblaaDoor.XH
