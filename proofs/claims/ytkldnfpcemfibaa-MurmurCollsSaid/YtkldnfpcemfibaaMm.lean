/- Plain facts on words of 32 bits: rotations, products, shifted sums. No condition beyond those typed. -/
import Derived.Test.YtkldnfpcemfibaaWMore
import Derived.Laws.BitsLemmas
namespace Go.Proofs.Ytkldnfpcemfibaa.Mm
open Go.RowKit Go.Proofs.YtkldnfpcemfibaaW.PrintWords

theorem wf_u32 {a : Int} (h : (Lit.int .u32 a).wf = true) : 0 ≤ a ∧ a < 4294967296 := by
  simp only [Lit.wf, Bool.and_eq_true, decide_eq_true_eq] at h
  have e1 : IntKind.u32.min = 0 := by decide
  have e2 : IntKind.u32.max = 4294967295 := by decide
  rw [e1, e2] at h
  omega

/-- A word turned to the left by so many places. -/
def rot (x n : Int) : Int := Go.bits .or .u32 (shl .u32 x n) (shr .u32 x (32 - n))

theorem wraps_u32 (n : Int) (h₀ : 0 ≤ n) (h₁ : n < 2 ^ 32) : IntKind.u32.wrap n = n := by rw [IntKind.wrap_u32]; omega

theorem rot15 (x : Int) (h0 : 0 ≤ x) (h1 : x < 4294967296) : rot x 15 = x % 131072 * 32768 + x / 131072 := by
  have e1 : shl .u32 x 15 = x % 131072 * 32768 := by
    show IntKind.u32.wrap (x * 2 ^ 15) = _
    rw [IntKind.wrap_u32]; omega
  have e2 : shr .u32 x (32 - 15) = x / 131072 := rfl
  unfold rot
  rw [e1, e2]
  exact bits_join .u32 32 (by decide) wraps_u32 15 _ _ (by omega) (by omega) (by omega) (by omega) (by omega) (by omega)

theorem rot15_lt (x : Int) (h0 : 0 ≤ x) (h1 : x < 4294967296) : 0 ≤ rot x 15 ∧ rot x 15 < 4294967296 := by
  rw [rot15 x h0 h1]; omega

theorem rot15_inj (x y : Int) (h0 : 0 ≤ x) (h1 : x < 4294967296) (k0 : 0 ≤ y) (k1 : y < 4294967296) (h : rot x 15 = rot y 15) : x = y := by
  rw [rot15 x h0 h1, rot15 y k0 k1] at h; omega

/-- Words times an odd word whose turned one is known. -/
theorem mul_inj (c d x y : Int) (hcd : c * d % 4294967296 = 1) (h0 : 0 ≤ x) (h1 : x < 4294967296) (k0 : 0 ≤ y) (k1 : y < 4294967296) (h : x * c % 4294967296 = y * c % 4294967296) : x = y := by
  have e : ∀ z : Int, 0 ≤ z → z < 4294967296 → (z * c % 4294967296) * d % 4294967296 = z := by
    intro z z0 z1
    rw [Int.mul_emod, Int.emod_emod, ← Int.mul_emod, Int.mul_assoc, Int.mul_emod, hcd, Int.mul_one, Int.emod_emod]
    exact Int.emod_eq_of_lt z0 z1
  rw [← e x h0 h1, ← e y k0 k1, h]

theorem xor_nat (a b : Nat) (ha : a < 4294967296) (hb : b < 4294967296) : Go.bits .xor .u32 (a : Int) (b : Int) = ((a ^^^ b : Nat) : Int) := by
  have hp : a ^^^ b < 2 ^ 32 := Nat.xor_lt_two_pow ha hb
  simp only [bits, BitVec.ofInt_natCast, BitVec.toNat_xor, BitVec.toNat_ofNat]
  have e : IntKind.u32.bits = 32 := by decide
  rw [e, Nat.mod_eq_of_lt ha, Nat.mod_eq_of_lt hb, IntKind.wrap_u32]
  omega

theorem xor_lt (x y : Int) (h0 : 0 ≤ x) (h1 : x < 4294967296) (k0 : 0 ≤ y) (k1 : y < 4294967296) : 0 ≤ Go.bits .xor .u32 x y ∧ Go.bits .xor .u32 x y < 4294967296 := by
  obtain ⟨a, rfl⟩ := Int.eq_ofNat_of_zero_le h0
  obtain ⟨b, rfl⟩ := Int.eq_ofNat_of_zero_le k0
  rw [xor_nat a b (by omega) (by omega)]
  have : a ^^^ b < 2 ^ 32 := Nat.xor_lt_two_pow (by simp; omega) (by simp; omega)
  omega

theorem xor_inj (x y n : Int) (h0 : 0 ≤ x) (h1 : x < 4294967296) (k0 : 0 ≤ y) (k1 : y < 4294967296) (n0 : 0 ≤ n) (n1 : n < 4294967296) (h : Go.bits .xor .u32 x n = Go.bits .xor .u32 y n) : x = y := by
  obtain ⟨a, rfl⟩ := Int.eq_ofNat_of_zero_le h0
  obtain ⟨b, rfl⟩ := Int.eq_ofNat_of_zero_le k0
  obtain ⟨c, rfl⟩ := Int.eq_ofNat_of_zero_le n0
  rw [xor_nat a c (by omega) (by omega), xor_nat b c (by omega) (by omega)] at h
  have h' : a ^^^ c = b ^^^ c := by omega
  have : a = b := by
    have e : (a ^^^ c) ^^^ c = (b ^^^ c) ^^^ c := by rw [h']
    simpa [Nat.xor_assoc] using e
  omega

theorem shift_inj (j : Nat) (hj : 32 ≤ j + j + j) (a b : Nat) (ha : a < 4294967296) (hb : b < 4294967296) (h : a ^^^ (a >>> j) = b ^^^ (b >>> j)) : a = b := by
  have z : ∀ c : Nat, c < 4294967296 → c >>> j >>> j >>> j = 0 := by
    intro c hc
    rw [← Nat.shiftRight_add, ← Nat.shiftRight_add, Nat.shiftRight_eq_div_pow]
    have h2 : 4294967296 ≤ 2 ^ (j + (j + j)) := Nat.pow_le_pow_right (n := 2) (i := 32) (by decide) (by omega)
    exact Nat.div_eq_of_lt (Nat.lt_of_lt_of_le hc h2)
  have e1 : a >>> j ^^^ a >>> j >>> j = b >>> j ^^^ b >>> j >>> j := by
    rw [← Nat.shiftRight_xor_distrib, ← Nat.shiftRight_xor_distrib, h]
  have e2 : a >>> j >>> j = b >>> j >>> j := by
    have : a >>> j >>> j ^^^ a >>> j >>> j >>> j = b >>> j >>> j ^^^ b >>> j >>> j >>> j := by
      have e3 : (a >>> j ^^^ a >>> j >>> j) >>> j = (b >>> j ^^^ b >>> j >>> j) >>> j := by rw [e1]
      rwa [Nat.shiftRight_xor_distrib, Nat.shiftRight_xor_distrib] at e3
    rwa [z a ha, z b hb, Nat.xor_zero, Nat.xor_zero] at this
  have cancel : ∀ u v w : Nat, u ^^^ w = v ^^^ w → u = v := by
    intro u v w e
    have e' : (u ^^^ w) ^^^ w = (v ^^^ w) ^^^ w := by rw [e]
    simpa [Nat.xor_assoc] using e'
  have e3 : a >>> j = b >>> j := cancel _ _ _ (by rw [e1, e2])
  exact cancel _ _ _ (by rw [h, e3])

theorem fold_inj (j : Nat) (hj : 32 ≤ j + j + j) (c : Int) (hc : c = 2 ^ j) (x y : Int) (h0 : 0 ≤ x) (h1 : x < 4294967296) (k0 : 0 ≤ y) (k1 : y < 4294967296)
    (h : Go.bits .xor .u32 x (x / c) = Go.bits .xor .u32 y (y / c)) : x = y := by
  obtain ⟨a, rfl⟩ := Int.eq_ofNat_of_zero_le h0
  obtain ⟨b, rfl⟩ := Int.eq_ofNat_of_zero_le k0
  have e : ∀ d : Nat, ((d : Int) / c) = ((d >>> j : Nat) : Int) := by
    intro d; rw [hc, Nat.shiftRight_eq_div_pow]; simp
  have l : ∀ d : Nat, d >>> j ≤ d := fun d => Nat.shiftRight_le d j
  rw [e, e, xor_nat a _ (by omega) (by have := l a; omega), xor_nat b _ (by omega) (by have := l b; omega)] at h
  have h' : a ^^^ (a >>> j) = b ^^^ (b >>> j) := by omega
  have := shift_inj j hj a b (by omega) (by omega) h'
  omega

theorem mod_lt (x : Int) : 0 ≤ x % 4294967296 ∧ x % 4294967296 < 4294967296 := by omega

/-- The end of a hash, one to one. -/
def fin (a n : Int) : Int :=
  Go.bits .xor .u32 (((Go.bits .xor .u32 (((Go.bits .xor .u32 (Go.bits .xor .u32 a n) ((Go.bits .xor .u32 a n) / 65536)) * 2246822507) % 4294967296) ((((Go.bits .xor .u32 (Go.bits .xor .u32 a n) ((Go.bits .xor .u32 a n) / 65536)) * 2246822507) % 4294967296) / 8192)) * 3266489909) % 4294967296) ((((Go.bits .xor .u32 (((Go.bits .xor .u32 (Go.bits .xor .u32 a n) ((Go.bits .xor .u32 a n) / 65536)) * 2246822507) % 4294967296) ((((Go.bits .xor .u32 (Go.bits .xor .u32 a n) ((Go.bits .xor .u32 a n) / 65536)) * 2246822507) % 4294967296) / 8192)) * 3266489909) % 4294967296) / 65536)

theorem fin_inj (x y n : Int) (h0 : 0 ≤ x) (h1 : x < 4294967296) (k0 : 0 ≤ y) (k1 : y < 4294967296) (n0 : 0 ≤ n) (n1 : n < 4294967296) (h : fin x n = fin y n) : x = y := by
  unfold fin at h
  have X := xor_lt x n h0 h1 n0 n1
  have Y := xor_lt y n k0 k1 n0 n1
  refine xor_inj x y n h0 h1 k0 k1 n0 n1 ?_
  generalize Go.bits .xor .u32 x n = p at h X ⊢
  generalize Go.bits .xor .u32 y n = q at h Y ⊢
  have F : ∀ z : Int, 0 ≤ z → z < 4294967296 → ∀ c : Int, 0 < c → 0 ≤ Go.bits .xor .u32 z (z / c) ∧ Go.bits .xor .u32 z (z / c) < 4294967296 := by
    intro z z0 z1 c c0
    have d0 : 0 ≤ z / c := Int.ediv_nonneg z0 (by omega)
    have d1 : z / c ≤ z := Int.ediv_le_self c z0
    exact xor_lt z _ z0 z1 d0 (by omega)
  have h1' := fold_inj 16 (by decide) 65536 (by decide) _ _ (mod_lt _).1 (mod_lt _).2 (mod_lt _).1 (mod_lt _).2 h
  have h2 := mul_inj 3266489909 2127672349 _ _ (by decide) (F _ (mod_lt _).1 (mod_lt _).2 8192 (by decide)).1 (F _ (mod_lt _).1 (mod_lt _).2 8192 (by decide)).2 (F _ (mod_lt _).1 (mod_lt _).2 8192 (by decide)).1 (F _ (mod_lt _).1 (mod_lt _).2 8192 (by decide)).2 h1'
  have h3 := fold_inj 13 (by decide) 8192 (by decide) _ _ (mod_lt _).1 (mod_lt _).2 (mod_lt _).1 (mod_lt _).2 h2
  have h4 := mul_inj 2246822507 2781581891 _ _ (by decide) (F _ X.1 X.2 65536 (by decide)).1 (F _ X.1 X.2 65536 (by decide)).2 (F _ Y.1 Y.2 65536 (by decide)).1 (F _ Y.1 Y.2 65536 (by decide)).2 h3
  exact fold_inj 16 (by decide) 65536 (by decide) _ _ X.1 X.2 Y.1 Y.2 h4

theorem wrap_up {i : Int} (h0 : 0 ≤ i) (h : i < 140737488355328) (d : Int) (d0 : 0 ≤ d) (d1 : d ≤ 4) : wrap64 (i + d) = i + d := by
  unfold wrap64
  omega
end Go.Proofs.Ytkldnfpcemfibaa.Mm
