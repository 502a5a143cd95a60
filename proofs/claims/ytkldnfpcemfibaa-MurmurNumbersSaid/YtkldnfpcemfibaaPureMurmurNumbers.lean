/- MurmurNumbers: the hashes of numbers of 32 and of 64 bits are those of the reference, at all numbers. -/
import Derived.Test.YtkldnfpcemfibaaPMurmurNumbersx1
import Derived.Test.YtkldnfpcemfibaaMm
namespace Go.Proofs.Ytkldnfpcemfibaa.Pure
open Go.RowKit Go.Proofs.Ytkldnfpcemfibaa.PMurmurNumbers Go.Proofs.YtkldnfpcemfibaaW.PrintWords Go.Proofs.YtkldnfpcemfibaaW.PrintLast Go.Proofs.Ytkldnfpcemfibaa.Mm
namespace MNumbers

theorem rotl15 (x : Int) : bits_RotateLeft32.f x 15 = some (rot x 15) := by
  unfold bits_RotateLeft32.f
  rw [if_pos (by decide +kernel), if_pos (by decide +kernel)]
  rfl
theorem rotl13 (x : Int) : bits_RotateLeft32.f x 13 = some (rot x 13) := by
  unfold bits_RotateLeft32.f
  rw [if_pos (by decide +kernel), if_pos (by decide +kernel)]
  rfl
theorem mixK (a : Int) : murmur_MixK.f a = some (rot (a * 3432918353 % 4294967296) 15 * 461845907 % 4294967296) := by
  unfold murmur_MixK.f
  rw [rotl15]; rfl
theorem mixH (a b : Int) : murmur_MixH.f a b = some ((rot (Go.bits .xor .u32 a b) 13 * 5 % 4294967296 + 3864292196) % 4294967296) := by
  unfold murmur_MixH.f
  rw [rotl13]; rfl
theorem speaks : Ev (fun k => spinneylaw03_speaks.f k) true := Ev.of spinneylaw03_speaks.mono (k := 3) (by decide +kernel)

theorem turn15 (x : Int) : spinneyref03_turn.f x 15 = some (rot x 15) := by
  unfold spinneyref03_turn.f
  rw [if_pos (by decide +kernel), if_pos (by decide +kernel)]
  rfl
theorem turn13 (x : Int) : spinneyref03_turn.f x 13 = some (rot x 13) := by
  unfold spinneyref03_turn.f
  rw [if_pos (by decide +kernel), if_pos (by decide +kernel)]
  rfl
theorem mixKr (a : Int) : spinneyref03_MixK.f a = murmur_MixK.f a := by
  rw [mixK]; unfold spinneyref03_MixK.f
  rw [turn15]; rfl
theorem mixHr (a b : Int) : spinneyref03_MixH.f a b = murmur_MixH.f a b := by
  rw [mixH]; unfold spinneyref03_MixH.f
  rw [turn13]; rfl
theorem finr (a b : Int) : spinneyref03_Fin.f a b = murmur_Fin.f a b := rfl

theorem intr (a : Int) : spinneyref03_Int.f a = murmur_Int.f a := by
  unfold spinneyref03_Int.f murmur_Int.f
  simp only [mixKr, mixHr, finr]
theorem hi (b : Int) : IntKind.u64.wrap b / 4294967296 % 4294967296 = b / 4294967296 % 4294967296 := by
  have e : IntKind.u64.wrap b = b % 18446744073709551616 := by simp [IntKind.wrap, IntKind.bits, IntKind.signed]
  rw [e]; omega
theorem longr (a : Int) : spinneyref03_Long.f a = murmur_Long.f a := by
  unfold spinneyref03_Long.f murmur_Long.f
  simp only [mixKr, mixHr, finr, hi a]
theorem int_some (a : Int) : ∃ r, murmur_Int.f a = some r := by
  unfold murmur_Int.f
  by_cases h : a = 0
  · exact ⟨0, by rw [if_pos h]⟩
  · rw [if_neg h]; simp only [mixK, mixH, Option.bind_some]; exact ⟨_, rfl⟩
theorem long_some (a : Int) : ∃ r, murmur_Long.f a = some r := by
  unfold murmur_Long.f
  by_cases h : a = 0
  · exact ⟨0, by rw [if_pos h]⟩
  · rw [if_neg h]; simp only [mixK, mixH, Option.bind_some]; exact ⟨_, rfl⟩
end MNumbers
open MNumbers
theorem MurmurNumbers : spinneylaw03_MurmurNumbers.Pure := by
  intro a b _ _
  obtain ⟨k, hk⟩ := speaks.rounds
  obtain ⟨r, hr⟩ := int_some a
  obtain ⟨q, hq⟩ := long_some b
  refine ⟨k, ?_⟩
  unfold spinneylaw03_MurmurNumbers.f
  rw [intr, longr b, hr, hq]
  simp only [Option.bind_some, if_true, hk]

end Go.Proofs.Ytkldnfpcemfibaa.Pure
