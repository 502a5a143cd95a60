/- MurmurMixes: the pieces MixK, MixH and Fin of the program are those of the reference, at all words. -/
import Derived.Test.YtkldnfpcemfibaaPMurmurMixesx1
import Derived.Test.YtkldnfpcemfibaaMm
namespace Go.Proofs.Ytkldnfpcemfibaa.Pure
open Go.RowKit Go.Proofs.Ytkldnfpcemfibaa.PMurmurMixes Go.Proofs.YtkldnfpcemfibaaW.PrintWords Go.Proofs.YtkldnfpcemfibaaW.PrintLast Go.Proofs.Ytkldnfpcemfibaa.Mm
namespace MMixes

theorem rotl15 (x : Int) : bits_RotateLeft32.f x 15 = some (rot x 15) := by
  unfold bits_RotateLeft32.f
  rw [if_pos (by decide +kernel), if_pos (by decide +kernel)]
  rfl
theorem rotl13 (x : Int) : bits_RotateLeft32.f x 13 = some (rot x 13) := by
  unfold bits_RotateLeft32.f
  rw [if_pos (by decide +kernel), if_pos (by decide +kernel)]
  rfl
theorem mixK (a : Int) : murmur_MixK.f a = some (rot (a * 3432918353 % 4294967296) 15 * 461845907 % 4294967296) := by
  unfold murmur_MixK.f
  rw [rotl15]; rfl
theorem mixH (a b : Int) : murmur_MixH.f a b = some ((rot (Go.bits .xor .u32 a b) 13 * 5 % 4294967296 + 3864292196) % 4294967296) := by
  unfold murmur_MixH.f
  rw [rotl13]; rfl
theorem speaks : Ev (fun k => spinneylaw03_speaks.f k) true := Ev.of spinneylaw03_speaks.mono (k := 3) (by decide +kernel)

theorem turn15 (x : Int) : spinneyref03_turn.f x 15 = some (rot x 15) := by
  unfold spinneyref03_turn.f
  rw [if_pos (by decide +kernel), if_pos (by decide +kernel)]
  rfl
theorem turn13 (x : Int) : spinneyref03_turn.f x 13 = some (rot x 13) := by
  unfold spinneyref03_turn.f
  rw [if_pos (by decide +kernel), if_pos (by decide +kernel)]
  rfl
theorem mixKr (a : Int) : spinneyref03_MixK.f a = murmur_MixK.f a := by
  rw [mixK]; unfold spinneyref03_MixK.f
  rw [turn15]; rfl
theorem mixHr (a b : Int) : spinneyref03_MixH.f a b = murmur_MixH.f a b := by
  rw [mixH]; unfold spinneyref03_MixH.f
  rw [turn13]; rfl
theorem finr (a b : Int) : spinneyref03_Fin.f a b = murmur_Fin.f a b := rfl

theorem fin' (a n : Int) : murmur_Fin.f a n = some (fin a n) := rfl
theorem join (a b p q r : Int) (h1 : murmur_MixK.f a = some p) (h2 : murmur_MixH.f a b = some q) (h3 : murmur_Fin.f a b = some r) (k : Nat) (hk : spinneylaw03_speaks.f k = some true) :
    spinneylaw03_MurmurMixes.f k a b = some true := by
  unfold spinneylaw03_MurmurMixes.f
  rw [mixKr, mixHr, finr, h1, h2, h3]
  simp only [Option.bind_some, if_true, hk]
end MMixes
open MMixes
theorem MurmurMixes : spinneylaw03_MurmurMixes.Pure := by
  intro a b _ _
  obtain ⟨k, hk⟩ := speaks.rounds
  refine ⟨k, ?_⟩
  exact join a b _ _ _ (mixK a) (mixH a b) (fin' a b) k hk

end Go.Proofs.Ytkldnfpcemfibaa.Pure
