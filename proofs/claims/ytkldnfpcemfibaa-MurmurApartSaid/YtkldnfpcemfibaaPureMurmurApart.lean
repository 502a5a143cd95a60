/- MurmurApart: MixK and Fin are one to one, at all words. -/
import Derived.Test.YtkldnfpcemfibaaPMurmurApartx1
import Derived.Test.YtkldnfpcemfibaaMm
namespace Go.Proofs.Ytkldnfpcemfibaa.Pure
open Go.RowKit Go.Proofs.Ytkldnfpcemfibaa.PMurmurApart Go.Proofs.YtkldnfpcemfibaaW.PrintWords Go.Proofs.YtkldnfpcemfibaaW.PrintLast Go.Proofs.Ytkldnfpcemfibaa.Mm
namespace MApart

theorem rotl15 (x : Int) : bits_RotateLeft32.f x 15 = some (rot x 15) := by
  unfold bits_RotateLeft32.f
  rw [if_pos (by decide +kernel), if_pos (by decide +kernel)]
  rfl
theorem rotl13 (x : Int) : bits_RotateLeft32.f x 13 = some (rot x 13) := by
  unfold bits_RotateLeft32.f
  rw [if_pos (by decide +kernel), if_pos (by decide +kernel)]
  rfl
theorem mixK (a : Int) : murmur_MixK.f a = some (rot (a * 3432918353 % 4294967296) 15 * 461845907 % 4294967296) := by
  unfold murmur_MixK.f
  rw [rotl15]; rfl
theorem mixH (a b : Int) : murmur_MixH.f a b = some ((rot (Go.bits .xor .u32 a b) 13 * 5 % 4294967296 + 3864292196) % 4294967296) := by
  unfold murmur_MixH.f
  rw [rotl13]; rfl
theorem speaks : Ev (fun k => spinneylaw03_speaks.f k) true := Ev.of spinneylaw03_speaks.mono (k := 3) (by decide +kernel)

theorem told (a b p q u v : Int) (h : p = q ↔ a = b) (h' : u = v ↔ a = b) (k : Nat) (hk : spinneylaw03_speaks.f k = some true) :
    (if ((p == q) == (a == b)) = true then (if ((u == v) == (a == b)) = true then (spinneylaw03_speaks.f k).bind fun t => some t else some false) else some false) = some true := by
  have e : ∀ x y : Int, (x = y ↔ a = b) → ((x == y) == (a == b)) = true := by
    intro x y h
    by_cases hab : a = b
    · have := h.2 hab; rw [this, hab]; simp
    · have hn : ¬ x = y := fun e => hab (h.1 e)
      rw [beq_eq_false_iff_ne.2 hn, beq_eq_false_iff_ne.2 hab]; rfl
  rw [if_pos (e _ _ h), if_pos (e _ _ h'), hk]
  rfl
def mk (a : Int) : Int := rot (a * 3432918353 % 4294967296) 15 * 461845907 % 4294967296
theorem mk_inj (a b : Int) (a0 : 0 ≤ a) (a1 : a < 4294967296) (b0 : 0 ≤ b) (b1 : b < 4294967296) : mk a = mk b ↔ a = b := by
  refine ⟨fun h => ?_, fun h => by rw [h]⟩
  unfold mk at h
  have ra := rot15_lt _ (mod_lt (a * 3432918353)).1 (mod_lt (a * 3432918353)).2
  have rb := rot15_lt _ (mod_lt (b * 3432918353)).1 (mod_lt (b * 3432918353)).2
  have h1 := mul_inj 461845907 1458385051 _ _ (by decide) ra.1 ra.2 rb.1 rb.2 h
  have h2 := rot15_inj _ _ (mod_lt (a * 3432918353)).1 (mod_lt (a * 3432918353)).2 (mod_lt (b * 3432918353)).1 (mod_lt (b * 3432918353)).2 h1
  exact mul_inj 3432918353 3739302833 _ _ (by decide) a0 a1 b0 b1 h2
theorem mixK' (a : Int) : murmur_MixK.f a = some (mk a) := mixK a
theorem fin' (a n : Int) : murmur_Fin.f a n = some (fin a n) := rfl
theorem join (a b n p q u v : Int) (h1 : murmur_MixK.f a = some p) (h2 : murmur_MixK.f b = some q) (h3 : murmur_Fin.f a n = some u) (h4 : murmur_Fin.f b n = some v)
    (h : p = q ↔ a = b) (h' : u = v ↔ a = b) (k : Nat) (hk : spinneylaw03_speaks.f k = some true) : spinneylaw03_MurmurApart.f k a b n = some true := by
  unfold spinneylaw03_MurmurApart.f
  rw [h1, h2, h3, h4]
  simp only [Option.bind_some]
  exact told a b p q u v h h' k hk
end MApart
open MApart
theorem MurmurApart : spinneylaw03_MurmurApart.Pure := by
  intro a b n ha hb hn
  have A := wf_u32 ha
  have B := wf_u32 hb
  have N := wf_u32 hn
  obtain ⟨k, hk⟩ := speaks.rounds
  refine ⟨k, ?_⟩
  have i1 := mk_inj a b A.1 A.2 B.1 B.2
  have i2 : fin a n = fin b n ↔ a = b := ⟨fin_inj a b n A.1 A.2 B.1 B.2 N.1 N.2, fun h => by rw [h]⟩
  exact join a b n _ _ _ _ (mixK' a) (mixK' b) (fin' a n) (fin' b n) i1 i2 k hk

end Go.Proofs.Ytkldnfpcemfibaa.Pure
