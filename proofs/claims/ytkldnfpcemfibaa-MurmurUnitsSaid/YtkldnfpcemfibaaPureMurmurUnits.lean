/- MurmurUnits: the hashes of units of 16 bits, by Murmur and by Java, are those of the reference, at every list. -/
import Derived.Test.YtkldnfpcemfibaaPMurmurUnitsx2
import Derived.Test.YtkldnfpcemfibaaMm
import Derived.Test.YtkldnfpcemfibaaWSized
namespace Go.Proofs.Ytkldnfpcemfibaa.PrintWords
open Go.ChangeShapes Go.WideShapes
/-- The printed word on a slice's weight, under the name by which the printed row calls it. -/
theorem sized_ints {H : Type} {enc : TypeId × Value → H} {P : Program} {W : World} {base : Nat} {spare : Nat → Bool} {held : Bool} {t e : TypeId} {k : IntKind} {a : Option Addr} {len cap : Nat} {d : DataW H} {ps : List MemPlace} {ts : List TypeId} {ds : List (DataW H)} {j : Nat}
    (hsz : (DataW.weightsEach P ts ds).all (· ≤ reachBytes) = true) (ht : ts[j]? = some t) (hd : ds[j]? = some d) (hu : P.underlying t = some (.slice e)) (he : P.underlying e = some (.int k)) (hc : P.cellsOf e = 1) {B : Nat} (hB : P.bytesOf e = B)
    (h : DataW.Trod enc P W base spare held t (.slice a len cap) d ps) : len * B ≤ 140737488351232 :=
  Go.Proofs.YtkldnfpcemfibaaW.PrintWords.sized_ints hsz ht hd hu he hc hB h
end Go.Proofs.Ytkldnfpcemfibaa.PrintWords
namespace Go.Proofs.Ytkldnfpcemfibaa.Pure
open Go.RowKit Go.Proofs.Ytkldnfpcemfibaa.PMurmurUnits Go.Proofs.YtkldnfpcemfibaaW.PrintWords Go.Proofs.YtkldnfpcemfibaaW.PrintLast Go.Proofs.Ytkldnfpcemfibaa.Mm
namespace MUnits

theorem rotl15 (x : Int) : bits_RotateLeft32.f x 15 = some (rot x 15) := by
  unfold bits_RotateLeft32.f
  rw [if_pos (by decide +kernel), if_pos (by decide +kernel)]
  rfl
theorem rotl13 (x : Int) : bits_RotateLeft32.f x 13 = some (rot x 13) := by
  unfold bits_RotateLeft32.f
  rw [if_pos (by decide +kernel), if_pos (by decide +kernel)]
  rfl
theorem mixK (a : Int) : murmur_MixK.f a = some (rot (a * 3432918353 % 4294967296) 15 * 461845907 % 4294967296) := by
  unfold murmur_MixK.f
  rw [rotl15]; rfl
theorem mixH (a b : Int) : murmur_MixH.f a b = some ((rot (Go.bits .xor .u32 a b) 13 * 5 % 4294967296 + 3864292196) % 4294967296) := by
  unfold murmur_MixH.f
  rw [rotl13]; rfl
theorem speaks : Ev (fun k => spinneylaw03_speaks.f k) true := Ev.of spinneylaw03_speaks.mono (k := 3) (by decide +kernel)

theorem turn15 (x : Int) : spinneyref03_turn.f x 15 = some (rot x 15) := by
  unfold spinneyref03_turn.f
  rw [if_pos (by decide +kernel), if_pos (by decide +kernel)]
  rfl
theorem turn13 (x : Int) : spinneyref03_turn.f x 13 = some (rot x 13) := by
  unfold spinneyref03_turn.f
  rw [if_pos (by decide +kernel), if_pos (by decide +kernel)]
  rfl
theorem mixKr (a : Int) : spinneyref03_MixK.f a = murmur_MixK.f a := by
  rw [mixK]; unfold spinneyref03_MixK.f
  rw [turn15]; rfl
theorem mixHr (a b : Int) : spinneyref03_MixH.f a b = murmur_MixH.f a b := by
  rw [mixH]; unfold spinneyref03_MixH.f
  rw [turn13]; rfl
theorem finr (a b : Int) : spinneyref03_Fin.f a b = murmur_Fin.f a b := rfl

theorem javar : ∀ (k : Nat) (h : Int) (l : List Int) (n i : Int), spinneyref03_Java.l0 k h l n i = murmur_Java.l0 k h l n i
  | 0, _, _, _, _ => rfl
  | k + 1, h, l, n, i => by simp only [spinneyref03_Java.l0, murmur_Java.l0, javar k]
theorem java_ev (l : List Int) (hl : l.length ≤ 140737488355327) (d : Nat) : ∀ (i : Nat) (h : Int), i + d = l.length → 
    ∃ r, Ev (fun k => murmur_Java.l0 k h l (l.length : Int) (i : Int)) r := by
  induction d with
  | zero =>
    intro i h hd
    refine ⟨h, Ev.step (f := fun _ => some h) (fun k => ?_) (Ev.now h)⟩
    simp only [murmur_Java.l0]
    rw [if_neg (by omega)]
  | succ d ih =>
    intro i h hd
    obtain ⟨r, hr⟩ := ih (i + 1) (wrap32 (wrap32 (31 * h) + wrap32 (rd l (i : Int)))) (by omega)
    refine ⟨r, Ev.step (f := fun k => murmur_Java.l0 k (wrap32 (wrap32 (31 * h) + wrap32 (rd l (i : Int)))) l (l.length : Int) ((i + 1 : Nat) : Int)) (fun k => ?_) hr⟩
    simp only [murmur_Java.l0]
    rw [if_pos (by omega), if_pos (by omega), if_pos (by omega), wrap_up (by omega) (by omega) 1 (by omega) (by omega)]
    rfl
theorem even_of (n : Nat) (hn : n ≤ 140737488355327) : Go.bits .andNot .i64 (n : Int) 1 = ((n - n % 2 : Nat) : Int) := by
  have e : IntKind.i64.bits = 64 := by decide
  have hx : (BitVec.ofNat 64 n &&& ~~~(BitVec.ofInt 64 1)).toNat = n - n % 2 := by
    have h1 : (BitVec.ofNat 64 n &&& ~~~(BitVec.ofInt 64 1)) = BitVec.ofNat 64 n - (BitVec.ofNat 64 n &&& 1#64) := by
      have e2 : BitVec.ofInt 64 1 = 1#64 := by decide
      rw [e2]
      have h2 : BitVec.ofNat 64 n = (BitVec.ofNat 64 n &&& ~~~1#64) + (BitVec.ofNat 64 n &&& 1#64) := by
        rw [BitVec.add_eq_or_of_and_eq_zero]
        · rw [← BitVec.and_or_distrib_left]
          have e3 : (~~~1#64 ||| 1#64) = BitVec.allOnes 64 := by decide
          rw [e3, BitVec.and_allOnes]
        · have : BitVec.ofNat 64 n &&& ~~~1#64 &&& (BitVec.ofNat 64 n &&& 1#64) = (BitVec.ofNat 64 n &&& BitVec.ofNat 64 n) &&& (~~~1#64 &&& 1#64) := by ac_rfl
          rw [this]; simp
      exact (BitVec.eq_sub_iff_add_eq).2 h2.symm
    rw [h1]
    have h3 : (BitVec.ofNat 64 n &&& 1#64).toNat = n % 2 := by
      simp only [BitVec.toNat_and, BitVec.toNat_ofNat]
      rw [Nat.mod_eq_of_lt (by omega)]
      exact Nat.and_one_is_mod n
    rw [BitVec.toNat_sub, h3, BitVec.toNat_ofNat]
    omega
  have hw : ∀ m : Nat, m ≤ 140737488355327 → IntKind.i64.wrap (m : Int) = m := by
    intro m hm; rw [IntKind.wrap_i64]; omega
  show IntKind.i64.wrap ((BitVec.ofInt 64 (n : Int) &&& ~~~(BitVec.ofInt 64 1)).toNat : Int) = _
  rw [BitVec.ofInt_natCast, hx]
  exact hw _ (by omega)
theorem fin_some (a n : Int) : murmur_Fin.f a n = some (fin a n) := rfl
/-- The tail of both. -/
theorem units_ev (l : List Int) (hl : l.length ≤ 140737488355327) (d : Nat) : ∀ (i : Nat) (h : Int), 2 * i + 2 * d = l.length - l.length % 2 → 
    ∃ r, Ev (fun k => murmur_Units.l0 k l h ((l.length - l.length % 2 : Nat) : Int) ((2 * i : Nat) : Int)) r ∧ Ev (fun k => spinneyref03_Units.l0 k l h ((2 * i : Nat) : Int)) r := by
  induction d with
  | zero =>
    intro i h hd
    have w1 : wrap64 (((2 * i : Nat) : Int) + 1) = ((2 * i : Nat) : Int) + 1 := wrap_up (by omega) (by omega) 1 (by omega) (by omega)
    by_cases ho : l.length % 2 = 1
    · have w2 : wrap64 ((l.length : Int) - 1) = ((l.length - l.length % 2 : Nat) : Int) := by
        unfold wrap64; omega
      have e0 : ((l.length : Int) % 2) = 1 := by omega
      refine ⟨fin (Go.bits .xor .u32 h (rot ((rd l ((l.length - l.length % 2 : Nat) : Int) % 4294967296) * 3432918353 % 4294967296) 15 * 461845907 % 4294967296)) (wrap64 (2 * (l.length : Int)) % 4294967296), Ev.step (f := fun _ => some _) (fun k => ?_) (Ev.now _), Ev.step (f := fun _ => some _) (fun k => ?_) (Ev.now _)⟩
      · simp only [murmur_Units.l0]
        rw [if_neg (by omega), if_pos (by omega), if_pos (by omega), mixK, Option.bind_some, fin_some, Option.bind_some]
      · simp only [spinneyref03_Units.l0]
        rw [w1, if_neg (by omega), if_pos e0, w2, if_pos (by omega), if_pos (by omega), mixKr, mixK, Option.bind_some, finr, fin_some, Option.bind_some]
    · have e0 : ¬ ((l.length : Int) % 2) = 1 := by omega
      refine ⟨fin h (wrap64 (2 * (l.length : Int)) % 4294967296), Ev.step (f := fun _ => some _) (fun k => ?_) (Ev.now _), Ev.step (f := fun _ => some _) (fun k => ?_) (Ev.now _)⟩
      · simp only [murmur_Units.l0]
        rw [if_neg (by omega), if_neg (by omega), fin_some, Option.bind_some]
      · simp only [spinneyref03_Units.l0]
        rw [w1, if_neg (by omega), if_neg e0, finr, fin_some, Option.bind_some]
  | succ d ih =>
    intro i h hd
    have w1 : wrap64 (((2 * i : Nat) : Int) + 1) = ((2 * i : Nat) : Int) + 1 := wrap_up (by omega) (by omega) 1 (by omega) (by omega)
    have w2 : wrap64 (((2 * i : Nat) : Int) + 2) = ((2 * (i + 1) : Nat) : Int) := by
      rw [wrap_up (by omega) (by omega) 2 (by omega) (by omega)]; omega
    obtain ⟨r, hr, hs⟩ := ih (i + 1) ((rot (Go.bits .xor .u32 h (rot ((Go.bits .or .u32 ((rd l ((2 * i : Nat) : Int)) % 4294967296) ((((rd l (((2 * i : Nat) : Int) + 1)) % 4294967296) * 65536) % 4294967296)) * 3432918353 % 4294967296) 15 * 461845907 % 4294967296)) 13 * 5 % 4294967296 + 3864292196) % 4294967296) (by omega)
    refine ⟨r, Ev.step (fun k => ?_) hr, Ev.step (fun k => ?_) hs⟩
    · simp only [murmur_Units.l0]
      rw [if_pos (by omega), if_pos (by omega), if_pos (by omega), w1, if_pos (by omega), if_pos (by omega), mixK, Option.bind_some, mixH, Option.bind_some, w2]
    · simp only [spinneyref03_Units.l0]
      rw [w1, if_pos (by omega), if_pos (by omega), if_pos (by omega), if_pos (by omega), mixKr, mixK, Option.bind_some, mixHr, mixH, Option.bind_some, w2]
end MUnits
open MUnits
theorem MurmurUnits : spinneylaw03_MurmurUnits.Pure := by
  intro l hm _ _
  have hl : l.length ≤ 140737488355327 := by unfold maxLen at hm; omega
  obtain ⟨p, hp⟩ := java_ev l hl l.length 0 0 (by omega)
  obtain ⟨r, hr, hs⟩ := units_ev l hl ((l.length - l.length % 2) / 2) 0 0 (by omega)
  have hr' : Ev (fun k => murmur_Units.f k l) r := by
    refine Ev.congr (fun k => ?_) hr
    unfold murmur_Units.f; rw [even_of _ hl]; rfl
  have hs' : Ev (fun k => spinneyref03_Units.f k l) r := hs
  have hp' : Ev (fun k => murmur_Java.f k l) p := hp
  have hj : ∀ k, spinneyref03_Java.f k l = murmur_Java.f k l := fun k => javar k _ _ _ _
  obtain ⟨K1, h1⟩ := hr'
  obtain ⟨K2, h2⟩ := hs'
  obtain ⟨K3, h3⟩ := hp'
  obtain ⟨K4, h4⟩ := speaks
  have g1 := h1 (max (max K1 K2) (max K3 K4)) (by omega)
  have g2 := h2 (max (max K1 K2) (max K3 K4)) (by omega)
  have g3 := h3 (max (max K1 K2) (max K3 K4)) (by omega)
  have g4 := h4 (max (max K1 K2) (max K3 K4)) (by omega)
  refine ⟨max (max K1 K2) (max K3 K4), ?_⟩
  generalize max (max K1 K2) (max K3 K4) = k at g1 g2 g3 g4
  simp only at g1 g2 g3 g4
  unfold spinneylaw03_MurmurUnits.f
  rw [g1, g2, hj, g3, g4]
  simp only [Option.bind_some, if_true]

end Go.Proofs.Ytkldnfpcemfibaa.Pure
