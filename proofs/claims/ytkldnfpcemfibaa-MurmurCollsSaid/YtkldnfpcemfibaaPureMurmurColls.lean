/- MurmurColls: the hashes of collections, with an order and without, are those of the reference, at every list. -/
import Derived.Test.YtkldnfpcemfibaaPMurmurCollsx2
import Derived.Test.YtkldnfpcemfibaaMm
import Derived.Test.YtkldnfpcemfibaaWSized
namespace Go.Proofs.Ytkldnfpcemfibaa.PrintWords
open Go.ChangeShapes Go.WideShapes
/-- The printed word on a slice's weight, under the name by which the printed row calls it. -/
theorem sized_ints {H : Type} {enc : TypeId × Value → H} {P : Program} {W : World} {base : Nat} {spare : Nat → Bool} {held : Bool} {t e : TypeId} {k : IntKind} {a : Option Addr} {len cap : Nat} {d : DataW H} {ps : List MemPlace} {ts : List TypeId} {ds : List (DataW H)} {j : Nat}
    (hsz : (DataW.weightsEach P ts ds).all (· ≤ reachBytes) = true) (ht : ts[j]? = some t) (hd : ds[j]? = some d) (hu : P.underlying t = some (.slice e)) (he : P.underlying e = some (.int k)) (hc : P.cellsOf e = 1) {B : Nat} (hB : P.bytesOf e = B)
    (h : DataW.Trod enc P W base spare held t (.slice a len cap) d ps) : len * B ≤ 140737488351232 :=
  Go.Proofs.YtkldnfpcemfibaaW.PrintWords.sized_ints hsz ht hd hu he hc hB h
end Go.Proofs.Ytkldnfpcemfibaa.PrintWords
namespace Go.Proofs.Ytkldnfpcemfibaa.Pure
open Go.RowKit Go.Proofs.Ytkldnfpcemfibaa.PMurmurColls Go.Proofs.YtkldnfpcemfibaaW.PrintWords Go.Proofs.YtkldnfpcemfibaaW.PrintLast Go.Proofs.Ytkldnfpcemfibaa.Mm
namespace MColls

theorem rotl15 (x : Int) : bits_RotateLeft32.f x 15 = some (rot x 15) := by
  unfold bits_RotateLeft32.f
  rw [if_pos (by decide +kernel), if_pos (by decide +kernel)]
  rfl
theorem rotl13 (x : Int) : bits_RotateLeft32.f x 13 = some (rot x 13) := by
  unfold bits_RotateLeft32.f
  rw [if_pos (by decide +kernel), if_pos (by decide +kernel)]
  rfl
theorem mixK (a : Int) : murmur_MixK.f a = some (rot (a * 3432918353 % 4294967296) 15 * 461845907 % 4294967296) := by
  unfold murmur_MixK.f
  rw [rotl15]; rfl
theorem mixH (a b : Int) : murmur_MixH.f a b = some ((rot (Go.bits .xor .u32 a b) 13 * 5 % 4294967296 + 3864292196) % 4294967296) := by
  unfold murmur_MixH.f
  rw [rotl13]; rfl
theorem speaks : Ev (fun k => spinneylaw03_speaks.f k) true := Ev.of spinneylaw03_speaks.mono (k := 3) (by decide +kernel)

theorem turn15 (x : Int) : spinneyref03_turn.f x 15 = some (rot x 15) := by
  unfold spinneyref03_turn.f
  rw [if_pos (by decide +kernel), if_pos (by decide +kernel)]
  rfl
theorem turn13 (x : Int) : spinneyref03_turn.f x 13 = some (rot x 13) := by
  unfold spinneyref03_turn.f
  rw [if_pos (by decide +kernel), if_pos (by decide +kernel)]
  rfl
theorem mixKr (a : Int) : spinneyref03_MixK.f a = murmur_MixK.f a := by
  rw [mixK]; unfold spinneyref03_MixK.f
  rw [turn15]; rfl
theorem mixHr (a b : Int) : spinneyref03_MixH.f a b = murmur_MixH.f a b := by
  rw [mixH]; unfold spinneyref03_MixH.f
  rw [turn13]; rfl
theorem finr (a b : Int) : spinneyref03_Fin.f a b = murmur_Fin.f a b := rfl

theorem coll_some (a n : Int) : ∃ r, murmur_Coll.f a n = some r := by
  unfold murmur_Coll.f
  simp only [mixK, mixH, Option.bind_some]; exact ⟨_, rfl⟩
theorem un_ev (x0 l : List Int) (hl : l.length ≤ 140737488355327) (d : Nat) : ∀ (i : Nat) (h : Int), i + d = l.length → 
    Ev (fun k => murmur_Unordered.l0 k x0 h l (l.length : Int) (i : Int)) (((murmur_Coll.f ((l.drop i).foldl (fun h x => (h + x) % 4294967296) h) (x0.length : Int))).getD 0) := by
  induction d with
  | zero =>
    intro i h hd
    obtain ⟨r, hr⟩ := coll_some h (x0.length : Int)
    refine Ev.step (f := fun _ => some r) (fun k => ?_) ?_
    · simp only [murmur_Unordered.l0]
      rw [if_neg (by omega), hr]; rfl
    · rw [List.drop_eq_nil_of_le (by omega), List.foldl_nil, hr]; exact Ev.now r
  | succ d ih =>
    intro i h hd
    have hlt : i < l.length := by omega
    refine Ev.step (f := fun k => murmur_Unordered.l0 k x0 ((h + rd l (i : Int)) % 4294967296) l (l.length : Int) ((i + 1 : Nat) : Int)) (fun k => ?_) ?_
    · simp only [murmur_Unordered.l0]
      rw [if_pos (by omega), if_pos (by omega), if_pos (by omega), wrap_up (by omega) (by omega) 1 (by omega) (by omega)]
      rfl
    · have := ih (i + 1) ((h + rd l (i : Int)) % 4294967296) (by omega)
      rw [List.drop_eq_getElem_cons hlt, List.foldl_cons]
      have e : rd l (i : Int) = l[i] := by unfold rd; simp [List.getD_eq_getElem?_getD, hlt]
      rw [e] at this
      rw [e]; exact this
theorem un_is (l : List Int) (hl : l.length ≤ 140737488355327) : Ev (fun k => murmur_Unordered.f k l) ((murmur_Coll.f (l.foldl (fun h x => (h + x) % 4294967296) 0) (l.length : Int)).getD 0) := by
  have := un_ev l l hl l.length 0 0 (by omega)
  rw [List.drop_zero] at this
  exact this

theorem or_ev (x0 l : List Int) (hl : l.length ≤ 140737488355327) (d : Nat) : ∀ (i : Nat) (h : Int), i + d = l.length → 
    ∃ r, Ev (fun k => murmur_Ordered.l0 k x0 h l (l.length : Int) (i : Int)) r := by
  induction d with
  | zero =>
    intro i h hd
    obtain ⟨r, hr⟩ := coll_some h (x0.length : Int)
    refine ⟨r, Ev.step (f := fun _ => some r) (fun k => ?_) (Ev.now r)⟩
    simp only [murmur_Ordered.l0]
    rw [if_neg (by omega), hr]; rfl
  | succ d ih =>
    intro i h hd
    obtain ⟨r, hr⟩ := ih (i + 1) (((31 * h) % 4294967296 + rd l (i : Int)) % 4294967296) (by omega)
    refine ⟨r, Ev.step (f := fun k => murmur_Ordered.l0 k x0 (((31 * h) % 4294967296 + rd l (i : Int)) % 4294967296) l (l.length : Int) ((i + 1 : Nat) : Int)) (fun k => ?_) hr⟩
    simp only [murmur_Ordered.l0]
    rw [if_pos (by omega), if_pos (by omega), if_pos (by omega), wrap_up (by omega) (by omega) 1 (by omega) (by omega)]
    rfl

theorem collr (a n : Int) : spinneyref03_Coll.f a n = murmur_Coll.f a n := by
  unfold spinneyref03_Coll.f murmur_Coll.f
  simp only [mixKr, mixHr, finr]
theorem unr : ∀ (k : Nat) (x0 : List Int) (h : Int) (l : List Int) (n i : Int), spinneyref03_Unordered.l0 k x0 h l n i = murmur_Unordered.l0 k x0 h l n i
  | 0, _, _, _, _, _ => rfl
  | k + 1, x0, h, l, n, i => by simp only [spinneyref03_Unordered.l0, murmur_Unordered.l0, unr k, collr]
theorem orr : ∀ (k : Nat) (x0 : List Int) (h : Int) (l : List Int) (n i : Int), spinneyref03_Ordered.l0 k x0 h l n i = murmur_Ordered.l0 k x0 h l n i
  | 0, _, _, _, _, _ => rfl
  | k + 1, x0, h, l, n, i => by simp only [spinneyref03_Ordered.l0, murmur_Ordered.l0, orr k, collr]
theorem join (a n r p q : Int) (l : List Int) (k : Nat) (h0 : murmur_Coll.f a n = some r) (h1 : murmur_Ordered.f k l = some p) (h2 : murmur_Unordered.f k l = some q) (hk : spinneylaw03_speaks.f k = some true) :
    spinneylaw03_MurmurColls.f k a n l = some true := by
  have ho : spinneyref03_Ordered.f k l = murmur_Ordered.f k l := orr k _ _ _ _ _
  have hu : spinneyref03_Unordered.f k l = murmur_Unordered.f k l := unr k _ _ _ _ _
  unfold spinneylaw03_MurmurColls.f
  rw [collr, h0, ho, hu, h1, h2, hk]
  simp only [Option.bind_some, if_true]
end MColls
open MColls
theorem MurmurColls : spinneylaw03_MurmurColls.Pure := by
  intro a n l _ _ hm _ _
  have hl : l.length ≤ 140737488355327 := by omega
  obtain ⟨r, hr⟩ := coll_some a n
  obtain ⟨p, hp⟩ := or_ev l l hl l.length 0 1 (by omega)
  have hp' : Ev (fun k => murmur_Ordered.f k l) p := hp
  obtain ⟨K1, h1⟩ := hp'
  obtain ⟨K2, h2⟩ := un_is l hl
  obtain ⟨K3, h3⟩ := speaks
  have g1 := h1 (max K1 (max K2 K3)) (by omega)
  have g2 := h2 (max K1 (max K2 K3)) (by omega)
  have g3 := h3 (max K1 (max K2 K3)) (by omega)
  refine ⟨max K1 (max K2 K3), ?_⟩
  generalize max K1 (max K2 K3) = k at g1 g2 g3
  simp only at g1 g2 g3
  exact join a n r _ _ l k hr g1 g2 g3

end Go.Proofs.Ytkldnfpcemfibaa.Pure
