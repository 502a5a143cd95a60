/- MurmurTurned: two members of a list may change places, and its hash without an order stays; every list, all places. -/
import Derived.Test.YtkldnfpcemfibaaPMurmurTurnedx1
import Derived.Test.YtkldnfpcemfibaaMm
import Derived.Test.YtkldnfpcemfibaaWSized
namespace Go.Proofs.Ytkldnfpcemfibaa.PrintWords
open Go.ChangeShapes Go.WideShapes
/-- The printed word on a slice's weight, under the name by which the printed row calls it. -/
theorem sized_ints {H : Type} {enc : TypeId × Value → H} {P : Program} {W : World} {base : Nat} {spare : Nat → Bool} {held : Bool} {t e : TypeId} {k : IntKind} {a : Option Addr} {len cap : Nat} {d : DataW H} {ps : List MemPlace} {ts : List TypeId} {ds : List (DataW H)} {j : Nat}
    (hsz : (DataW.weightsEach P ts ds).all (· ≤ reachBytes) = true) (ht : ts[j]? = some t) (hd : ds[j]? = some d) (hu : P.underlying t = some (.slice e)) (he : P.underlying e = some (.int k)) (hc : P.cellsOf e = 1) {B : Nat} (hB : P.bytesOf e = B)
    (h : DataW.Trod enc P W base spare held t (.slice a len cap) d ps) : len * B ≤ 140737488351232 :=
  Go.Proofs.YtkldnfpcemfibaaW.PrintWords.sized_ints hsz ht hd hu he hc hB h
end Go.Proofs.Ytkldnfpcemfibaa.PrintWords
namespace Go.Proofs.Ytkldnfpcemfibaa.Pure
open Go.RowKit Go.Proofs.Ytkldnfpcemfibaa.PMurmurTurned Go.Proofs.YtkldnfpcemfibaaW.PrintWords Go.Proofs.YtkldnfpcemfibaaW.PrintLast Go.Proofs.Ytkldnfpcemfibaa.Mm
namespace MTurned

theorem rotl15 (x : Int) : bits_RotateLeft32.f x 15 = some (rot x 15) := by
  unfold bits_RotateLeft32.f
  rw [if_pos (by decide +kernel), if_pos (by decide +kernel)]
  rfl
theorem rotl13 (x : Int) : bits_RotateLeft32.f x 13 = some (rot x 13) := by
  unfold bits_RotateLeft32.f
  rw [if_pos (by decide +kernel), if_pos (by decide +kernel)]
  rfl
theorem mixK (a : Int) : murmur_MixK.f a = some (rot (a * 3432918353 % 4294967296) 15 * 461845907 % 4294967296) := by
  unfold murmur_MixK.f
  rw [rotl15]; rfl
theorem mixH (a b : Int) : murmur_MixH.f a b = some ((rot (Go.bits .xor .u32 a b) 13 * 5 % 4294967296 + 3864292196) % 4294967296) := by
  unfold murmur_MixH.f
  rw [rotl13]; rfl
theorem speaks : Ev (fun k => spinneylaw03_speaks.f k) true := Ev.of spinneylaw03_speaks.mono (k := 3) (by decide +kernel)

theorem coll_some (a n : Int) : ∃ r, murmur_Coll.f a n = some r := by
  unfold murmur_Coll.f
  simp only [mixK, mixH, Option.bind_some]; exact ⟨_, rfl⟩
theorem un_ev (x0 l : List Int) (hl : l.length ≤ 140737488355327) (d : Nat) : ∀ (i : Nat) (h : Int), i + d = l.length → 
    Ev (fun k => murmur_Unordered.l0 k x0 h l (l.length : Int) (i : Int)) (((murmur_Coll.f ((l.drop i).foldl (fun h x => (h + x) % 4294967296) h) (x0.length : Int))).getD 0) := by
  induction d with
  | zero =>
    intro i h hd
    obtain ⟨r, hr⟩ := coll_some h (x0.length : Int)
    refine Ev.step (f := fun _ => some r) (fun k => ?_) ?_
    · simp only [murmur_Unordered.l0]
      rw [if_neg (by omega), hr]; rfl
    · rw [List.drop_eq_nil_of_le (by omega), List.foldl_nil, hr]; exact Ev.now r
  | succ d ih =>
    intro i h hd
    have hlt : i < l.length := by omega
    refine Ev.step (f := fun k => murmur_Unordered.l0 k x0 ((h + rd l (i : Int)) % 4294967296) l (l.length : Int) ((i + 1 : Nat) : Int)) (fun k => ?_) ?_
    · simp only [murmur_Unordered.l0]
      rw [if_pos (by omega), if_pos (by omega), if_pos (by omega), wrap_up (by omega) (by omega) 1 (by omega) (by omega)]
      rfl
    · have := ih (i + 1) ((h + rd l (i : Int)) % 4294967296) (by omega)
      rw [List.drop_eq_getElem_cons hlt, List.foldl_cons]
      have e : rd l (i : Int) = l[i] := by unfold rd; simp [List.getD_eq_getElem?_getD, hlt]
      rw [e] at this
      rw [e]; exact this
theorem un_is (l : List Int) (hl : l.length ≤ 140737488355327) : Ev (fun k => murmur_Unordered.f k l) ((murmur_Coll.f (l.foldl (fun h x => (h + x) % 4294967296) 0) (l.length : Int)).getD 0) := by
  have := un_ev l l hl l.length 0 0 (by omega)
  rw [List.drop_zero] at this
  exact this

theorem fold_sum (l : List Int) : ∀ h : Int, 0 ≤ h → h < 4294967296 → l.foldl (fun h x => (h + x) % 4294967296) h = (h + l.sum) % 4294967296 := by
  induction l with
  | nil => intro h h0 h1; rw [List.foldl_nil, List.sum_nil]; omega
  | cons x l ih => intro h h0 h1; rw [List.foldl_cons, ih _ (by omega) (by omega), List.sum_cons]; omega
theorem sum_set (l : List Int) (i : Nat) (v : Int) (hi : i < l.length) : (l.set i v).sum = l.sum - l[i] + v := by
  induction l generalizing i with
  | nil => simp at hi
  | cons x l ih =>
    cases i with
    | zero => rw [List.set_cons_zero, List.sum_cons, List.sum_cons, List.getElem_cons_zero]; omega
    | succ i => 
      have := ih i (by simpa using hi)
      simp [this]; omega
theorem sum_swap (l : List Int) (i j : Nat) (hi : i < l.length) (hj : j < l.length) : ((l.set i l[j]).set j l[i]).sum = l.sum := by
  rw [sum_set _ _ _ (by simpa using hj), sum_set _ _ _ hi]
  by_cases h : i = j
  · subst h; simp
  · rw [List.getElem_set_ne h]; omega
theorem join (l : List Int) (i j k : Nat) (r : Int) (hl : l.length ≤ 140737488355327) (hb : l.length * 4 ≤ 140737488351232) (hi : i < l.length) (hj : j < l.length)
    (h1 : murmur_Unordered.f k l = some r) (h2 : murmur_Unordered.f k ((l.set i l[j]).set j l[i]) = some r) (hk : spinneylaw03_speaks.f k = some true) :
    spinneylaw03_MurmurTurned.j0 (k + 1) l (i : Int) (j : Int) false = some true := by
  have ei : rd l (i : Int) = l[i] := by unfold rd; simp [List.getD_eq_getElem?_getD, hi]
  have ej : rd l (j : Int) = l[j] := by unfold rd; simp [List.getD_eq_getElem?_getD, hj]
  simp only [spinneylaw03_MurmurTurned.j0]
  rw [if_neg (by decide), if_pos (by simp; omega)]
  simp only [Option.bind_some, List.nil_append]
  rw [if_pos (by omega), if_pos (by omega), if_pos (by omega), if_pos (by omega), if_pos (by omega), if_pos (by omega), ei, ej]
  simp only [Int.toNat_natCast]
  rw [h1, h2, hk]
  simp only [Option.bind_some, if_true]
end MTurned
open MTurned
theorem MurmurTurned : spinneylaw03_MurmurTurned.Pure := by
  intro l a b hm hb _ _ _
  obtain ⟨K3, h3⟩ := speaks
  have early : ∃ k, spinneylaw03_MurmurTurned.j0 k l a b true = some true := by
    refine ⟨K3 + 1, ?_⟩
    have g3 := h3 K3 (by omega)
    simp only at g3
    simp only [spinneylaw03_MurmurTurned.j0, if_true, g3, Option.bind_some]
  unfold spinneylaw03_MurmurTurned.f
  by_cases c1 : a < 0
  · simp only [if_pos c1]; exact early
  by_cases c2 : b < 0
  · simp only [if_neg c1, if_pos c2]; exact early
  by_cases c3 : a ≥ (l.length : Int)
  · simp only [if_neg c1, if_neg c2, if_pos c3]; exact early
  by_cases c4 : b ≥ (l.length : Int)
  · simp only [if_neg c1, if_neg c2, if_neg c3]; rw [show decide (b ≥ (l.length : Int)) = true from decide_eq_true c4]; exact early
  simp only [if_neg c1, if_neg c2, if_neg c3]
  rw [show decide (b ≥ (l.length : Int)) = false from decide_eq_false c4]
  obtain ⟨i, rfl⟩ := Int.eq_ofNat_of_zero_le (a := a) (by omega)
  obtain ⟨j, rfl⟩ := Int.eq_ofNat_of_zero_le (a := b) (by omega)
  have hi : i < l.length := by omega
  have hj : j < l.length := by omega
  have hl : l.length ≤ 140737488355327 := by omega
  obtain ⟨K1, h1⟩ := un_is l hl
  obtain ⟨K2, h2⟩ := un_is ((l.set i l[j]).set j l[i]) (by simpa using hl)
  have g1 := h1 (max K1 (max K2 K3)) (by omega)
  have g2 := h2 (max K1 (max K2 K3)) (by omega)
  have g3 := h3 (max K1 (max K2 K3)) (by omega)
  refine ⟨max K1 (max K2 K3) + 1, ?_⟩
  generalize max K1 (max K2 K3) = k at g1 g2 g3
  simp only at g1 g2 g3
  rw [fold_sum _ 0 (by omega) (by omega), sum_swap l i j hi hj, List.length_set, List.length_set] at g2
  rw [fold_sum _ 0 (by omega) (by omega)] at g1
  exact join l i j k _ hl hb hi hj g1 g2 g3

end Go.Proofs.Ytkldnfpcemfibaa.Pure
