/- What OrderAgain is proved with: what slices.Grow of nothing comes to. -/
import Derived.Test.YtehajklneljbgaaDoorZOrderAgainA1
import Derived.Shelf.Spec.SlicesGrow
section
set_option linter.unusedVariables false
set_option linter.unusedSimpArgs false
set_option linter.unusedSimpArgs false
set_option linter.unusedVariables false
namespace Go.Ab
open Go.RowKit Go.Proofs Go.Shelf
variable {P : Program}
/-- what slices.Grow(nil, n) comes to: a new array of nothing, of whatever room -/
def growR (size bytes : Nat) (xs : List V) (hp : Hp) : Option (V × Hp) :=
  match xs with
  | [.sl true [] 0, .int .i64 n] =>
    if n = 0 then some (.sl true [] 0, hp)
    else if 0 < n ∧ n.toNat * bytes ≤ 140737488355328 ∧ n.toNat ≤ 140737488355328 then some (.rsl false hp.m 0 0 0, ⟨hp.h, hp.n + 1, upd hp.a hp.m (some ⟨0, size, [], none, 0⟩), hp.m + 1⟩) else none
  | _ => none
theorem grow_ok {L : World → Prop} {ρ : Ren} (Ly : Lays8.n4 P ρ) (hg : Goes P (ρ.f 4)) {i0 : TypeInfo} {z : Value} (hi0 : P.info? (ρ.t 25) = some i0) (hz0 : i0.zero = some z) (hs0 : 0 < i0.size) (hzs : z.cells.size = i0.size) (hzc : ∀ y ∈ z.cells.toList, Sc y)
    {av : List V} {hp hp' : Hp} {r : V} (hc : growR i0.size i0.bytes av hp = some (r, hp')) : Goes P (ρ.f 4) ∧ RefC P L (ρ.f 4) av hp r hp' := by
  refine ⟨hg, fun base G w xs hL hs hB hfb hfa hxs => ?_⟩
  unfold growR at hc
  split at hc <;> try cases hc
  rename_i n
  obtain ⟨x1, ys, e1, h1, x2, zs, e2, h2, h3⟩ := hxs
  simp only [VRs] at h3
  subst h3
  obtain ⟨a, cap, rfl, hle, hcap, _⟩ := h1
  have hcap := hcap rfl
  subst hcap
  simp only [VR] at h2
  subst h2
  subst e2
  obtain rfl : xs = #[.slice a 0 0, .int .i64 n] := by cases xs; simp_all
  split at hc
  · rename_i hn0
    cases hc
    subst hn0
    refine (Any8.slices_Grow_room Ly a 0 0 0 w (Nat.le_refl _) (by omega) (by omega) (by omega)).mono ?_
    rintro e w' ⟨rfl, rfl⟩
    exact ⟨_, G, rfl, ⟨hs, Grow.refl _ _, Below.refl _ _, hB, hfb, hfa, Nat.le_refl _, Nat.le_refl _, fun _ _ => rfl, fun _ _ h => h, hfb, fun _ _ h _ => h⟩, ⟨a, 0, rfl, Nat.le_refl _, fun _ => rfl, .inl ⟨rfl, rfl⟩⟩⟩
  · rename_i hn0
    split at hc <;> cases hc
    rename_i hb
    obtain ⟨k, rfl⟩ : ∃ k : Nat, n = k := ⟨n.toNat, by omega⟩
    rw [Int.toNat_natCast] at hb
    refine (Any8.slices_Grow_grow Ly i0 z hi0 hz0 hs0 a 0 0 k [] w (Nat.le_refl _) (by omega) (by rw [Nat.zero_add]; exact hb.2.1) (by omega) (by simp) (fun _ => rfl) (fun a' _ j v hj => by simp at hj)).mono ?_
    rintro e w' ⟨rfl, rfl⟩
    obtain ⟨ow, hso⟩ := hs
    generalize hK : grownCap w (0 + k) 0 (ρ.t 25) = K
    have hge : 0 + k ≤ K := by rw [← hK]; exact grownCap_ge w _ _ _
    have hel : Elder w (w.drew.alloc (.cells (([] : List Value).toArray ++ Builtin.zeroCells z.cells (0 + k - 0) ++ Builtin.zeroCells z.cells (K - (0 + k))) (ρ.t 25))) := Elder.trans (Elder.drew w) (Elder.alloc w.drew _)
    have hblk : (w.drew.alloc (.cells (([] : List Value).toArray ++ Builtin.zeroCells z.cells (0 + k - 0) ++ Builtin.zeroCells z.cells (K - (0 + k))) (ρ.t 25))).heap[w.heap.size]? = some (.cells (([] : List Value).toArray ++ Builtin.zeroCells z.cells (0 + k - 0) ++ Builtin.zeroCells z.cells (K - (0 + k))) (ρ.t 25) (0, 0)) := newBlk w.drew _
    have hC : (([] : List Value).toArray ++ Builtin.zeroCells z.cells (0 + k - 0) ++ Builtin.zeroCells z.cells (K - (0 + k))).size = K * i0.size := by
      simp only [Array.size_append, size_zeroC, hzs, List.size_toArray, List.length_nil, Nat.zero_add, Nat.sub_zero, ← Nat.add_mul]
      congr 1; omega
    obtain ⟨G', k1, k2, k3, k4, k5, k6⟩ := hso.newArr hel hp.m ⟨0, i0.size, [], none, 0⟩ (fun v _ => hfa _ (Nat.le_refl _) v) w.heap.size (K * i0.size) (Nat.le_refl _) hB (fun G' hG hS => by
      refine ⟨_, ρ.t 25, hblk, hC, Nat.zero_le _, rfl, ?_, fun m hm => (by cases hm), fun q hq => ?_, Nat.le_refl _⟩
      · intro y hy
        simp only [Array.toList_append, List.mem_append] at hy
        rcases hy with (hy | hy) | hy
        · cases hy
        · exact zeroC_sc z hzc _ y hy
        · exact zeroC_sc z hzc _ y hy
      · have := hso.S _ _ (hS _ _ hq); omega)
    obtain ⟨ow', hs'⟩ := k2
    refine ⟨_, G', rfl, ⟨⟨ow', hs'.S, hs'.box, hs'.arr⟩, k1, Below.mono hel hB, Nat.le_trans hB hel.size, fun b hb => (by rw [k4]; exact hfb b (by simp only at hb; omega)), fun i hi v => (by rw [k5 i v (.inl (by simp only at hi; omega))]; exact hfa i (by simp only at hi; omega) v), by simp, by simp, fun b _ => k4 b, fun i hi h v => (by rw [k5 i v (.inl (by omega))]; exact h v), hfb, fun q o h _ => k6 q o h⟩, ?_⟩
    exact ⟨_, _, _, 0, K, k3, rfl, Nat.zero_le _, .inr rfl, by simp, fun _ => by simp⟩
theorem grow_okT {L : World → Prop} {ρ : Ren} (Ly : Lays8.n4 P ρ) (hg : Goes P (ρ.f 4)) {e : Nat} (he : ρ.t 25 = e) {z : List V} (hz : tzero P e = some z) (hl : z.length = tsize P e) (h0 : tsize P e ≠ 0)
    {av : List V} {hp hp' : Hp} {r : V} (hc : growR (tsize P e) (tbytes P e) av hp = some (r, hp')) : Goes P (ρ.f 4) ∧ RefC P L (ρ.f 4) av hp r hp' := by
  obtain ⟨i, v, h1, h2, h3, h4⟩ := tzero_spec hz
  rw [tsize_eq h1] at hl h0 hc
  rw [tbytes_eq h1] at hc
  rw [h3, List.length_map, Array.length_toList] at hl
  exact grow_ok Ly hg (by rw [he]; exact h1) h2 (by omega) hl h4 hc
end Go.Ab
end
