/- What OrderMerges is proved with: what the program's functions make of their arguments, by the evaluator. -/
import Derived.Test.YtehajklneljbgaaGreatDoorZOrderMergesV2
import Derived.Test.YtehajklneljbgaaGreatDoorZOrderMergesV0
section
set_option linter.unusedVariables false
set_option linter.unusedSimpArgs false
open Go Go.Ab Go.Proofs Go.Vl
namespace Go.Proofs.YtehajklneljbgaaGreatDoor.AB
set_option maxRecDepth 100000
set_option maxHeartbeats 16000000
set_option linter.unusedSimpArgs false
set_option linter.unusedVariables false
/-- rows of so many, each sorted -/
def Blk (f : T → T → Int) (n : Nat) (cs : List (List T)) : Prop := ∀ c ∈ cs, c.length = n ∧ Le f c
theorem blk_len {f : T → T → Int} {n : Nat} : ∀ {cs : List (List T)}, Blk f n cs → cs.flatten.length = cs.length * n
  | [], _ => by simp
  | c :: cs, h => by
    rw [List.flatten_cons, List.length_append, (h c (by simp)).1, blk_len (cs := cs) (fun x hx => h x (by simp [hx])), List.length_cons, Nat.add_mul]; omega
theorem blk_add {f : T → T → Int} {n : Nat} {cs : List (List T)} {c : List T} (h : Blk f n cs) (h1 : c.length = n) (h2 : Le f c) : Blk f n (cs ++ [c]) := fun x hx => by
  rcases List.mem_append.1 hx with hx | hx
  · exact h x hx
  · simp at hx; subst hx; exact ⟨h1, h2⟩
section
variable {ext : Exts}
theorem ins_use (hn : Non ext) (h26 : E26 ext) (h73 : E73 ext) (o : Nat) (h5 : o ≤ 5) {p M s : List T} {b v N : Nat} {cap : Option Nat} {xs : List V} {hp : Hp} {Q : V → Hp → Prop} (hG : Gd M) (hN : N ≤ 65536) (hlen : (p ++ M ++ s).length = N)
    (e : [.rsl false b v 0 N, .int .i64 p.length, .int .i64 ((p.length + M.length : Nat) : Int), rowOf o] = xs) (ha : hp.a b = some ⟨v, 4, encL (p ++ M ++ s), cap, 0⟩) (hb : b < hp.m)
    (q : ∀ hp' M', Le (ordF ext o) M' → M'.Perm M → hp'.a b = some ⟨v, 4, encL (p ++ M' ++ s), cap, 0⟩ → b < hp'.m → Q (.tup []) hp') : ∃ r hp', (cfg ext).EvR 79 xs hp r hp' ∧ Q r hp' := by
  obtain ⟨hp', Z, h1, h2, h3, h4, h5⟩ := tins hn h26 h73 o h5 b v cap p M s hG (by omega) hp ha hb
  rw [hlen, e] at h1
  exact ⟨_, hp', h1, q hp' Z h2 h3 h4 h5⟩
theorem lstA (hn : Non ext) (h26 : E26 ext) (h73 : E73 ext) (o : Nat) (h5 : o ≤ 5) (N b v : Nat) (hN : N ≤ 65536) (cap : Option Nat) (Q : Ex → St → Prop) (n : Nat) (d : Nat) :
    ∀ (cs : List (List T)) (R : List T) (z : St), R.length ≤ d → Gd (cs.flatten ++ R) → Blk (ordF ext o) 20 cs → (cs.flatten ++ R).length = N →
      Has z.t [(0, .rsl false b v 0 N), (1, .int .i64 N), (2, rowOf o), (6, .int .i64 20), (7, .int .i64 cs.flatten.length), (8, .int .i64 ((cs.flatten.length + 20 : Nat) : Int))] → z.hp.n = n → z.hp.a b = some ⟨v, 4, encL (cs.flatten ++ R), cap, 0⟩ → b < z.hp.m →
      (∀ (z' : St) (cs' : List (List T)) (R' : List T), Blk (ordF ext o) 20 cs' → R'.length < 20 → (cs'.flatten ++ R').Perm (cs.flatten ++ R) →
        Has z'.t [(0, .rsl false b v 0 N), (1, .int .i64 N), (2, rowOf o), (6, .int .i64 20), (7, .int .i64 cs'.flatten.length)] → z'.hp.a b = some ⟨v, 4, encL (cs'.flatten ++ R'), cap, 0⟩ → b < z'.hp.m → Q (.exit 0) z') →
      Go.Ab.Loop (cfg ext) (lpN Tryz.f58 0) n z Q := by
  have hcl := row_clean o h5
  obtain ⟨fk, fc, ef⟩ := row_fn o h5
  have stop : ∀ (cs : List (List T)) (R : List T) (z : St), R.length < 20 → Blk (ordF ext o) 20 cs → (cs.flatten ++ R).length = N →
      Has z.t [(0, .rsl false b v 0 N), (1, .int .i64 N), (2, rowOf o), (6, .int .i64 20), (7, .int .i64 cs.flatten.length), (8, .int .i64 ((cs.flatten.length + 20 : Nat) : Int))] → z.hp.n = n → z.hp.a b = some ⟨v, 4, encL (cs.flatten ++ R), cap, 0⟩ → b < z.hp.m →
      (∀ (z' : St) (cs' : List (List T)) (R' : List T), Blk (ordF ext o) 20 cs' → R'.length < 20 → (cs'.flatten ++ R').Perm (cs.flatten ++ R) →
        Has z'.t [(0, .rsl false b v 0 N), (1, .int .i64 N), (2, rowOf o), (6, .int .i64 20), (7, .int .i64 cs'.flatten.length)] → z'.hp.a b = some ⟨v, 4, encL (cs'.flatten ++ R'), cap, 0⟩ → b < z'.hp.m → Q (.exit 0) z') →
      Go.Ab.Loop (cfg ext) (lpN Tryz.f58 0) n z Q := by
    intro cs R z hR hB hlen ht hz ha hb hq
    have g : decide (((cs.flatten.length + 20 : Nat) : Int) ≤ (N : Int)) = false := decide_eq_false (by rw [List.length_append] at hlen; omega)
    rw [St.knows _ _ ht hz]
    refine Loop.round ?_
    conv => whnf
    refine sel_no g ?_
    conv => whnf
    exact hq _ cs R hB hR (List.Perm.refl _) ⟨rfl, rfl, rfl, rfl, rfl, trivial⟩ ha (Nat.lt_of_lt_of_le hb (by (conv => lhs; whnf); (repeat ((conv => rhs; whnf); first | with_reducible exact Nat.le_refl _ | refine Nat.le_trans ?_ (Nat.le_add_right _ _) | refine Nat.le_succ_of_le ?_ | exact Nat.le_refl _))))
  induction d with
  | zero =>
    intro cs R z hd hG hB hlen ht hz ha hb hq
    exact stop cs R z (by omega) hB hlen ht hz ha hb hq
  | succ d ih =>
    intro cs R z hd hG hB hlen ht hz ha hb hq
    by_cases hR : R.length < 20
    · exact stop cs R z hR hB hlen ht hz ha hb hq
    obtain ⟨c, R2, hcR, hc⟩ : ∃ c R2, R = c ++ R2 ∧ c.length = 20 := ⟨R.take 20, R.drop 20, (List.take_append_drop _ _).symm, by rw [List.length_take]; omega⟩
    subst hcR
    rw [List.length_append] at hd hR
    have hlen' := hlen
    simp only [List.length_append] at hlen'
    have g : decide (((cs.flatten.length + 20 : Nat) : Int) ≤ (N : Int)) = true := decide_eq_true (by omega)
    have w8 : IntKind.i64.wrap (((cs.flatten.length + 20 : Nat) : Int) + 20) = ((cs.flatten.length + 20 + 20 : Nat) : Int) := by rw [IntKind.wrap_i64]; omega
    have el : cs.flatten ++ (c ++ R2) = cs.flatten ++ c ++ R2 := by simp
    rw [el] at ha hG hlen
    rw [ef] at ht
    rw [St.knows _ _ ht hz]
    refine Loop.round ?_
    conv => whnf
    refine sel_yes g ?_
    conv => whnf
    refine ins_use hn h26 h73 o h5 (p := cs.flatten) (M := c) (s := R2) (fun x hx => hG x (by simp [hx])) hN hlen (by rw [ef, hc]; rfl) ha (Nat.lt_of_lt_of_le hb (by (conv => lhs; whnf); (repeat ((conv => rhs; whnf); first | with_reducible exact Nat.le_refl _ | refine Nat.le_trans ?_ (Nat.le_add_right _ _) | refine Nat.le_succ_of_le ?_ | exact Nat.le_refl _)))) (fun hp' M' k1 k2 k3 k4 => ?_)
    have hl := k2.length_eq
    have e2 : (cs ++ [M']).flatten = cs.flatten ++ M' := by simp
    have e3 : (cs ++ [M']).flatten.length = cs.flatten.length + 20 := by rw [e2, List.length_append]; omega
    conv => whnf
    refine ih (cs ++ [M']) R2 _ (by omega) (hG.perm ?_) (blk_add hB (by omega) k1) (by rw [List.length_append, e3]; omega) ⟨rfl, rfl, ?_, rfl, ?_, ?_, trivial⟩ rfl (by rw [e2]; exact trunc_arr k3) (Nat.lt_of_lt_of_le k4 (by (conv => lhs; whnf); (repeat ((conv => rhs; whnf); first | with_reducible exact Nat.le_refl _ | refine Nat.le_trans ?_ (Nat.le_add_right _ _) | refine Nat.le_succ_of_le ?_ | exact Nat.le_refl _)))) (fun z' cs' R' q1 q2 q3 => hq z' cs' R' q1 q2 (q3.trans ?_))
    · rw [e2]; exact List.Perm.append_right _ (List.Perm.append_left _ k2)
    · rw [ef]; have := hcl n; rw [ef] at this; exact this
    · exact vi (by rw [e3])
    · conv => lhs; whnf
      exact vi (by rw [w8, e3])
    · rw [e2, el]; exact List.Perm.append_right _ (List.Perm.append_left _ k2)
theorem lstI (hn : Non ext) (h26 : E26 ext) (h73 : E73 ext) (o : Nat) (h5 : o ≤ 5) (N b v : Nat) (hN : N ≤ 65536) (cap : Option Nat) (bs : Nat) (hbs : bs < N) (h0 : 0 < bs) (R : List T) (hR : R.length < bs) (Q : Ex → St → Prop) (n : Nat) (d : Nat) :
    ∀ (cs ds : List (List T)) (z : St), cs.length ≤ d → Gd (ds.flatten ++ cs.flatten ++ R) → Blk (ordF ext o) bs cs → Blk (ordF ext o) (2 * bs) ds → (ds.flatten ++ cs.flatten ++ R).length = N →
      Has z.t [(0, .rsl false b v 0 N), (1, .int .i64 N), (2, rowOf o), (6, .int .i64 bs), (7, .int .i64 ds.flatten.length), (8, .int .i64 ((ds.flatten.length + 2 * bs : Nat) : Int))] → z.hp.n = n → z.hp.a b = some ⟨v, 4, encL (ds.flatten ++ cs.flatten ++ R), cap, 0⟩ → b < z.hp.m →
      (∀ (z' : St) (cs' ds' : List (List T)), cs'.length ≤ 1 → Blk (ordF ext o) bs cs' → Blk (ordF ext o) (2 * bs) ds' → (ds'.flatten ++ cs'.flatten ++ R).Perm (ds.flatten ++ cs.flatten ++ R) →
        Has z'.t [(0, .rsl false b v 0 N), (1, .int .i64 N), (2, rowOf o), (6, .int .i64 bs), (7, .int .i64 ds'.flatten.length)] → z'.hp.a b = some ⟨v, 4, encL (ds'.flatten ++ cs'.flatten ++ R), cap, 0⟩ → b < z'.hp.m → Q (.exit 4) z') →
      Go.Ab.Loop (cfg ext) (lpN Tryz.f58 2) n z Q := by
  have hcl := row_clean o h5
  obtain ⟨fk, fc, ef⟩ := row_fn o h5
  have stop : ∀ (cs ds : List (List T)) (z : St), cs.length ≤ 1 → Blk (ordF ext o) bs cs → Blk (ordF ext o) (2 * bs) ds → (ds.flatten ++ cs.flatten ++ R).length = N →
      Has z.t [(0, .rsl false b v 0 N), (1, .int .i64 N), (2, rowOf o), (6, .int .i64 bs), (7, .int .i64 ds.flatten.length), (8, .int .i64 ((ds.flatten.length + 2 * bs : Nat) : Int))] → z.hp.n = n → z.hp.a b = some ⟨v, 4, encL (ds.flatten ++ cs.flatten ++ R), cap, 0⟩ → b < z.hp.m →
      (∀ (z' : St) (cs' ds' : List (List T)), cs'.length ≤ 1 → Blk (ordF ext o) bs cs' → Blk (ordF ext o) (2 * bs) ds' → (ds'.flatten ++ cs'.flatten ++ R).Perm (ds.flatten ++ cs.flatten ++ R) →
        Has z'.t [(0, .rsl false b v 0 N), (1, .int .i64 N), (2, rowOf o), (6, .int .i64 bs), (7, .int .i64 ds'.flatten.length)] → z'.hp.a b = some ⟨v, 4, encL (ds'.flatten ++ cs'.flatten ++ R), cap, 0⟩ → b < z'.hp.m → Q (.exit 4) z') →
      Go.Ab.Loop (cfg ext) (lpN Tryz.f58 2) n z Q := by
    intro cs ds z hc hB hD hlen ht hz ha hb hq
    have hbl := blk_len hB
    have g : decide (((ds.flatten.length + 2 * bs : Nat) : Int) ≤ (N : Int)) = false := decide_eq_false (by
      simp only [List.length_append] at hlen
      have : cs.length = 0 ∨ cs.length = 1 := by omega
      rcases this with h | h <;> rw [h] at hbl <;> omega)
    rw [St.knows _ _ ht hz]
    refine Loop.round ?_
    conv => whnf
    refine sel_no g ?_
    conv => whnf
    exact hq _ cs ds hc hB hD (List.Perm.refl _) ⟨rfl, rfl, rfl, rfl, rfl, trivial⟩ ha (Nat.lt_of_lt_of_le hb (by (conv => lhs; whnf); (repeat ((conv => rhs; whnf); first | with_reducible exact Nat.le_refl _ | refine Nat.le_trans ?_ (Nat.le_add_right _ _) | refine Nat.le_succ_of_le ?_ | exact Nat.le_refl _))))
  induction d with
  | zero =>
    intro cs ds z hd hG hB hD hlen ht hz ha hb hq
    exact stop cs ds z (by omega) hB hD hlen ht hz ha hb hq
  | succ d ih =>
    intro cs ds z hd hG hB hD hlen ht hz ha hb hq
    match cs, hd, hG, hB, hlen, ha, hq with
    | [], hd, hG, hB, hlen, ha, hq => exact stop [] ds z (by simp) hB hD hlen ht hz ha hb hq
    | [c], hd, hG, hB, hlen, ha, hq => exact stop [c] ds z (by simp) hB hD hlen ht hz ha hb hq
    | c1 :: c2 :: cs, hd, hG, hB, hlen, ha, hq =>
      have b1 := hB c1 (by simp)
      have b2 := hB c2 (by simp)
      simp only [List.length_cons] at hd
      have el : ds.flatten ++ (c1 :: c2 :: cs).flatten ++ R = ds.flatten ++ c1 ++ c2 ++ (cs.flatten ++ R) := by simp
      rw [el] at hG hlen ha
      have hlen' := hlen
      simp only [List.length_append] at hlen'
      have g : decide (((ds.flatten.length + 2 * bs : Nat) : Int) ≤ (N : Int)) = true := decide_eq_true (by omega)
      have w1 : IntKind.i64.wrap ((ds.flatten.length : Int) + (bs : Int)) = ((ds.flatten.length + c1.length : Nat) : Int) := by rw [IntKind.wrap_i64]; omega
      have w2 : IntKind.i64.wrap (2 * (bs : Int)) = ((2 * bs : Nat) : Int) := by rw [IntKind.wrap_i64]; omega
      have w3 : IntKind.i64.wrap (((ds.flatten.length + 2 * bs : Nat) : Int) + IntKind.i64.wrap (2 * (bs : Int))) = ((ds.flatten.length + 2 * bs + 2 * bs : Nat) : Int) := by rw [w2, IntKind.wrap_i64]; omega
      have n2 : ds.flatten.length + 2 * bs = ds.flatten.length + c1.length + c2.length := by omega
      rw [ef] at ht
      rw [St.knows _ _ ht hz]
      refine Loop.round ?_
      conv => whnf
      refine sel_yes g ?_
      conv => whnf
      refine (tsm hn h26 h73 o h5 _ c1 c2 (Nat.le_refl _)).use (p := ds.flatten) (s := cs.flatten ++ R) hG hN hlen (by omega) (by omega) b1.2 b2.2 (by rw [ef, ← w1, ← n2]; rfl) ha (Nat.lt_of_lt_of_le hb (by (conv => lhs; whnf); (repeat ((conv => rhs; whnf); first | with_reducible exact Nat.le_refl _ | refine Nat.le_trans ?_ (Nat.le_add_right _ _) | refine Nat.le_succ_of_le ?_ | exact Nat.le_refl _)))) (fun hp' Z k1 k2 k3 k4 => ?_)
      have hl := k2.length_eq
      rw [List.length_append] at hl
      have e2 : (ds ++ [Z]).flatten = ds.flatten ++ Z := by simp
      have e3 : (ds ++ [Z]).flatten.length = ds.flatten.length + 2 * bs := by rw [e2, List.length_append]; omega
      have e4 : (ds ++ [Z]).flatten ++ cs.flatten ++ R = ds.flatten ++ Z ++ (cs.flatten ++ R) := by simp
      have pz : (ds.flatten ++ Z ++ (cs.flatten ++ R)).Perm (ds.flatten ++ c1 ++ c2 ++ (cs.flatten ++ R)) := by
        rw [show ds.flatten ++ c1 ++ c2 ++ (cs.flatten ++ R) = ds.flatten ++ (c1 ++ c2) ++ (cs.flatten ++ R) by simp]
        exact List.Perm.append_right _ (List.Perm.append_left _ k2)
      conv => whnf
      refine ih cs (ds ++ [Z]) _ (by omega) (hG.perm (by rw [e4]; exact pz)) (fun x hx => hB x (by simp [hx])) (blk_add hD (by omega) k1) (by rw [e4, pz.length_eq]; exact hlen) ⟨rfl, rfl, ?_, rfl, ?_, ?_, trivial⟩ rfl (by rw [e4]; exact trunc_arr k3) (Nat.lt_of_lt_of_le k4 (by (conv => lhs; whnf); (repeat ((conv => rhs; whnf); first | with_reducible exact Nat.le_refl _ | refine Nat.le_trans ?_ (Nat.le_add_right _ _) | refine Nat.le_succ_of_le ?_ | exact Nat.le_refl _)))) (fun z' cs' ds' q0 q1 q2 q3 => hq z' cs' ds' q0 q1 q2 (q3.trans ?_))
      · rw [ef]; have := hcl n; rw [ef] at this; exact this
      · exact vi (by rw [e3])
      · conv => lhs; whnf
        exact vi (by rw [w3, e3])
      · rw [e4, el]; exact pz
end
end Go.Proofs.YtehajklneljbgaaGreatDoor.AB
end

section
set_option linter.unusedVariables false
set_option linter.unusedSimpArgs false
open Go Go.Ab Go.Proofs Go.Vl
namespace Go.Proofs.YtehajklneljbgaaGreatDoor.AB
set_option maxRecDepth 100000
set_option maxHeartbeats 16000000
set_option linter.unusedSimpArgs false
set_option linter.unusedVariables false
section
variable {ext : Exts}
theorem lstB (hn : Non ext) (h26 : E26 ext) (h73 : E73 ext) (o : Nat) (h5 : o ≤ 5) (N b v : Nat) (hN : N ≤ 65536) (cap : Option Nat) (Q : Ex → St → Prop) (n : Nat) (d : Nat) :
    ∀ (bs : Nat) (cs : List (List T)) (R : List T) (z : St), N - bs ≤ d → 0 < bs → R.length < bs → Le (ordF ext o) R → Gd (cs.flatten ++ R) → Blk (ordF ext o) bs cs → (cs.flatten ++ R).length = N →
      Has z.t [(0, .rsl false b v 0 N), (1, .int .i64 N), (2, rowOf o), (6, .int .i64 bs)] → z.hp.n = n → z.hp.a b = some ⟨v, 4, encL (cs.flatten ++ R), cap, 0⟩ → b < z.hp.m →
      (∀ (z' : St) (L' : List T), Le (ordF ext o) L' → L'.Perm (cs.flatten ++ R) → z'.hp.a b = some ⟨v, 4, encL L', cap, 0⟩ → b < z'.hp.m → Q (.exit 2) z') →
      Go.Ab.Loop (cfg ext) (lpN Tryz.f58 1) n z Q := by
  have hcl := row_clean o h5
  obtain ⟨fk, fc, ef⟩ := row_fn o h5
  have hcl' : ∀ n, cleanV n (.fn fk fc) = .fn fk fc := fun n => by have := hcl n; rw [ef] at this; exact this
  have stop : ∀ (bs : Nat) (cs : List (List T)) (R : List T) (z : St), N ≤ bs → R.length < bs → Le (ordF ext o) R → Blk (ordF ext o) bs cs → (cs.flatten ++ R).length = N →
      Has z.t [(0, .rsl false b v 0 N), (1, .int .i64 N), (2, rowOf o), (6, .int .i64 bs)] → z.hp.n = n → z.hp.a b = some ⟨v, 4, encL (cs.flatten ++ R), cap, 0⟩ → b < z.hp.m →
      (∀ (z' : St) (L' : List T), Le (ordF ext o) L' → L'.Perm (cs.flatten ++ R) → z'.hp.a b = some ⟨v, 4, encL L', cap, 0⟩ → b < z'.hp.m → Q (.exit 2) z') →
      Go.Ab.Loop (cfg ext) (lpN Tryz.f58 1) n z Q := by
    intro bs cs R z hNb hR sR hB hlen ht hz ha hb hq
    have hbl := blk_len hB
    have g : decide ((bs : Int) < (N : Int)) = false := decide_eq_false (by omega)
    have fin : Le (ordF ext o) (cs.flatten ++ R) := by
      rw [List.length_append] at hlen
      have hc : cs.length = 0 ∨ cs.length = 1 ∨ 2 ≤ cs.length := by omega
      rcases hc with hc | hc | hc
      · obtain rfl := List.eq_nil_of_length_eq_zero hc
        simpa [Le] using sR
      · obtain ⟨c, rfl⟩ := List.length_eq_one_iff.1 hc
        rw [hc] at hbl
        have : R = [] := List.eq_nil_of_length_eq_zero (by omega)
        subst this
        have := (hB c (by simp)).2
        simpa [Le] using this
      · have : 2 * bs ≤ cs.length * bs := Nat.mul_le_mul_right bs hc
        omega
    rw [St.knows _ _ ht hz]
    refine Loop.round ?_
    conv => whnf
    refine sel_no g ?_
    conv => whnf
    exact hq _ _ fin (List.Perm.refl _) ha (Nat.lt_of_lt_of_le hb (by (conv => lhs; whnf); (repeat ((conv => rhs; whnf); first | with_reducible exact Nat.le_refl _ | refine Nat.le_trans ?_ (Nat.le_add_right _ _) | refine Nat.le_succ_of_le ?_ | exact Nat.le_refl _))))
  induction d with
  | zero =>
    intro bs cs R z hd h0 hR sR hG hB hlen ht hz ha hb hq
    exact stop bs cs R z (by omega) hR sR hB hlen ht hz ha hb hq
  | succ d ih =>
    intro bs cs R z hd h0 hR sR hG hB hlen ht hz ha hb hq
    by_cases hNb : N ≤ bs
    · exact stop bs cs R z hNb hR sR hB hlen ht hz ha hb hq
    have g : decide ((bs : Int) < (N : Int)) = true := decide_eq_true (by omega)
    have w2 : IntKind.i64.wrap (2 * (bs : Int)) = ((([] : List (List T)).flatten.length + 2 * bs : Nat) : Int) := by rw [IntKind.wrap_i64]; simp; omega
    have w4 : IntKind.i64.wrap ((bs : Int) * 2) = ((2 * bs : Nat) : Int) := by rw [IntKind.wrap_i64]; omega
    have e0 : ([] : List (List T)).flatten ++ cs.flatten ++ R = cs.flatten ++ R := by simp
    rw [ef] at ht
    rw [St.knows _ _ ht hz]
    refine Loop.round ?_
    conv => whnf
    refine sel_yes g ?_
    conv => whnf
    refine lstI hn h26 h73 o h5 N b v hN cap bs (by omega) h0 R hR _ _ cs.length cs [] _ (Nat.le_refl _) (by rw [e0]; exact hG) hB (fun c hc => by cases hc) (by rw [e0]; exact hlen) ⟨rfl, rfl, ef.symm, rfl, rfl, ?_, trivial⟩ rfl (by rw [e0]; exact ha) (Nat.lt_of_lt_of_le hb (by (conv => lhs; whnf); (repeat ((conv => rhs; whnf); first | with_reducible exact Nat.le_refl _ | refine Nat.le_trans ?_ (Nat.le_add_right _ _) | refine Nat.le_succ_of_le ?_ | exact Nat.le_refl _)))) (fun z1 cs' ds' q1 q2 q3 q4 q5 q6 q7 => ?_)
    · conv => lhs; whnf
      exact vi w2
    rw [e0] at q4
    have hl4 := q4.length_eq
    rw [hlen] at hl4
    simp only [List.length_append] at hl4
    have hbl := blk_len q2
    have w5 : IntKind.i64.wrap ((ds'.flatten.length : Int) + (bs : Int)) = ((ds'.flatten.length + bs : Nat) : Int) := by rw [IntKind.wrap_i64]; omega
    rw [ef] at q5
    have hG' : Gd (ds'.flatten ++ cs'.flatten ++ R) := hG.perm q4
    by_cases hm : ds'.flatten.length + bs < N
    · -- one row and what is left
      have g2 : decide (IntKind.i64.wrap ((ds'.flatten.length : Int) + (bs : Int)) < (N : Int)) = true := decide_eq_true (by rw [w5]; omega)
      have hc1 : cs'.length = 1 := by
        have h : cs'.length = 0 ∨ cs'.length = 1 := by omega
        rcases h with h | h
        · rw [h] at hbl; omega
        · exact h
      rw [hc1] at hbl
      have hR0 : 0 < R.length := by omega
      have hNN : ds'.flatten.length + bs + R.length = N := by omega
      obtain ⟨c, rfl⟩ := List.length_eq_one_iff.1 hc1
      have hc := q2 c (by simp)
      have e1 : ds'.flatten ++ [c].flatten ++ R = ds'.flatten ++ c ++ R ++ [] := by simp
      rw [e1] at q6 hG' q4
      rw [St.knows _ z1.hp.n q5 rfl]
      conv => whnf
      refine sel_yes g2 ?_
      conv => whnf
      refine (tsm hn h26 h73 o h5 _ c R (Nat.le_refl _)).use (p := ds'.flatten) (s := []) hG' hN (by rw [q4.length_eq]; exact hlen) (by omega) hR0 hc.2 sR (by rw [ef, hc.1, ← w5, hNN]; rfl) q6 (Nat.lt_of_lt_of_le q7 (by (conv => lhs; whnf); (repeat ((conv => rhs; whnf); first | with_reducible exact Nat.le_refl _ | refine Nat.le_trans ?_ (Nat.le_add_right _ _) | refine Nat.le_succ_of_le ?_ | exact Nat.le_refl _)))) (fun hp' Z k1 k2 k3 k4 => ?_)
      have hlz := k2.length_eq
      rw [List.length_append] at hlz
      have e2 : ds'.flatten ++ Z ++ [] = ds'.flatten ++ Z := by simp
      rw [e2] at k3
      have pz : (ds'.flatten ++ Z).Perm (cs.flatten ++ R) := (List.Perm.append_left _ k2).trans (by rw [← List.append_assoc]; simpa using q4)
      conv => whnf
      refine ih (2 * bs) ds' Z _ (by omega) (by omega) (by omega) k1 (hG.perm pz) q3 (by rw [pz.length_eq]; exact hlen) ⟨rfl, rfl, (hcl' n).trans ef.symm, ?_, trivial⟩ rfl (trunc_arr k3) (Nat.lt_of_lt_of_le k4 (by (conv => lhs; whnf); (repeat ((conv => rhs; whnf); first | with_reducible exact Nat.le_refl _ | refine Nat.le_trans ?_ (Nat.le_add_right _ _) | refine Nat.le_succ_of_le ?_ | exact Nat.le_refl _)))) (fun z' L' r1 r2 => hq z' L' r1 (r2.trans pz))
      conv => lhs; whnf
      exact vi w4
    · have g2 : decide (IntKind.i64.wrap ((ds'.flatten.length : Int) + (bs : Int)) < (N : Int)) = false := decide_eq_false (by rw [w5]; omega)
      obtain ⟨Z, z1', z2', z3'⟩ : ∃ Z, ds'.flatten ++ cs'.flatten ++ R = ds'.flatten ++ Z ∧ Le (ordF ext o) Z ∧ Z.length < 2 * bs := by
        have h : cs'.length = 0 ∨ cs'.length = 1 := by omega
        rcases h with h | h
        · obtain rfl := List.eq_nil_of_length_eq_zero h
          exact ⟨R, by simp, sR, by omega⟩
        · rw [h] at hbl
          obtain ⟨c, rfl⟩ := List.length_eq_one_iff.1 h
          have hc := q2 c (by simp)
          have : R = [] := List.eq_nil_of_length_eq_zero (by omega)
          subst this
          exact ⟨c, by simp, hc.2, by omega⟩
      rw [z1'] at q6 q4
      rw [St.knows _ z1.hp.n q5 rfl]
      conv => whnf
      refine sel_no g2 ?_
      conv => whnf
      refine ih (2 * bs) ds' Z _ (by omega) (by omega) z3' z2' (hG.perm q4) q3 (by rw [q4.length_eq]; exact hlen) ⟨rfl, rfl, (hcl' n).trans ef.symm, ?_, trivial⟩ rfl (trunc_arr q6) (Nat.lt_of_lt_of_le q7 (by (conv => lhs; whnf); (repeat ((conv => rhs; whnf); first | with_reducible exact Nat.le_refl _ | refine Nat.le_trans ?_ (Nat.le_add_right _ _) | refine Nat.le_succ_of_le ?_ | exact Nat.le_refl _)))) (fun z' L' r1 r2 => hq z' L' r1 (r2.trans q4))
      conv => lhs; whnf
      exact vi w4
theorem tstab (hn : Non ext) (h26 : E26 ext) (h73 : E73 ext) (o : Nat) (h5 : o ≤ 5) (b v : Nat) (cap : Option Nat) (l : List T) (hl : l.length ≤ 65536) (hG : Gd l) (hp : Hp) (ha : hp.a b = some ⟨v, 4, encL l, cap, 0⟩) (hb : b < hp.m) :
    ∃ hp' L', (cfg ext).EvR 58 [.rsl false b v 0 l.length, .int .i64 l.length, rowOf o] hp (.tup []) hp' ∧ Le (ordF ext o) L' ∧ L'.Perm l ∧ hp'.a b = some ⟨v, 4, encL L', cap, 0⟩ ∧ b < hp'.m := by
  have key : ∃ r hp', (cfg ext).EvR 58 [.rsl false b v 0 l.length, .int .i64 l.length, rowOf o] hp r hp' ∧ (r = .tup [] ∧ ∃ L', Le (ordF ext o) L' ∧ L'.Perm l ∧ hp'.a b = some ⟨v, 4, encL L', cap, 0⟩ ∧ b < hp'.m) := by
    obtain ⟨fk, fc, ef⟩ := row_fn o h5
    have ha0 : hp.a b = some ⟨v, 4, encL (([] : List (List T)).flatten ++ l), cap, 0⟩ := by simpa using ha
    refine EvR.ofE Tryz.func58 rfl rfl ?_
    conv => whnf
    refine lstA hn h26 h73 o h5 l.length b v hl cap _ _ l.length [] l _ (Nat.le_refl _) (by simpa using hG) (fun c hc => by cases hc) (by simp) ⟨rfl, rfl, rfl, rfl, rfl, rfl, trivial⟩ rfl ha0 (Nat.lt_of_lt_of_le hb (by (conv => lhs; whnf); (repeat ((conv => rhs; whnf); first | with_reducible exact Nat.le_refl _ | refine Nat.le_trans ?_ (Nat.le_add_right _ _) | refine Nat.le_succ_of_le ?_ | exact Nat.le_refl _)))) (fun z cs R q1 q2 q3 q4 q5 q6 => ?_)
    have hlR : (cs.flatten ++ R ++ []).length = l.length := by have := q3.length_eq; simpa using this
    have hlR' := hlR
    simp only [List.length_append, List.length_nil] at hlR'
    have q3' : (cs.flatten ++ R).Perm l := by simpa using q3
    have q5' : z.hp.a b = some ⟨v, 4, encL (cs.flatten ++ R ++ []), cap, 0⟩ := by simpa using q5
    rw [ef] at q4
    rw [St.knows _ z.hp.n q4 rfl]
    conv => whnf
    refine ins_use hn h26 h73 o h5 (p := cs.flatten) (M := R) (s := []) (fun x hx => hG x (q3'.mem_iff.1 (by simp [hx]))) hl hlR (by rw [ef, show cs.flatten.length + R.length = l.length by omega]; rfl) q5' (Nat.lt_of_lt_of_le q6 (by (conv => lhs; whnf); (repeat ((conv => rhs; whnf); first | with_reducible exact Nat.le_refl _ | refine Nat.le_trans ?_ (Nat.le_add_right _ _) | refine Nat.le_succ_of_le ?_ | exact Nat.le_refl _)))) (fun hp' M' k1 k2 k3 k4 => ?_)
    have hlM := k2.length_eq
    have pz : (cs.flatten ++ M').Perm l := (List.Perm.append_left _ k2).trans q3'
    have k3' : hp'.a b = some ⟨v, 4, encL (cs.flatten ++ M'), cap, 0⟩ := by simpa using k3
    conv => whnf
    refine lstB hn h26 h73 o h5 l.length b v hl cap _ _ l.length 20 cs M' _ (by omega) (by omega) (by omega) k1 (hG.perm pz) q1 (by rw [pz.length_eq]) ⟨rfl, rfl, ef.symm, rfl, trivial⟩ rfl k3' (Nat.lt_of_lt_of_le k4 (by (conv => lhs; whnf); (repeat ((conv => rhs; whnf); first | with_reducible exact Nat.le_refl _ | refine Nat.le_trans ?_ (Nat.le_add_right _ _) | refine Nat.le_succ_of_le ?_ | exact Nat.le_refl _)))) (fun z' L' r1 r2 r3 r4 => ?_)
    exact ⟨rfl, L', r1, r2.trans pz, r3, r4⟩
  obtain ⟨r, hp', h, rfl, L', k1, k2, k3, k4⟩ := key
  exact ⟨hp', L', h, k1, k2, k3, k4⟩
theorem tsortS (hn : Non ext) (h26 : E26 ext) (h73 : E73 ext) (o : Nat) (h5 : o ≤ 5) (b v : Nat) (cap : Option Nat) (l : List T) (hl : l.length ≤ 65536) (hG : Gd l) (hp : Hp) (ha : hp.a b = some ⟨v, 4, encL l, cap, 0⟩) (hb : b < hp.m) :
    ∃ hp' L', (cfg ext).EvR 47 [.rsl false b v 0 l.length, rowOf o] hp (.tup []) hp' ∧ Le (ordF ext o) L' ∧ L'.Perm l ∧ hp'.a b = some ⟨v, 4, encL L', cap, 0⟩ ∧ b < hp'.m := by
  have key : ∃ r hp', (cfg ext).EvR 47 [.rsl false b v 0 l.length, rowOf o] hp r hp' ∧ (r = .tup [] ∧ ∃ L', Le (ordF ext o) L' ∧ L'.Perm l ∧ hp'.a b = some ⟨v, 4, encL L', cap, 0⟩ ∧ b < hp'.m) := by
    obtain ⟨fk, fc, ef⟩ := row_fn o h5
    refine EvR.ofE Tryz.func47 rfl rfl ?_
    rw [ef]
    conv => whnf
    obtain ⟨hp', L', h, k1, k2, k3, k4⟩ := tstab (ext := ext) hn h26 h73 o h5 b v cap l hl hG ⟨hp.h, hp.n + 5, hp.a, hp.m + 5⟩ ha (Nat.lt_of_lt_of_le hb (Nat.le_add_right _ _))
    rw [ef] at h
    refine ⟨_, hp', h, ?_⟩
    conv => whnf
    exact ⟨rfl, L', k1, k2, k3, k4⟩
  obtain ⟨r, hp', h, rfl, L', k1, k2, k3, k4⟩ := key
  exact ⟨hp', L', h, k1, k2, k3, k4⟩
end
end Go.Proofs.YtehajklneljbgaaGreatDoor.AB
end

section
set_option linter.unusedVariables false
set_option linter.unusedSimpArgs false
open Go Go.Ab Go.Proofs Go.Vl
namespace Go.Proofs.YtehajklneljbgaaGreatDoor.AB
set_option maxRecDepth 100000
set_option maxHeartbeats 16000000
set_option linter.unusedSimpArgs false
set_option linter.unusedVariables false
theorem EvR.extR {C : Cfg} {f : Nat} {g : List V → Hp → Option (V × Hp)} {xs : List V} {hp hp' : Hp} {r : V} (h1 : C.okF f = false) (h2 : C.extR f = some g) (h3 : g xs hp = some (r, hp')) : C.EvR f xs hp r hp' :=
  ⟨1, fun k hk => by
    obtain ⟨k, rfl⟩ : ∃ m, k = m + 1 := ⟨k - 1, by omega⟩
    simp only [Cfg.R, evalR, h1, if_true, h2]
    exact h3⟩
theorem encC : ∀ (l : List T), ∀ c ∈ encL l, cold c = true
  | [], c, h => by simp [encL] at h
  | v :: l, c, h => by
    simp only [encL, enc_eq, List.mem_append] at h
    rcases h with h | h
    · simp at h; rcases h with rfl | rfl | rfl | rfl <;> rfl
    · exact encC l c h
section
variable {ext : Exts}
theorem clone_use {l : List T} {c : Bool} {hp : Hp} {Q : V → Hp → Prop} (hl : l.length ≤ 1000000) (q0 : l = [] → Q (.sl true [] 0) ⟨hp.h, hp.n + 7, hp.a, hp.m + 7⟩) (q1 : 0 < l.length → ∀ a', a' (hp.m + 5) = some ⟨0, 4, encL l, none, 0⟩ → Q (.rsl false (hp.m + 5) 0 0 l.length) ⟨hp.h, hp.n + 7, a', hp.m + 7⟩) :
    ∃ r hp', (cfg ext).EvR 46 [.sl c (encL l) l.length] hp r hp' ∧ Q r hp' := by
  cases l with
  | nil =>
    refine ⟨_, _, EvR.extR (g := cloneR 4 56) rfl rfl ?_, q0 rfl⟩
    rfl
  | cons v l =>
    have hlen := encL_len (v :: l)
    refine ⟨.rsl false (hp.m + 5) 0 0 (v :: l).length, ⟨hp.h, hp.n + 7, upd hp.a (hp.m + 5) (some ⟨0, 4, encL (v :: l), none, 0⟩), hp.m + 7⟩, EvR.extR (g := cloneR 4 56) rfl rfl ?_, q1 (by simp) _ (upd_is _ _ _)⟩
    have hc : content none hp 4 (.sl c (encL (v :: l)) (v :: l).length) = some (encL (v :: l), l.length + 1) := by
      simp only [content]
      rw [if_pos hlen]; rfl
    show (match content none hp 4 (.sl c (encL (v :: l)) (v :: l).length) with
      | some (_, 0) => some (V.sl true [] 0, (⟨hp.h, hp.n + 7, hp.a, hp.m + 7⟩ : Hp))
      | some (cs, n + 1) => if (n + 1) * 56 ≤ maxRoom ∧ n + 1 ≤ maxRoom then some (V.rsl false (hp.m + 5) 0 0 (n + 1), (⟨hp.h, hp.n + 7, upd hp.a (hp.m + 5) (some ⟨0, 4, cs, none, 0⟩), hp.m + 7⟩ : Hp)) else none
      | none => none) = _
    rw [hc]
    simp only [List.length_cons] at hl ⊢
    rw [if_pos (by unfold maxRoom; omega)]
theorem tins0 (o : Nat) (h5 : o ≤ 5) (hp : Hp) : ∃ hp', (cfg ext).EvR 79 [.sl true [] 0, .int .i64 0, .int .i64 0, rowOf o] hp (.tup []) hp' := by
  have key : ∃ r hp', (cfg ext).EvR 79 [.sl true [] 0, .int .i64 0, .int .i64 0, rowOf o] hp r hp' ∧ r = .tup [] := by
    refine EvR.ofE Tryz.func79 rfl rfl ?_
    conv => whnf
    refine Loop.round ?_
    conv => whnf
    try exact rfl
  obtain ⟨r, hp', h, rfl⟩ := key
  exact ⟨hp', h⟩
theorem tsortS0 (o : Nat) (h5 : o ≤ 5) (hp : Hp) : ∃ hp', (cfg ext).EvR 47 [.sl true [] 0, rowOf o] hp (.tup []) hp' := by
  obtain ⟨fk, fc, ef⟩ := row_fn o h5
  have st : ∀ hp : Hp, ∃ hp', (cfg ext).EvR 58 [.sl true [] 0, .int .i64 0, rowOf o] hp (.tup []) hp' := by
    intro hp
    have key : ∃ r hp', (cfg ext).EvR 58 [.sl true [] 0, .int .i64 0, rowOf o] hp r hp' ∧ r = .tup [] := by
      refine EvR.ofE Tryz.func58 rfl rfl ?_
      rw [ef]
      conv => whnf
      refine Loop.round ?_
      conv => whnf
      obtain ⟨hp1, h1⟩ := tins0 (ext := ext) o h5 ⟨hp.h, hp.n + 12, hp.a, hp.m + 12⟩
      rw [ef] at h1
      refine ⟨_, _, h1, ?_⟩
      conv => whnf
      refine Loop.round ?_
      conv => whnf
      try exact rfl
    obtain ⟨r, hp', h, rfl⟩ := key
    exact ⟨hp', h⟩
  have key : ∃ r hp', (cfg ext).EvR 47 [.sl true [] 0, rowOf o] hp r hp' ∧ r = .tup [] := by
    refine EvR.ofE Tryz.func47 rfl rfl ?_
    rw [ef]
    conv => whnf
    obtain ⟨hp', h⟩ := st ⟨hp.h, hp.n + 5, hp.a, hp.m + 5⟩
    rw [ef] at h
    refine ⟨_, hp', h, ?_⟩
    conv => whnf
    try exact rfl
  obtain ⟨r, hp', h, rfl⟩ := key
  exact ⟨hp', h⟩
/-- a sorted list of its own -/
theorem tsorted (hn : Non ext) (h26 : E26 ext) (h73 : E73 ext) (o : Nat) (h5 : o ≤ 5) (l : List T) (hl : l.length ≤ 65536) (hG : Gd l) :
    ∃ L', Le (ordF ext o) L' ∧ L'.Perm l ∧ (cfg ext).Ev 35 [.sl false (encL l) l.length, rowOf o] (.sl false (encL L') L'.length) := by
  have key : ∃ r, (cfg ext).Ev 35 [.sl false (encL l) l.length, rowOf o] r ∧ ∃ L', Le (ordF ext o) L' ∧ L'.Perm l ∧ r = .sl false (encL L') L'.length := by
    obtain ⟨fk, fc, ef⟩ := row_fn o h5
    refine Ev.ofF (hn 35 (by decide) (by decide)) Tryz.func35 rfl rfl ?_
    rw [ef]
    conv => whnf
    refine clone_use (by omega) (fun h0 => ?_) (fun h0 a' ha => ?_)
    · subst h0
      conv => whnf
      obtain ⟨hp', h⟩ := tsortS0 (ext := ext) o h5 ⟨(Hp.empty).h, 14, (Hp.empty).a, 14⟩
      rw [ef] at h
      refine ⟨_, hp', h, ?_⟩
      conv => whnf
      exact Fin.of_eq (v := .sl false [] 0) rfl ⟨[], List.Pairwise.nil, List.Perm.refl _, rfl⟩
    · conv => whnf
      obtain ⟨hp', L', h, k1, k2, k3, k4⟩ := tsortS (ext := ext) hn h26 h73 o h5 _ 0 none l hl hG ⟨(Hp.empty).h, 14, a', 14⟩ ha (show (9 : Nat) < 14 by decide)
      rw [ef] at h
      refine ⟨_, hp', h, ?_⟩
      conv => whnf
      refine Fin.gro (sz := 4) (m := hp'.m) (cs := encL L') (n := l.length) rfl ⟨by rw [encL_len, k2.length_eq], encC L', .inr ⟨_, 0, k4, rfl, k3⟩⟩ ⟨L', k1, k2, by rw [k2.length_eq]⟩
  obtain ⟨r, h, L', k1, k2, rfl⟩ := key
  exact ⟨L', k1, k2, h⟩
end
end Go.Proofs.YtehajklneljbgaaGreatDoor.AB
end

section
set_option linter.unusedVariables false
set_option linter.unusedSimpArgs false
open Go Go.Ab Go.Proofs Go.Vl
namespace Go.Proofs.YtehajklneljbgaaGreatDoor.AB
set_option maxRecDepth 100000
set_option maxHeartbeats 16000000
set_option linter.unusedSimpArgs false
set_option linter.unusedVariables false
theorem subF {l : List T} {i : Nat} (h : i < l.length) : sub (encL l) (i * 4 + 3) 1 = [.sl false (encL l[i].f3) l[i].f3.length] := by
  unfold sub
  rw [← List.drop_drop, encL_drop, List.drop_eq_getElem_cons h]
  simp only [encL, enc_eq]
  rfl
theorem ldF {hp : Hp} {lim : Option (Nat × Nat)} {b v ro : Nat} {l : List T} {cap : Option Nat} {i : Nat} {x : T} {Q : V → Prop} (h : hp.a b = some ⟨v, 4, encL l, cap, ro⟩) (hl : ∀ m, lim = some m → b < m.2) (hx : l[i]? = some x) (hq : Q (.sl false (encL x.f3) x.f3.length)) :
    opt (Go.Ab.look lim hp (.aref b v (0 + (i : Int).toNat * 4 + 3)) 1) fun cs => opt (one (some false) cs) fun v => fv v Q := by
  have hlen := encL_len l
  obtain ⟨hi, rfl⟩ := List.getElem?_eq_some_iff.1 hx
  refine opt_look h hl (by simp; omega) ?_
  rw [show 0 + (i : Int).toNat * 4 + 3 = i * 4 + 3 by simp, subF hi]
  exact hq
theorem fill_same {cs vs : List V} {o : Nat} (h : sub cs o vs.length = vs) (ho : o + vs.length ≤ cs.length) : fillL cs o vs = cs := by
  unfold fillL
  unfold sub at h
  conv => lhs; arg 1; arg 2; rw [← h]
  rw [← List.drop_drop, List.append_assoc, List.take_append_drop, List.take_append_drop]
theorem stF {hp : Hp} {b v : Nat} {l : List T} {cap : Option Nat} {i : Nat} {x : T} {Q : V × Hp → Prop} (h : hp.a b = some ⟨v, 4, encL l, cap, 0⟩) (hx : l[i]? = some x) (q : ∀ a', a' b = some ⟨v, 4, encL l, cap, 0⟩ → Q (.tup [], ⟨hp.h, hp.n, a', hp.m⟩)) :
    opt ((storeV hp (.aref b v (0 + (i : Int).toNat * 4 + 3)) [.sl false (encL x.f3) x.f3.length]).bind fun hp' => some (.tup [], hp')) Q := by
  have hlen := encL_len l
  obtain ⟨hi, rfl⟩ := List.getElem?_eq_some_iff.1 hx
  refine opt_store h (Nat.zero_le _) (by simp; omega) (fun a' h1 _ => q a' ?_)
  rw [h1, show 0 + (i : Int).toNat * 4 + 3 = i * 4 + 3 by simp, fill_same (subF hi) (by simp; omega)]
section
variable {ext : Exts}
def OwnE (ext : Exts) (l : List T) : Prop := (cfg ext).Ev 34 [.sl false (encL l) l.length] (.sl false (encL l) l.length)
theorem lown (l : List T) (hl : l.length ≤ 1000000) (E : ∀ a ∈ l, OwnE ext a.f3) (b v : Nat) (Q : Ex → St → Prop) (n : Nat) (d : Nat) :
    ∀ (i : Nat) (z : St), l.length - i = d → i ≤ l.length → Has z.t [(3, .rsl false b v 0 l.length), (8, .int .i64 l.length), (9, .int .i64 i)] → z.hp.n = n → z.hp.a b = some ⟨v, 4, encL l, none, 0⟩ → b < z.hp.m →
      (∀ z' : St, Has z'.t [(3, .rsl false b v 0 l.length)] → z'.hp.a b = some ⟨v, 4, encL l, none, 0⟩ → b < z'.hp.m → Q (.exit 0) z') →
      Go.Ab.Loop (cfg ext) (lpOf Tryz.f34) n z Q := by
  induction d with
  | zero =>
    intro i z hd hi ht hz ha hb hq
    have g : decide ((i : Int) < (l.length : Int)) = false := decide_eq_false (by omega)
    rw [St.knows _ _ ht hz]
    refine Loop.round ?_
    conv => whnf
    refine sel_no g ?_
    conv => whnf
    exact hq _ ⟨rfl, trivial⟩ ha (Nat.lt_of_lt_of_le hb (by (conv => lhs; whnf); (repeat ((conv => rhs; whnf); first | with_reducible exact Nat.le_refl _ | refine Nat.le_trans ?_ (Nat.le_add_right _ _) | refine Nat.le_succ_of_le ?_ | exact Nat.le_refl _))))
  | succ d ih =>
    intro i z hd hi ht hz ha hb hq
    have hlt : i < l.length := by omega
    have g : decide ((i : Int) < (l.length : Int)) = true := decide_eq_true (by omega)
    have e1 : IntKind.i64.wrap ((i : Int) + 1) = ((i + 1 : Nat) : Int) := wrapN (by omega) (by omega)
    obtain ⟨x, hx⟩ : ∃ x, l[i]? = some x := ⟨_, List.getElem?_eq_getElem hlt⟩
    have hE := E x (List.mem_of_getElem? hx)
    unfold OwnE at hE
    rw [St.knows _ _ ht hz]
    refine Loop.round ?_
    conv => whnf
    refine sel_yes g ?_
    conv => whnf
    refine ⟨⟨by omega, by omega⟩, ?_⟩
    conv => whnf
    refine ldF ha (fun l hl => by cases hl) hx ?_
    conv => whnf
    refine ⟨_, hE, ?_⟩
    conv => whnf
    refine ⟨⟨by omega, by omega⟩, ?_⟩
    conv => whnf
    refine stF ha hx (fun a1 h1 => ?_)
    conv => whnf
    refine ih (i + 1) _ (by omega) (by omega) ⟨rfl, rfl, ?_, trivial⟩ rfl (trunc_arr h1) (Nat.lt_of_lt_of_le hb (by (conv => lhs; whnf); (repeat ((conv => rhs; whnf); first | with_reducible exact Nat.le_refl _ | refine Nat.le_trans ?_ (Nat.le_add_right _ _) | refine Nat.le_succ_of_le ?_ | exact Nat.le_refl _)))) hq
    conv => lhs; whnf
    exact vi e1
theorem town1 (hn : Non ext) (l : List T) (hl : l.length ≤ 1000000) (E : ∀ a ∈ l, OwnE ext a.f3) : OwnE ext l := by
  have key : ∃ r, (cfg ext).Ev 34 [.sl false (encL l) l.length] r ∧ r = .sl false (encL l) l.length := by
    refine Ev.ofF (hn 34 (by decide) (by decide)) Tryz.func34 rfl rfl ?_
    conv => whnf
    refine clone_use hl (fun h0 => ?_) (fun h0 a' ha => ?_)
    · subst h0
      conv => whnf
      refine Loop.round ?_
      conv => whnf
      exact Fin.of_eq (v := .sl false [] 0) rfl (by simp only [encL]; rfl)
    · conv => whnf
      refine lown l hl E _ _ _ _ l.length 0 _ rfl (by omega) ⟨rfl, rfl, rfl, trivial⟩ rfl ha (show (9 : Nat) < 14 by decide) (fun z h1 h2 h3 => ?_)
      rw [St.knows _ z.hp.n h1 rfl]
      conv => whnf
      exact Fin.gro (sz := 4) (m := z.hp.m) (cs := encL l) (n := l.length) rfl ⟨encL_len l, encC l, .inr ⟨_, _, h3, rfl, h2⟩⟩ rfl
  obtain ⟨r, h, rfl⟩ := key
  exact h
mutual
theorem ownV (hn : Non ext) : (v : T) → partsV v ≤ 1024 → OwnE ext v.f3
  | ⟨k, n, t, l⟩, hp => by
    simp only [partsV] at hp
    have h1 := partsL_len l
    exact town1 hn l (by omega) (ownL hn l (by omega))
theorem ownL (hn : Non ext) : (l : List T) → partsL l ≤ 1024 → ∀ a ∈ l, OwnE ext a.f3
  | [], _, a, ha => by cases ha
  | v :: l, hp, a, ha => by
    simp only [partsL] at hp
    rcases List.mem_cons.1 ha with h | ha
    · rw [h]; exact ownV hn v (by omega)
    · exact ownL hn l (by omega) a ha
end
theorem town06 (hn : Non ext) (l : List T) (hl : l.length ≤ 1000000) (hG : Gd l) : OwnE ext l := town1 hn l hl (fun a ha => ownV hn a (okB_iff.1 (hG a ha).2).2.2)
/-- what Sort says -/
structure SortR (ext : Exts) (o : Int) (l L : List T) : Prop where
  ok : listedZ l = 0 → Le (ordF ext o) L ∧ L.Perm l
  no : listedZ l ≠ 0 → L = []
theorem Gd.of {l : List T} (hz : listedZ l = 0) (hw : ∀ a ∈ l, WfV a) : Gd l := fun x hx => ⟨hw x hx, (listed_ok hz).2 x hx⟩
theorem psort (hn : Non ext) (h26 : E26 ext) (h73 : E73 ext) (o : Nat) (h5 : o ≤ 5) (l : List T) (hw : ∀ a ∈ l, WfV a) :
    ∃ L, SortR ext o l L ∧ (cfg ext).Ev 12 [.int .i64 o, .sl false (encL l) l.length] (.tup [.sl false (encL L) L.length, .int .i64 (listedZ l)]) := by
  have key : ∃ r, (cfg ext).Ev 12 [.int .i64 o, .sl false (encL l) l.length] r ∧ ∃ L, SortR ext o l L ∧ r = .tup [.sl false (encL L) L.length, .int .i64 (listedZ l)] := by
    have hL := plisted hn h26 h73 o h5 l hw
    refine Ev.ofF (hn 12 (by decide) (by decide)) Tryz.func12 rfl rfl ?_
    by_cases hz : listedZ l = 0
    · have hok := listed_ok hz
      obtain ⟨L, k1, k2, hS⟩ := tsorted (ext := ext) hn h26 h73 o h5 l hok.1 (Gd.of hz hw)
      have hO := town06 hn L (by rw [k2.length_eq]; omega) ((Gd.of hz hw).perm k2)
      unfold OwnE at hO
      rw [hz] at hL ⊢
      have fin : SortR ext o l L := ⟨fun _ => ⟨k1, k2⟩, fun h => absurd hz h⟩
      obtain ⟨fk, fc, ef⟩ := row_fn o h5
      have c6 : o = 0 ∨ o = 1 ∨ o = 2 ∨ o = 3 ∨ o = 4 ∨ o = 5 := by omega
      rcases c6 with rfl | rfl | rfl | rfl | rfl | rfl
      all_goals
        conv => whnf
        refine ⟨_, hL, ?_⟩
        conv => whnf
        refine ⟨_, hS, ?_⟩
        conv => whnf
        refine ⟨_, hO, ?_⟩
        conv => whnf
        exact Fin.of_eq (v := .tup [.sl false (encL L) L.length, .int .i64 0]) rfl ⟨L, fin, rfl⟩
    · have fin : SortR ext o l [] := ⟨fun h => absurd h hz, fun _ => rfl⟩
      generalize listedZ l = e at hL hz ⊢
      have c6 : o = 0 ∨ o = 1 ∨ o = 2 ∨ o = 3 ∨ o = 4 ∨ o = 5 := by omega
      rcases c6 with rfl | rfl | rfl | rfl | rfl | rfl
      all_goals
        conv => whnf
        refine ⟨_, hL, ?_⟩
        conv => whnf
        refine sel_yes (by simpa using hz) ?_
        conv => whnf
        exact Fin.of_eq (v := .tup [.sl false [] 0, .int .i64 e]) rfl ⟨[], fin, by simp only [encL]; rfl⟩
  obtain ⟨r, h, L, k, rfl⟩ := key
  exact ⟨L, k, h⟩
end
end Go.Proofs.YtehajklneljbgaaGreatDoor.AB
end

section
set_option linter.unusedVariables false
set_option linter.unusedSimpArgs false
open Go Go.Ab Go.Proofs Go.Vl
namespace Go.Proofs.YtehajklneljbgaaGreatDoor.AB
set_option maxRecDepth 100000
set_option maxHeartbeats 16000000
set_option linter.unusedSimpArgs false
set_option linter.unusedVariables false
/-- the first by an order -/
def minF (f : T → T → Int) (m : T) : List T → T
  | [] => m
  | x :: l => minF f (if f x m < 0 then x else m) l
theorem minF_mem (f : T → T → Int) : ∀ (l : List T) (m : T), minF f m l = m ∨ minF f m l ∈ l
  | [], m => .inl rfl
  | x :: l, m => by
    simp only [minF]
    rcases minF_mem f l (if f x m < 0 then x else m) with h | h
    · rw [h]
      split
      · exact .inr (by simp)
      · exact .inl rfl
    · exact .inr (by simp [h])
section
variable {ext : Exts}
open Classical in
theorem pSorted (hn : Non ext) (h26 : E26 ext) (h73 : E73 ext) (o : Nat) (h5 : o ≤ 5) (l : List T) (hw : ∀ a ∈ l, WfV a) :
    (cfg ext).Ev 14 [.int .i64 o, .sl false (encL l) l.length] (.tup [.bool (decide (listedZ l = 0 ∧ Srt (ordF ext o) l)), .int .i64 (listedZ l)]) := by
  have key : ∃ r, (cfg ext).Ev 14 [.int .i64 o, .sl false (encL l) l.length] r ∧ r = .tup [.bool (decide (listedZ l = 0 ∧ Srt (ordF ext o) l)), .int .i64 (listedZ l)] := by
    have hL := plisted hn h26 h73 o h5 l hw
    refine Ev.ofF (hn 14 (by decide) (by decide)) Tryz.func14 rfl rfl ?_
    have c6 : o = 0 ∨ o = 1 ∨ o = 2 ∨ o = 3 ∨ o = 4 ∨ o = 5 := by omega
    by_cases hz : listedZ l = 0
    · have hok := listed_ok hz
      have rows : Rows ext o l := fun a ha b hb => rowOrd hn h26 h73 o h5 a b (hw a ha) (hw b hb) (hok.2 a ha) (hok.2 b hb)
      have hS := tisS hn o h5 l hok.1 rows
      have e : decide (listedZ l = 0 ∧ Srt (ordF ext o) l) = decide (Srt (ordF ext o) l) := by simp [hz]
      rw [e]
      rw [hz] at hL ⊢
      generalize decide (Srt (ordF ext o) l) = x at hS ⊢
      rcases c6 with rfl | rfl | rfl | rfl | rfl | rfl
      all_goals
        conv => whnf
        refine ⟨_, hL, ?_⟩
        conv => whnf
        refine ⟨_, hS, ?_⟩
        conv => whnf
        exact Fin.of_eq (v := .tup [.bool x, .int .i64 0]) rfl rfl
    · have e' : decide (listedZ l = 0 ∧ Srt (ordF ext o) l) = false := decide_eq_false (fun h => hz h.1)
      rw [e']
      clear e'
      generalize listedZ l = e at hL hz ⊢
      rcases c6 with rfl | rfl | rfl | rfl | rfl | rfl
      all_goals
        conv => whnf
        refine ⟨_, hL, ?_⟩
        conv => whnf
        refine sel_yes (by simpa using hz) ?_
        conv => whnf
        exact Fin.of_eq (v := .tup [.bool false, .int .i64 e]) rfl rfl
  obtain ⟨r, h, rfl⟩ := key
  exact h
open Classical in
theorem rSorted (hn : Non ext) (o : Int) (h0 : 0 ≤ o) (h5 : o ≤ 5) (l : List T) (hl : l.length ≤ 9223372036854775807) (hw : ∀ a ∈ l, WfV a) :
    (cfg ext).Ev 15 [.int .i64 o, .sl false (encL l) l.length] (.tup [.bool (decide (listedZ l = 0 ∧ Srt (ordF ext o) l)), .int .i64 (listedZ l)]) := by
  have key : ∃ r, (cfg ext).Ev 15 [.int .i64 o, .sl false (encL l) l.length] r ∧ r = .tup [.bool (decide (listedZ l = 0 ∧ Srt (ordF ext o) l)), .int .i64 (listedZ l)] := by
    have hL := rfit hn o l ⟨h0, h5⟩ hl hw
    refine Ev.ofF (hn 15 (by decide) (by decide)) Tryz.func15 rfl rfl ?_
    by_cases hz : listedZ l = 0
    · have hok := listed_ok hz
      have hS := rin hn o h0 h5 l hok.1 (fun a ha => ⟨hw a ha, hok.2 a ha⟩)
      have e : decide (listedZ l = 0 ∧ Srt (ordF ext o) l) = decide (Srt (ordF ext o) l) := by simp [hz]
      rw [e]
      rw [hz] at hL ⊢
      generalize decide (Srt (ordF ext o) l) = x at hS ⊢
      conv => whnf
      refine ⟨_, hL, ?_⟩
      conv => whnf
      refine ⟨_, hS, ?_⟩
      conv => whnf
      exact Fin.of_eq (v := .tup [.bool x, .int .i64 0]) rfl rfl
    · have e' : decide (listedZ l = 0 ∧ Srt (ordF ext o) l) = false := decide_eq_false (fun h => hz h.1)
      rw [e']
      clear e'
      generalize listedZ l = e at hL hz ⊢
      conv => whnf
      refine ⟨_, hL, ?_⟩
      conv => whnf
      refine sel_yes (by simpa using hz) ?_
      conv => whnf
      exact Fin.of_eq (v := .tup [.bool false, .int .i64 e]) rfl rfl
  obtain ⟨r, h, rfl⟩ := key
  exact h
def zBox : Bx := .cells [.int .i64 0, .int .i64 0, .str ⟨#[]⟩, .sl true [] 0] false
theorem lminP (hn : Non ext) (o : Nat) (h5 : o ≤ 5) (l : List T) (hl : l.length ≤ 65536) (hw : Rows ext o l) (Q : Ex → St → Prop) (d : Nat) :
    ∀ (i : Nat) (m : T) (z : St), l.length - i = d → i ≤ l.length → m ∈ l → Has z.t [(0, .sl false (encL l) l.length), (1, rowOf o), (4, .ref 0 0), (5, .ref 7 0), (6, .int .i64 i)] → Has z.hp.h [(0, some zBox), (7, some (box4 m))] → z.hp.n = 10 →
      (∀ (z' : St), Has z'.t [(4, .ref 0 0), (5, .ref 7 0)] → Has z'.hp.h [(0, some zBox), (7, some (box4 (minF (ordF ext o) m (l.drop i))))] → z'.hp.n = 14 → Q (.exit 0) z') →
      Go.Ab.Loop (cfg ext) (lpOf Tryz.f37) 10 z Q := by
  induction d with
  | zero =>
    intro i m z hd hi hm ht hh hz hq
    have g : decide ((i : Int) < (l.length : Int)) = false := decide_eq_false (by omega)
    rw [List.drop_eq_nil_of_le (by omega)] at hq
    rw [St.knows _ _ ht hz _ hh]
    refine Loop.round ?_
    conv => whnf
    refine sel_no g ?_
    conv => whnf
    exact hq _ ⟨rfl, rfl, trivial⟩ ⟨rfl, rfl, trivial⟩ rfl
  | succ d ih =>
    intro i m z hd hi hm ht hh hz hq
    have hlt : i < l.length := by omega
    have g : decide ((i : Int) < (l.length : Int)) = true := decide_eq_true (by omega)
    have e1 : IntKind.i64.wrap ((i : Int) + 1) = ((i + 1 : Nat) : Int) := wrapN (by omega) (by omega)
    have hb : (0 : Int) ≤ (i : Int) ∧ (i : Int) < (l.length : Int) := ⟨by omega, by omega⟩
    rw [List.drop_eq_getElem_cons hlt] at hq
    simp only [minF] at hq
    obtain ⟨x, hx⟩ : ∃ x, l[i] = x := ⟨_, rfl⟩
    rw [hx] at hq
    have hxm : x ∈ l := by rw [← hx]; exact List.getElem_mem hlt
    have hE := hw x hxm m hm
    have hld : ∀ {Q : V → Prop}, Q (A x) → i * 4 + 4 ≤ (encL l).length ∧ opt (one (some true) (sub (encL l) (i * 4) 4)) fun v => fv v Q := fun h => ldA hlt (by rw [hx]; exact h)
    have hyes : ordF ext o x m < 0 → ∀ z' : St, Has z'.hp.h [(0, some zBox), (7, some (box4 (minF (ordF ext o) x (l.drop (i + 1)))))] → Has z'.hp.h [(0, some zBox), (7, some (box4 (minF (ordF ext o) (if ordF ext o x m < 0 then x else m) (l.drop (i + 1)))))] := fun h z' hz => by rw [if_pos h]; exact hz
    have hno : ¬ ordF ext o x m < 0 → ∀ z' : St, Has z'.hp.h [(0, some zBox), (7, some (box4 (minF (ordF ext o) m (l.drop (i + 1)))))] → Has z'.hp.h [(0, some zBox), (7, some (box4 (minF (ordF ext o) (if ordF ext o x m < 0 then x else m) (l.drop (i + 1)))))] := fun h z' hz => by rw [if_neg h]; exact hz
    generalize (if ordF ext o x m < 0 then x else m) = w at hq hyes hno
    generalize ordF ext o x m = c at hE hyes hno
    have c6 : o = 0 ∨ o = 1 ∨ o = 2 ∨ o = 3 ∨ o = 4 ∨ o = 5 := by omega
    rw [St.knows _ _ ht hz _ hh]
    refine Loop.round ?_
    conv => whnf
    refine sel_yes g ?_
    rcases c6 with rfl | rfl | rfl | rfl | rfl | rfl
    all_goals
      conv => whnf
      refine ⟨hb, ?_⟩
      conv => whnf
      refine hld ?_
      conv => whnf
      refine ⟨_, hE, ?_⟩
      conv => whnf
      refine sel_split (fun h => ?_) (fun h => ?_)
      · conv => whnf
        refine ⟨hb, ?_⟩
        conv => whnf
        refine hld ?_
        conv => whnf
        refine ih (i + 1) x _ (by omega) (by omega) hxm ⟨rfl, rfl, rfl, rfl, ?_, trivial⟩ ⟨rfl, rfl, trivial⟩ rfl (fun z' a b c => hq z' a (hyes (of_decide_eq_true h) z' b) c)
        conv => lhs; whnf
        exact vi e1
      · conv => whnf
        refine ih (i + 1) m _ (by omega) (by omega) hm ⟨rfl, rfl, rfl, rfl, ?_, trivial⟩ ⟨rfl, rfl, trivial⟩ rfl (fun z' a b c => hq z' a (hno (of_decide_eq_false h) z' b) c)
        conv => lhs; whnf
        exact vi e1
theorem tminP (hn : Non ext) (o : Nat) (h5 : o ≤ 5) (x : T) (l : List T) (hl : (x :: l).length ≤ 65536) (hw : Rows ext o (x :: l)) :
    (cfg ext).Ev 37 [.sl false (encL (x :: l)) (x :: l).length, rowOf o] (A (minF (ordF ext o) x l)) := by
  have key : ∃ r, (cfg ext).Ev 37 [.sl false (encL (x :: l)) (x :: l).length, rowOf o] r ∧ r = A (minF (ordF ext o) x l) := by
    have g : decide (((x :: l).length : Int) < 1) = false := decide_eq_false (by simp; omega)
    have hlt : 0 < (x :: l).length := by simp
    have hb : (0 : Int) ≤ 0 ∧ (0 : Int) < ((x :: l).length : Int) := ⟨by omega, by omega⟩
    refine Ev.ofF (hn 37 (by decide) (by decide)) Tryz.func37 rfl rfl ?_
    conv => whnf
    refine ⟨hb, ?_⟩
    conv => whnf
    refine ldA (i := 0) hlt ?_
    conv => whnf
    refine lminP hn o h5 (x :: l) hl hw _ ((x :: l).length - 1) 1 x _ rfl (by simp) (by simp) ⟨rfl, rfl, rfl, rfl, rfl, trivial⟩ ⟨rfl, rfl, trivial⟩ rfl (fun z a b c => ?_)
    rw [List.drop_succ_cons, List.drop_zero] at b
    rw [St.knows _ _ a c _ b]
    conv => whnf
    exact Fin.of_eq (v := A (minF (ordF ext o) x l)) rfl rfl
  obtain ⟨r, h, rfl⟩ := key
  exact h
end
end Go.Proofs.YtehajklneljbgaaGreatDoor.AB
end

section
set_option linter.unusedVariables false
set_option linter.unusedSimpArgs false
open Go Go.Ab Go.Proofs Go.Vl
namespace Go.Proofs.YtehajklneljbgaaGreatDoor.AB
set_option maxRecDepth 100000
set_option maxHeartbeats 16000000
set_option linter.unusedSimpArgs false
set_option linter.unusedVariables false
def T0 : T := ⟨0, 0, ⟨#[]⟩, []⟩
/-- the first of a list, and what is wrong -/
noncomputable def leastF (f : T → T → Int) (l : List T) : T × Int := if listedZ l ≠ 0 then (T0, listedZ l) else match l with | [] => (T0, 6) | x :: xs => (minF f x xs, 0)
section
variable {ext : Exts}
theorem pleast (hn : Non ext) (h26 : E26 ext) (h73 : E73 ext) (o : Nat) (h5 : o ≤ 5) (l : List T) (hw : ∀ a ∈ l, WfV a) :
    (cfg ext).Ev 16 [.int .i64 o, .sl false (encL l) l.length] (.tup [A (leastF (ordF ext o) l).1, .int .i64 (leastF (ordF ext o) l).2]) := by
  have key : ∃ r, (cfg ext).Ev 16 [.int .i64 o, .sl false (encL l) l.length] r ∧ r = .tup [A (leastF (ordF ext o) l).1, .int .i64 (leastF (ordF ext o) l).2] := by
    have hL := plisted hn h26 h73 o h5 l hw
    refine Ev.ofF (hn 16 (by decide) (by decide)) Tryz.func16 rfl rfl ?_
    have c6 : o = 0 ∨ o = 1 ∨ o = 2 ∨ o = 3 ∨ o = 4 ∨ o = 5 := by omega
    by_cases hz : listedZ l = 0
    · have hok := listed_ok hz
      have hG := Gd.of hz hw
      cases l with
      | nil =>
        have e : leastF (ordF ext o) [] = (T0, 6) := by unfold leastF; rw [if_neg (by simpa using hz)]
        rw [e]
        rw [hz] at hL
        rcases c6 with rfl | rfl | rfl | rfl | rfl | rfl
        all_goals
          conv => whnf
          refine ⟨_, hL, ?_⟩
          conv => whnf
          exact Fin.of_eq (v := .tup [A T0, .int .i64 6]) rfl rfl
      | cons x xs =>
        have e : leastF (ordF ext o) (x :: xs) = (minF (ordF ext o) x xs, 0) := by unfold leastF; rw [if_neg (by simpa using hz)]
        rw [e]
        have rows : Rows ext o (x :: xs) := fun a ha b hb => rowOrd hn h26 h73 o h5 a b (hw a ha) (hw b hb) (hok.2 a ha) (hok.2 b hb)
        have hM := tminP hn o h5 x xs hok.1 rows
        have hmem : minF (ordF ext o) x xs ∈ x :: xs := by
          rcases minF_mem (ordF ext o) xs x with h | h
          · rw [h]; simp
          · simp [h]
        have hO := town1 hn [minF (ordF ext o) x xs] (by simp) (fun a ha => by simp at ha; subst ha; exact ownV hn _ (okB_iff.1 (hG _ hmem).2).2.2)
        unfold OwnE at hO
        simp only [encL, enc_eq, List.append_nil] at hO
        rw [hz] at hL
        generalize minF (ordF ext o) x xs = m at hM hO ⊢
        rcases c6 with rfl | rfl | rfl | rfl | rfl | rfl
        all_goals
          conv => whnf
          refine ⟨_, hL, ?_⟩
          conv => whnf
          refine ⟨_, hM, ?_⟩
          conv => whnf
          refine ⟨_, hO, ?_⟩
          conv => whnf
          refine ⟨(show (0 : Int) ≤ 0 ∧ (0 : Int) < 1 by decide), ?_⟩
          conv => whnf
          refine ⟨le_rfl' rfl, ?_⟩
          conv => whnf
          exact Fin.of_eq (v := .tup [A m, .int .i64 0]) rfl rfl
    · have e : leastF (ordF ext o) l = (T0, listedZ l) := by unfold leastF; rw [if_pos hz]
      rw [e]
      clear e
      dsimp only
      generalize listedZ l = e at hL hz ⊢
      rcases c6 with rfl | rfl | rfl | rfl | rfl | rfl
      all_goals
        conv => whnf
        refine ⟨_, hL, ?_⟩
        conv => whnf
        refine sel_yes (by simpa using hz) ?_
        conv => whnf
        exact Fin.of_eq (v := .tup [A T0, .int .i64 e]) rfl rfl
  obtain ⟨r, h, rfl⟩ := key
  exact h
theorem lminR (hn : Non ext) (o : Int) (h0 : 0 ≤ o) (h5 : o ≤ 5) (l : List T) (hl : l.length ≤ 65536) (hG : Gd l) (Q : Ex → St → Prop) (d : Nat) :
    ∀ (i : Nat) (m : T) (z : St), l.length - i = d → i ≤ l.length → m ∈ l → Has z.t [(0, .int .i64 o), (1, .sl false (encL l) l.length), (4, .ref 0 0), (7, .ref 14 0), (8, .int .i64 i)] → Has z.hp.h [(0, some zBox), (14, some (box4 m))] → z.hp.n = 17 →
      (∀ (z' : St), Has z'.t [(4, .ref 0 0), (7, .ref 14 0)] → Has z'.hp.h [(0, some zBox), (14, some (box4 (minF (ordF ext o) m (l.drop i))))] → z'.hp.n = 21 → Q (.exit 0) z') →
      Go.Ab.Loop (cfg ext) (lpOf Tryz.f17) 17 z Q := by
  induction d with
  | zero =>
    intro i m z hd hi hm ht hh hz hq
    have g : decide ((i : Int) < (l.length : Int)) = false := decide_eq_false (by omega)
    rw [List.drop_eq_nil_of_le (by omega)] at hq
    rw [St.knows _ _ ht hz _ hh]
    refine Loop.round ?_
    conv => whnf
    refine sel_no g ?_
    conv => whnf
    exact hq _ ⟨rfl, rfl, trivial⟩ ⟨rfl, rfl, trivial⟩ rfl
  | succ d ih =>
    intro i m z hd hi hm ht hh hz hq
    have hlt : i < l.length := by omega
    have g : decide ((i : Int) < (l.length : Int)) = true := decide_eq_true (by omega)
    have e1 : IntKind.i64.wrap ((i : Int) + 1) = ((i + 1 : Nat) : Int) := wrapN (by omega) (by omega)
    have hb : (0 : Int) ≤ (i : Int) ∧ (i : Int) < (l.length : Int) := ⟨by omega, by omega⟩
    rw [List.drop_eq_getElem_cons hlt] at hq
    simp only [minF] at hq
    obtain ⟨x, hx⟩ : ∃ x, l[i] = x := ⟨_, rfl⟩
    rw [hx] at hq
    have hxm : x ∈ l := by rw [← hx]; exact List.getElem_mem hlt
    have hE := rord hn o h0 h5 x m (hG x hxm).1 (hG m hm).1 (hG x hxm).2 (hG m hm).2
    have hld : ∀ {Q : V → Prop}, Q (A x) → i * 4 + 4 ≤ (encL l).length ∧ opt (one (some true) (sub (encL l) (i * 4) 4)) fun v => fv v Q := fun h => ldA hlt (by rw [hx]; exact h)
    have hyes : ordF ext o x m < 0 → ∀ z' : St, Has z'.hp.h [(0, some zBox), (14, some (box4 (minF (ordF ext o) x (l.drop (i + 1)))))] → Has z'.hp.h [(0, some zBox), (14, some (box4 (minF (ordF ext o) (if ordF ext o x m < 0 then x else m) (l.drop (i + 1)))))] := fun h z' hz => by rw [if_pos h]; exact hz
    have hno : ¬ ordF ext o x m < 0 → ∀ z' : St, Has z'.hp.h [(0, some zBox), (14, some (box4 (minF (ordF ext o) m (l.drop (i + 1)))))] → Has z'.hp.h [(0, some zBox), (14, some (box4 (minF (ordF ext o) (if ordF ext o x m < 0 then x else m) (l.drop (i + 1)))))] := fun h z' hz => by rw [if_neg h]; exact hz
    generalize (if ordF ext o x m < 0 then x else m) = w at hq hyes hno
    generalize ordF ext o x m = c at hE hyes hno
    rw [St.knows _ _ ht hz _ hh]
    refine Loop.round ?_
    conv => whnf
    refine sel_yes g ?_
    conv => whnf
    refine ⟨hb, ?_⟩
    conv => whnf
    refine hld ?_
    conv => whnf
    refine ⟨_, hE, ?_⟩
    conv => whnf
    refine sel_split (fun h => ?_) (fun h => ?_)
    · conv => whnf
      refine ⟨hb, ?_⟩
      conv => whnf
      refine hld ?_
      conv => whnf
      refine ih (i + 1) x _ (by omega) (by omega) hxm ⟨rfl, rfl, rfl, rfl, ?_, trivial⟩ ⟨rfl, rfl, trivial⟩ rfl (fun z' a b c => hq z' a (hyes (of_decide_eq_true h) z' b) c)
      conv => lhs; whnf
      exact vi e1
    · conv => whnf
      refine ih (i + 1) m _ (by omega) (by omega) hm ⟨rfl, rfl, rfl, rfl, ?_, trivial⟩ ⟨rfl, rfl, trivial⟩ rfl (fun z' a b c => hq z' a (hno (of_decide_eq_false h) z' b) c)
      conv => lhs; whnf
      exact vi e1
theorem rleast (hn : Non ext) (o : Int) (h0 : 0 ≤ o) (h5 : o ≤ 5) (l : List T) (hl : l.length ≤ 9223372036854775807) (hw : ∀ a ∈ l, WfV a) :
    (cfg ext).Ev 17 [.int .i64 o, .sl false (encL l) l.length] (.tup [A (leastF (ordF ext o) l).1, .int .i64 (leastF (ordF ext o) l).2]) := by
  have key : ∃ r, (cfg ext).Ev 17 [.int .i64 o, .sl false (encL l) l.length] r ∧ r = .tup [A (leastF (ordF ext o) l).1, .int .i64 (leastF (ordF ext o) l).2] := by
    have hL := rfit hn o l ⟨h0, h5⟩ hl hw
    refine Ev.ofF (hn 17 (by decide) (by decide)) Tryz.func17 rfl rfl ?_
    by_cases hz : listedZ l = 0
    · have hok := listed_ok hz
      have hG := Gd.of hz hw
      rw [hz] at hL
      cases l with
      | nil =>
        have e : leastF (ordF ext o) [] = (T0, 6) := by unfold leastF; rw [if_neg (by simpa using hz)]
        rw [e]
        conv => whnf
        refine ⟨_, hL, ?_⟩
        conv => whnf
        exact Fin.of_eq (v := .tup [A T0, .int .i64 6]) rfl rfl
      | cons x xs =>
        have e : leastF (ordF ext o) (x :: xs) = (minF (ordF ext o) x xs, 0) := by unfold leastF; rw [if_neg (by simpa using hz)]
        rw [e]
        have hlt : 0 < (x :: xs).length := by simp
        have hb : (0 : Int) ≤ 0 ∧ (0 : Int) < ((x :: xs).length : Int) := ⟨by omega, by omega⟩
        conv => whnf
        refine ⟨_, hL, ?_⟩
        conv => whnf
        refine ⟨hb, ?_⟩
        conv => whnf
        refine ldA (i := 0) hlt ?_
        conv => whnf
        refine lminR hn o h0 h5 (x :: xs) hok.1 hG _ ((x :: xs).length - 1) 1 x _ rfl (by simp) (by simp) ⟨rfl, rfl, rfl, rfl, rfl, trivial⟩ ⟨rfl, rfl, trivial⟩ rfl (fun z a b c => ?_)
        rw [List.drop_succ_cons, List.drop_zero] at b
        rw [St.knows _ _ a c _ b]
        conv => whnf
        exact Fin.of_eq (v := .tup [A (minF (ordF ext o) x xs), .int .i64 0]) rfl rfl
    · have e : leastF (ordF ext o) l = (T0, listedZ l) := by unfold leastF; rw [if_pos hz]
      rw [e]
      clear e
      dsimp only
      generalize listedZ l = e at hL hz ⊢
      conv => whnf
      refine ⟨_, hL, ?_⟩
      conv => whnf
      refine sel_yes (by simpa using hz) ?_
      conv => whnf
      exact Fin.of_eq (v := .tup [A T0, .int .i64 e]) rfl rfl
  obtain ⟨r, h, rfl⟩ := key
  exact h
end
end Go.Proofs.YtehajklneljbgaaGreatDoor.AB
end

section
set_option linter.unusedVariables false
set_option linter.unusedSimpArgs false
open Go Go.Ab Go.Proofs Go.Vl
namespace Go.Proofs.YtehajklneljbgaaGreatDoor.AB
set_option maxRecDepth 100000
set_option maxHeartbeats 16000000
set_option linter.unusedSimpArgs false
set_option linter.unusedVariables false
/-- two sorted lists put together -/
def mrgF (f : T → T → Int) : List T → List T → List T
  | [], ys => ys
  | x :: xs, [] => x :: xs
  | x :: xs, y :: ys => if f x y ≤ 0 then x :: mrgF f xs (y :: ys) else y :: mrgF f (x :: xs) ys
termination_by xs ys => xs.length + ys.length
theorem mrgF_nil (f : T → T → Int) (xs : List T) : mrgF f xs [] = xs := by cases xs <;> simp [mrgF]
theorem mrgF_perm (f : T → T → Int) : ∀ (n : Nat) (xs ys : List T), xs.length + ys.length ≤ n → (mrgF f xs ys).Perm (xs ++ ys)
  | _, [], ys, _ => by simp [mrgF]
  | _, x :: xs, [], _ => by simp [mrgF]
  | 0, x :: xs, y :: ys, h => by simp at h
  | n + 1, x :: xs, y :: ys, h => by
    rw [mrgF]
    simp only [List.length_cons] at h
    split
    · exact List.Perm.cons _ (mrgF_perm f n xs (y :: ys) (by simp only [List.length_cons]; omega))
    · refine (List.Perm.cons _ (mrgF_perm f n (x :: xs) ys (by simp only [List.length_cons]; omega))).trans ?_
      exact (List.perm_middle (l₁ := x :: xs)).symm
theorem mrgF_le {f : T → T → Int} (hf : Line f) : ∀ (n : Nat) (xs ys : List T), xs.length + ys.length ≤ n → (∀ x ∈ xs, Shp x) → (∀ x ∈ ys, Shp x) → Le f xs → Le f ys → Le f (mrgF f xs ys)
  | _, [], ys, _, _, _, _, h => by simpa [mrgF] using h
  | _, x :: xs, [], _, _, _, h, _ => by simpa [mrgF] using h
  | 0, x :: xs, y :: ys, h, _, _, _, _ => by simp at h
  | n + 1, x :: xs, y :: ys, h, hx, hy, sx, sy => by
    rw [mrgF]
    simp only [List.length_cons] at h
    have sx' := List.pairwise_cons.1 sx
    have sy' := List.pairwise_cons.1 sy
    have ix := hx x (by simp)
    have iy := hy y (by simp)
    split
    · rename_i hc
      refine List.pairwise_cons.2 ⟨fun w hw => ?_, mrgF_le hf n xs (y :: ys) (by simp only [List.length_cons]; omega) (fun z hz => hx z (by simp [hz])) hy sx'.2 sy⟩
      have hw := (mrgF_perm f _ xs (y :: ys) (Nat.le_refl _)).mem_iff.1 hw
      rcases List.mem_append.1 hw with hw | hw
      · exact sx'.1 w hw
      · rcases List.mem_cons.1 hw with rfl | hw
        · exact hc
        · exact hf.2.2.1 x y w ix iy (hy w (by simp [hw])) hc (sy'.1 w hw)
    · rename_i hc
      have hyx : f y x ≤ 0 := by have := hf.1 x y; omega
      refine List.pairwise_cons.2 ⟨fun w hw => ?_, mrgF_le hf n (x :: xs) ys (by simp only [List.length_cons]; omega) hx (fun z hz => hy z (by simp [hz])) sx sy'.2⟩
      have hw := (mrgF_perm f _ (x :: xs) ys (Nat.le_refl _)).mem_iff.1 hw
      rcases List.mem_append.1 hw with hw | hw
      · rcases List.mem_cons.1 hw with rfl | hw
        · exact hyx
        · exact hf.2.2.1 y x w iy ix (hx w (by simp [hw])) hyx (sx'.1 w hw)
      · exact sy'.1 w hw
theorem encY_cold (v : T) : ∀ c ∈ [V.int .i64 v.f0, .int .i64 v.f1, .str v.f2, .sl false (encL v.f3) v.f3.length], cold c = true := fun c hc => encC [v] c (by simp only [encL, enc_eq, List.append_nil]; exact hc)
theorem encY_one (D : List T) (v : T) : encL D ++ [V.int .i64 v.f0, .int .i64 v.f1, .str v.f2, .sl false (encL v.f3) v.f3.length] = encL (D ++ [v]) := by
  rw [encL_app]
  simp only [encL, enc_eq, List.append_nil]
section
variable {ext : Exts}
theorem lboth (hn : Non ext) (o : Int) (h0 : 0 ≤ o) (h5 : o ≤ 5) (a b : List T) (hla : a.length ≤ 65536) (hlb : b.length ≤ 65536) (hGa : Gd a) (hGb : Gd b) (Q : Ex → St → Prop) (d : Nat) :
    ∀ (i k : Nat) (D : List T) (S : V) (z : St), (a.length - i) + (b.length - k) = d → i ≤ a.length → k ≤ b.length → D.length = i + k → Has z.t [(0, .int .i64 o), (1, .sl false (encL a) a.length), (2, .sl false (encL b) b.length), (7, S), (8, .int .i64 i), (9, .int .i64 k)] → z.hp.n = 4 → Gro 4 z.hp.a z.hp.m S (encL D) D.length →
      (∀ (S' : V) (z' : St), Has z'.t [(7, S')] → z'.hp.n = 14 → Gro 4 z'.hp.a z'.hp.m S' (encL (D ++ mrgF (ordF ext o) (a.drop i) (b.drop k))) (D ++ mrgF (ordF ext o) (a.drop i) (b.drop k)).length → Q (.exit 0) z') →
      Go.Ab.Loop (cfg ext) (lpOf Tryz.f40) 4 z Q := by
  induction d with
  | zero =>
    intro i k D S z hd hi hk hD ht hz hg hq
    have g1 : decide ((i : Int) < (a.length : Int)) = false := decide_eq_false (by omega)
    have g2 : decide ((k : Int) < (b.length : Int)) = false := decide_eq_false (by omega)
    rw [List.drop_eq_nil_of_le (show a.length ≤ i by omega), List.drop_eq_nil_of_le (show b.length ≤ k by omega)] at hq
    rcases hg.form with ⟨eS, _⟩ | ⟨bS, vS, eS⟩ <;> subst eS
    all_goals
      rw [St.knows _ _ ht hz]
      refine Loop.round ?_
      conv => whnf
      repeat (first
        | (refine sel_yes ?_ ?_; (first | assumption | (simp only [beq_iff_eq, bne_iff_ne, beq_eq_false_iff_ne, bne_eq_false_iff_eq, decide_eq_true_eq, decide_eq_false_iff_not, Bool.not_eq_true', Bool.not_eq_false', ne_eq, beq_true, beq_false, bne_self_eq_false, not_true_eq_false, not_false_eq_true, gt_iff_lt, ge_iff_le, Int.not_lt, Int.not_le, Bool.true_eq_false, Bool.false_eq_true] <;> omega)); conv => whnf)
        | (refine sel_no ?_ ?_; (first | assumption | (simp only [beq_iff_eq, bne_iff_ne, beq_eq_false_iff_ne, bne_eq_false_iff_eq, decide_eq_true_eq, decide_eq_false_iff_not, Bool.not_eq_true', Bool.not_eq_false', ne_eq, beq_true, beq_false, bne_self_eq_false, not_true_eq_false, not_false_eq_true, gt_iff_lt, ge_iff_le, Int.not_lt, Int.not_le, Bool.true_eq_false, Bool.false_eq_true] <;> omega)); conv => whnf)
        | (refine ⟨le_rfl' ?_, ?_⟩; rfl; conv => whnf)
        | (refine ⟨⟨?_, ?_⟩, ?_⟩; omega; omega; conv => whnf)
        | (refine ⟨⟨?_, ?_, ?_⟩, ?_⟩; rfl; omega; omega; conv => whnf)
        | (refine ⟨rfl, ?_, ?_⟩; decide; conv => whnf))
      try exact rfl
      refine hq _ _ ⟨rfl, trivial⟩ rfl ?_
      refine Gro.to (Gro.mono hg (fun _ _ => rfl) ?_) (by simp [mrgF]) (by simp [mrgF])
      (conv => lhs; whnf); (repeat ((conv => rhs; whnf); first | with_reducible exact Nat.le_refl _ | refine Nat.le_trans ?_ (Nat.le_add_right _ _) | refine Nat.le_succ_of_le ?_ | exact Nat.le_refl _))
  | succ d ih =>
    intro i k D S z hd hi hk hD ht hz hg hq
    by_cases h1 : i < a.length
    · have g1 : decide ((i : Int) < (a.length : Int)) = true := decide_eq_true (by omega)
      have e1 : IntKind.i64.wrap ((i : Int) + 1) = ((i + 1 : Nat) : Int) := wrapN (by omega) (by omega)
      obtain ⟨x, hx⟩ : ∃ x, a[i] = x := ⟨_, rfl⟩
      have hxm : x ∈ a := by rw [← hx]; exact List.getElem_mem h1
      have hlda : ∀ {Q : V → Prop}, Q (A x) → i * 4 + 4 ≤ (encL a).length ∧ opt (one (some true) (sub (encL a) (i * 4) 4)) fun v => fv v Q := fun h => ldA h1 (by rw [hx]; exact h)
      have dA : a.drop i = x :: a.drop (i + 1) := by rw [List.drop_eq_getElem_cons h1, hx]
      have eA := encY_one D x
      have eB : D.length + 1 = (D ++ [x]).length := by simp
      by_cases h2 : k < b.length
      · have g2 : decide ((k : Int) < (b.length : Int)) = true := decide_eq_true (by omega)
        have g3 : ((k : Int) == (b.length : Int)) = false := by simp; omega
        have e2 : IntKind.i64.wrap ((k : Int) + 1) = ((k + 1 : Nat) : Int) := wrapN (by omega) (by omega)
        obtain ⟨y, hy⟩ : ∃ y, b[k] = y := ⟨_, rfl⟩
        have hym : y ∈ b := by rw [← hy]; exact List.getElem_mem h2
        have hldb : ∀ {Q : V → Prop}, Q (A y) → k * 4 + 4 ≤ (encL b).length ∧ opt (one (some true) (sub (encL b) (k * 4) 4)) fun v => fv v Q := fun h => ldA h2 (by rw [hy]; exact h)
        have dB : b.drop k = y :: b.drop (k + 1) := by rw [List.drop_eq_getElem_cons h2, hy]
        have eA2 := encY_one D y
        have eB2 : D.length + 1 = (D ++ [y]).length := by simp
        have hE := rord hn o h0 h5 x y (hGa x hxm).1 (hGb y hym).1 (hGa x hxm).2 (hGb y hym).2
        have hyes : ordF ext o x y ≤ 0 → D ++ mrgF (ordF ext o) (a.drop i) (b.drop k) = (D ++ [x]) ++ mrgF (ordF ext o) (a.drop (i + 1)) (b.drop k) := fun h => by rw [dA, dB, mrgF, if_pos h]; simp
        have hno : ¬ ordF ext o x y ≤ 0 → D ++ mrgF (ordF ext o) (a.drop i) (b.drop k) = (D ++ [y]) ++ mrgF (ordF ext o) (a.drop i) (b.drop (k + 1)) := fun h => by rw [dA, dB, mrgF, if_neg h]; simp
        generalize ordF ext o x y = c at hE hyes hno
        rcases hg.form with ⟨eS, _⟩ | ⟨bS, vS, eS⟩ <;> subst eS
        all_goals
          rw [St.knows _ _ ht hz]
          refine Loop.round ?_
          conv => whnf
          repeat (first
            | (refine sel_yes ?_ ?_; (first | assumption | (simp only [beq_iff_eq, bne_iff_ne, beq_eq_false_iff_ne, bne_eq_false_iff_eq, decide_eq_true_eq, decide_eq_false_iff_not, Bool.not_eq_true', Bool.not_eq_false', ne_eq, beq_true, beq_false, bne_self_eq_false, not_true_eq_false, not_false_eq_true, gt_iff_lt, ge_iff_le, Int.not_lt, Int.not_le, Bool.true_eq_false, Bool.false_eq_true] <;> omega)); conv => whnf)
            | (refine sel_no ?_ ?_; (first | assumption | (simp only [beq_iff_eq, bne_iff_ne, beq_eq_false_iff_ne, bne_eq_false_iff_eq, decide_eq_true_eq, decide_eq_false_iff_not, Bool.not_eq_true', Bool.not_eq_false', ne_eq, beq_true, beq_false, bne_self_eq_false, not_true_eq_false, not_false_eq_true, gt_iff_lt, ge_iff_le, Int.not_lt, Int.not_le, Bool.true_eq_false, Bool.false_eq_true] <;> omega)); conv => whnf)
            | (refine ⟨le_rfl' ?_, ?_⟩; rfl; conv => whnf)
            | (refine ⟨⟨?_, ?_⟩, ?_⟩; omega; omega; conv => whnf)
            | (refine ⟨⟨?_, ?_, ?_⟩, ?_⟩; rfl; omega; omega; conv => whnf)
            | (refine ⟨rfl, ?_, ?_⟩; decide; conv => whnf))
          try exact rfl
          refine hlda ?_
          conv => whnf
          repeat (first
            | (refine sel_yes ?_ ?_; (first | assumption | (simp only [beq_iff_eq, bne_iff_ne, beq_eq_false_iff_ne, bne_eq_false_iff_eq, decide_eq_true_eq, decide_eq_false_iff_not, Bool.not_eq_true', Bool.not_eq_false', ne_eq, beq_true, beq_false, bne_self_eq_false, not_true_eq_false, not_false_eq_true, gt_iff_lt, ge_iff_le, Int.not_lt, Int.not_le, Bool.true_eq_false, Bool.false_eq_true] <;> omega)); conv => whnf)
            | (refine sel_no ?_ ?_; (first | assumption | (simp only [beq_iff_eq, bne_iff_ne, beq_eq_false_iff_ne, bne_eq_false_iff_eq, decide_eq_true_eq, decide_eq_false_iff_not, Bool.not_eq_true', Bool.not_eq_false', ne_eq, beq_true, beq_false, bne_self_eq_false, not_true_eq_false, not_false_eq_true, gt_iff_lt, ge_iff_le, Int.not_lt, Int.not_le, Bool.true_eq_false, Bool.false_eq_true] <;> omega)); conv => whnf)
            | (refine ⟨le_rfl' ?_, ?_⟩; rfl; conv => whnf)
            | (refine ⟨⟨?_, ?_⟩, ?_⟩; omega; omega; conv => whnf)
            | (refine ⟨⟨?_, ?_, ?_⟩, ?_⟩; rfl; omega; omega; conv => whnf)
            | (refine ⟨rfl, ?_, ?_⟩; decide; conv => whnf))
          try exact rfl
          refine hldb ?_
          conv => whnf
          repeat (first
            | (refine sel_yes ?_ ?_; (first | assumption | (simp only [beq_iff_eq, bne_iff_ne, beq_eq_false_iff_ne, bne_eq_false_iff_eq, decide_eq_true_eq, decide_eq_false_iff_not, Bool.not_eq_true', Bool.not_eq_false', ne_eq, beq_true, beq_false, bne_self_eq_false, not_true_eq_false, not_false_eq_true, gt_iff_lt, ge_iff_le, Int.not_lt, Int.not_le, Bool.true_eq_false, Bool.false_eq_true] <;> omega)); conv => whnf)
            | (refine sel_no ?_ ?_; (first | assumption | (simp only [beq_iff_eq, bne_iff_ne, beq_eq_false_iff_ne, bne_eq_false_iff_eq, decide_eq_true_eq, decide_eq_false_iff_not, Bool.not_eq_true', Bool.not_eq_false', ne_eq, beq_true, beq_false, bne_self_eq_false, not_true_eq_false, not_false_eq_true, gt_iff_lt, ge_iff_le, Int.not_lt, Int.not_le, Bool.true_eq_false, Bool.false_eq_true] <;> omega)); conv => whnf)
            | (refine ⟨_, hE, ?_⟩; conv => whnf)
            | (refine ⟨le_rfl' ?_, ?_⟩; rfl; conv => whnf)
            | (refine ⟨⟨?_, ?_⟩, ?_⟩; omega; omega; conv => whnf)
            | (refine ⟨⟨?_, ?_, ?_⟩, ?_⟩; rfl; omega; omega; conv => whnf)
            | (refine ⟨rfl, ?_, ?_⟩; decide; conv => whnf))
          try exact rfl
          refine sel_split (fun h => ?_) (fun h => ?_)
          · conv => whnf
            refine ⟨⟨by omega, by omega⟩, ?_⟩
            conv => whnf
            refine hlda ?_
            conv => whnf
            refine ⟨rfl, ?_⟩
            conv => whnf
            refine ⟨⟨rfl, (show (4 : Nat) ≠ 0 by decide)⟩, ?_⟩
            refine Gro.one hg ⟨_, _, _, _, rfl, upd_is _ _ _⟩ ?_ ?_ ?_ ?_ ?_ ?_ (fun b1 v1 a1 h1 => ?_)
            · intro b0 hb0
              exact upd_lt (Nat.lt_of_lt_of_le hb0 (by ((conv => lhs; whnf); (repeat ((conv => rhs; whnf); first | with_reducible exact Nat.le_refl _ | refine Nat.le_trans ?_ (Nat.le_add_right _ _) | refine Nat.le_succ_of_le ?_)))))
            · rfl
            · exact (encY_cold x)
            · exact ⟨by show (_ + 1) * 56 ≤ 140737488355328; (try simp only [List.length_append, List.length_cons, List.length_nil]); omega, by show _ + 1 ≤ 140737488355328; (try simp only [List.length_append, List.length_cons, List.length_nil]); omega⟩
            · exact Nat.add_lt_add_left (by decide) _
            · ((conv => lhs; whnf); (repeat ((conv => rhs; whnf); first | with_reducible exact Nat.le_refl _ | refine Nat.le_trans ?_ (Nat.le_add_right _ _) | refine Nat.le_succ_of_le ?_)))
            conv => whnf
            refine ih (i + 1) k (D ++ [x]) (.rsl false b1 v1 0 (D.length + 1)) _ (by omega) (by omega) hk (by simp; omega) ⟨rfl, rfl, rfl, rfl, ?_, rfl, trivial⟩ rfl ?_ (fun S' z' q1 q2 q3 => hq S' z' q1 q2 (by rw [hyes (of_decide_eq_true h)]; exact q3))
            · conv => lhs; whnf
              exact vi e1
            · refine Gro.to (Gro.truncR h1 ?_) eA eB
              (conv => lhs; whnf); (repeat ((conv => rhs; whnf); first | with_reducible exact Nat.le_refl _ | refine Nat.le_trans ?_ (Nat.le_add_right _ _) | refine Nat.le_succ_of_le ?_ | exact Nat.le_refl _))
          · conv => whnf
            refine ⟨⟨by omega, by omega⟩, ?_⟩
            conv => whnf
            refine hldb ?_
            conv => whnf
            refine ⟨rfl, ?_⟩
            conv => whnf
            refine ⟨⟨rfl, (show (4 : Nat) ≠ 0 by decide)⟩, ?_⟩
            refine Gro.one hg ⟨_, _, _, _, rfl, upd_is _ _ _⟩ ?_ ?_ ?_ ?_ ?_ ?_ (fun b1 v1 a1 h1 => ?_)
            · intro b0 hb0
              exact upd_lt (Nat.lt_of_lt_of_le hb0 (by ((conv => lhs; whnf); (repeat ((conv => rhs; whnf); first | with_reducible exact Nat.le_refl _ | refine Nat.le_trans ?_ (Nat.le_add_right _ _) | refine Nat.le_succ_of_le ?_)))))
            · rfl
            · exact (encY_cold y)
            · exact ⟨by show (_ + 1) * 56 ≤ 140737488355328; (try simp only [List.length_append, List.length_cons, List.length_nil]); omega, by show _ + 1 ≤ 140737488355328; (try simp only [List.length_append, List.length_cons, List.length_nil]); omega⟩
            · exact Nat.add_lt_add_left (by decide) _
            · ((conv => lhs; whnf); (repeat ((conv => rhs; whnf); first | with_reducible exact Nat.le_refl _ | refine Nat.le_trans ?_ (Nat.le_add_right _ _) | refine Nat.le_succ_of_le ?_)))
            conv => whnf
            refine ih i (k + 1) (D ++ [y]) (.rsl false b1 v1 0 (D.length + 1)) _ (by omega) hi (by omega) (by simp; omega) ⟨rfl, rfl, rfl, rfl, rfl, ?_, trivial⟩ rfl ?_ (fun S' z' q1 q2 q3 => hq S' z' q1 q2 (by rw [hno (of_decide_eq_false h)]; exact q3))
            · conv => lhs; whnf
              exact vi e2
            · refine Gro.to (Gro.truncR h1 ?_) eA2 eB2
              (conv => lhs; whnf); (repeat ((conv => rhs; whnf); first | with_reducible exact Nat.le_refl _ | refine Nat.le_trans ?_ (Nat.le_add_right _ _) | refine Nat.le_succ_of_le ?_ | exact Nat.le_refl _))
      · have g3 : ((k : Int) == (b.length : Int)) = true := by simp; omega
        have hyes : D ++ mrgF (ordF ext o) (a.drop i) (b.drop k) = (D ++ [x]) ++ mrgF (ordF ext o) (a.drop (i + 1)) (b.drop k) := by
          rw [dA, List.drop_eq_nil_of_le (show b.length ≤ k by omega), mrgF_nil, mrgF_nil]; simp
        rcases hg.form with ⟨eS, _⟩ | ⟨bS, vS, eS⟩ <;> subst eS
        all_goals
          rw [St.knows _ _ ht hz]
          refine Loop.round ?_
          conv => whnf
          repeat (first
            | (refine sel_yes ?_ ?_; (first | assumption | (simp only [beq_iff_eq, bne_iff_ne, beq_eq_false_iff_ne, bne_eq_false_iff_eq, decide_eq_true_eq, decide_eq_false_iff_not, Bool.not_eq_true', Bool.not_eq_false', ne_eq, beq_true, beq_false, bne_self_eq_false, not_true_eq_false, not_false_eq_true, gt_iff_lt, ge_iff_le, Int.not_lt, Int.not_le, Bool.true_eq_false, Bool.false_eq_true] <;> omega)); conv => whnf)
            | (refine sel_no ?_ ?_; (first | assumption | (simp only [beq_iff_eq, bne_iff_ne, beq_eq_false_iff_ne, bne_eq_false_iff_eq, decide_eq_true_eq, decide_eq_false_iff_not, Bool.not_eq_true', Bool.not_eq_false', ne_eq, beq_true, beq_false, bne_self_eq_false, not_true_eq_false, not_false_eq_true, gt_iff_lt, ge_iff_le, Int.not_lt, Int.not_le, Bool.true_eq_false, Bool.false_eq_true] <;> omega)); conv => whnf)
            | (refine ⟨le_rfl' ?_, ?_⟩; rfl; conv => whnf)
            | (refine ⟨⟨?_, ?_⟩, ?_⟩; omega; omega; conv => whnf)
            | (refine ⟨⟨?_, ?_, ?_⟩, ?_⟩; rfl; omega; omega; conv => whnf)
            | (refine ⟨rfl, ?_, ?_⟩; decide; conv => whnf))
          try exact rfl
          refine hlda ?_
          conv => whnf
          refine ⟨rfl, ?_⟩
          conv => whnf
          refine ⟨⟨rfl, (show (4 : Nat) ≠ 0 by decide)⟩, ?_⟩
          refine Gro.one hg ⟨_, _, _, _, rfl, upd_is _ _ _⟩ ?_ ?_ ?_ ?_ ?_ ?_ (fun b1 v1 a1 h1 => ?_)
          · intro b0 hb0
            exact upd_lt (Nat.lt_of_lt_of_le hb0 (by ((conv => lhs; whnf); (repeat ((conv => rhs; whnf); first | with_reducible exact Nat.le_refl _ | refine Nat.le_trans ?_ (Nat.le_add_right _ _) | refine Nat.le_succ_of_le ?_)))))
          · rfl
          · exact (encY_cold x)
          · exact ⟨by show (_ + 1) * 56 ≤ 140737488355328; (try simp only [List.length_append, List.length_cons, List.length_nil]); omega, by show _ + 1 ≤ 140737488355328; (try simp only [List.length_append, List.length_cons, List.length_nil]); omega⟩
          · exact Nat.add_lt_add_left (by decide) _
          · ((conv => lhs; whnf); (repeat ((conv => rhs; whnf); first | with_reducible exact Nat.le_refl _ | refine Nat.le_trans ?_ (Nat.le_add_right _ _) | refine Nat.le_succ_of_le ?_)))
          conv => whnf
          refine ih (i + 1) k (D ++ [x]) (.rsl false b1 v1 0 (D.length + 1)) _ (by omega) (by omega) hk (by simp; omega) ⟨rfl, rfl, rfl, rfl, ?_, rfl, trivial⟩ rfl ?_ (fun S' z' q1 q2 q3 => hq S' z' q1 q2 (by rw [hyes]; exact q3))
          · conv => lhs; whnf
            exact vi e1
          · refine Gro.to (Gro.truncR h1 ?_) eA eB
            (conv => lhs; whnf); (repeat ((conv => rhs; whnf); first | with_reducible exact Nat.le_refl _ | refine Nat.le_trans ?_ (Nat.le_add_right _ _) | refine Nat.le_succ_of_le ?_ | exact Nat.le_refl _))
    · have g1 : decide ((i : Int) < (a.length : Int)) = false := decide_eq_false (by omega)
      have h2 : k < b.length := by omega
      have g2 : decide ((k : Int) < (b.length : Int)) = true := decide_eq_true (by omega)
      have g3 : ((k : Int) == (b.length : Int)) = false := by simp; omega
      have e2 : IntKind.i64.wrap ((k : Int) + 1) = ((k + 1 : Nat) : Int) := wrapN (by omega) (by omega)
      obtain ⟨y, hy⟩ : ∃ y, b[k] = y := ⟨_, rfl⟩
      have hldb : ∀ {Q : V → Prop}, Q (A y) → k * 4 + 4 ≤ (encL b).length ∧ opt (one (some true) (sub (encL b) (k * 4) 4)) fun v => fv v Q := fun h => ldA h2 (by rw [hy]; exact h)
      have dB : b.drop k = y :: b.drop (k + 1) := by rw [List.drop_eq_getElem_cons h2, hy]
      have eA2 := encY_one D y
      have eB2 : D.length + 1 = (D ++ [y]).length := by simp
      have hno : D ++ mrgF (ordF ext o) (a.drop i) (b.drop k) = (D ++ [y]) ++ mrgF (ordF ext o) (a.drop i) (b.drop (k + 1)) := by
        rw [dB, List.drop_eq_nil_of_le (show a.length ≤ i by omega)]; simp [mrgF]
      rcases hg.form with ⟨eS, _⟩ | ⟨bS, vS, eS⟩ <;> subst eS
      all_goals
        rw [St.knows _ _ ht hz]
        refine Loop.round ?_
        conv => whnf
        repeat (first
          | (refine sel_yes ?_ ?_; (first | assumption | (simp only [beq_iff_eq, bne_iff_ne, beq_eq_false_iff_ne, bne_eq_false_iff_eq, decide_eq_true_eq, decide_eq_false_iff_not, Bool.not_eq_true', Bool.not_eq_false', ne_eq, beq_true, beq_false, bne_self_eq_false, not_true_eq_false, not_false_eq_true, gt_iff_lt, ge_iff_le, Int.not_lt, Int.not_le, Bool.true_eq_false, Bool.false_eq_true] <;> omega)); conv => whnf)
          | (refine sel_no ?_ ?_; (first | assumption | (simp only [beq_iff_eq, bne_iff_ne, beq_eq_false_iff_ne, bne_eq_false_iff_eq, decide_eq_true_eq, decide_eq_false_iff_not, Bool.not_eq_true', Bool.not_eq_false', ne_eq, beq_true, beq_false, bne_self_eq_false, not_true_eq_false, not_false_eq_true, gt_iff_lt, ge_iff_le, Int.not_lt, Int.not_le, Bool.true_eq_false, Bool.false_eq_true] <;> omega)); conv => whnf)
          | (refine ⟨le_rfl' ?_, ?_⟩; rfl; conv => whnf)
          | (refine ⟨⟨?_, ?_⟩, ?_⟩; omega; omega; conv => whnf)
          | (refine ⟨⟨?_, ?_, ?_⟩, ?_⟩; rfl; omega; omega; conv => whnf)
          | (refine ⟨rfl, ?_, ?_⟩; decide; conv => whnf))
        try exact rfl
        refine hldb ?_
        conv => whnf
        refine ⟨rfl, ?_⟩
        conv => whnf
        refine ⟨⟨rfl, (show (4 : Nat) ≠ 0 by decide)⟩, ?_⟩
        refine Gro.one hg ⟨_, _, _, _, rfl, upd_is _ _ _⟩ ?_ ?_ ?_ ?_ ?_ ?_ (fun b1 v1 a1 h1 => ?_)
        · intro b0 hb0
          exact upd_lt (Nat.lt_of_lt_of_le hb0 (by ((conv => lhs; whnf); (repeat ((conv => rhs; whnf); first | with_reducible exact Nat.le_refl _ | refine Nat.le_trans ?_ (Nat.le_add_right _ _) | refine Nat.le_succ_of_le ?_)))))
        · rfl
        · exact (encY_cold y)
        · exact ⟨by show (_ + 1) * 56 ≤ 140737488355328; (try simp only [List.length_append, List.length_cons, List.length_nil]); omega, by show _ + 1 ≤ 140737488355328; (try simp only [List.length_append, List.length_cons, List.length_nil]); omega⟩
        · exact Nat.add_lt_add_left (by decide) _
        · ((conv => lhs; whnf); (repeat ((conv => rhs; whnf); first | with_reducible exact Nat.le_refl _ | refine Nat.le_trans ?_ (Nat.le_add_right _ _) | refine Nat.le_succ_of_le ?_)))
        conv => whnf
        refine ih i (k + 1) (D ++ [y]) (.rsl false b1 v1 0 (D.length + 1)) _ (by omega) hi (by omega) (by simp; omega) ⟨rfl, rfl, rfl, rfl, rfl, ?_, trivial⟩ rfl ?_ (fun S' z' q1 q2 q3 => hq S' z' q1 q2 (by rw [hno]; exact q3))
        · conv => lhs; whnf
          exact vi e2
        · refine Gro.to (Gro.truncR h1 ?_) eA2 eB2
          (conv => lhs; whnf); (repeat ((conv => rhs; whnf); first | with_reducible exact Nat.le_refl _ | refine Nat.le_trans ?_ (Nat.le_add_right _ _) | refine Nat.le_succ_of_le ?_ | exact Nat.le_refl _))
theorem rboth (hn : Non ext) (o : Int) (h0 : 0 ≤ o) (h5 : o ≤ 5) (a b : List T) (hla : a.length ≤ 65536) (hlb : b.length ≤ 65536) (hGa : Gd a) (hGb : Gd b) :
    (cfg ext).Ev 40 [.int .i64 o, .sl false (encL a) a.length, .sl false (encL b) b.length] (.sl false (encL (mrgF (ordF ext o) a b)) (mrgF (ordF ext o) a b).length) := by
  have key : ∃ r, (cfg ext).Ev 40 [.int .i64 o, .sl false (encL a) a.length, .sl false (encL b) b.length] r ∧ r = .sl false (encL (mrgF (ordF ext o) a b)) (mrgF (ordF ext o) a b).length := by
    refine Ev.ofF (hn 40 (by decide) (by decide)) Tryz.func40 rfl rfl ?_
    conv => whnf
    refine lboth hn o h0 h5 a b hla hlb hGa hGb _ _ 0 0 [] (.sl true [] 0) _ rfl (Nat.zero_le _) (Nat.zero_le _) rfl ⟨rfl, rfl, rfl, rfl, rfl, rfl, trivial⟩ rfl (by simp only [encL]; exact Gro.nil _ _ _) (fun S z q1 q2 c => ?_)
    simp only [List.nil_append, List.drop_zero] at c
    rcases c.form with ⟨eS, e0⟩ | ⟨bS, vS, eS⟩
    · subst eS
      rw [St.knows _ _ q1 q2]
      conv => whnf
      exact Fin.gro rfl c rfl
    · subst eS
      rw [St.knows _ _ q1 q2]
      conv => whnf
      exact Fin.gro rfl c rfl
  obtain ⟨r, h, rfl⟩ := key
  exact h
end
end Go.Proofs.YtehajklneljbgaaGreatDoor.AB
end

section
set_option linter.unusedVariables false
set_option linter.unusedSimpArgs false
open Go Go.Ab Go.Proofs Go.Vl
namespace Go.Proofs.YtehajklneljbgaaGreatDoor.AB
set_option maxRecDepth 100000
set_option maxHeartbeats 16000000
set_option linter.unusedSimpArgs false
set_option linter.unusedVariables false
theorem slLo {P : Program} {t e : Nat} {l : List T} {k : IntKind} {x : Int} {i : Nat} (ht : tslice P t = some e) (h4 : tsize P e = 4) (hx : x = (i : Int)) (h : i ≤ l.length) : sliceV P t (.sl false (encL l) l.length) none (some (.int k x)) none = some (.sl false (encL (l.take i)) (l.take i).length) := by
  subst hx
  have hb : (0 : Int) ≤ (i : Int) ∧ (i : Int) ≤ (l.length : Int) := ⟨by omega, by omega⟩
  simp only [sliceV, ht, bounds, boundO, bound, if_pos hb, Option.bind_some, Int.toNat_natCast, h4, clip, Bool.false_and, Nat.sub_zero, Nat.zero_mul]
  have e1 : sub (encL l) 0 (i * 4) = encL (l.take i) := by unfold sub; rw [List.drop_zero, encL_take]
  have e2 : (l.take i).length = i := by rw [List.length_take]; omega
  rw [e1, e2]
theorem slHi {P : Program} {t e : Nat} {l : List T} {k : IntKind} {x : Int} {i : Nat} (ht : tslice P t = some e) (h4 : tsize P e = 4) (hx : x = (i : Int)) (h : i ≤ l.length) : sliceV P t (.sl false (encL l) l.length) (some (.int k x)) none none = some (.sl false (encL (l.drop i)) (l.drop i).length) := by
  subst hx
  have hb : (0 : Int) ≤ (i : Int) ∧ (i : Int) ≤ (l.length : Int) := ⟨by omega, by omega⟩
  simp only [sliceV, ht, bounds, boundO, bound, if_pos hb, Option.bind_some, Int.toNat_natCast, h4, clip, Bool.false_and]
  have e2 : (l.drop i).length = l.length - i := by rw [List.length_drop]
  have e1 : sub (encL l) (i * 4) ((l.length - i) * 4) = encL (l.drop i) := by
    unfold sub; rw [encL_drop, ← e2, List.take_of_length_le]; rw [encL_len]; exact Nat.le_refl _
  rw [e1, e2]
section
variable {ext : Exts}
theorem rline (hn : Non ext) (o : Int) (h0 : 0 ≤ o) (h5 : o ≤ 5) : ∀ (n : Nat) (l : List T), l.length ≤ n → l.length ≤ 65536 → Gd l →
    ∃ L, Le (ordF ext o) L ∧ L.Perm l ∧ (cfg ext).Ev 36 [.int .i64 o, .sl false (encL l) l.length] (.sl false (encL L) L.length) := by
  intro n
  induction n with
  | zero =>
    intro l hn0 hl hG
    obtain rfl := List.eq_nil_of_length_eq_zero (Nat.le_zero.1 hn0)
    have key : ∃ r, (cfg ext).Ev 36 [.int .i64 o, .sl false (encL []) ([] : List T).length] r ∧ r = .sl false [] 0 := by
      refine Ev.ofF (hn 36 (by decide) (by decide)) Tryz.func36 rfl rfl ?_
      simp only [encL]
      conv => whnf
      refine ⟨rfl, ?_⟩
      conv => whnf
      refine ⟨⟨rfl, (show (4 : Nat) ≠ 0 by decide)⟩, ?_⟩
      conv => whnf
      exact Fin.of_eq (v := .sl false [] 0) rfl rfl
    obtain ⟨r, h, rfl⟩ := key
    exact ⟨[], List.Pairwise.nil, List.Perm.refl _, by simp only [encL] at h ⊢; exact h⟩
  | succ n ih =>
    intro l hnl hl hG
    by_cases h2 : l.length < 2
    · match l, h2, hG with
      | [], _, _ => exact ih [] (by simp) (by simp) (fun x hx => by cases hx)
      | [x], _, _ =>
        have key : ∃ r, (cfg ext).Ev 36 [.int .i64 o, .sl false (encL [x]) [x].length] r ∧ r = .sl false (encL [x]) [x].length := by
          refine Ev.ofF (hn 36 (by decide) (by decide)) Tryz.func36 rfl rfl ?_
          simp only [encL, enc_eq, List.append_nil]
          conv => whnf
          refine ⟨rfl, ?_⟩
          conv => whnf
          refine ⟨⟨rfl, (show (4 : Nat) ≠ 0 by decide)⟩, ?_⟩
          conv => whnf
          exact Fin.of_eq (v := .sl false [.int .i64 x.f0, .int .i64 x.f1, .str x.f2, .sl false (encL x.f3) x.f3.length] 1) rfl rfl
        obtain ⟨r, h, rfl⟩ := key
        exact ⟨[x], le_one _ _, List.Perm.refl _, h⟩
      | x :: y :: l, h2, _ => exfalso; simp only [List.length_cons] at h2; omega
    · have hk : l.length / 2 ≤ l.length := by omega
      obtain ⟨L1, s1, p1, e1⟩ := ih (l.take (l.length / 2)) (by rw [List.length_take]; omega) (by rw [List.length_take]; omega) (fun x hx => hG x (List.mem_of_mem_take hx))
      obtain ⟨L2, s2, p2, e2⟩ := ih (l.drop (l.length / 2)) (by rw [List.length_drop]; omega) (by rw [List.length_drop]; omega) (fun x hx => hG x (List.mem_of_mem_drop hx))
      have hG1 : Gd L1 := fun x hx => hG x (List.mem_of_mem_take (p1.mem_iff.1 hx))
      have hG2 : Gd L2 := fun x hx => hG x (List.mem_of_mem_drop (p2.mem_iff.1 hx))
      have hB := rboth hn o h0 h5 L1 L2 (by rw [p1.length_eq, List.length_take]; omega) (by rw [p2.length_eq, List.length_drop]; omega) hG1 hG2
      have g : decide ((l.length : Int) < 2) = false := decide_eq_false (by omega)
      have w : IntKind.i64.wrap ((l.length : Int).tdiv 2) = ((l.length / 2 : Nat) : Int) := by
        rw [show ((l.length : Int).tdiv 2) = ((l.length / 2 : Nat) : Int) from rfl, IntKind.wrap_i64]; omega
      have key : ∃ r, (cfg ext).Ev 36 [.int .i64 o, .sl false (encL l) l.length] r ∧ r = .sl false (encL (mrgF (ordF ext o) L1 L2)) (mrgF (ordF ext o) L1 L2).length := by
        refine Ev.ofF (hn 36 (by decide) (by decide)) Tryz.func36 rfl rfl ?_
        conv => whnf
        refine sel_no g ?_
        conv => whnf
        refine ⟨rfl, by decide, ?_⟩
        conv => whnf
        refine ⟨_, slLo (e := 24) rfl rfl w hk, ?_⟩
        conv => whnf
        refine ⟨_, e1, ?_⟩
        conv => whnf
        refine ⟨_, slHi (e := 24) rfl rfl w hk, ?_⟩
        conv => whnf
        refine ⟨_, e2, ?_⟩
        conv => whnf
        refine ⟨_, hB, ?_⟩
        conv => whnf
        exact Fin.of_eq (v := .sl false (encL (mrgF (ordF ext o) L1 L2)) (mrgF (ordF ext o) L1 L2).length) rfl rfl
      obtain ⟨r, h, rfl⟩ := key
      refine ⟨_, mrgF_le (ord_line o) _ L1 L2 (Nat.le_refl _) hG1.shp hG2.shp s1 s2, (mrgF_perm _ _ L1 L2 (Nat.le_refl _)).trans ?_, h⟩
      have := List.Perm.append p1 p2
      rw [List.take_append_drop] at this
      exact this
theorem rsort (hn : Non ext) (o : Int) (h0 : 0 ≤ o) (h5 : o ≤ 5) (l : List T) (hl : l.length ≤ 9223372036854775807) (hw : ∀ a ∈ l, WfV a) :
    ∃ L, SortR ext o l L ∧ (cfg ext).Ev 13 [.int .i64 o, .sl false (encL l) l.length] (.tup [.sl false (encL L) L.length, .int .i64 (listedZ l)]) := by
  have key : ∃ r, (cfg ext).Ev 13 [.int .i64 o, .sl false (encL l) l.length] r ∧ ∃ L, SortR ext o l L ∧ r = .tup [.sl false (encL L) L.length, .int .i64 (listedZ l)] := by
    have hL := rfit hn o l ⟨h0, h5⟩ hl hw
    refine Ev.ofF (hn 13 (by decide) (by decide)) Tryz.func13 rfl rfl ?_
    by_cases hz : listedZ l = 0
    · have hok := listed_ok hz
      obtain ⟨L, k1, k2, hS⟩ := rline (ext := ext) hn o h0 h5 _ l (Nat.le_refl _) hok.1 (Gd.of hz hw)
      rw [hz] at hL ⊢
      have fin : SortR ext o l L := ⟨fun _ => ⟨k1, k2⟩, fun h => absurd hz h⟩
      conv => whnf
      refine ⟨_, hL, ?_⟩
      conv => whnf
      refine ⟨_, hS, ?_⟩
      conv => whnf
      exact Fin.of_eq (v := .tup [.sl false (encL L) L.length, .int .i64 0]) rfl ⟨L, fin, rfl⟩
    · have fin : SortR ext o l [] := ⟨fun h => absurd h hz, fun _ => rfl⟩
      generalize listedZ l = e at hL hz ⊢
      conv => whnf
      refine ⟨_, hL, ?_⟩
      conv => whnf
      refine sel_yes (by simpa using hz) ?_
      conv => whnf
      exact Fin.of_eq (v := .tup [.sl false [] 0, .int .i64 e]) rfl ⟨[], fin, by simp only [encL]; rfl⟩
  obtain ⟨r, h, L, k, rfl⟩ := key
  exact ⟨L, k, h⟩
theorem sort_one {o : Int} {l L L' : List T} (hw : ∀ a ∈ l, WfV a) (h : SortR ext o l L) (h' : SortR ext o l L') : L = L' := by
  by_cases hz : listedZ l = 0
  · have h1 := h.ok hz
    have h2 := h'.ok hz
    exact le_perm_eq (ord_line o) (((Gd.of hz hw).perm h1.2).shp) h1.1 h2.1 (h1.2.trans h2.2.symm)
  · rw [h.no hz, h'.no hz]
end
end Go.Proofs.YtehajklneljbgaaGreatDoor.AB
end

section
set_option linter.unusedVariables false
set_option linter.unusedSimpArgs false
open Go Go.Ab Go.Proofs Go.Vl
namespace Go.Proofs.YtehajklneljbgaaGreatDoor.AB
set_option maxRecDepth 100000
set_option maxHeartbeats 16000000
set_option linter.unusedSimpArgs false
set_option linter.unusedVariables false
def prV (a b : List T) : V := .sl false [.sl false (encL a) a.length, .sl false (encL b) b.length] 2
/-- append of a whole list -/
theorem appS {l D : List T} {hp : Hp} {ida m : Nat} {S : V} {Q : V × Hp → Prop} (h : Gro 4 hp.a m S (encL D) D.length) (hm : m ≤ hp.m) (hi : ida < hp.m) (hb : D.length + l.length ≤ 1000000)
    (q : ∀ S' a', Gro 4 a' hp.m S' (encL (D ++ l)) (D ++ l).length → Q (S', ⟨hp.h, hp.n, a', hp.m⟩)) : opt (appendV 4 56 hp ida S (.sl false (encL l) l.length)) Q := by
  have hc : content none hp 4 (.sl false (encL l) l.length) = some (encL l, l.length) := by
    simp only [content]; rw [if_pos (encL_len l)]
  cases l with
  | nil =>
    refine Gro.app0 h (by rw [hc]; rfl) ?_
    exact q S hp.a ((h.mono (fun _ _ => rfl) hm).to (by simp) (by simp))
  | cons x l =>
    refine Gro.app h hc (by simp) (encL_len _) (encC _) (by unfold maxRoom; omega) hi hm (fun b v a' h1 _ _ => ?_)
    exact q _ a' (h1.to (by rw [encL_app]) (by simp))
section
variable {ext : Exts}
theorem grow_use {n : Nat} {e : Int} {hp : Hp} {Q : V → Hp → Prop} (he : e = (n : Int)) (hn : n ≤ 1000000) (hm : True) (q : ∀ S a' n' m', hp.m ≤ m' → Gro 4 a' m' S (encL []) ([] : List T).length → Q S ⟨hp.h, n', a', m'⟩) :
    ∃ r hp', (cfg ext).EvR 48 [.sl true [] 0, .int .i64 e] hp r hp' ∧ Q r hp' := by
  subst he
  by_cases h0 : n = 0
  · subst h0
    refine ⟨_, _, EvR.extR (g := growR 4 56) rfl rfl rfl, ?_⟩
    exact q (.sl true [] 0) hp.a hp.n hp.m (Nat.le_refl _) (by simp only [encL]; exact Gro.nil _ _ _)
  · refine ⟨.rsl false hp.m 0 0 0, ⟨hp.h, hp.n + 1, upd hp.a hp.m (some ⟨0, 4, [], none, 0⟩), hp.m + 1⟩, EvR.extR (g := growR 4 56) rfl rfl ?_, ?_⟩
    · show (if (n : Int) = 0 then some (V.sl true [] 0, hp) else if 0 < (n : Int) ∧ (n : Int).toNat * 56 ≤ 140737488355328 ∧ (n : Int).toNat ≤ 140737488355328 then some (V.rsl false hp.m 0 0 0, (⟨hp.h, hp.n + 1, upd hp.a hp.m (some ⟨0, 4, [], none, 0⟩), hp.m + 1⟩ : Hp)) else none) = _
      rw [if_neg (by omega), if_pos (by rw [Int.toNat_natCast]; omega)]
    · exact q _ _ _ _ (Nat.le_succ _) (by simp only [encL]; exact ⟨by simp, fun c hc => (by cases hc), .inr ⟨hp.m, 0, Nat.lt_succ_self _, rfl, upd_is _ _ _⟩⟩)
theorem lcA (a b : List T) (ha : a.length ≤ 65536) (hb : b.length ≤ 65536) (Q : Ex → St → Prop) (n : Nat) (d : Nat) :
    ∀ (i : Nat) (s : Nat) (z : St), 2 - i = d → i ≤ 2 → s ≤ i * 65536 → Has z.t [(0, prV a b), (9, prV a b), (10, .int .i64 2), (11, .int .i64 i), (3, .int .i64 s)] → z.hp.n = n →
      (∀ (z' : St), Has z'.t [(0, prV a b), (3, .int .i64 ((s + (if i = 0 then a.length + b.length else if i = 1 then b.length else 0) : Nat) : Int))] → Q (.exit 0) z') →
      Go.Ab.Loop (cfg ext) (lpN Tryz.f38 0) n z Q := by
  induction d with
  | zero =>
    intro i s z hd hi hs ht hz hq
    obtain rfl : i = 2 := by omega
    rw [St.knows _ _ ht hz]
    refine Loop.round ?_
    conv => whnf
    exact hq _ ⟨rfl, rfl, trivial⟩
  | succ d ih =>
    intro i s z hd hi hs ht hz hq
    obtain rfl | rfl : i = 0 ∨ i = 1 := by omega
    · have w : IntKind.i64.wrap ((s : Int) + (a.length : Int)) = ((s + a.length : Nat) : Int) := by rw [IntKind.wrap_i64]; omega
      have g : decide (IntKind.i64.wrap ((s : Int) + (a.length : Int)) < 0) = false := decide_eq_false (by rw [w]; omega)
      rw [St.knows _ _ ht hz]
      refine Loop.round ?_
      conv => whnf
      refine ⟨⟨by omega, by omega⟩, ?_⟩
      conv => whnf
      refine ⟨le_rfl' rfl, ?_⟩
      conv => whnf
      refine sel_no g ?_
      conv => whnf
      refine ih 1 (s + a.length) _ (by omega) (by omega) (by omega) ⟨rfl, rfl, rfl, rfl, ?_, trivial⟩ rfl (fun z' h => hq z' ⟨h.1, h.2.1.trans (vi (by simp; omega)), trivial⟩)
      conv => lhs; whnf
      exact vi w
    · have w : IntKind.i64.wrap ((s : Int) + (b.length : Int)) = ((s + b.length : Nat) : Int) := by rw [IntKind.wrap_i64]; omega
      have g : decide (IntKind.i64.wrap ((s : Int) + (b.length : Int)) < 0) = false := decide_eq_false (by rw [w]; omega)
      rw [St.knows _ _ ht hz]
      refine Loop.round ?_
      conv => whnf
      refine ⟨⟨by omega, by omega⟩, ?_⟩
      conv => whnf
      refine ⟨le_rfl' rfl, ?_⟩
      conv => whnf
      refine sel_no g ?_
      conv => whnf
      refine ih 2 (s + b.length) _ (by omega) (by omega) (by omega) ⟨rfl, rfl, rfl, rfl, ?_, trivial⟩ rfl (fun z' h => hq z' ⟨h.1, h.2.1.trans (vi (by simp)), trivial⟩)
      conv => lhs; whnf
      exact vi w
theorem lcB (a b : List T) (ha : a.length ≤ 65536) (hb : b.length ≤ 65536) (Q : Ex → St → Prop) (n : Nat) (d : Nat) :
    ∀ (i : Nat) (D : List T) (S : V) (z : St), 2 - i = d → i ≤ 2 → D.length ≤ i * 65536 → Has z.t [(25, prV a b), (26, .int .i64 2), (27, .int .i64 i), (6, S)] → z.hp.n = n → Gro 4 z.hp.a z.hp.m S (encL D) D.length →
      (∀ (z' : St) (S' : V), Has z'.t [(6, S')] → Gro 4 z'.hp.a z'.hp.m S' (encL (D ++ (if i = 0 then a ++ b else if i = 1 then b else []))) (D ++ (if i = 0 then a ++ b else if i = 1 then b else [])).length → Q (.exit 2) z') →
      Go.Ab.Loop (cfg ext) (lpN Tryz.f38 1) n z Q := by
  induction d with
  | zero =>
    intro i D S z hd hi hs ht hz hg hq
    obtain rfl : i = 2 := by omega
    rcases hg.form with ⟨eS, _⟩ | ⟨bS, vS, eS⟩ <;> subst eS
    all_goals
      rw [St.knows _ _ ht hz]
      refine Loop.round ?_
      conv => whnf
      refine hq _ _ ⟨rfl, trivial⟩ ?_
      refine Gro.to (Gro.mono hg (fun _ _ => rfl) ?_) (by simp) (by simp)
      (conv => lhs; whnf); (repeat ((conv => rhs; whnf); first | with_reducible exact Nat.le_refl _ | refine Nat.le_trans ?_ (Nat.le_add_right _ _) | refine Nat.le_succ_of_le ?_ | exact Nat.le_refl _))
  | succ d ih =>
    intro i D S z hd hi hs ht hz hg hq
    obtain rfl | rfl : i = 0 ∨ i = 1 := by omega
    · rcases hg.form with ⟨eS, _⟩ | ⟨bS, vS, eS⟩ <;> subst eS
      all_goals
        rw [St.knows _ _ ht hz]
        refine Loop.round ?_
        conv => whnf
        refine ⟨⟨by omega, by omega⟩, ?_⟩
        conv => whnf
        refine ⟨le_rfl' rfl, ?_⟩
        conv => whnf
        refine ⟨rfl, ?_⟩
        conv => whnf
        refine ⟨⟨rfl, (show (4 : Nat) ≠ 0 by decide)⟩, ?_⟩
        refine appS hg (by (conv => lhs; whnf); (repeat ((conv => rhs; whnf); first | with_reducible exact Nat.le_refl _ | refine Nat.le_trans ?_ (Nat.le_add_right _ _) | refine Nat.le_succ_of_le ?_ | exact Nat.le_refl _))) (Nat.add_lt_add_left (by decide) _) (by omega) (fun S1 a1 h1 => ?_)
        rcases h1.form with ⟨eS, _⟩ | ⟨bS1, vS1, eS⟩ <;> subst eS
        · conv => whnf
          refine ih 1 (D ++ a) (.sl true [] 0) _ (by omega) (by omega) (by simp; omega) ⟨rfl, rfl, rfl, rfl, trivial⟩ rfl (Gro.truncN h1 (by (conv => lhs; whnf); (repeat ((conv => rhs; whnf); first | with_reducible exact Nat.le_refl _ | refine Nat.le_trans ?_ (Nat.le_add_right _ _) | refine Nat.le_succ_of_le ?_ | exact Nat.le_refl _)))) (fun z' S' q1 q2 => hq z' S' q1 (by simpa using q2))
        · conv => whnf
          refine ih 1 (D ++ a) (.rsl false bS1 vS1 0 (D ++ a).length) _ (by omega) (by omega) (by simp; omega) ⟨rfl, rfl, rfl, rfl, trivial⟩ rfl (Gro.truncR h1 (by (conv => lhs; whnf); (repeat ((conv => rhs; whnf); first | with_reducible exact Nat.le_refl _ | refine Nat.le_trans ?_ (Nat.le_add_right _ _) | refine Nat.le_succ_of_le ?_ | exact Nat.le_refl _)))) (fun z' S' q1 q2 => hq z' S' q1 (by simpa using q2))
    · rcases hg.form with ⟨eS, _⟩ | ⟨bS, vS, eS⟩ <;> subst eS
      all_goals
        rw [St.knows _ _ ht hz]
        refine Loop.round ?_
        conv => whnf
        refine ⟨⟨by omega, by omega⟩, ?_⟩
        conv => whnf
        refine ⟨le_rfl' rfl, ?_⟩
        conv => whnf
        refine ⟨rfl, ?_⟩
        conv => whnf
        refine ⟨⟨rfl, (show (4 : Nat) ≠ 0 by decide)⟩, ?_⟩
        refine appS hg (by (conv => lhs; whnf); (repeat ((conv => rhs; whnf); first | with_reducible exact Nat.le_refl _ | refine Nat.le_trans ?_ (Nat.le_add_right _ _) | refine Nat.le_succ_of_le ?_ | exact Nat.le_refl _))) (Nat.add_lt_add_left (by decide) _) (by omega) (fun S1 a1 h1 => ?_)
        rcases h1.form with ⟨eS, _⟩ | ⟨bS1, vS1, eS⟩ <;> subst eS
        · conv => whnf
          refine ih 2 (D ++ b) (.sl true [] 0) _ (by omega) (by omega) (by simp; omega) ⟨rfl, rfl, rfl, rfl, trivial⟩ rfl (Gro.truncN h1 (by (conv => lhs; whnf); (repeat ((conv => rhs; whnf); first | with_reducible exact Nat.le_refl _ | refine Nat.le_trans ?_ (Nat.le_add_right _ _) | refine Nat.le_succ_of_le ?_ | exact Nat.le_refl _)))) (fun z' S' q1 q2 => hq z' S' q1 (by simpa using q2))
        · conv => whnf
          refine ih 2 (D ++ b) (.rsl false bS1 vS1 0 (D ++ b).length) _ (by omega) (by omega) (by simp; omega) ⟨rfl, rfl, rfl, rfl, trivial⟩ rfl (Gro.truncR h1 (by (conv => lhs; whnf); (repeat ((conv => rhs; whnf); first | with_reducible exact Nat.le_refl _ | refine Nat.le_trans ?_ (Nat.le_add_right _ _) | refine Nat.le_succ_of_le ?_ | exact Nat.le_refl _)))) (fun z' S' q1 q2 => hq z' S' q1 (by simpa using q2))
theorem tconcat (hn : Non ext) (a b : List T) (ha : a.length ≤ 65536) (hb : b.length ≤ 65536) : (cfg ext).Ev 38 [prV a b] (.sl false (encL (a ++ b)) (a ++ b).length) := by
  have key : ∃ r, (cfg ext).Ev 38 [prV a b] r ∧ r = .sl false (encL (a ++ b)) (a ++ b).length := by
    refine Ev.ofF (hn 38 (by decide) (by decide)) Tryz.func38 rfl rfl ?_
    conv => whnf
    refine lcA a b ha hb _ _ 2 0 0 _ rfl (by omega) (by omega) ⟨rfl, rfl, rfl, rfl, rfl, trivial⟩ rfl (fun z h => ?_)
    rw [St.knows _ z.hp.n h rfl]
    conv => whnf
    refine grow_use (n := a.length + b.length) (by simp) (by omega) trivial (fun S a' n' m' hm hg => ?_)
    rcases hg.form with ⟨eS, _⟩ | ⟨bS, vS, eS⟩ <;> subst eS
    all_goals
      conv => whnf
      refine lcB a b ha hb _ _ 2 0 [] _ _ rfl (by omega) (by simp) ⟨rfl, rfl, rfl, rfl, trivial⟩ rfl (Gro.mono hg (fun _ _ => rfl) (by (conv => lhs; whnf); (repeat ((conv => rhs; whnf); first | with_reducible exact Nat.le_refl _ | refine Nat.le_trans ?_ (Nat.le_add_right _ _) | refine Nat.le_succ_of_le ?_ | exact Nat.le_refl _)))) (fun z' S' h1 h2 => ?_)
      have h3 : Gro 4 z'.hp.a z'.hp.m S' (encL (a ++ b)) (a ++ b).length := by simpa using h2
      rcases h3.form with ⟨eS, _⟩ | ⟨bS', vS', eS⟩ <;> subst eS
      all_goals
        rw [St.knows _ z'.hp.n h1 rfl]
        conv => whnf
        exact Fin.gro rfl h3 rfl
  obtain ⟨r, h, rfl⟩ := key
  exact h
theorem srt_Le {f : T → T → Int} (hf : Line f) : ∀ {l : List T}, (∀ x ∈ l, Shp x) → Srt f l → Le f l := by
  intro l hl hs
  refine List.pairwise_iff_getElem.2 (fun i j hi hj hij => ?_)
  obtain ⟨d, rfl⟩ := Nat.exists_eq_add_of_le (Nat.le_of_lt hij)
  exact srt_le hf hl hs d i hj
theorem le_Srt {f : T → T → Int} (hf : Line f) {l : List T} (h : Le f l) : Srt f l := fun j hj hc => by
  have h1 := List.pairwise_iff_getElem.1 h j (j + 1) (by omega) hj (by omega)
  have h2 := hf.1 l[j] l[j + 1]
  omega
/-- what Merge says -/
structure MergeR (ext : Exts) (o : Int) (a b : List T) (L : List T) (e : Int) : Prop where
  err : e = if listedZ a ≠ 0 then listedZ a else if listedZ b ≠ 0 then listedZ b else if 65536 < a.length + b.length then 2 else e
  s : listedZ a = 0 → listedZ b = 0 → a.length + b.length ≤ 65536 → (e = 0 ∧ Srt (ordF ext o) a ∧ Srt (ordF ext o) b ∧ Le (ordF ext o) L ∧ L.Perm (a ++ b)) ∨ (e = 1 ∧ ¬ (Srt (ordF ext o) a ∧ Srt (ordF ext o) b) ∧ L = [])
  no : e ≠ 0 → L = []
theorem merge_one {o : Int} {a b L L' : List T} {e e' : Int} (hwa : ∀ x ∈ a, WfV x) (hwb : ∀ x ∈ b, WfV x) (h : MergeR ext o a b L e) (h' : MergeR ext o a b L' e') : L = L' ∧ e = e' := by
  have he := h.err
  have he' := h'.err
  by_cases hza : listedZ a = 0
  · by_cases hzb : listedZ b = 0
    · rw [if_neg (by simpa using hza), if_neg (by simpa using hzb)] at he he'
      by_cases hl : 65536 < a.length + b.length
      · rw [if_pos hl] at he he'
        exact ⟨by rw [h.no (by omega), h'.no (by omega)], by omega⟩
      · have hGa := Gd.of hza hwa
        have hGb := Gd.of hzb hwb
        have hGab : Gd (a ++ b) := fun x hx => by rcases List.mem_append.1 hx with h | h; exact hGa x h; exact hGb x h
        rcases h.s hza hzb (by omega) with ⟨q1, q2, q3, q4, q5⟩ | ⟨q1, q2, q3⟩ <;> rcases h'.s hza hzb (by omega) with ⟨k1, k2, k3, k4, k5⟩ | ⟨k1, k2, k3⟩
        · exact ⟨le_perm_eq (ord_line o) ((hGab.perm q5).shp) q4 k4 (q5.trans k5.symm), by omega⟩
        · exact absurd ⟨q2, q3⟩ k2
        · exact absurd ⟨k2, k3⟩ q2
        · exact ⟨by rw [q3, k3], by omega⟩
    · rw [if_neg (by simpa using hza), if_pos hzb] at he he'
      exact ⟨by rw [h.no (by omega), h'.no (by omega)], by omega⟩
  · rw [if_pos hza] at he he'
    exact ⟨by rw [h.no (by omega), h'.no (by omega)], by omega⟩
theorem merge_wf {o : Int} {a b L : List T} {e : Int} (hwa : ∀ x ∈ a, WfV x) (hwb : ∀ x ∈ b, WfV x) (h : MergeR ext o a b L e) : L.length ≤ 9223372036854775807 ∧ ∀ x ∈ L, WfV x := by
  by_cases he : e = 0
  · have h0 := h.err
    by_cases hza : listedZ a = 0
    · by_cases hzb : listedZ b = 0
      · rw [if_neg (by simpa using hza), if_neg (by simpa using hzb)] at h0
        by_cases hl : 65536 < a.length + b.length
        · rw [if_pos hl] at h0; omega
        · rcases h.s hza hzb (by omega) with ⟨q1, q2, q3, q4, q5⟩ | ⟨q1, q2, q3⟩
          · refine ⟨by rw [q5.length_eq, List.length_append]; omega, fun x hx => ?_⟩
            rcases List.mem_append.1 (q5.mem_iff.1 hx) with h | h
            · exact hwa x h
            · exact hwb x h
          · rw [q3]; exact ⟨by simp, fun x hx => by cases hx⟩
      · rw [if_neg (by simpa using hza), if_pos hzb] at h0; omega
    · rw [if_pos hza] at h0; omega
  · rw [h.no he]; exact ⟨by simp, fun x hx => by cases hx⟩
open Classical in
theorem pmerge (hn : Non ext) (h26 : E26 ext) (h73 : E73 ext) (o : Nat) (h5 : o ≤ 5) (a b : List T) (hwa : ∀ x ∈ a, WfV x) (hwb : ∀ x ∈ b, WfV x) :
    ∃ L e, MergeR ext o a b L e ∧ (cfg ext).Ev 20 [.int .i64 o, .sl false (encL a) a.length, .sl false (encL b) b.length] (.tup [.sl false (encL L) L.length, .int .i64 e]) := by
  have key : ∃ r, (cfg ext).Ev 20 [.int .i64 o, .sl false (encL a) a.length, .sl false (encL b) b.length] r ∧ ∃ L e, MergeR ext o a b L e ∧ r = .tup [.sl false (encL L) L.length, .int .i64 e] := by
    have hLa := plisted hn h26 h73 o h5 a hwa
    have hLb := plisted hn h26 h73 o h5 b hwb
    refine Ev.ofF (hn 20 (by decide) (by decide)) Tryz.func20 rfl rfl ?_
    have c6 : o = 0 ∨ o = 1 ∨ o = 2 ∨ o = 3 ∨ o = 4 ∨ o = 5 := by omega
    by_cases hza : listedZ a = 0
    · have oka := listed_ok hza
      have hGa := Gd.of hza hwa
      rw [hza] at hLa
      by_cases hzb : listedZ b = 0
      · have okb := listed_ok hzb
        have hGb := Gd.of hzb hwb
        rw [hzb] at hLb
        have w : IntKind.i64.wrap ((a.length : Int) + (b.length : Int)) = ((a.length + b.length : Nat) : Int) := by rw [IntKind.wrap_i64]; omega
        by_cases hl : 65536 < a.length + b.length
        · have g : decide (IntKind.i64.wrap ((a.length : Int) + (b.length : Int)) > 65536) = true := decide_eq_true (by rw [w]; omega)
          have fin : MergeR ext o a b [] 2 := ⟨by simp [hza, hzb, hl], fun _ _ h => absurd hl (by omega), fun _ => rfl⟩
          rcases c6 with rfl | rfl | rfl | rfl | rfl | rfl
          all_goals
            conv => whnf
            refine ⟨_, hLa, ?_⟩
            conv => whnf
            refine ⟨_, hLb, ?_⟩
            conv => whnf
            refine sel_yes g ?_
            conv => whnf
            exact Fin.of_eq (v := .tup [.sl false [] 0, .int .i64 2]) rfl ⟨[], 2, fin, by simp only [encL]; rfl⟩
        · have g : decide (IntKind.i64.wrap ((a.length : Int) + (b.length : Int)) > 65536) = false := decide_eq_false (by rw [w]; omega)
          have rowsa : Rows ext o a := fun x hx y hy => rowOrd hn h26 h73 o h5 x y (hwa x hx) (hwa y hy) (oka.2 x hx) (oka.2 y hy)
          have rowsb : Rows ext o b := fun x hx y hy => rowOrd hn h26 h73 o h5 x y (hwb x hx) (hwb y hy) (okb.2 x hx) (okb.2 y hy)
          have hSa := tisS hn o h5 a oka.1 rowsa
          have hSb := tisS hn o h5 b okb.1 rowsb
          by_cases sa : Srt (ordF ext o) a
          · rw [decide_eq_true sa] at hSa
            by_cases sb : Srt (ordF ext o) b
            · rw [decide_eq_true sb] at hSb
              have hC := tconcat hn a b oka.1 okb.1
              unfold prV at hC
              have hGab : Gd (a ++ b) := fun x hx => by rcases List.mem_append.1 hx with h | h; exact hGa x h; exact hGb x h
              obtain ⟨L, k1, k2, hS⟩ := tsorted (ext := ext) hn h26 h73 o h5 (a ++ b) (by rw [List.length_append]; omega) hGab
              have hO := town06 hn L (by rw [k2.length_eq, List.length_append]; omega) (hGab.perm k2)
              unfold OwnE at hO
              have fin : MergeR ext o a b L 0 := ⟨by simp [hza, hzb, hl], fun _ _ _ => .inl ⟨rfl, sa, sb, k1, k2⟩, fun h => absurd rfl h⟩
              rcases c6 with rfl | rfl | rfl | rfl | rfl | rfl
              all_goals
                conv => whnf
                refine ⟨_, hLa, ?_⟩
                conv => whnf
                refine ⟨_, hLb, ?_⟩
                conv => whnf
                refine sel_no g ?_
                conv => whnf
                refine ⟨_, hSa, ?_⟩
                conv => whnf
                refine ⟨_, hSb, ?_⟩
                conv => whnf
                refine ⟨_, hC, ?_⟩
                conv => whnf
                refine ⟨_, hS, ?_⟩
                conv => whnf
                refine ⟨_, hO, ?_⟩
                conv => whnf
                exact Fin.of_eq (v := .tup [.sl false (encL L) L.length, .int .i64 0]) rfl ⟨L, 0, fin, rfl⟩
            · rw [decide_eq_false sb] at hSb
              have fin : MergeR ext o a b [] 1 := ⟨by simp [hza, hzb, hl], fun _ _ _ => .inr ⟨rfl, fun h => sb h.2, rfl⟩, fun _ => rfl⟩
              rcases c6 with rfl | rfl | rfl | rfl | rfl | rfl
              all_goals
                conv => whnf
                refine ⟨_, hLa, ?_⟩
                conv => whnf
                refine ⟨_, hLb, ?_⟩
                conv => whnf
                refine sel_no g ?_
                conv => whnf
                refine ⟨_, hSa, ?_⟩
                conv => whnf
                refine ⟨_, hSb, ?_⟩
                conv => whnf
                exact Fin.of_eq (v := .tup [.sl false [] 0, .int .i64 1]) rfl ⟨[], 1, fin, by simp only [encL]; rfl⟩
          · rw [decide_eq_false sa] at hSa
            have fin : MergeR ext o a b [] 1 := ⟨by simp [hza, hzb, hl], fun _ _ _ => .inr ⟨rfl, fun h => sa h.1, rfl⟩, fun _ => rfl⟩
            rcases c6 with rfl | rfl | rfl | rfl | rfl | rfl
            all_goals
              conv => whnf
              refine ⟨_, hLa, ?_⟩
              conv => whnf
              refine ⟨_, hLb, ?_⟩
              conv => whnf
              refine sel_no g ?_
              conv => whnf
              refine ⟨_, hSa, ?_⟩
              conv => whnf
              exact Fin.of_eq (v := .tup [.sl false [] 0, .int .i64 1]) rfl ⟨[], 1, fin, by simp only [encL]; rfl⟩
      · have fin : MergeR ext o a b [] (listedZ b) := ⟨by simp [hza, hzb], fun _ h _ => absurd h hzb, fun _ => rfl⟩
        generalize listedZ b = e at hLb hzb fin
        rcases c6 with rfl | rfl | rfl | rfl | rfl | rfl
        all_goals
          conv => whnf
          refine ⟨_, hLa, ?_⟩
          conv => whnf
          refine ⟨_, hLb, ?_⟩
          conv => whnf
          refine sel_yes (by simpa using hzb) ?_
          conv => whnf
          exact Fin.of_eq (v := .tup [.sl false [] 0, .int .i64 e]) rfl ⟨[], e, fin, by simp only [encL]; rfl⟩
    · have fin : MergeR ext o a b [] (listedZ a) := ⟨by simp [hza], fun h _ _ => absurd h hza, fun _ => rfl⟩
      generalize listedZ a = e at hLa hza fin
      rcases c6 with rfl | rfl | rfl | rfl | rfl | rfl
      all_goals
        conv => whnf
        refine ⟨_, hLa, ?_⟩
        conv => whnf
        refine sel_no (by simpa using hza) ?_
        conv => whnf
        refine sel_yes (by simpa using hza) ?_
        conv => whnf
        exact Fin.of_eq (v := .tup [.sl false [] 0, .int .i64 e]) rfl ⟨[], e, fin, by simp only [encL]; rfl⟩
  obtain ⟨r, h, L, e, k, rfl⟩ := key
  exact ⟨L, e, k, h⟩
end
end Go.Proofs.YtehajklneljbgaaGreatDoor.AB
end

section
set_option linter.unusedVariables false
set_option linter.unusedSimpArgs false
open Go Go.Ab Go.Proofs Go.Vl
namespace Go.Proofs.YtehajklneljbgaaGreatDoor.AB
set_option maxRecDepth 100000
set_option maxHeartbeats 8000000
set_option linter.unusedSimpArgs false
set_option linter.unusedVariables false
section
variable {ext : Exts}
open Classical in
theorem rmerge (hn : Non ext) (o : Int) (h0 : 0 ≤ o) (h5 : o ≤ 5) (a b : List T) (hla : a.length ≤ 9223372036854775807) (hlb : b.length ≤ 9223372036854775807) (hwa : ∀ x ∈ a, WfV x) (hwb : ∀ x ∈ b, WfV x) :
    ∃ L e, MergeR ext o a b L e ∧ (cfg ext).Ev 21 [.int .i64 o, .sl false (encL a) a.length, .sl false (encL b) b.length] (.tup [.sl false (encL L) L.length, .int .i64 e]) := by
  have key : ∃ r, (cfg ext).Ev 21 [.int .i64 o, .sl false (encL a) a.length, .sl false (encL b) b.length] r ∧ ∃ L e, MergeR ext o a b L e ∧ r = .tup [.sl false (encL L) L.length, .int .i64 e] := by
    have hLa := rfit hn o a ⟨h0, h5⟩ hla hwa
    have hLb := rlisted hn b hlb hwb
    refine Ev.ofF (hn 21 (by decide) (by decide)) Tryz.func21 rfl rfl ?_
    by_cases hza : listedZ a = 0
    · have oka := listed_ok hza
      have hGa := Gd.of hza hwa
      rw [hza] at hLa
      by_cases hzb : listedZ b = 0
      · have okb := listed_ok hzb
        have hGb := Gd.of hzb hwb
        rw [hzb] at hLb
        have w : IntKind.i64.wrap (65536 - (a.length : Int)) = 65536 - (a.length : Int) := by rw [IntKind.wrap_i64]; omega
        have hSa := rin hn o h0 h5 a oka.1 hGa
        have hSb := rin hn o h0 h5 b okb.1 hGb
        by_cases hl : 65536 < a.length + b.length
        · have g : decide ((b.length : Int) > IntKind.i64.wrap (65536 - (a.length : Int))) = true := decide_eq_true (by rw [w]; omega)
          have fin : MergeR ext o a b [] 2 := ⟨by simp [hza, hzb, hl], fun _ _ h => absurd hl (by omega), fun _ => rfl⟩
          conv => whnf
          refine ⟨_, hLa, ?_⟩
          conv => whnf
          refine ⟨_, hLb, ?_⟩
          conv => whnf
          refine sel_yes g ?_
          conv => whnf
          exact Fin.of_eq (v := .tup [.sl false [] 0, .int .i64 2]) rfl ⟨[], 2, fin, by simp only [encL]; rfl⟩
        · have g : decide ((b.length : Int) > IntKind.i64.wrap (65536 - (a.length : Int))) = false := decide_eq_false (by rw [w]; omega)
          by_cases sa : Srt (ordF ext o) a
          · rw [decide_eq_true sa] at hSa
            by_cases sb : Srt (ordF ext o) b
            · rw [decide_eq_true sb] at hSb
              have hB := rboth hn o h0 h5 a b oka.1 okb.1 hGa hGb
              have la : Le (ordF ext o) a := srt_Le (ord_line o) hGa.shp sa
              have lb : Le (ordF ext o) b := srt_Le (ord_line o) hGb.shp sb
              have fin : MergeR ext o a b (mrgF (ordF ext o) a b) 0 := ⟨by simp [hza, hzb, hl], fun _ _ _ => .inl ⟨rfl, sa, sb, mrgF_le (ord_line o) _ a b (Nat.le_refl _) hGa.shp hGb.shp la lb, mrgF_perm _ _ a b (Nat.le_refl _)⟩, fun h => absurd rfl h⟩
              generalize mrgF (ordF ext o) a b = L at hB fin
              conv => whnf
              refine ⟨_, hLa, ?_⟩
              conv => whnf
              refine ⟨_, hLb, ?_⟩
              conv => whnf
              refine sel_no g ?_
              conv => whnf
              refine ⟨_, hSa, ?_⟩
              conv => whnf
              refine ⟨_, hSb, ?_⟩
              conv => whnf
              refine ⟨_, hB, ?_⟩
              conv => whnf
              exact Fin.of_eq (v := .tup [.sl false (encL L) L.length, .int .i64 0]) rfl ⟨L, 0, fin, rfl⟩
            · rw [decide_eq_false sb] at hSb
              have fin : MergeR ext o a b [] 1 := ⟨by simp [hza, hzb, hl], fun _ _ _ => .inr ⟨rfl, fun h => sb h.2, rfl⟩, fun _ => rfl⟩
              conv => whnf
              refine ⟨_, hLa, ?_⟩
              conv => whnf
              refine ⟨_, hLb, ?_⟩
              conv => whnf
              refine sel_no g ?_
              conv => whnf
              refine ⟨_, hSa, ?_⟩
              conv => whnf
              refine ⟨_, hSb, ?_⟩
              conv => whnf
              exact Fin.of_eq (v := .tup [.sl false [] 0, .int .i64 1]) rfl ⟨[], 1, fin, by simp only [encL]; rfl⟩
          · rw [decide_eq_false sa] at hSa
            have fin : MergeR ext o a b [] 1 := ⟨by simp [hza, hzb, hl], fun _ _ _ => .inr ⟨rfl, fun h => sa h.1, rfl⟩, fun _ => rfl⟩
            conv => whnf
            refine ⟨_, hLa, ?_⟩
            conv => whnf
            refine ⟨_, hLb, ?_⟩
            conv => whnf
            refine sel_no g ?_
            conv => whnf
            refine ⟨_, hSa, ?_⟩
            conv => whnf
            exact Fin.of_eq (v := .tup [.sl false [] 0, .int .i64 1]) rfl ⟨[], 1, fin, by simp only [encL]; rfl⟩
      · have fin : MergeR ext o a b [] (listedZ b) := ⟨by simp [hza, hzb], fun _ h _ => absurd h hzb, fun _ => rfl⟩
        generalize listedZ b = e at hLb hzb fin
        conv => whnf
        refine ⟨_, hLa, ?_⟩
        conv => whnf
        refine ⟨_, hLb, ?_⟩
        conv => whnf
        refine sel_yes (by simpa using hzb) ?_
        conv => whnf
        exact Fin.of_eq (v := .tup [.sl false [] 0, .int .i64 e]) rfl ⟨[], e, fin, by simp only [encL]; rfl⟩
    · have fin : MergeR ext o a b [] (listedZ a) := ⟨by simp [hza], fun h _ _ => absurd h hza, fun _ => rfl⟩
      generalize listedZ a = e at hLa hza fin
      conv => whnf
      refine ⟨_, hLa, ?_⟩
      conv => whnf
      refine sel_no (by simpa using hza) ?_
      conv => whnf
      refine sel_yes (by simpa using hza) ?_
      conv => whnf
      exact Fin.of_eq (v := .tup [.sl false [] 0, .int .i64 e]) rfl ⟨[], e, fin, by simp only [encL]; rfl⟩
  obtain ⟨r, h, L, e, k, rfl⟩ := key
  exact ⟨L, e, k, h⟩
theorem mergeK (hn : Non ext) (o : Int) (ho : o < 0 ∨ o > 5) (a b : List T) :
    (cfg ext).Ev 20 [.int .i64 o, .sl false (encL a) a.length, .sl false (encL b) b.length] (.tup [.sl false (encL []) ([] : List T).length, .int .i64 4]) ∧ (cfg ext).Ev 21 [.int .i64 o, .sl false (encL a) a.length, .sl false (encL b) b.length] (.tup [.sl false (encL []) ([] : List T).length, .int .i64 4]) := by
  have h1 := t11x hn o ho (encL a) a.length
  have h2 := rfitK hn o a (by omega)
  simp only [encL]
  refine ⟨?_, ?_⟩
  · refine Ev.of (hn 20 (by decide) (by decide)) Tryz.func20 rfl rfl ?_
    conv => whnf
    refine ⟨_, h1, ?_⟩
    conv => whnf
    try exact rfl
  · refine Ev.of (hn 21 (by decide) (by decide)) Tryz.func21 rfl rfl ?_
    conv => whnf
    refine ⟨_, h2, ?_⟩
    conv => whnf
    try exact rfl
end
theorem OrderMerges_ev (o : Int) (_ : In64 o) (a : List T) (hla : a.length ≤ 9223372036854775807) (hwa : ∀ x ∈ a, WfV x) (b : List T) (hlb : b.length ≤ 9223372036854775807) (hwb : ∀ x ∈ b, WfV x) : (cfg ext0).Ev 6 [.int .i64 o, .sl false (encL a) a.length, .sl false (encL b) b.length] (.bool true) := by
  obtain ⟨L, e, h1, h2, hL⟩ : ∃ (L : List T) (e : Int), (cfg ext0).Ev 20 [.int .i64 o, .sl false (encL a) a.length, .sl false (encL b) b.length] (.tup [.sl false (encL L) L.length, .int .i64 e]) ∧ (cfg ext0).Ev 21 [.int .i64 o, .sl false (encL a) a.length, .sl false (encL b) b.length] (.tup [.sl false (encL L) L.length, .int .i64 e]) ∧ (L.length ≤ 9223372036854775807 ∧ ∀ x ∈ L, WfV x) := by
    by_cases ho : o < 0 ∨ o > 5
    · have h := mergeK non0 o ho a b
      exact ⟨[], 4, h.1, h.2, by simp, fun a ha => by cases ha⟩
    · obtain ⟨k, rfl⟩ : ∃ k : Nat, o = k := ⟨o.toNat, by omega⟩
      obtain ⟨L, e, r1, h1⟩ := pmerge non0 e26 e73 k (by omega) a b hwa hwb
      obtain ⟨L', e', r2, h2⟩ := rmerge non0 k (by omega) (by omega) a b hla hlb hwa hwb
      obtain ⟨rfl, rfl⟩ := merge_one hwa hwb r1 r2
      exact ⟨L, e, h1, h2, merge_wf hwa hwb r1⟩
  have g18 := tvals non0 L L hL.1 hL.2
  rw [eqL_self] at g18
  have ge : (e == e) = true := by simp
  refine Ev.of rfl Tryz.func6 rfl rfl ?_
  conv => whnf
  refine ⟨_, h1, ?_⟩
  conv => whnf
  refine ⟨_, h2, ?_⟩
  conv => whnf
  refine ⟨_, g18, ?_⟩
  conv => whnf
  repeat (first
    | (refine sel_yes ?_ ?_; (first | assumption | (simp only [beq_iff_eq, bne_iff_ne, beq_eq_false_iff_ne, bne_eq_false_iff_eq, decide_eq_true_eq, decide_eq_false_iff_not, Bool.not_eq_true', Bool.not_eq_false', ne_eq, beq_true, beq_false, bne_self_eq_false, not_true_eq_false, not_false_eq_true, gt_iff_lt, ge_iff_le, Int.not_lt, Int.not_le, Bool.true_eq_false, Bool.false_eq_true] <;> omega)); conv => whnf)
    | (refine sel_no ?_ ?_; (first | assumption | (simp only [beq_iff_eq, bne_iff_ne, beq_eq_false_iff_ne, bne_eq_false_iff_eq, decide_eq_true_eq, decide_eq_false_iff_not, Bool.not_eq_true', Bool.not_eq_false', ne_eq, beq_true, beq_false, bne_self_eq_false, not_true_eq_false, not_false_eq_true, gt_iff_lt, ge_iff_le, Int.not_lt, Int.not_le, Bool.true_eq_false, Bool.false_eq_true] <;> omega)); conv => whnf)
    | (refine ⟨_, t6, ?_⟩; conv => whnf)
    | (refine ⟨le_rfl' ?_, ?_⟩; rfl; conv => whnf)
    | (refine ⟨⟨?_, ?_⟩, ?_⟩; omega; omega; conv => whnf)
    | (refine ⟨⟨?_, ?_, ?_⟩, ?_⟩; rfl; omega; omega; conv => whnf)
    | (refine ⟨rfl, ?_, ?_⟩; decide; conv => whnf))
  try exact rfl
end Go.Proofs.YtehajklneljbgaaGreatDoor.AB
end
