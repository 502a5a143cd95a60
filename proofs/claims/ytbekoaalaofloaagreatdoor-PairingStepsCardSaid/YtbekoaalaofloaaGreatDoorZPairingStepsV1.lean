/- What PairingSteps is proved with: what the program's functions make of their arguments, by the evaluator. -/
import Derived.Test.YtbekoaalaofloaaGreatDoorZPairingStepsV0
import Derived.Test.YtbekoaalaofloaaGreatDoorZPairingStepsL0
import Derived.Lib.MapLaws
import Derived.Test.YtbekoaalaofloaaGreatDoorZPairingStepsA1
import Derived.Laws.BitsLemmas
section
set_option linter.unusedVariables false
set_option linter.unusedSimpArgs false
open Go Go.Ab Go.Proofs Go.Vl
namespace Go.Proofs.YtbekoaalaofloaaGreatDoor.AB
set_option maxRecDepth 100000
set_option maxHeartbeats 8000000
set_option linter.unusedSimpArgs false
section
variable {ext : Exts}
theorem lutf2 (s : ByteArray) (p : Nat) (hp : p < s.size) (hs : s.size ≤ 4611686018427387904) (n : Nat) (hn : n = 2 ∨ n = 3 ∨ n = 4) (hpn : p + n ≤ s.size) (N : Nat) (Q : Ex → St → Prop) (d : Nat) :
    ∀ (i : Nat) (z : St), n - i = d → 2 ≤ i → i ≤ n → Has z.t [(9, .int .i64 i), (6, .int .i64 n), (0, .str s), (1, .int .i64 p)] → z.hp.n = N →
      (∀ z' : St, z'.t 4 = .int .i64 0 → (¬ ∀ j, i ≤ j → j < n → 128 ≤ by_ s (p + j) ∧ by_ s (p + j) ≤ 191) → Q .ret z') →
      (∀ z' : St, Has z'.t [(6, .int .i64 n)] → (∀ j, i ≤ j → j < n → 128 ≤ by_ s (p + j) ∧ by_ s (p + j) ≤ 191) → Q (.exit 2) z') →
      Go.Ab.Loop (cfg ext) (lpOf Tryz.f53) N z Q := by
  induction d with
  | zero =>
    intro i z hd h2 hi ht hz hr hq
    obtain rfl : i = n := by omega
    have g : decide ((i : Int) < (i : Int)) = false := decide_eq_false (by omega)
    rw [St.knows _ _ ht hz]
    refine Loop.round ?_
    conv => whnf
    repeat (first
      | (refine sel_yes ?_ ?_; (first | assumption | (simp only [beq_iff_eq, bne_iff_ne, beq_eq_false_iff_ne, bne_eq_false_iff_eq, decide_eq_true_eq, decide_eq_false_iff_not, Bool.not_eq_true', Bool.not_eq_false', ne_eq, beq_true, beq_false, bne_self_eq_false, not_true_eq_false, not_false_eq_true, gt_iff_lt, ge_iff_le, Int.not_lt, Int.not_le, Bool.true_eq_false, Bool.false_eq_true] <;> omega)); conv => whnf)
      | (refine sel_no ?_ ?_; (first | assumption | (simp only [beq_iff_eq, bne_iff_ne, beq_eq_false_iff_ne, bne_eq_false_iff_eq, decide_eq_true_eq, decide_eq_false_iff_not, Bool.not_eq_true', Bool.not_eq_false', ne_eq, beq_true, beq_false, bne_self_eq_false, not_true_eq_false, not_false_eq_true, gt_iff_lt, ge_iff_le, Int.not_lt, Int.not_le, Bool.true_eq_false, Bool.false_eq_true] <;> omega)); conv => whnf)
      | (refine ⟨le_rfl' ?_, ?_⟩; rfl; conv => whnf)
      | (refine ⟨⟨?_, ?_⟩, ?_⟩; omega; omega; conv => whnf)
      | (refine ⟨⟨?_, ?_, ?_⟩, ?_⟩; rfl; omega; omega; conv => whnf)
      | (refine ⟨rfl, ?_, ?_⟩; decide; conv => whnf))
    try exact rfl
    exact hq _ ⟨rfl, trivial⟩ (fun j h1 h2 => by omega)
  | succ d ih =>
    intro i z hd h2 hi ht hz hr hq
    have g : decide ((i : Int) < (n : Int)) = true := decide_eq_true (by omega)
    have hw : IntKind.i64.wrap ((p : Int) + (i : Int)) = ((p + i : Nat) : Int) := by rw [IntKind.wrap_i64]; omega
    have hb : ((s.data.toList.getD (IntKind.i64.wrap ((p : Int) + (i : Int))).toNat 0).toNat : Int) = (by_ s (p + i) : Int) := by rw [hw, Int.toNat_natCast, getD_by s (p + i) (by omega)]
    have hw1 : IntKind.i64.wrap ((i : Int) + 1) = ((i + 1 : Nat) : Int) := by rw [IntKind.wrap_i64]; omega
    by_cases c1 : 128 ≤ by_ s (p + i)
    · by_cases c2 : by_ s (p + i) ≤ 191
      · rw [St.knows _ _ ht hz]
        refine Loop.round ?_
        conv => whnf
        repeat (first
          | (refine sel_yes ?_ ?_; (first | assumption | (simp only [beq_iff_eq, bne_iff_ne, beq_eq_false_iff_ne, bne_eq_false_iff_eq, decide_eq_true_eq, decide_eq_false_iff_not, Bool.not_eq_true', Bool.not_eq_false', ne_eq, beq_true, beq_false, bne_self_eq_false, not_true_eq_false, not_false_eq_true, gt_iff_lt, ge_iff_le, Int.not_lt, Int.not_le, Bool.true_eq_false, Bool.false_eq_true] <;> omega)); conv => whnf)
          | (refine sel_no ?_ ?_; (first | assumption | (simp only [beq_iff_eq, bne_iff_ne, beq_eq_false_iff_ne, bne_eq_false_iff_eq, decide_eq_true_eq, decide_eq_false_iff_not, Bool.not_eq_true', Bool.not_eq_false', ne_eq, beq_true, beq_false, bne_self_eq_false, not_true_eq_false, not_false_eq_true, gt_iff_lt, ge_iff_le, Int.not_lt, Int.not_le, Bool.true_eq_false, Bool.false_eq_true] <;> omega)); conv => whnf)
          | (refine ⟨le_rfl' ?_, ?_⟩; rfl; conv => whnf)
          | (refine ⟨⟨?_, ?_⟩, ?_⟩; omega; omega; conv => whnf)
          | (refine ⟨⟨?_, ?_, ?_⟩, ?_⟩; rfl; omega; omega; conv => whnf)
          | (refine ⟨rfl, ?_, ?_⟩; decide; conv => whnf))
        try exact rfl
        refine ih (i + 1) _ (by omega) (by omega) (by omega) ⟨?_, rfl, rfl, rfl, trivial⟩ rfl (fun z' a b => hr z' a (fun g => b (fun j h1 h2 => g j (by omega) h2))) (fun z' a b => hq z' a (fun j h1 h2 => ?_))
        · conv => lhs; whnf
          exact vi hw1
        · rcases Nat.lt_or_ge i j with h | h
          · exact b j (by omega) h2
          · obtain rfl : j = i := by omega
            exact ⟨c1, c2⟩
      · rw [St.knows _ _ ht hz]
        refine Loop.round ?_
        conv => whnf
        repeat (first
          | (refine sel_yes ?_ ?_; (first | assumption | (simp only [beq_iff_eq, bne_iff_ne, beq_eq_false_iff_ne, bne_eq_false_iff_eq, decide_eq_true_eq, decide_eq_false_iff_not, Bool.not_eq_true', Bool.not_eq_false', ne_eq, beq_true, beq_false, bne_self_eq_false, not_true_eq_false, not_false_eq_true, gt_iff_lt, ge_iff_le, Int.not_lt, Int.not_le, Bool.true_eq_false, Bool.false_eq_true] <;> omega)); conv => whnf)
          | (refine sel_no ?_ ?_; (first | assumption | (simp only [beq_iff_eq, bne_iff_ne, beq_eq_false_iff_ne, bne_eq_false_iff_eq, decide_eq_true_eq, decide_eq_false_iff_not, Bool.not_eq_true', Bool.not_eq_false', ne_eq, beq_true, beq_false, bne_self_eq_false, not_true_eq_false, not_false_eq_true, gt_iff_lt, ge_iff_le, Int.not_lt, Int.not_le, Bool.true_eq_false, Bool.false_eq_true] <;> omega)); conv => whnf)
          | (refine ⟨le_rfl' ?_, ?_⟩; rfl; conv => whnf)
          | (refine ⟨⟨?_, ?_⟩, ?_⟩; omega; omega; conv => whnf)
          | (refine ⟨⟨?_, ?_, ?_⟩, ?_⟩; rfl; omega; omega; conv => whnf)
          | (refine ⟨rfl, ?_, ?_⟩; decide; conv => whnf))
        try exact rfl
        exact hr _ rfl (fun g => c2 (g i (Nat.le_refl _) (by omega)).2)
    · rw [St.knows _ _ ht hz]
      refine Loop.round ?_
      conv => whnf
      repeat (first
        | (refine sel_yes ?_ ?_; (first | assumption | (simp only [beq_iff_eq, bne_iff_ne, beq_eq_false_iff_ne, bne_eq_false_iff_eq, decide_eq_true_eq, decide_eq_false_iff_not, Bool.not_eq_true', Bool.not_eq_false', ne_eq, beq_true, beq_false, bne_self_eq_false, not_true_eq_false, not_false_eq_true, gt_iff_lt, ge_iff_le, Int.not_lt, Int.not_le, Bool.true_eq_false, Bool.false_eq_true] <;> omega)); conv => whnf)
        | (refine sel_no ?_ ?_; (first | assumption | (simp only [beq_iff_eq, bne_iff_ne, beq_eq_false_iff_ne, bne_eq_false_iff_eq, decide_eq_true_eq, decide_eq_false_iff_not, Bool.not_eq_true', Bool.not_eq_false', ne_eq, beq_true, beq_false, bne_self_eq_false, not_true_eq_false, not_false_eq_true, gt_iff_lt, ge_iff_le, Int.not_lt, Int.not_le, Bool.true_eq_false, Bool.false_eq_true] <;> omega)); conv => whnf)
        | (refine ⟨le_rfl' ?_, ?_⟩; rfl; conv => whnf)
        | (refine ⟨⟨?_, ?_⟩, ?_⟩; omega; omega; conv => whnf)
        | (refine ⟨⟨?_, ?_, ?_⟩, ?_⟩; rfl; omega; omega; conv => whnf)
        | (refine ⟨rfl, ?_, ?_⟩; decide; conv => whnf))
      try exact rfl
      exact hr _ rfl (fun g => c1 (g i (Nat.le_refl _) (by omega)).1)
theorem vi' {k : IntKind} {a b : Int} (h : a = b) : V.int k a = V.int k b := by rw [h]
theorem rutf (h0 : Non ext) (s : ByteArray) (p : Nat) (hp : p < s.size) (hs : s.size ≤ 4611686018427387904) : (cfg ext).Ev 53 [.str s, .int .i64 p] (.int .i64 (utfN s p)) := by
  have hb0 : ((s.data.toList.getD (p : Int).toNat 0).toNat : Int) = (by_ s p : Int) := by rw [Int.toNat_natCast, getD_by s p hp]
  have l0 := by_lt s p
  have l1 := by_lt s (p + 1)
  have hw1 : IntKind.i64.wrap ((p : Int) + 1) = ((p + 1 : Nat) : Int) := by rw [IntKind.wrap_i64]; omega
  have hw2 : IntKind.i64.wrap ((p : Int) + 2) = ((p + 2 : Nat) : Int) := by rw [IntKind.wrap_i64]; omega
  have hw3 : IntKind.i64.wrap ((p : Int) + 3) = ((p + 3 : Nat) : Int) := by rw [IntKind.wrap_i64]; omega
  have hw4 : IntKind.i64.wrap ((p : Int) + 4) = ((p + 4 : Nat) : Int) := by rw [IntKind.wrap_i64]; omega
  have key : ∃ r, (cfg ext).Ev 53 [.str s, .int .i64 p] r ∧ r = .int .i64 (utfN s p) := by
    refine Ev.ofF (h0 53 (by decide) (by decide)) Tryz.func53 rfl rfl ?_
    conv => whnf
    repeat (first
      | (refine sel_yes ?_ ?_; (first | assumption | (simp only [beq_iff_eq, bne_iff_ne, beq_eq_false_iff_ne, bne_eq_false_iff_eq, decide_eq_true_eq, decide_eq_false_iff_not, Bool.not_eq_true', Bool.not_eq_false', ne_eq, beq_true, beq_false, bne_self_eq_false, not_true_eq_false, not_false_eq_true, gt_iff_lt, ge_iff_le, Int.not_lt, Int.not_le, Bool.true_eq_false, Bool.false_eq_true] <;> omega)); conv => whnf)
      | (refine sel_no ?_ ?_; (first | assumption | (simp only [beq_iff_eq, bne_iff_ne, beq_eq_false_iff_ne, bne_eq_false_iff_eq, decide_eq_true_eq, decide_eq_false_iff_not, Bool.not_eq_true', Bool.not_eq_false', ne_eq, beq_true, beq_false, bne_self_eq_false, not_true_eq_false, not_false_eq_true, gt_iff_lt, ge_iff_le, Int.not_lt, Int.not_le, Bool.true_eq_false, Bool.false_eq_true] <;> omega)); conv => whnf)
      | (refine ⟨le_rfl' ?_, ?_⟩; rfl; conv => whnf)
      | (refine ⟨⟨?_, ?_⟩, ?_⟩; omega; omega; conv => whnf)
      | (refine ⟨⟨?_, ?_, ?_⟩, ?_⟩; rfl; omega; omega; conv => whnf)
      | (refine ⟨rfl, ?_, ?_⟩; decide; conv => whnf))
    try exact rfl
    by_cases c0 : by_ s p < 128
    · repeat (first
        | (refine sel_yes ?_ ?_; (first | assumption | (simp only [beq_iff_eq, bne_iff_ne, beq_eq_false_iff_ne, bne_eq_false_iff_eq, decide_eq_true_eq, decide_eq_false_iff_not, Bool.not_eq_true', Bool.not_eq_false', ne_eq, beq_true, beq_false, bne_self_eq_false, not_true_eq_false, not_false_eq_true, gt_iff_lt, ge_iff_le, Int.not_lt, Int.not_le, Bool.true_eq_false, Bool.false_eq_true] <;> omega)); conv => whnf)
        | (refine sel_no ?_ ?_; (first | assumption | (simp only [beq_iff_eq, bne_iff_ne, beq_eq_false_iff_ne, bne_eq_false_iff_eq, decide_eq_true_eq, decide_eq_false_iff_not, Bool.not_eq_true', Bool.not_eq_false', ne_eq, beq_true, beq_false, bne_self_eq_false, not_true_eq_false, not_false_eq_true, gt_iff_lt, ge_iff_le, Int.not_lt, Int.not_le, Bool.true_eq_false, Bool.false_eq_true] <;> omega)); conv => whnf)
        | (refine ⟨le_rfl' ?_, ?_⟩; rfl; conv => whnf)
        | (refine ⟨⟨?_, ?_⟩, ?_⟩; omega; omega; conv => whnf)
        | (refine ⟨⟨?_, ?_, ?_⟩, ?_⟩; rfl; omega; omega; conv => whnf)
        | (refine ⟨rfl, ?_, ?_⟩; decide; conv => whnf))
      try exact rfl
      exact ⟨vi (by unfold utfN utfR; rw [if_pos c0]; rfl)⟩
    · by_cases c1 : 194 ≤ by_ s p ∧ by_ s p ≤ 223
      · skip
        have e : utfN s p = chkN (s.size - p) (by_ s (p + 1)) (by_ s (p + 2)) (by_ s (p + 3)) 2 128 191 := by
          unfold utfN utfR
          repeat' split
          all_goals first | rfl | (exfalso; omega)
        by_cases d1 : p + 2 ≤ s.size
        · have hb1 : ((s.data.toList.getD (IntKind.i64.wrap ((p : Int) + 1)).toNat 0).toNat : Int) = (by_ s (p + 1) : Int) := by rw [hw1, Int.toNat_natCast, getD_by s (p + 1) (by omega)]
          by_cases d2 : 128 ≤ by_ s (p + 1)
          · by_cases d3 : by_ s (p + 1) ≤ 191
            · repeat (first
                | (refine sel_yes ?_ ?_; (first | assumption | (simp only [beq_iff_eq, bne_iff_ne, beq_eq_false_iff_ne, bne_eq_false_iff_eq, decide_eq_true_eq, decide_eq_false_iff_not, Bool.not_eq_true', Bool.not_eq_false', ne_eq, beq_true, beq_false, bne_self_eq_false, not_true_eq_false, not_false_eq_true, gt_iff_lt, ge_iff_le, Int.not_lt, Int.not_le, Bool.true_eq_false, Bool.false_eq_true] <;> omega)); conv => whnf)
                | (refine sel_no ?_ ?_; (first | assumption | (simp only [beq_iff_eq, bne_iff_ne, beq_eq_false_iff_ne, bne_eq_false_iff_eq, decide_eq_true_eq, decide_eq_false_iff_not, Bool.not_eq_true', Bool.not_eq_false', ne_eq, beq_true, beq_false, bne_self_eq_false, not_true_eq_false, not_false_eq_true, gt_iff_lt, ge_iff_le, Int.not_lt, Int.not_le, Bool.true_eq_false, Bool.false_eq_true] <;> omega)); conv => whnf)
                | (refine ⟨le_rfl' ?_, ?_⟩; rfl; conv => whnf)
                | (refine ⟨⟨?_, ?_⟩, ?_⟩; omega; omega; conv => whnf)
                | (refine ⟨⟨?_, ?_, ?_⟩, ?_⟩; rfl; omega; omega; conv => whnf)
                | (refine ⟨rfl, ?_, ?_⟩; decide; conv => whnf))
              try exact rfl
              refine lutf2 s p hp hs 2 (by decide) d1 _ _ 0 2 _ rfl (by decide) (by decide) ⟨rfl, rfl, rfl, rfl, trivial⟩ rfl (fun z a b => ?_) (fun z a b => ?_)
              · refine Fin.tmp (i := 4) rfl a (vi ?_)
                rw [e]
                unfold chkN
                repeat' split
                all_goals first | rfl | (exfalso; exact b (fun j h1 h2 => by (have : j = 2 ∨ j = 3 := by omega); rcases this with rfl | rfl <;> omega))
              · rw [St.knows _ z.hp.n a rfl]
                conv => whnf
                refine ⟨vi ?_⟩
                rw [e]
                unfold chkN
                repeat' split
                all_goals first | rfl | (exfalso; omega)
            · repeat (first
                | (refine sel_yes ?_ ?_; (first | assumption | (simp only [beq_iff_eq, bne_iff_ne, beq_eq_false_iff_ne, bne_eq_false_iff_eq, decide_eq_true_eq, decide_eq_false_iff_not, Bool.not_eq_true', Bool.not_eq_false', ne_eq, beq_true, beq_false, bne_self_eq_false, not_true_eq_false, not_false_eq_true, gt_iff_lt, ge_iff_le, Int.not_lt, Int.not_le, Bool.true_eq_false, Bool.false_eq_true] <;> omega)); conv => whnf)
                | (refine sel_no ?_ ?_; (first | assumption | (simp only [beq_iff_eq, bne_iff_ne, beq_eq_false_iff_ne, bne_eq_false_iff_eq, decide_eq_true_eq, decide_eq_false_iff_not, Bool.not_eq_true', Bool.not_eq_false', ne_eq, beq_true, beq_false, bne_self_eq_false, not_true_eq_false, not_false_eq_true, gt_iff_lt, ge_iff_le, Int.not_lt, Int.not_le, Bool.true_eq_false, Bool.false_eq_true] <;> omega)); conv => whnf)
                | (refine ⟨le_rfl' ?_, ?_⟩; rfl; conv => whnf)
                | (refine ⟨⟨?_, ?_⟩, ?_⟩; omega; omega; conv => whnf)
                | (refine ⟨⟨?_, ?_, ?_⟩, ?_⟩; rfl; omega; omega; conv => whnf)
                | (refine ⟨rfl, ?_, ?_⟩; decide; conv => whnf))
              try exact rfl
              refine ⟨vi ?_⟩
              rw [e]; unfold chkN; rw [if_neg (by omega), if_pos (by omega)]; rfl
          · repeat (first
              | (refine sel_yes ?_ ?_; (first | assumption | (simp only [beq_iff_eq, bne_iff_ne, beq_eq_false_iff_ne, bne_eq_false_iff_eq, decide_eq_true_eq, decide_eq_false_iff_not, Bool.not_eq_true', Bool.not_eq_false', ne_eq, beq_true, beq_false, bne_self_eq_false, not_true_eq_false, not_false_eq_true, gt_iff_lt, ge_iff_le, Int.not_lt, Int.not_le, Bool.true_eq_false, Bool.false_eq_true] <;> omega)); conv => whnf)
              | (refine sel_no ?_ ?_; (first | assumption | (simp only [beq_iff_eq, bne_iff_ne, beq_eq_false_iff_ne, bne_eq_false_iff_eq, decide_eq_true_eq, decide_eq_false_iff_not, Bool.not_eq_true', Bool.not_eq_false', ne_eq, beq_true, beq_false, bne_self_eq_false, not_true_eq_false, not_false_eq_true, gt_iff_lt, ge_iff_le, Int.not_lt, Int.not_le, Bool.true_eq_false, Bool.false_eq_true] <;> omega)); conv => whnf)
              | (refine ⟨le_rfl' ?_, ?_⟩; rfl; conv => whnf)
              | (refine ⟨⟨?_, ?_⟩, ?_⟩; omega; omega; conv => whnf)
              | (refine ⟨⟨?_, ?_, ?_⟩, ?_⟩; rfl; omega; omega; conv => whnf)
              | (refine ⟨rfl, ?_, ?_⟩; decide; conv => whnf))
            try exact rfl
            refine ⟨vi ?_⟩
            rw [e]; unfold chkN; rw [if_neg (by omega), if_pos (by omega)]; rfl
        · repeat (first
            | (refine sel_yes ?_ ?_; (first | assumption | (simp only [beq_iff_eq, bne_iff_ne, beq_eq_false_iff_ne, bne_eq_false_iff_eq, decide_eq_true_eq, decide_eq_false_iff_not, Bool.not_eq_true', Bool.not_eq_false', ne_eq, beq_true, beq_false, bne_self_eq_false, not_true_eq_false, not_false_eq_true, gt_iff_lt, ge_iff_le, Int.not_lt, Int.not_le, Bool.true_eq_false, Bool.false_eq_true] <;> omega)); conv => whnf)
            | (refine sel_no ?_ ?_; (first | assumption | (simp only [beq_iff_eq, bne_iff_ne, beq_eq_false_iff_ne, bne_eq_false_iff_eq, decide_eq_true_eq, decide_eq_false_iff_not, Bool.not_eq_true', Bool.not_eq_false', ne_eq, beq_true, beq_false, bne_self_eq_false, not_true_eq_false, not_false_eq_true, gt_iff_lt, ge_iff_le, Int.not_lt, Int.not_le, Bool.true_eq_false, Bool.false_eq_true] <;> omega)); conv => whnf)
            | (refine ⟨le_rfl' ?_, ?_⟩; rfl; conv => whnf)
            | (refine ⟨⟨?_, ?_⟩, ?_⟩; omega; omega; conv => whnf)
            | (refine ⟨⟨?_, ?_, ?_⟩, ?_⟩; rfl; omega; omega; conv => whnf)
            | (refine ⟨rfl, ?_, ?_⟩; decide; conv => whnf))
          try exact rfl
          refine ⟨vi ?_⟩
          rw [e]; unfold chkN; rw [if_pos (by omega)]; rfl
      · by_cases c2 : by_ s p = 224
        · skip
          have e : utfN s p = chkN (s.size - p) (by_ s (p + 1)) (by_ s (p + 2)) (by_ s (p + 3)) 3 160 191 := by
            unfold utfN utfR
            repeat' split
            all_goals first | rfl | (exfalso; omega)
          by_cases d1 : p + 3 ≤ s.size
          · have hb1 : ((s.data.toList.getD (IntKind.i64.wrap ((p : Int) + 1)).toNat 0).toNat : Int) = (by_ s (p + 1) : Int) := by rw [hw1, Int.toNat_natCast, getD_by s (p + 1) (by omega)]
            by_cases d2 : 160 ≤ by_ s (p + 1)
            · by_cases d3 : by_ s (p + 1) ≤ 191
              · repeat (first
                  | (refine sel_yes ?_ ?_; (first | assumption | (simp only [beq_iff_eq, bne_iff_ne, beq_eq_false_iff_ne, bne_eq_false_iff_eq, decide_eq_true_eq, decide_eq_false_iff_not, Bool.not_eq_true', Bool.not_eq_false', ne_eq, beq_true, beq_false, bne_self_eq_false, not_true_eq_false, not_false_eq_true, gt_iff_lt, ge_iff_le, Int.not_lt, Int.not_le, Bool.true_eq_false, Bool.false_eq_true] <;> omega)); conv => whnf)
                  | (refine sel_no ?_ ?_; (first | assumption | (simp only [beq_iff_eq, bne_iff_ne, beq_eq_false_iff_ne, bne_eq_false_iff_eq, decide_eq_true_eq, decide_eq_false_iff_not, Bool.not_eq_true', Bool.not_eq_false', ne_eq, beq_true, beq_false, bne_self_eq_false, not_true_eq_false, not_false_eq_true, gt_iff_lt, ge_iff_le, Int.not_lt, Int.not_le, Bool.true_eq_false, Bool.false_eq_true] <;> omega)); conv => whnf)
                  | (refine ⟨le_rfl' ?_, ?_⟩; rfl; conv => whnf)
                  | (refine ⟨⟨?_, ?_⟩, ?_⟩; omega; omega; conv => whnf)
                  | (refine ⟨⟨?_, ?_, ?_⟩, ?_⟩; rfl; omega; omega; conv => whnf)
                  | (refine ⟨rfl, ?_, ?_⟩; decide; conv => whnf))
                try exact rfl
                refine lutf2 s p hp hs 3 (by decide) d1 _ _ 1 2 _ rfl (by decide) (by decide) ⟨rfl, rfl, rfl, rfl, trivial⟩ rfl (fun z a b => ?_) (fun z a b => ?_)
                · refine Fin.tmp (i := 4) rfl a (vi ?_)
                  rw [e]
                  unfold chkN
                  repeat' split
                  all_goals first | rfl | (exfalso; exact b (fun j h1 h2 => by (have : j = 2 ∨ j = 3 := by omega); rcases this with rfl | rfl <;> omega))
                · rw [St.knows _ z.hp.n a rfl]
                  have b2 := b 2 (by decide) (by decide)
                  conv => whnf
                  refine ⟨vi ?_⟩
                  rw [e]
                  unfold chkN
                  repeat' split
                  all_goals first | rfl | (exfalso; omega)
              · repeat (first
                  | (refine sel_yes ?_ ?_; (first | assumption | (simp only [beq_iff_eq, bne_iff_ne, beq_eq_false_iff_ne, bne_eq_false_iff_eq, decide_eq_true_eq, decide_eq_false_iff_not, Bool.not_eq_true', Bool.not_eq_false', ne_eq, beq_true, beq_false, bne_self_eq_false, not_true_eq_false, not_false_eq_true, gt_iff_lt, ge_iff_le, Int.not_lt, Int.not_le, Bool.true_eq_false, Bool.false_eq_true] <;> omega)); conv => whnf)
                  | (refine sel_no ?_ ?_; (first | assumption | (simp only [beq_iff_eq, bne_iff_ne, beq_eq_false_iff_ne, bne_eq_false_iff_eq, decide_eq_true_eq, decide_eq_false_iff_not, Bool.not_eq_true', Bool.not_eq_false', ne_eq, beq_true, beq_false, bne_self_eq_false, not_true_eq_false, not_false_eq_true, gt_iff_lt, ge_iff_le, Int.not_lt, Int.not_le, Bool.true_eq_false, Bool.false_eq_true] <;> omega)); conv => whnf)
                  | (refine ⟨le_rfl' ?_, ?_⟩; rfl; conv => whnf)
                  | (refine ⟨⟨?_, ?_⟩, ?_⟩; omega; omega; conv => whnf)
                  | (refine ⟨⟨?_, ?_, ?_⟩, ?_⟩; rfl; omega; omega; conv => whnf)
                  | (refine ⟨rfl, ?_, ?_⟩; decide; conv => whnf))
                try exact rfl
                refine ⟨vi ?_⟩
                rw [e]; unfold chkN; rw [if_neg (by omega), if_pos (by omega)]; rfl
            · repeat (first
                | (refine sel_yes ?_ ?_; (first | assumption | (simp only [beq_iff_eq, bne_iff_ne, beq_eq_false_iff_ne, bne_eq_false_iff_eq, decide_eq_true_eq, decide_eq_false_iff_not, Bool.not_eq_true', Bool.not_eq_false', ne_eq, beq_true, beq_false, bne_self_eq_false, not_true_eq_false, not_false_eq_true, gt_iff_lt, ge_iff_le, Int.not_lt, Int.not_le, Bool.true_eq_false, Bool.false_eq_true] <;> omega)); conv => whnf)
                | (refine sel_no ?_ ?_; (first | assumption | (simp only [beq_iff_eq, bne_iff_ne, beq_eq_false_iff_ne, bne_eq_false_iff_eq, decide_eq_true_eq, decide_eq_false_iff_not, Bool.not_eq_true', Bool.not_eq_false', ne_eq, beq_true, beq_false, bne_self_eq_false, not_true_eq_false, not_false_eq_true, gt_iff_lt, ge_iff_le, Int.not_lt, Int.not_le, Bool.true_eq_false, Bool.false_eq_true] <;> omega)); conv => whnf)
                | (refine ⟨le_rfl' ?_, ?_⟩; rfl; conv => whnf)
                | (refine ⟨⟨?_, ?_⟩, ?_⟩; omega; omega; conv => whnf)
                | (refine ⟨⟨?_, ?_, ?_⟩, ?_⟩; rfl; omega; omega; conv => whnf)
                | (refine ⟨rfl, ?_, ?_⟩; decide; conv => whnf))
              try exact rfl
              refine ⟨vi ?_⟩
              rw [e]; unfold chkN; rw [if_neg (by omega), if_pos (by omega)]; rfl
          · repeat (first
              | (refine sel_yes ?_ ?_; (first | assumption | (simp only [beq_iff_eq, bne_iff_ne, beq_eq_false_iff_ne, bne_eq_false_iff_eq, decide_eq_true_eq, decide_eq_false_iff_not, Bool.not_eq_true', Bool.not_eq_false', ne_eq, beq_true, beq_false, bne_self_eq_false, not_true_eq_false, not_false_eq_true, gt_iff_lt, ge_iff_le, Int.not_lt, Int.not_le, Bool.true_eq_false, Bool.false_eq_true] <;> omega)); conv => whnf)
              | (refine sel_no ?_ ?_; (first | assumption | (simp only [beq_iff_eq, bne_iff_ne, beq_eq_false_iff_ne, bne_eq_false_iff_eq, decide_eq_true_eq, decide_eq_false_iff_not, Bool.not_eq_true', Bool.not_eq_false', ne_eq, beq_true, beq_false, bne_self_eq_false, not_true_eq_false, not_false_eq_true, gt_iff_lt, ge_iff_le, Int.not_lt, Int.not_le, Bool.true_eq_false, Bool.false_eq_true] <;> omega)); conv => whnf)
              | (refine ⟨le_rfl' ?_, ?_⟩; rfl; conv => whnf)
              | (refine ⟨⟨?_, ?_⟩, ?_⟩; omega; omega; conv => whnf)
              | (refine ⟨⟨?_, ?_, ?_⟩, ?_⟩; rfl; omega; omega; conv => whnf)
              | (refine ⟨rfl, ?_, ?_⟩; decide; conv => whnf))
            try exact rfl
            refine ⟨vi ?_⟩
            rw [e]; unfold chkN; rw [if_pos (by omega)]; rfl
        · by_cases c3 : by_ s p = 237
          · skip
            have e : utfN s p = chkN (s.size - p) (by_ s (p + 1)) (by_ s (p + 2)) (by_ s (p + 3)) 3 128 159 := by
              unfold utfN utfR
              repeat' split
              all_goals first | rfl | (exfalso; omega)
            by_cases d1 : p + 3 ≤ s.size
            · have hb1 : ((s.data.toList.getD (IntKind.i64.wrap ((p : Int) + 1)).toNat 0).toNat : Int) = (by_ s (p + 1) : Int) := by rw [hw1, Int.toNat_natCast, getD_by s (p + 1) (by omega)]
              by_cases d2 : 128 ≤ by_ s (p + 1)
              · by_cases d3 : by_ s (p + 1) ≤ 159
                · repeat (first
                    | (refine sel_yes ?_ ?_; (first | assumption | (simp only [beq_iff_eq, bne_iff_ne, beq_eq_false_iff_ne, bne_eq_false_iff_eq, decide_eq_true_eq, decide_eq_false_iff_not, Bool.not_eq_true', Bool.not_eq_false', ne_eq, beq_true, beq_false, bne_self_eq_false, not_true_eq_false, not_false_eq_true, gt_iff_lt, ge_iff_le, Int.not_lt, Int.not_le, Bool.true_eq_false, Bool.false_eq_true] <;> omega)); conv => whnf)
                    | (refine sel_no ?_ ?_; (first | assumption | (simp only [beq_iff_eq, bne_iff_ne, beq_eq_false_iff_ne, bne_eq_false_iff_eq, decide_eq_true_eq, decide_eq_false_iff_not, Bool.not_eq_true', Bool.not_eq_false', ne_eq, beq_true, beq_false, bne_self_eq_false, not_true_eq_false, not_false_eq_true, gt_iff_lt, ge_iff_le, Int.not_lt, Int.not_le, Bool.true_eq_false, Bool.false_eq_true] <;> omega)); conv => whnf)
                    | (refine ⟨le_rfl' ?_, ?_⟩; rfl; conv => whnf)
                    | (refine ⟨⟨?_, ?_⟩, ?_⟩; omega; omega; conv => whnf)
                    | (refine ⟨⟨?_, ?_, ?_⟩, ?_⟩; rfl; omega; omega; conv => whnf)
                    | (refine ⟨rfl, ?_, ?_⟩; decide; conv => whnf))
                  try exact rfl
                  refine lutf2 s p hp hs 3 (by decide) d1 _ _ 1 2 _ rfl (by decide) (by decide) ⟨rfl, rfl, rfl, rfl, trivial⟩ rfl (fun z a b => ?_) (fun z a b => ?_)
                  · refine Fin.tmp (i := 4) rfl a (vi ?_)
                    rw [e]
                    unfold chkN
                    repeat' split
                    all_goals first | rfl | (exfalso; exact b (fun j h1 h2 => by (have : j = 2 ∨ j = 3 := by omega); rcases this with rfl | rfl <;> omega))
                  · rw [St.knows _ z.hp.n a rfl]
                    have b2 := b 2 (by decide) (by decide)
                    conv => whnf
                    refine ⟨vi ?_⟩
                    rw [e]
                    unfold chkN
                    repeat' split
                    all_goals first | rfl | (exfalso; omega)
                · repeat (first
                    | (refine sel_yes ?_ ?_; (first | assumption | (simp only [beq_iff_eq, bne_iff_ne, beq_eq_false_iff_ne, bne_eq_false_iff_eq, decide_eq_true_eq, decide_eq_false_iff_not, Bool.not_eq_true', Bool.not_eq_false', ne_eq, beq_true, beq_false, bne_self_eq_false, not_true_eq_false, not_false_eq_true, gt_iff_lt, ge_iff_le, Int.not_lt, Int.not_le, Bool.true_eq_false, Bool.false_eq_true] <;> omega)); conv => whnf)
                    | (refine sel_no ?_ ?_; (first | assumption | (simp only [beq_iff_eq, bne_iff_ne, beq_eq_false_iff_ne, bne_eq_false_iff_eq, decide_eq_true_eq, decide_eq_false_iff_not, Bool.not_eq_true', Bool.not_eq_false', ne_eq, beq_true, beq_false, bne_self_eq_false, not_true_eq_false, not_false_eq_true, gt_iff_lt, ge_iff_le, Int.not_lt, Int.not_le, Bool.true_eq_false, Bool.false_eq_true] <;> omega)); conv => whnf)
                    | (refine ⟨le_rfl' ?_, ?_⟩; rfl; conv => whnf)
                    | (refine ⟨⟨?_, ?_⟩, ?_⟩; omega; omega; conv => whnf)
                    | (refine ⟨⟨?_, ?_, ?_⟩, ?_⟩; rfl; omega; omega; conv => whnf)
                    | (refine ⟨rfl, ?_, ?_⟩; decide; conv => whnf))
                  try exact rfl
                  refine ⟨vi ?_⟩
                  rw [e]; unfold chkN; rw [if_neg (by omega), if_pos (by omega)]; rfl
              · repeat (first
                  | (refine sel_yes ?_ ?_; (first | assumption | (simp only [beq_iff_eq, bne_iff_ne, beq_eq_false_iff_ne, bne_eq_false_iff_eq, decide_eq_true_eq, decide_eq_false_iff_not, Bool.not_eq_true', Bool.not_eq_false', ne_eq, beq_true, beq_false, bne_self_eq_false, not_true_eq_false, not_false_eq_true, gt_iff_lt, ge_iff_le, Int.not_lt, Int.not_le, Bool.true_eq_false, Bool.false_eq_true] <;> omega)); conv => whnf)
                  | (refine sel_no ?_ ?_; (first | assumption | (simp only [beq_iff_eq, bne_iff_ne, beq_eq_false_iff_ne, bne_eq_false_iff_eq, decide_eq_true_eq, decide_eq_false_iff_not, Bool.not_eq_true', Bool.not_eq_false', ne_eq, beq_true, beq_false, bne_self_eq_false, not_true_eq_false, not_false_eq_true, gt_iff_lt, ge_iff_le, Int.not_lt, Int.not_le, Bool.true_eq_false, Bool.false_eq_true] <;> omega)); conv => whnf)
                  | (refine ⟨le_rfl' ?_, ?_⟩; rfl; conv => whnf)
                  | (refine ⟨⟨?_, ?_⟩, ?_⟩; omega; omega; conv => whnf)
                  | (refine ⟨⟨?_, ?_, ?_⟩, ?_⟩; rfl; omega; omega; conv => whnf)
                  | (refine ⟨rfl, ?_, ?_⟩; decide; conv => whnf))
                try exact rfl
                refine ⟨vi ?_⟩
                rw [e]; unfold chkN; rw [if_neg (by omega), if_pos (by omega)]; rfl
            · repeat (first
                | (refine sel_yes ?_ ?_; (first | assumption | (simp only [beq_iff_eq, bne_iff_ne, beq_eq_false_iff_ne, bne_eq_false_iff_eq, decide_eq_true_eq, decide_eq_false_iff_not, Bool.not_eq_true', Bool.not_eq_false', ne_eq, beq_true, beq_false, bne_self_eq_false, not_true_eq_false, not_false_eq_true, gt_iff_lt, ge_iff_le, Int.not_lt, Int.not_le, Bool.true_eq_false, Bool.false_eq_true] <;> omega)); conv => whnf)
                | (refine sel_no ?_ ?_; (first | assumption | (simp only [beq_iff_eq, bne_iff_ne, beq_eq_false_iff_ne, bne_eq_false_iff_eq, decide_eq_true_eq, decide_eq_false_iff_not, Bool.not_eq_true', Bool.not_eq_false', ne_eq, beq_true, beq_false, bne_self_eq_false, not_true_eq_false, not_false_eq_true, gt_iff_lt, ge_iff_le, Int.not_lt, Int.not_le, Bool.true_eq_false, Bool.false_eq_true] <;> omega)); conv => whnf)
                | (refine ⟨le_rfl' ?_, ?_⟩; rfl; conv => whnf)
                | (refine ⟨⟨?_, ?_⟩, ?_⟩; omega; omega; conv => whnf)
                | (refine ⟨⟨?_, ?_, ?_⟩, ?_⟩; rfl; omega; omega; conv => whnf)
                | (refine ⟨rfl, ?_, ?_⟩; decide; conv => whnf))
              try exact rfl
              refine ⟨vi ?_⟩
              rw [e]; unfold chkN; rw [if_pos (by omega)]; rfl
          · by_cases c4 : 224 ≤ by_ s p ∧ by_ s p ≤ 239
            · skip
              have e : utfN s p = chkN (s.size - p) (by_ s (p + 1)) (by_ s (p + 2)) (by_ s (p + 3)) 3 128 191 := by
                unfold utfN utfR
                repeat' split
                all_goals first | rfl | (exfalso; omega)
              by_cases d1 : p + 3 ≤ s.size
              · have hb1 : ((s.data.toList.getD (IntKind.i64.wrap ((p : Int) + 1)).toNat 0).toNat : Int) = (by_ s (p + 1) : Int) := by rw [hw1, Int.toNat_natCast, getD_by s (p + 1) (by omega)]
                by_cases d2 : 128 ≤ by_ s (p + 1)
                · by_cases d3 : by_ s (p + 1) ≤ 191
                  · repeat (first
                      | (refine sel_yes ?_ ?_; (first | assumption | (simp only [beq_iff_eq, bne_iff_ne, beq_eq_false_iff_ne, bne_eq_false_iff_eq, decide_eq_true_eq, decide_eq_false_iff_not, Bool.not_eq_true', Bool.not_eq_false', ne_eq, beq_true, beq_false, bne_self_eq_false, not_true_eq_false, not_false_eq_true, gt_iff_lt, ge_iff_le, Int.not_lt, Int.not_le, Bool.true_eq_false, Bool.false_eq_true] <;> omega)); conv => whnf)
                      | (refine sel_no ?_ ?_; (first | assumption | (simp only [beq_iff_eq, bne_iff_ne, beq_eq_false_iff_ne, bne_eq_false_iff_eq, decide_eq_true_eq, decide_eq_false_iff_not, Bool.not_eq_true', Bool.not_eq_false', ne_eq, beq_true, beq_false, bne_self_eq_false, not_true_eq_false, not_false_eq_true, gt_iff_lt, ge_iff_le, Int.not_lt, Int.not_le, Bool.true_eq_false, Bool.false_eq_true] <;> omega)); conv => whnf)
                      | (refine ⟨le_rfl' ?_, ?_⟩; rfl; conv => whnf)
                      | (refine ⟨⟨?_, ?_⟩, ?_⟩; omega; omega; conv => whnf)
                      | (refine ⟨⟨?_, ?_, ?_⟩, ?_⟩; rfl; omega; omega; conv => whnf)
                      | (refine ⟨rfl, ?_, ?_⟩; decide; conv => whnf))
                    try exact rfl
                    refine lutf2 s p hp hs 3 (by decide) d1 _ _ 1 2 _ rfl (by decide) (by decide) ⟨rfl, rfl, rfl, rfl, trivial⟩ rfl (fun z a b => ?_) (fun z a b => ?_)
                    · refine Fin.tmp (i := 4) rfl a (vi ?_)
                      rw [e]
                      unfold chkN
                      repeat' split
                      all_goals first | rfl | (exfalso; exact b (fun j h1 h2 => by (have : j = 2 ∨ j = 3 := by omega); rcases this with rfl | rfl <;> omega))
                    · rw [St.knows _ z.hp.n a rfl]
                      have b2 := b 2 (by decide) (by decide)
                      conv => whnf
                      refine ⟨vi ?_⟩
                      rw [e]
                      unfold chkN
                      repeat' split
                      all_goals first | rfl | (exfalso; omega)
                  · repeat (first
                      | (refine sel_yes ?_ ?_; (first | assumption | (simp only [beq_iff_eq, bne_iff_ne, beq_eq_false_iff_ne, bne_eq_false_iff_eq, decide_eq_true_eq, decide_eq_false_iff_not, Bool.not_eq_true', Bool.not_eq_false', ne_eq, beq_true, beq_false, bne_self_eq_false, not_true_eq_false, not_false_eq_true, gt_iff_lt, ge_iff_le, Int.not_lt, Int.not_le, Bool.true_eq_false, Bool.false_eq_true] <;> omega)); conv => whnf)
                      | (refine sel_no ?_ ?_; (first | assumption | (simp only [beq_iff_eq, bne_iff_ne, beq_eq_false_iff_ne, bne_eq_false_iff_eq, decide_eq_true_eq, decide_eq_false_iff_not, Bool.not_eq_true', Bool.not_eq_false', ne_eq, beq_true, beq_false, bne_self_eq_false, not_true_eq_false, not_false_eq_true, gt_iff_lt, ge_iff_le, Int.not_lt, Int.not_le, Bool.true_eq_false, Bool.false_eq_true] <;> omega)); conv => whnf)
                      | (refine ⟨le_rfl' ?_, ?_⟩; rfl; conv => whnf)
                      | (refine ⟨⟨?_, ?_⟩, ?_⟩; omega; omega; conv => whnf)
                      | (refine ⟨⟨?_, ?_, ?_⟩, ?_⟩; rfl; omega; omega; conv => whnf)
                      | (refine ⟨rfl, ?_, ?_⟩; decide; conv => whnf))
                    try exact rfl
                    refine ⟨vi ?_⟩
                    rw [e]; unfold chkN; rw [if_neg (by omega), if_pos (by omega)]; rfl
                · repeat (first
                    | (refine sel_yes ?_ ?_; (first | assumption | (simp only [beq_iff_eq, bne_iff_ne, beq_eq_false_iff_ne, bne_eq_false_iff_eq, decide_eq_true_eq, decide_eq_false_iff_not, Bool.not_eq_true', Bool.not_eq_false', ne_eq, beq_true, beq_false, bne_self_eq_false, not_true_eq_false, not_false_eq_true, gt_iff_lt, ge_iff_le, Int.not_lt, Int.not_le, Bool.true_eq_false, Bool.false_eq_true] <;> omega)); conv => whnf)
                    | (refine sel_no ?_ ?_; (first | assumption | (simp only [beq_iff_eq, bne_iff_ne, beq_eq_false_iff_ne, bne_eq_false_iff_eq, decide_eq_true_eq, decide_eq_false_iff_not, Bool.not_eq_true', Bool.not_eq_false', ne_eq, beq_true, beq_false, bne_self_eq_false, not_true_eq_false, not_false_eq_true, gt_iff_lt, ge_iff_le, Int.not_lt, Int.not_le, Bool.true_eq_false, Bool.false_eq_true] <;> omega)); conv => whnf)
                    | (refine ⟨le_rfl' ?_, ?_⟩; rfl; conv => whnf)
                    | (refine ⟨⟨?_, ?_⟩, ?_⟩; omega; omega; conv => whnf)
                    | (refine ⟨⟨?_, ?_, ?_⟩, ?_⟩; rfl; omega; omega; conv => whnf)
                    | (refine ⟨rfl, ?_, ?_⟩; decide; conv => whnf))
                  try exact rfl
                  refine ⟨vi ?_⟩
                  rw [e]; unfold chkN; rw [if_neg (by omega), if_pos (by omega)]; rfl
              · repeat (first
                  | (refine sel_yes ?_ ?_; (first | assumption | (simp only [beq_iff_eq, bne_iff_ne, beq_eq_false_iff_ne, bne_eq_false_iff_eq, decide_eq_true_eq, decide_eq_false_iff_not, Bool.not_eq_true', Bool.not_eq_false', ne_eq, beq_true, beq_false, bne_self_eq_false, not_true_eq_false, not_false_eq_true, gt_iff_lt, ge_iff_le, Int.not_lt, Int.not_le, Bool.true_eq_false, Bool.false_eq_true] <;> omega)); conv => whnf)
                  | (refine sel_no ?_ ?_; (first | assumption | (simp only [beq_iff_eq, bne_iff_ne, beq_eq_false_iff_ne, bne_eq_false_iff_eq, decide_eq_true_eq, decide_eq_false_iff_not, Bool.not_eq_true', Bool.not_eq_false', ne_eq, beq_true, beq_false, bne_self_eq_false, not_true_eq_false, not_false_eq_true, gt_iff_lt, ge_iff_le, Int.not_lt, Int.not_le, Bool.true_eq_false, Bool.false_eq_true] <;> omega)); conv => whnf)
                  | (refine ⟨le_rfl' ?_, ?_⟩; rfl; conv => whnf)
                  | (refine ⟨⟨?_, ?_⟩, ?_⟩; omega; omega; conv => whnf)
                  | (refine ⟨⟨?_, ?_, ?_⟩, ?_⟩; rfl; omega; omega; conv => whnf)
                  | (refine ⟨rfl, ?_, ?_⟩; decide; conv => whnf))
                try exact rfl
                refine ⟨vi ?_⟩
                rw [e]; unfold chkN; rw [if_pos (by omega)]; rfl
            · by_cases c5 : by_ s p = 240
              · skip
                have e : utfN s p = chkN (s.size - p) (by_ s (p + 1)) (by_ s (p + 2)) (by_ s (p + 3)) 4 144 191 := by
                  unfold utfN utfR
                  repeat' split
                  all_goals first | rfl | (exfalso; omega)
                by_cases d1 : p + 4 ≤ s.size
                · have hb1 : ((s.data.toList.getD (IntKind.i64.wrap ((p : Int) + 1)).toNat 0).toNat : Int) = (by_ s (p + 1) : Int) := by rw [hw1, Int.toNat_natCast, getD_by s (p + 1) (by omega)]
                  by_cases d2 : 144 ≤ by_ s (p + 1)
                  · by_cases d3 : by_ s (p + 1) ≤ 191
                    · repeat (first
                        | (refine sel_yes ?_ ?_; (first | assumption | (simp only [beq_iff_eq, bne_iff_ne, beq_eq_false_iff_ne, bne_eq_false_iff_eq, decide_eq_true_eq, decide_eq_false_iff_not, Bool.not_eq_true', Bool.not_eq_false', ne_eq, beq_true, beq_false, bne_self_eq_false, not_true_eq_false, not_false_eq_true, gt_iff_lt, ge_iff_le, Int.not_lt, Int.not_le, Bool.true_eq_false, Bool.false_eq_true] <;> omega)); conv => whnf)
                        | (refine sel_no ?_ ?_; (first | assumption | (simp only [beq_iff_eq, bne_iff_ne, beq_eq_false_iff_ne, bne_eq_false_iff_eq, decide_eq_true_eq, decide_eq_false_iff_not, Bool.not_eq_true', Bool.not_eq_false', ne_eq, beq_true, beq_false, bne_self_eq_false, not_true_eq_false, not_false_eq_true, gt_iff_lt, ge_iff_le, Int.not_lt, Int.not_le, Bool.true_eq_false, Bool.false_eq_true] <;> omega)); conv => whnf)
                        | (refine ⟨le_rfl' ?_, ?_⟩; rfl; conv => whnf)
                        | (refine ⟨⟨?_, ?_⟩, ?_⟩; omega; omega; conv => whnf)
                        | (refine ⟨⟨?_, ?_, ?_⟩, ?_⟩; rfl; omega; omega; conv => whnf)
                        | (refine ⟨rfl, ?_, ?_⟩; decide; conv => whnf))
                      try exact rfl
                      refine lutf2 s p hp hs 4 (by decide) d1 _ _ 2 2 _ rfl (by decide) (by decide) ⟨rfl, rfl, rfl, rfl, trivial⟩ rfl (fun z a b => ?_) (fun z a b => ?_)
                      · refine Fin.tmp (i := 4) rfl a (vi ?_)
                        rw [e]
                        unfold chkN
                        repeat' split
                        all_goals first | rfl | (exfalso; exact b (fun j h1 h2 => by (have : j = 2 ∨ j = 3 := by omega); rcases this with rfl | rfl <;> omega))
                      · rw [St.knows _ z.hp.n a rfl]
                        have b2 := b 2 (by decide) (by decide)
                        have b3 := b 3 (by decide) (by decide)
                        conv => whnf
                        refine ⟨vi ?_⟩
                        rw [e]
                        unfold chkN
                        repeat' split
                        all_goals first | rfl | (exfalso; omega)
                    · repeat (first
                        | (refine sel_yes ?_ ?_; (first | assumption | (simp only [beq_iff_eq, bne_iff_ne, beq_eq_false_iff_ne, bne_eq_false_iff_eq, decide_eq_true_eq, decide_eq_false_iff_not, Bool.not_eq_true', Bool.not_eq_false', ne_eq, beq_true, beq_false, bne_self_eq_false, not_true_eq_false, not_false_eq_true, gt_iff_lt, ge_iff_le, Int.not_lt, Int.not_le, Bool.true_eq_false, Bool.false_eq_true] <;> omega)); conv => whnf)
                        | (refine sel_no ?_ ?_; (first | assumption | (simp only [beq_iff_eq, bne_iff_ne, beq_eq_false_iff_ne, bne_eq_false_iff_eq, decide_eq_true_eq, decide_eq_false_iff_not, Bool.not_eq_true', Bool.not_eq_false', ne_eq, beq_true, beq_false, bne_self_eq_false, not_true_eq_false, not_false_eq_true, gt_iff_lt, ge_iff_le, Int.not_lt, Int.not_le, Bool.true_eq_false, Bool.false_eq_true] <;> omega)); conv => whnf)
                        | (refine ⟨le_rfl' ?_, ?_⟩; rfl; conv => whnf)
                        | (refine ⟨⟨?_, ?_⟩, ?_⟩; omega; omega; conv => whnf)
                        | (refine ⟨⟨?_, ?_, ?_⟩, ?_⟩; rfl; omega; omega; conv => whnf)
                        | (refine ⟨rfl, ?_, ?_⟩; decide; conv => whnf))
                      try exact rfl
                      refine ⟨vi ?_⟩
                      rw [e]; unfold chkN; rw [if_neg (by omega), if_pos (by omega)]; rfl
                  · repeat (first
                      | (refine sel_yes ?_ ?_; (first | assumption | (simp only [beq_iff_eq, bne_iff_ne, beq_eq_false_iff_ne, bne_eq_false_iff_eq, decide_eq_true_eq, decide_eq_false_iff_not, Bool.not_eq_true', Bool.not_eq_false', ne_eq, beq_true, beq_false, bne_self_eq_false, not_true_eq_false, not_false_eq_true, gt_iff_lt, ge_iff_le, Int.not_lt, Int.not_le, Bool.true_eq_false, Bool.false_eq_true] <;> omega)); conv => whnf)
                      | (refine sel_no ?_ ?_; (first | assumption | (simp only [beq_iff_eq, bne_iff_ne, beq_eq_false_iff_ne, bne_eq_false_iff_eq, decide_eq_true_eq, decide_eq_false_iff_not, Bool.not_eq_true', Bool.not_eq_false', ne_eq, beq_true, beq_false, bne_self_eq_false, not_true_eq_false, not_false_eq_true, gt_iff_lt, ge_iff_le, Int.not_lt, Int.not_le, Bool.true_eq_false, Bool.false_eq_true] <;> omega)); conv => whnf)
                      | (refine ⟨le_rfl' ?_, ?_⟩; rfl; conv => whnf)
                      | (refine ⟨⟨?_, ?_⟩, ?_⟩; omega; omega; conv => whnf)
                      | (refine ⟨⟨?_, ?_, ?_⟩, ?_⟩; rfl; omega; omega; conv => whnf)
                      | (refine ⟨rfl, ?_, ?_⟩; decide; conv => whnf))
                    try exact rfl
                    refine ⟨vi ?_⟩
                    rw [e]; unfold chkN; rw [if_neg (by omega), if_pos (by omega)]; rfl
                · repeat (first
                    | (refine sel_yes ?_ ?_; (first | assumption | (simp only [beq_iff_eq, bne_iff_ne, beq_eq_false_iff_ne, bne_eq_false_iff_eq, decide_eq_true_eq, decide_eq_false_iff_not, Bool.not_eq_true', Bool.not_eq_false', ne_eq, beq_true, beq_false, bne_self_eq_false, not_true_eq_false, not_false_eq_true, gt_iff_lt, ge_iff_le, Int.not_lt, Int.not_le, Bool.true_eq_false, Bool.false_eq_true] <;> omega)); conv => whnf)
                    | (refine sel_no ?_ ?_; (first | assumption | (simp only [beq_iff_eq, bne_iff_ne, beq_eq_false_iff_ne, bne_eq_false_iff_eq, decide_eq_true_eq, decide_eq_false_iff_not, Bool.not_eq_true', Bool.not_eq_false', ne_eq, beq_true, beq_false, bne_self_eq_false, not_true_eq_false, not_false_eq_true, gt_iff_lt, ge_iff_le, Int.not_lt, Int.not_le, Bool.true_eq_false, Bool.false_eq_true] <;> omega)); conv => whnf)
                    | (refine ⟨le_rfl' ?_, ?_⟩; rfl; conv => whnf)
                    | (refine ⟨⟨?_, ?_⟩, ?_⟩; omega; omega; conv => whnf)
                    | (refine ⟨⟨?_, ?_, ?_⟩, ?_⟩; rfl; omega; omega; conv => whnf)
                    | (refine ⟨rfl, ?_, ?_⟩; decide; conv => whnf))
                  try exact rfl
                  refine ⟨vi ?_⟩
                  rw [e]; unfold chkN; rw [if_pos (by omega)]; rfl
              · by_cases c6 : by_ s p = 244
                · skip
                  have e : utfN s p = chkN (s.size - p) (by_ s (p + 1)) (by_ s (p + 2)) (by_ s (p + 3)) 4 128 143 := by
                    unfold utfN utfR
                    repeat' split
                    all_goals first | rfl | (exfalso; omega)
                  by_cases d1 : p + 4 ≤ s.size
                  · have hb1 : ((s.data.toList.getD (IntKind.i64.wrap ((p : Int) + 1)).toNat 0).toNat : Int) = (by_ s (p + 1) : Int) := by rw [hw1, Int.toNat_natCast, getD_by s (p + 1) (by omega)]
                    by_cases d2 : 128 ≤ by_ s (p + 1)
                    · by_cases d3 : by_ s (p + 1) ≤ 143
                      · repeat (first
                          | (refine sel_yes ?_ ?_; (first | assumption | (simp only [beq_iff_eq, bne_iff_ne, beq_eq_false_iff_ne, bne_eq_false_iff_eq, decide_eq_true_eq, decide_eq_false_iff_not, Bool.not_eq_true', Bool.not_eq_false', ne_eq, beq_true, beq_false, bne_self_eq_false, not_true_eq_false, not_false_eq_true, gt_iff_lt, ge_iff_le, Int.not_lt, Int.not_le, Bool.true_eq_false, Bool.false_eq_true] <;> omega)); conv => whnf)
                          | (refine sel_no ?_ ?_; (first | assumption | (simp only [beq_iff_eq, bne_iff_ne, beq_eq_false_iff_ne, bne_eq_false_iff_eq, decide_eq_true_eq, decide_eq_false_iff_not, Bool.not_eq_true', Bool.not_eq_false', ne_eq, beq_true, beq_false, bne_self_eq_false, not_true_eq_false, not_false_eq_true, gt_iff_lt, ge_iff_le, Int.not_lt, Int.not_le, Bool.true_eq_false, Bool.false_eq_true] <;> omega)); conv => whnf)
                          | (refine ⟨le_rfl' ?_, ?_⟩; rfl; conv => whnf)
                          | (refine ⟨⟨?_, ?_⟩, ?_⟩; omega; omega; conv => whnf)
                          | (refine ⟨⟨?_, ?_, ?_⟩, ?_⟩; rfl; omega; omega; conv => whnf)
                          | (refine ⟨rfl, ?_, ?_⟩; decide; conv => whnf))
                        try exact rfl
                        refine lutf2 s p hp hs 4 (by decide) d1 _ _ 2 2 _ rfl (by decide) (by decide) ⟨rfl, rfl, rfl, rfl, trivial⟩ rfl (fun z a b => ?_) (fun z a b => ?_)
                        · refine Fin.tmp (i := 4) rfl a (vi ?_)
                          rw [e]
                          unfold chkN
                          repeat' split
                          all_goals first | rfl | (exfalso; exact b (fun j h1 h2 => by (have : j = 2 ∨ j = 3 := by omega); rcases this with rfl | rfl <;> omega))
                        · rw [St.knows _ z.hp.n a rfl]
                          have b2 := b 2 (by decide) (by decide)
                          have b3 := b 3 (by decide) (by decide)
                          conv => whnf
                          refine ⟨vi ?_⟩
                          rw [e]
                          unfold chkN
                          repeat' split
                          all_goals first | rfl | (exfalso; omega)
                      · repeat (first
                          | (refine sel_yes ?_ ?_; (first | assumption | (simp only [beq_iff_eq, bne_iff_ne, beq_eq_false_iff_ne, bne_eq_false_iff_eq, decide_eq_true_eq, decide_eq_false_iff_not, Bool.not_eq_true', Bool.not_eq_false', ne_eq, beq_true, beq_false, bne_self_eq_false, not_true_eq_false, not_false_eq_true, gt_iff_lt, ge_iff_le, Int.not_lt, Int.not_le, Bool.true_eq_false, Bool.false_eq_true] <;> omega)); conv => whnf)
                          | (refine sel_no ?_ ?_; (first | assumption | (simp only [beq_iff_eq, bne_iff_ne, beq_eq_false_iff_ne, bne_eq_false_iff_eq, decide_eq_true_eq, decide_eq_false_iff_not, Bool.not_eq_true', Bool.not_eq_false', ne_eq, beq_true, beq_false, bne_self_eq_false, not_true_eq_false, not_false_eq_true, gt_iff_lt, ge_iff_le, Int.not_lt, Int.not_le, Bool.true_eq_false, Bool.false_eq_true] <;> omega)); conv => whnf)
                          | (refine ⟨le_rfl' ?_, ?_⟩; rfl; conv => whnf)
                          | (refine ⟨⟨?_, ?_⟩, ?_⟩; omega; omega; conv => whnf)
                          | (refine ⟨⟨?_, ?_, ?_⟩, ?_⟩; rfl; omega; omega; conv => whnf)
                          | (refine ⟨rfl, ?_, ?_⟩; decide; conv => whnf))
                        try exact rfl
                        refine ⟨vi ?_⟩
                        rw [e]; unfold chkN; rw [if_neg (by omega), if_pos (by omega)]; rfl
                    · repeat (first
                        | (refine sel_yes ?_ ?_; (first | assumption | (simp only [beq_iff_eq, bne_iff_ne, beq_eq_false_iff_ne, bne_eq_false_iff_eq, decide_eq_true_eq, decide_eq_false_iff_not, Bool.not_eq_true', Bool.not_eq_false', ne_eq, beq_true, beq_false, bne_self_eq_false, not_true_eq_false, not_false_eq_true, gt_iff_lt, ge_iff_le, Int.not_lt, Int.not_le, Bool.true_eq_false, Bool.false_eq_true] <;> omega)); conv => whnf)
                        | (refine sel_no ?_ ?_; (first | assumption | (simp only [beq_iff_eq, bne_iff_ne, beq_eq_false_iff_ne, bne_eq_false_iff_eq, decide_eq_true_eq, decide_eq_false_iff_not, Bool.not_eq_true', Bool.not_eq_false', ne_eq, beq_true, beq_false, bne_self_eq_false, not_true_eq_false, not_false_eq_true, gt_iff_lt, ge_iff_le, Int.not_lt, Int.not_le, Bool.true_eq_false, Bool.false_eq_true] <;> omega)); conv => whnf)
                        | (refine ⟨le_rfl' ?_, ?_⟩; rfl; conv => whnf)
                        | (refine ⟨⟨?_, ?_⟩, ?_⟩; omega; omega; conv => whnf)
                        | (refine ⟨⟨?_, ?_, ?_⟩, ?_⟩; rfl; omega; omega; conv => whnf)
                        | (refine ⟨rfl, ?_, ?_⟩; decide; conv => whnf))
                      try exact rfl
                      refine ⟨vi ?_⟩
                      rw [e]; unfold chkN; rw [if_neg (by omega), if_pos (by omega)]; rfl
                  · repeat (first
                      | (refine sel_yes ?_ ?_; (first | assumption | (simp only [beq_iff_eq, bne_iff_ne, beq_eq_false_iff_ne, bne_eq_false_iff_eq, decide_eq_true_eq, decide_eq_false_iff_not, Bool.not_eq_true', Bool.not_eq_false', ne_eq, beq_true, beq_false, bne_self_eq_false, not_true_eq_false, not_false_eq_true, gt_iff_lt, ge_iff_le, Int.not_lt, Int.not_le, Bool.true_eq_false, Bool.false_eq_true] <;> omega)); conv => whnf)
                      | (refine sel_no ?_ ?_; (first | assumption | (simp only [beq_iff_eq, bne_iff_ne, beq_eq_false_iff_ne, bne_eq_false_iff_eq, decide_eq_true_eq, decide_eq_false_iff_not, Bool.not_eq_true', Bool.not_eq_false', ne_eq, beq_true, beq_false, bne_self_eq_false, not_true_eq_false, not_false_eq_true, gt_iff_lt, ge_iff_le, Int.not_lt, Int.not_le, Bool.true_eq_false, Bool.false_eq_true] <;> omega)); conv => whnf)
                      | (refine ⟨le_rfl' ?_, ?_⟩; rfl; conv => whnf)
                      | (refine ⟨⟨?_, ?_⟩, ?_⟩; omega; omega; conv => whnf)
                      | (refine ⟨⟨?_, ?_, ?_⟩, ?_⟩; rfl; omega; omega; conv => whnf)
                      | (refine ⟨rfl, ?_, ?_⟩; decide; conv => whnf))
                    try exact rfl
                    refine ⟨vi ?_⟩
                    rw [e]; unfold chkN; rw [if_pos (by omega)]; rfl
                · by_cases c7 : 240 ≤ by_ s p ∧ by_ s p ≤ 244
                  · skip
                    have e : utfN s p = chkN (s.size - p) (by_ s (p + 1)) (by_ s (p + 2)) (by_ s (p + 3)) 4 128 191 := by
                      unfold utfN utfR
                      repeat' split
                      all_goals first | rfl | (exfalso; omega)
                    by_cases d1 : p + 4 ≤ s.size
                    · have hb1 : ((s.data.toList.getD (IntKind.i64.wrap ((p : Int) + 1)).toNat 0).toNat : Int) = (by_ s (p + 1) : Int) := by rw [hw1, Int.toNat_natCast, getD_by s (p + 1) (by omega)]
                      by_cases d2 : 128 ≤ by_ s (p + 1)
                      · by_cases d3 : by_ s (p + 1) ≤ 191
                        · repeat (first
                            | (refine sel_yes ?_ ?_; (first | assumption | (simp only [beq_iff_eq, bne_iff_ne, beq_eq_false_iff_ne, bne_eq_false_iff_eq, decide_eq_true_eq, decide_eq_false_iff_not, Bool.not_eq_true', Bool.not_eq_false', ne_eq, beq_true, beq_false, bne_self_eq_false, not_true_eq_false, not_false_eq_true, gt_iff_lt, ge_iff_le, Int.not_lt, Int.not_le, Bool.true_eq_false, Bool.false_eq_true] <;> omega)); conv => whnf)
                            | (refine sel_no ?_ ?_; (first | assumption | (simp only [beq_iff_eq, bne_iff_ne, beq_eq_false_iff_ne, bne_eq_false_iff_eq, decide_eq_true_eq, decide_eq_false_iff_not, Bool.not_eq_true', Bool.not_eq_false', ne_eq, beq_true, beq_false, bne_self_eq_false, not_true_eq_false, not_false_eq_true, gt_iff_lt, ge_iff_le, Int.not_lt, Int.not_le, Bool.true_eq_false, Bool.false_eq_true] <;> omega)); conv => whnf)
                            | (refine ⟨le_rfl' ?_, ?_⟩; rfl; conv => whnf)
                            | (refine ⟨⟨?_, ?_⟩, ?_⟩; omega; omega; conv => whnf)
                            | (refine ⟨⟨?_, ?_, ?_⟩, ?_⟩; rfl; omega; omega; conv => whnf)
                            | (refine ⟨rfl, ?_, ?_⟩; decide; conv => whnf))
                          try exact rfl
                          refine lutf2 s p hp hs 4 (by decide) d1 _ _ 2 2 _ rfl (by decide) (by decide) ⟨rfl, rfl, rfl, rfl, trivial⟩ rfl (fun z a b => ?_) (fun z a b => ?_)
                          · refine Fin.tmp (i := 4) rfl a (vi ?_)
                            rw [e]
                            unfold chkN
                            repeat' split
                            all_goals first | rfl | (exfalso; exact b (fun j h1 h2 => by (have : j = 2 ∨ j = 3 := by omega); rcases this with rfl | rfl <;> omega))
                          · rw [St.knows _ z.hp.n a rfl]
                            have b2 := b 2 (by decide) (by decide)
                            have b3 := b 3 (by decide) (by decide)
                            conv => whnf
                            refine ⟨vi ?_⟩
                            rw [e]
                            unfold chkN
                            repeat' split
                            all_goals first | rfl | (exfalso; omega)
                        · repeat (first
                            | (refine sel_yes ?_ ?_; (first | assumption | (simp only [beq_iff_eq, bne_iff_ne, beq_eq_false_iff_ne, bne_eq_false_iff_eq, decide_eq_true_eq, decide_eq_false_iff_not, Bool.not_eq_true', Bool.not_eq_false', ne_eq, beq_true, beq_false, bne_self_eq_false, not_true_eq_false, not_false_eq_true, gt_iff_lt, ge_iff_le, Int.not_lt, Int.not_le, Bool.true_eq_false, Bool.false_eq_true] <;> omega)); conv => whnf)
                            | (refine sel_no ?_ ?_; (first | assumption | (simp only [beq_iff_eq, bne_iff_ne, beq_eq_false_iff_ne, bne_eq_false_iff_eq, decide_eq_true_eq, decide_eq_false_iff_not, Bool.not_eq_true', Bool.not_eq_false', ne_eq, beq_true, beq_false, bne_self_eq_false, not_true_eq_false, not_false_eq_true, gt_iff_lt, ge_iff_le, Int.not_lt, Int.not_le, Bool.true_eq_false, Bool.false_eq_true] <;> omega)); conv => whnf)
                            | (refine ⟨le_rfl' ?_, ?_⟩; rfl; conv => whnf)
                            | (refine ⟨⟨?_, ?_⟩, ?_⟩; omega; omega; conv => whnf)
                            | (refine ⟨⟨?_, ?_, ?_⟩, ?_⟩; rfl; omega; omega; conv => whnf)
                            | (refine ⟨rfl, ?_, ?_⟩; decide; conv => whnf))
                          try exact rfl
                          refine ⟨vi ?_⟩
                          rw [e]; unfold chkN; rw [if_neg (by omega), if_pos (by omega)]; rfl
                      · repeat (first
                          | (refine sel_yes ?_ ?_; (first | assumption | (simp only [beq_iff_eq, bne_iff_ne, beq_eq_false_iff_ne, bne_eq_false_iff_eq, decide_eq_true_eq, decide_eq_false_iff_not, Bool.not_eq_true', Bool.not_eq_false', ne_eq, beq_true, beq_false, bne_self_eq_false, not_true_eq_false, not_false_eq_true, gt_iff_lt, ge_iff_le, Int.not_lt, Int.not_le, Bool.true_eq_false, Bool.false_eq_true] <;> omega)); conv => whnf)
                          | (refine sel_no ?_ ?_; (first | assumption | (simp only [beq_iff_eq, bne_iff_ne, beq_eq_false_iff_ne, bne_eq_false_iff_eq, decide_eq_true_eq, decide_eq_false_iff_not, Bool.not_eq_true', Bool.not_eq_false', ne_eq, beq_true, beq_false, bne_self_eq_false, not_true_eq_false, not_false_eq_true, gt_iff_lt, ge_iff_le, Int.not_lt, Int.not_le, Bool.true_eq_false, Bool.false_eq_true] <;> omega)); conv => whnf)
                          | (refine ⟨le_rfl' ?_, ?_⟩; rfl; conv => whnf)
                          | (refine ⟨⟨?_, ?_⟩, ?_⟩; omega; omega; conv => whnf)
                          | (refine ⟨⟨?_, ?_, ?_⟩, ?_⟩; rfl; omega; omega; conv => whnf)
                          | (refine ⟨rfl, ?_, ?_⟩; decide; conv => whnf))
                        try exact rfl
                        refine ⟨vi ?_⟩
                        rw [e]; unfold chkN; rw [if_neg (by omega), if_pos (by omega)]; rfl
                    · repeat (first
                        | (refine sel_yes ?_ ?_; (first | assumption | (simp only [beq_iff_eq, bne_iff_ne, beq_eq_false_iff_ne, bne_eq_false_iff_eq, decide_eq_true_eq, decide_eq_false_iff_not, Bool.not_eq_true', Bool.not_eq_false', ne_eq, beq_true, beq_false, bne_self_eq_false, not_true_eq_false, not_false_eq_true, gt_iff_lt, ge_iff_le, Int.not_lt, Int.not_le, Bool.true_eq_false, Bool.false_eq_true] <;> omega)); conv => whnf)
                        | (refine sel_no ?_ ?_; (first | assumption | (simp only [beq_iff_eq, bne_iff_ne, beq_eq_false_iff_ne, bne_eq_false_iff_eq, decide_eq_true_eq, decide_eq_false_iff_not, Bool.not_eq_true', Bool.not_eq_false', ne_eq, beq_true, beq_false, bne_self_eq_false, not_true_eq_false, not_false_eq_true, gt_iff_lt, ge_iff_le, Int.not_lt, Int.not_le, Bool.true_eq_false, Bool.false_eq_true] <;> omega)); conv => whnf)
                        | (refine ⟨le_rfl' ?_, ?_⟩; rfl; conv => whnf)
                        | (refine ⟨⟨?_, ?_⟩, ?_⟩; omega; omega; conv => whnf)
                        | (refine ⟨⟨?_, ?_, ?_⟩, ?_⟩; rfl; omega; omega; conv => whnf)
                        | (refine ⟨rfl, ?_, ?_⟩; decide; conv => whnf))
                      try exact rfl
                      refine ⟨vi ?_⟩
                      rw [e]; unfold chkN; rw [if_pos (by omega)]; rfl
                  · have e : utfN s p = 0 := by
                      unfold utfN utfR
                      repeat' split
                      all_goals first | rfl | (exfalso; omega)
                    by_cases c9 : by_ s p < 194
                    · repeat (first
                        | (refine sel_yes ?_ ?_; (first | assumption | (simp only [beq_iff_eq, bne_iff_ne, beq_eq_false_iff_ne, bne_eq_false_iff_eq, decide_eq_true_eq, decide_eq_false_iff_not, Bool.not_eq_true', Bool.not_eq_false', ne_eq, beq_true, beq_false, bne_self_eq_false, not_true_eq_false, not_false_eq_true, gt_iff_lt, ge_iff_le, Int.not_lt, Int.not_le, Bool.true_eq_false, Bool.false_eq_true] <;> omega)); conv => whnf)
                        | (refine sel_no ?_ ?_; (first | assumption | (simp only [beq_iff_eq, bne_iff_ne, beq_eq_false_iff_ne, bne_eq_false_iff_eq, decide_eq_true_eq, decide_eq_false_iff_not, Bool.not_eq_true', Bool.not_eq_false', ne_eq, beq_true, beq_false, bne_self_eq_false, not_true_eq_false, not_false_eq_true, gt_iff_lt, ge_iff_le, Int.not_lt, Int.not_le, Bool.true_eq_false, Bool.false_eq_true] <;> omega)); conv => whnf)
                        | (refine ⟨le_rfl' ?_, ?_⟩; rfl; conv => whnf)
                        | (refine ⟨⟨?_, ?_⟩, ?_⟩; omega; omega; conv => whnf)
                        | (refine ⟨⟨?_, ?_, ?_⟩, ?_⟩; rfl; omega; omega; conv => whnf)
                        | (refine ⟨rfl, ?_, ?_⟩; decide; conv => whnf))
                      try exact rfl
                      exact ⟨vi (by rw [e]; rfl)⟩
                    · repeat (first
                        | (refine sel_yes ?_ ?_; (first | assumption | (simp only [beq_iff_eq, bne_iff_ne, beq_eq_false_iff_ne, bne_eq_false_iff_eq, decide_eq_true_eq, decide_eq_false_iff_not, Bool.not_eq_true', Bool.not_eq_false', ne_eq, beq_true, beq_false, bne_self_eq_false, not_true_eq_false, not_false_eq_true, gt_iff_lt, ge_iff_le, Int.not_lt, Int.not_le, Bool.true_eq_false, Bool.false_eq_true] <;> omega)); conv => whnf)
                        | (refine sel_no ?_ ?_; (first | assumption | (simp only [beq_iff_eq, bne_iff_ne, beq_eq_false_iff_ne, bne_eq_false_iff_eq, decide_eq_true_eq, decide_eq_false_iff_not, Bool.not_eq_true', Bool.not_eq_false', ne_eq, beq_true, beq_false, bne_self_eq_false, not_true_eq_false, not_false_eq_true, gt_iff_lt, ge_iff_le, Int.not_lt, Int.not_le, Bool.true_eq_false, Bool.false_eq_true] <;> omega)); conv => whnf)
                        | (refine ⟨le_rfl' ?_, ?_⟩; rfl; conv => whnf)
                        | (refine ⟨⟨?_, ?_⟩, ?_⟩; omega; omega; conv => whnf)
                        | (refine ⟨⟨?_, ?_, ?_⟩, ?_⟩; rfl; omega; omega; conv => whnf)
                        | (refine ⟨rfl, ?_, ?_⟩; decide; conv => whnf))
                      try exact rfl
                      exact ⟨vi (by rw [e]; rfl)⟩
  obtain ⟨r, h, rfl⟩ := key
  exact h
end
end Go.Proofs.YtbekoaalaofloaaGreatDoor.AB
end

section
set_option linter.unusedVariables false
set_option linter.unusedSimpArgs false
open Go Go.Ab Go.Proofs Go.Vl
namespace Go.Proofs.YtbekoaalaofloaaGreatDoor.AB
set_option maxRecDepth 100000
set_option maxHeartbeats 8000000
set_option linter.unusedSimpArgs false
section
variable {ext : Exts}
/-- how many letters a text has from a place on; none: it is no UTF-8 -/
def lettersF (s : ByteArray) : Nat → Nat → Option Nat
  | 0, _ => some 0
  | f + 1, p => if p < s.size then (if utfN s p = 0 then none else (lettersF s f (p + utfN s p)).map (· + 1)) else some 0
theorem utfGo_letters (s : ByteArray) : ∀ (f p : Nat), (lettersF s f p).isSome = utfGo s f p
  | 0, p => rfl
  | f + 1, p => by
    simp only [lettersF, utfGo]
    by_cases h : p < s.size
    · rw [if_pos h, if_pos h]
      rcases utfN_dec s p with ⟨e, hb⟩ | ⟨e, h0, hb⟩
      · rw [if_pos e, if_pos (show (Utf8.decode s p).1 = 65533 ∧ (Utf8.decode s p).2 = 1 from hb)]; rfl
      · rw [if_neg (by omega), if_neg (show ¬ ((Utf8.decode s p).1 = 65533 ∧ (Utf8.decode s p).2 = 1) from hb), e]
        rw [← utfGo_letters s f]
        cases lettersF s f (p + (Utf8.decode s p).2) <;> rfl
    · rw [if_neg h, if_neg h]; rfl
theorem lletters (hn : Non ext) (s : ByteArray) (hs : s.size ≤ 4611686018427387904) (Q : Ex → St → Prop) (f : Nat) :
    ∀ (p c : Nat) (z : St), s.size ≤ p + f → p ≤ s.size + 4 → c ≤ p → Has z.t [(4, .int .i64 p), (3, .int .i64 c), (0, .str s)] → z.hp.n = 3 →
      (∀ z' : St, z'.t 2 = .int .i64 (-1) → lettersF s f p = none → Q .ret z') →
      (∀ (z' : St) (k : Nat), Has z'.t [(3, .int .i64 ((c + k : Nat) : Int))] → lettersF s f p = some k → Q (.exit 0) z') →
      Go.Ab.Loop (cfg ext) (lpOf Tryz.f43) 3 z Q := by
  induction f with
  | zero =>
    intro p c z hf hp hc ht hz hr hq
    have g : decide ((p : Int) < (s.size : Int)) = false := decide_eq_false (by omega)
    rw [St.knows _ _ ht hz]
    refine Loop.round ?_
    conv => whnf
    repeat (first
      | (refine sel_yes ?_ ?_; (first | assumption | (simp only [beq_iff_eq, bne_iff_ne, beq_eq_false_iff_ne, bne_eq_false_iff_eq, decide_eq_true_eq, decide_eq_false_iff_not, Bool.not_eq_true', Bool.not_eq_false', ne_eq, beq_true, beq_false, bne_self_eq_false, not_true_eq_false, not_false_eq_true, gt_iff_lt, ge_iff_le, Int.not_lt, Int.not_le, Bool.true_eq_false, Bool.false_eq_true] <;> omega)); conv => whnf)
      | (refine sel_no ?_ ?_; (first | assumption | (simp only [beq_iff_eq, bne_iff_ne, beq_eq_false_iff_ne, bne_eq_false_iff_eq, decide_eq_true_eq, decide_eq_false_iff_not, Bool.not_eq_true', Bool.not_eq_false', ne_eq, beq_true, beq_false, bne_self_eq_false, not_true_eq_false, not_false_eq_true, gt_iff_lt, ge_iff_le, Int.not_lt, Int.not_le, Bool.true_eq_false, Bool.false_eq_true] <;> omega)); conv => whnf)
      | (refine ⟨le_rfl' ?_, ?_⟩; rfl; conv => whnf)
      | (refine ⟨⟨?_, ?_⟩, ?_⟩; omega; omega; conv => whnf)
      | (refine ⟨⟨?_, ?_, ?_⟩, ?_⟩; rfl; omega; omega; conv => whnf)
      | (refine ⟨rfl, ?_, ?_⟩; decide; conv => whnf))
    try exact rfl
    exact hq _ 0 ⟨rfl, trivial⟩ rfl
  | succ f ih =>
    intro p c z hf hp hc ht hz hr hq
    by_cases h : p < s.size
    · have g : decide ((p : Int) < (s.size : Int)) = true := decide_eq_true (by omega)
      have hu := rutf hn s p h hs
      have el : lettersF s (f + 1) p = if utfN s p = 0 then none else (lettersF s f (p + utfN s p)).map (· + 1) := by simp only [lettersF]; rw [if_pos h]
      by_cases h0 : utfN s p = 0
      · rw [if_pos h0] at el
        rw [h0] at hu
        rw [St.knows _ _ ht hz]
        refine Loop.round ?_
        conv => whnf
        repeat (first
          | (refine sel_yes ?_ ?_; (first | assumption | (simp only [beq_iff_eq, bne_iff_ne, beq_eq_false_iff_ne, bne_eq_false_iff_eq, decide_eq_true_eq, decide_eq_false_iff_not, Bool.not_eq_true', Bool.not_eq_false', ne_eq, beq_true, beq_false, bne_self_eq_false, not_true_eq_false, not_false_eq_true, gt_iff_lt, ge_iff_le, Int.not_lt, Int.not_le, Bool.true_eq_false, Bool.false_eq_true] <;> omega)); conv => whnf)
          | (refine sel_no ?_ ?_; (first | assumption | (simp only [beq_iff_eq, bne_iff_ne, beq_eq_false_iff_ne, bne_eq_false_iff_eq, decide_eq_true_eq, decide_eq_false_iff_not, Bool.not_eq_true', Bool.not_eq_false', ne_eq, beq_true, beq_false, bne_self_eq_false, not_true_eq_false, not_false_eq_true, gt_iff_lt, ge_iff_le, Int.not_lt, Int.not_le, Bool.true_eq_false, Bool.false_eq_true] <;> omega)); conv => whnf)
          | (refine ⟨_, hu, ?_⟩; conv => whnf)
          | (refine ⟨le_rfl' ?_, ?_⟩; rfl; conv => whnf)
          | (refine ⟨⟨?_, ?_⟩, ?_⟩; omega; omega; conv => whnf)
          | (refine ⟨⟨?_, ?_, ?_⟩, ?_⟩; rfl; omega; omega; conv => whnf)
          | (refine ⟨rfl, ?_, ?_⟩; decide; conv => whnf))
        try exact rfl
        exact hr _ rfl el
      · rw [if_neg h0] at el
        have hle : utfN s p ≤ 4 := by
          rcases utfN_dec s p with ⟨e, _⟩ | ⟨e, _, _⟩
          · omega
          · have := dec_le s p; omega
        have g0 : ((utfN s p : Int) == 0) = false := by rw [beq_eq_false_iff_ne]; omega
        have hw1 : IntKind.i64.wrap ((p : Int) + (utfN s p : Int)) = ((p + utfN s p : Nat) : Int) := by rw [IntKind.wrap_i64]; omega
        have hw2 : IntKind.i64.wrap ((c : Int) + 1) = ((c + 1 : Nat) : Int) := by rw [IntKind.wrap_i64]; omega
        rw [St.knows _ _ ht hz]
        refine Loop.round ?_
        conv => whnf
        repeat (first
          | (refine sel_yes ?_ ?_; (first | assumption | (simp only [beq_iff_eq, bne_iff_ne, beq_eq_false_iff_ne, bne_eq_false_iff_eq, decide_eq_true_eq, decide_eq_false_iff_not, Bool.not_eq_true', Bool.not_eq_false', ne_eq, beq_true, beq_false, bne_self_eq_false, not_true_eq_false, not_false_eq_true, gt_iff_lt, ge_iff_le, Int.not_lt, Int.not_le, Bool.true_eq_false, Bool.false_eq_true] <;> omega)); conv => whnf)
          | (refine sel_no ?_ ?_; (first | assumption | (simp only [beq_iff_eq, bne_iff_ne, beq_eq_false_iff_ne, bne_eq_false_iff_eq, decide_eq_true_eq, decide_eq_false_iff_not, Bool.not_eq_true', Bool.not_eq_false', ne_eq, beq_true, beq_false, bne_self_eq_false, not_true_eq_false, not_false_eq_true, gt_iff_lt, ge_iff_le, Int.not_lt, Int.not_le, Bool.true_eq_false, Bool.false_eq_true] <;> omega)); conv => whnf)
          | (refine ⟨_, hu, ?_⟩; conv => whnf)
          | (refine ⟨le_rfl' ?_, ?_⟩; rfl; conv => whnf)
          | (refine ⟨⟨?_, ?_⟩, ?_⟩; omega; omega; conv => whnf)
          | (refine ⟨⟨?_, ?_, ?_⟩, ?_⟩; rfl; omega; omega; conv => whnf)
          | (refine ⟨rfl, ?_, ?_⟩; decide; conv => whnf))
        try exact rfl
        refine ih (p + utfN s p) (c + 1) _ (by omega) (by omega) (by omega) ⟨?_, ?_, rfl, trivial⟩ rfl (fun z' a b => hr z' a (by rw [el, b]; rfl)) (fun z' k a b => hq z' (k + 1) (by rw [show c + (k + 1) = c + 1 + k by omega]; exact a) (by rw [el, b]; rfl))
        · conv => lhs; whnf
          exact vi hw1
        · conv => lhs; whnf
          exact vi hw2
    · have g : decide ((p : Int) < (s.size : Int)) = false := decide_eq_false (by omega)
      rw [St.knows _ _ ht hz]
      refine Loop.round ?_
      conv => whnf
      repeat (first
        | (refine sel_yes ?_ ?_; (first | assumption | (simp only [beq_iff_eq, bne_iff_ne, beq_eq_false_iff_ne, bne_eq_false_iff_eq, decide_eq_true_eq, decide_eq_false_iff_not, Bool.not_eq_true', Bool.not_eq_false', ne_eq, beq_true, beq_false, bne_self_eq_false, not_true_eq_false, not_false_eq_true, gt_iff_lt, ge_iff_le, Int.not_lt, Int.not_le, Bool.true_eq_false, Bool.false_eq_true] <;> omega)); conv => whnf)
        | (refine sel_no ?_ ?_; (first | assumption | (simp only [beq_iff_eq, bne_iff_ne, beq_eq_false_iff_ne, bne_eq_false_iff_eq, decide_eq_true_eq, decide_eq_false_iff_not, Bool.not_eq_true', Bool.not_eq_false', ne_eq, beq_true, beq_false, bne_self_eq_false, not_true_eq_false, not_false_eq_true, gt_iff_lt, ge_iff_le, Int.not_lt, Int.not_le, Bool.true_eq_false, Bool.false_eq_true] <;> omega)); conv => whnf)
        | (refine ⟨le_rfl' ?_, ?_⟩; rfl; conv => whnf)
        | (refine ⟨⟨?_, ?_⟩, ?_⟩; omega; omega; conv => whnf)
        | (refine ⟨⟨?_, ?_, ?_⟩, ?_⟩; rfl; omega; omega; conv => whnf)
        | (refine ⟨rfl, ?_, ?_⟩; decide; conv => whnf))
      try exact rfl
      exact hq _ 0 ⟨rfl, trivial⟩ (by simp only [lettersF]; rw [if_neg h])
/-- how many letters a text has; below 0: it is no UTF-8 -/
def lettersZ (s : ByteArray) : Int := match lettersF s s.size 0 with | some k => k | none => -1
theorem rletters (hn : Non ext) (s : ByteArray) (hs : s.size ≤ 4611686018427387904) : (cfg ext).Ev 43 [.str s] (.int .i64 (lettersZ s)) := by
  have key : ∃ r, (cfg ext).Ev 43 [.str s] r ∧ r = .int .i64 (lettersZ s) := by
    refine Ev.ofF (hn 43 (by decide) (by decide)) Tryz.func43 rfl rfl ?_
    conv => whnf
    refine lletters hn s hs _ s.size 0 0 _ (by omega) (by omega) (Nat.le_refl _) ⟨rfl, rfl, rfl, trivial⟩ rfl (fun z a b => ?_) (fun z k a b => ?_)
    · exact Fin.tmp (i := 2) rfl a (vi (by unfold lettersZ; rw [b]))
    · rw [St.knows _ z.hp.n a rfl]
      conv => whnf
      exact ⟨vi (by unfold lettersZ; rw [b]; simp)⟩
  obtain ⟨r, h, rfl⟩ := key
  exact h
theorem letters_ok (s : ByteArray) : decide (lettersZ s ≥ 0) = utfB s := by
  have := utfGo_letters s s.size 0
  unfold utfB
  rw [← this]
  unfold lettersZ
  cases lettersF s s.size 0 with
  | none => rfl
  | some k => simp
end
end Go.Proofs.YtbekoaalaofloaaGreatDoor.AB
end

section
set_option linter.unusedVariables false
set_option linter.unusedSimpArgs false
open Go Go.Ab Go.Proofs Go.Vl
namespace Go.Proofs.YtbekoaalaofloaaGreatDoor.AB
set_option maxRecDepth 100000
set_option maxHeartbeats 1600000
section
variable {ext : Exts}
/-- how many runes a text has from a place on -/
def runesF (s : ByteArray) : Nat → Nat → Nat
  | 0, _ => 0
  | f + 1, p => if p < s.size then runesF s f (p + (Utf8.decode s p).2) + 1 else 0
theorem lrunes (s : ByteArray) (hs : s.size ≤ 4611686018427387904) (Q : Ex → St → Prop) (d : Nat) :
    ∀ (p c : Nat) (z : St), s.size ≤ p + d → p ≤ s.size + 4 → c ≤ p → Has z.t [(4, .ref 2 0), (2, .int .i64 c)] → Has z.hp.h [(2, some (.iter s p))] → z.hp.n = 3 →
      (∀ z', z'.t 2 = .int .i64 ((c + runesF s d p : Nat) : Int) → Q (.exit 0) z') →
      Go.Ab.Loop (cfg ext) (lpOf Tryz.f85) 3 z Q := by
  induction d with
  | zero =>
    intro p c z hd hp hc hz hb hn hq
    have g : decide (p < s.size) = false := decide_eq_false (by omega)
    rw [St.knows _ _ hz hn _ hb]
    refine Loop.round ?_
    conv => whnf
    refine sel_no g ?_
    conv => whnf
    exact hq _ rfl
  | succ d ih =>
    intro p c z hd hp hc hz hb hn hq
    by_cases h : p < s.size
    · have hl := dec_le s p
      have g : decide (p < s.size) = true := decide_eq_true h
      have hw2 : IntKind.i64.wrap ((c : Int) + 1) = ((c + 1 : Nat) : Int) := by rw [IntKind.wrap_i64]; omega
      have er : runesF s (d + 1) p = runesF s d (p + (Utf8.decode s p).2) + 1 := by simp only [runesF]; rw [if_pos h]
      rw [St.knows _ _ hz hn _ hb]
      refine Loop.round ?_
      conv => whnf
      refine sel_yes g ?_
      conv => whnf
      refine ih (p + (Utf8.decode s p).2) (c + 1) _ (by omega) (by omega) (by omega) ⟨rfl, ?_, trivial⟩ ⟨rfl, trivial⟩ rfl (fun z' a => hq z' (by rw [er, show c + (runesF s d (p + (Utf8.decode s p).2) + 1) = c + 1 + runesF s d (p + (Utf8.decode s p).2) by omega]; exact a))
      conv => lhs; whnf
      exact vi hw2
    · have g : decide (p < s.size) = false := decide_eq_false h
      rw [St.knows _ _ hz hn _ hb]
      refine Loop.round ?_
      conv => whnf
      refine sel_no g ?_
      conv => whnf
      have e0 : runesF s (d + 1) p = 0 := by simp only [runesF]; rw [if_neg h]
      rw [e0] at hq
      exact hq _ rfl
theorem trunes (hn : Non ext) (s : ByteArray) (hs : s.size ≤ 4611686018427387904) : (cfg ext).Ev 85 [.str s] (.int .i64 (runesF s s.size 0 : Nat)) := by
  have key : ∃ r, (cfg ext).Ev 85 [.str s] r ∧ r = .int .i64 (runesF s s.size 0 : Nat) := by
    refine Ev.ofE (hn 85 (by decide) (by decide)) Tryz.func85 rfl rfl ?_
    conv => whnf
    refine lrunes s hs _ s.size 0 0 _ (by omega) (by omega) (Nat.le_refl _) ⟨rfl, rfl, trivial⟩ ⟨rfl, trivial⟩ rfl (fun z h => ?_)
    rw [St.knows [(2, _)] _ ⟨h, trivial⟩ rfl]
    conv => whnf
    exact vi (by rw [Nat.zero_add])
  obtain ⟨r, h, rfl⟩ := key
  exact h
theorem letters_runesF (s : ByteArray) : ∀ (f p k : Nat), lettersF s f p = some k → runesF s f p = k
  | 0, p, k => fun h => by simp only [lettersF] at h; simp only [runesF]; injection h
  | f + 1, p, k => fun h => by
    simp only [lettersF] at h
    simp only [runesF]
    by_cases hp : p < s.size
    · rw [if_pos hp] at h ⊢
      rcases utfN_dec s p with ⟨e, hb⟩ | ⟨e, h0, hb⟩
      · rw [if_pos e] at h; cases h
      · rw [if_neg (by omega), e] at h
        cases he : lettersF s f (p + (Utf8.decode s p).2) with
        | none => rw [he] at h; cases h
        | some j =>
          rw [he] at h
          have := letters_runesF s f _ j he
          rw [this]
          injection h
    · rw [if_neg hp] at h ⊢
      injection h
/-- in a text that is UTF-8 the reference counts the letters that the program counts -/
theorem letters_runes (s : ByteArray) (h : utfB s = true) : lettersZ s = (runesF s s.size 0 : Nat) := by
  have h1 := letters_ok s
  rw [h] at h1
  have h2 : lettersZ s ≥ 0 := of_decide_eq_true h1
  unfold lettersZ at h2 ⊢
  cases he : lettersF s s.size 0 with
  | none => rw [he] at h2; exact absurd (show ((-1 : Int) ≥ 0) from h2) (by decide)
  | some k => rw [letters_runesF s _ _ k he]
end
end Go.Proofs.YtbekoaalaofloaaGreatDoor.AB
end

section
set_option linter.unusedVariables false
set_option linter.unusedSimpArgs false
open Go Go.Ab Go.Proofs Go.Vl
namespace Go.Proofs.YtbekoaalaofloaaGreatDoor.AB
set_option maxRecDepth 100000
set_option maxHeartbeats 8000000
set_option linter.unusedSimpArgs false
section
variable {ext : Exts}
theorem tm8 (b : Nat) : Int.tmod (b : Int) 8 = ((b % 8 : Nat) : Int) := by rw [Int.tmod_eq_emod_of_nonneg (by omega)]; rfl
theorem tm16 (b : Nat) : Int.tmod (b : Int) 16 = ((b % 16 : Nat) : Int) := by rw [Int.tmod_eq_emod_of_nonneg (by omega)]; rfl
theorem tm32 (b : Nat) : Int.tmod (b : Int) 32 = ((b % 32 : Nat) : Int) := by rw [Int.tmod_eq_emod_of_nonneg (by omega)]; rfl
theorem tm64 (b : Nat) : Int.tmod (b : Int) 64 = ((b % 64 : Nat) : Int) := by rw [Int.tmod_eq_emod_of_nonneg (by omega)]; rfl
theorem vtup2 {a b c d : V} (h1 : a = c) (h2 : b = d) : V.tup [a, b] = V.tup [c, d] := by rw [h1, h2]
theorem rcode (hn : Non ext) (x : ByteArray) (h : 0 < x.size) (hs : x.size ≤ 4611686018427387904) (hb : ¬ badD (Utf8.decode x 0)) :
    (cfg ext).Ev 77 [.str x] (.tup [.int .i64 (Utf8.decode x 0).1, .int .i64 (Utf8.decode x 0).2]) := by
  have l0 := by_lt x 0
  have l1 := by_lt x 1
  have l2 := by_lt x 2
  have l3 := by_lt x 3
  have key : ∃ r, (cfg ext).Ev 77 [.str x] r ∧ r = (.tup [.int .i64 (Utf8.decode x 0).1, .int .i64 (Utf8.decode x 0).2]) := by
    rw [Lib.decode_at] at hb ⊢
    have q0 : (x.get! 0).toNat = by_ x 0 := rfl
    have q1 : (x.get! (0 + 1)).toNat = by_ x 1 := rfl
    have q2 : (x.get! (0 + 2)).toNat = by_ x 2 := rfl
    have q3 : (x.get! (0 + 3)).toNat = by_ x 3 := rfl
    rw [q0, q1, q2, q3, Nat.sub_zero] at hb ⊢
    have hb0 : ((x.data.toList.getD (0 : Int).toNat 0).toNat : Int) = (by_ x 0 : Int) := by rw [show (0 : Int).toNat = 0 from rfl, getD_by x 0 h]
    have w0 : IntKind.i64.wrap (by_ x 0 : Int) = (by_ x 0 : Int) := by rw [IntKind.wrap_i64]; omega
    have w1 : IntKind.i64.wrap (by_ x 1 : Int) = (by_ x 1 : Int) := by rw [IntKind.wrap_i64]; omega
    have w2 : IntKind.i64.wrap (by_ x 2 : Int) = (by_ x 2 : Int) := by rw [IntKind.wrap_i64]; omega
    have w3 : IntKind.i64.wrap (by_ x 3 : Int) = (by_ x 3 : Int) := by rw [IntKind.wrap_i64]; omega
    have hc0 : IntKind.i64.wrap ((x.data.toList.getD (0 : Int).toNat 0).toNat : Int) = (by_ x 0 : Int) := by rw [hb0, w0]
    rcases Lib.decodeN_shape x.size (by_ x 0) (by_ x 1) (by_ x 2) (by_ x 3) with ⟨c, e⟩ | ⟨c1, c2, c3, cv, e⟩ | ⟨c1, c2, c3, c4, cv, cs, e⟩ | ⟨c1, c2, c3, c4, c5, cv, cw, e⟩ | e
    · rw [e]
      refine Ev.ofE (hn 77 (by decide) (by decide)) Tryz.func77 rfl rfl ?_
      conv => whnf
      repeat (first
        | (refine sel_yes ?_ ?_; (first | assumption | (simp only [beq_iff_eq, bne_iff_ne, beq_eq_false_iff_ne, bne_eq_false_iff_eq, decide_eq_true_eq, decide_eq_false_iff_not, Bool.not_eq_true', Bool.not_eq_false', ne_eq, beq_true, beq_false, bne_self_eq_false, not_true_eq_false, not_false_eq_true, gt_iff_lt, ge_iff_le, Int.not_lt, Int.not_le, Bool.true_eq_false, Bool.false_eq_true] <;> omega)); conv => whnf)
        | (refine sel_no ?_ ?_; (first | assumption | (simp only [beq_iff_eq, bne_iff_ne, beq_eq_false_iff_ne, bne_eq_false_iff_eq, decide_eq_true_eq, decide_eq_false_iff_not, Bool.not_eq_true', Bool.not_eq_false', ne_eq, beq_true, beq_false, bne_self_eq_false, not_true_eq_false, not_false_eq_true, gt_iff_lt, ge_iff_le, Int.not_lt, Int.not_le, Bool.true_eq_false, Bool.false_eq_true] <;> omega)); conv => whnf)
        | (refine ⟨le_rfl' ?_, ?_⟩; rfl; conv => whnf)
        | (refine ⟨⟨?_, ?_⟩, ?_⟩; omega; omega; conv => whnf)
        | (refine ⟨⟨?_, ?_, ?_⟩, ?_⟩; rfl; omega; omega; conv => whnf)
        | (refine ⟨rfl, ?_, ?_⟩; decide; conv => whnf))
      try exact rfl
      exact vtup2 (vi hc0) rfl
    · rw [e]
      have hb1 : ((x.data.toList.getD (1 : Int).toNat 0).toNat : Int) = (by_ x 1 : Int) := by rw [show (1 : Int).toNat = 1 from rfl, getD_by x 1 (by omega)]
      have hc1 : IntKind.i64.wrap ((x.data.toList.getD (1 : Int).toNat 0).toNat : Int) = (by_ x 1 : Int) := by rw [hb1, w1]
      refine Ev.ofE (hn 77 (by decide) (by decide)) Tryz.func77 rfl rfl ?_
      conv => whnf
      repeat (first
        | (refine sel_yes ?_ ?_; (first | assumption | (simp only [beq_iff_eq, bne_iff_ne, beq_eq_false_iff_ne, bne_eq_false_iff_eq, decide_eq_true_eq, decide_eq_false_iff_not, Bool.not_eq_true', Bool.not_eq_false', ne_eq, beq_true, beq_false, bne_self_eq_false, not_true_eq_false, not_false_eq_true, gt_iff_lt, ge_iff_le, Int.not_lt, Int.not_le, Bool.true_eq_false, Bool.false_eq_true] <;> omega)); conv => whnf)
        | (refine sel_no ?_ ?_; (first | assumption | (simp only [beq_iff_eq, bne_iff_ne, beq_eq_false_iff_ne, bne_eq_false_iff_eq, decide_eq_true_eq, decide_eq_false_iff_not, Bool.not_eq_true', Bool.not_eq_false', ne_eq, beq_true, beq_false, bne_self_eq_false, not_true_eq_false, not_false_eq_true, gt_iff_lt, ge_iff_le, Int.not_lt, Int.not_le, Bool.true_eq_false, Bool.false_eq_true] <;> omega)); conv => whnf)
        | (refine ⟨le_rfl' ?_, ?_⟩; rfl; conv => whnf)
        | (refine ⟨⟨?_, ?_⟩, ?_⟩; omega; omega; conv => whnf)
        | (refine ⟨⟨?_, ?_, ?_⟩, ?_⟩; rfl; omega; omega; conv => whnf)
        | (refine ⟨rfl, ?_, ?_⟩; decide; conv => whnf))
      try exact rfl
      refine vtup2 (vi ?_) rfl
      show _ = ((by_ x 0 % 32 * 64 + by_ x 1 % 64 : Nat) : Int)
      rw [hc0, hc1, tm32 (by_ x 0), tm64 (by_ x 1)]
      have e1 : IntKind.i64.wrap (((by_ x 0 % 32 : Nat) : Int) * 64) = ((by_ x 0 % 32 * 64 : Nat) : Int) := by rw [IntKind.wrap_i64]; omega
      rw [e1, IntKind.wrap_i64]
      omega
    · rw [e]
      have hb1 : ((x.data.toList.getD (1 : Int).toNat 0).toNat : Int) = (by_ x 1 : Int) := by rw [show (1 : Int).toNat = 1 from rfl, getD_by x 1 (by omega)]
      have hc1 : IntKind.i64.wrap ((x.data.toList.getD (1 : Int).toNat 0).toNat : Int) = (by_ x 1 : Int) := by rw [hb1, w1]
      have hb2 : ((x.data.toList.getD (2 : Int).toNat 0).toNat : Int) = (by_ x 2 : Int) := by rw [show (2 : Int).toNat = 2 from rfl, getD_by x 2 (by omega)]
      have hc2 : IntKind.i64.wrap ((x.data.toList.getD (2 : Int).toNat 0).toNat : Int) = (by_ x 2 : Int) := by rw [hb2, w2]
      refine Ev.ofE (hn 77 (by decide) (by decide)) Tryz.func77 rfl rfl ?_
      conv => whnf
      repeat (first
        | (refine sel_yes ?_ ?_; (first | assumption | (simp only [beq_iff_eq, bne_iff_ne, beq_eq_false_iff_ne, bne_eq_false_iff_eq, decide_eq_true_eq, decide_eq_false_iff_not, Bool.not_eq_true', Bool.not_eq_false', ne_eq, beq_true, beq_false, bne_self_eq_false, not_true_eq_false, not_false_eq_true, gt_iff_lt, ge_iff_le, Int.not_lt, Int.not_le, Bool.true_eq_false, Bool.false_eq_true] <;> omega)); conv => whnf)
        | (refine sel_no ?_ ?_; (first | assumption | (simp only [beq_iff_eq, bne_iff_ne, beq_eq_false_iff_ne, bne_eq_false_iff_eq, decide_eq_true_eq, decide_eq_false_iff_not, Bool.not_eq_true', Bool.not_eq_false', ne_eq, beq_true, beq_false, bne_self_eq_false, not_true_eq_false, not_false_eq_true, gt_iff_lt, ge_iff_le, Int.not_lt, Int.not_le, Bool.true_eq_false, Bool.false_eq_true] <;> omega)); conv => whnf)
        | (refine ⟨le_rfl' ?_, ?_⟩; rfl; conv => whnf)
        | (refine ⟨⟨?_, ?_⟩, ?_⟩; omega; omega; conv => whnf)
        | (refine ⟨⟨?_, ?_, ?_⟩, ?_⟩; rfl; omega; omega; conv => whnf)
        | (refine ⟨rfl, ?_, ?_⟩; decide; conv => whnf))
      try exact rfl
      refine vtup2 (vi ?_) rfl
      show _ = ((by_ x 0 % 16 * 4096 + by_ x 1 % 64 * 64 + by_ x 2 % 64 : Nat) : Int)
      rw [hc0, hc1, hc2, tm16 (by_ x 0), tm64 (by_ x 1), tm64 (by_ x 2)]
      have e1 : IntKind.i64.wrap (((by_ x 0 % 16 : Nat) : Int) * 4096) = ((by_ x 0 % 16 * 4096 : Nat) : Int) := by rw [IntKind.wrap_i64]; omega
      have e2 : IntKind.i64.wrap (((by_ x 1 % 64 : Nat) : Int) * 64) = ((by_ x 1 % 64 * 64 : Nat) : Int) := by rw [IntKind.wrap_i64]; omega
      have e3 : IntKind.i64.wrap (((by_ x 0 % 16 * 4096 : Nat) : Int) + ((by_ x 1 % 64 * 64 : Nat) : Int)) = ((by_ x 0 % 16 * 4096 + by_ x 1 % 64 * 64 : Nat) : Int) := by rw [IntKind.wrap_i64]; omega
      rw [e1, e2, e3, IntKind.wrap_i64]
      omega
    · rw [e]
      have hb1 : ((x.data.toList.getD (1 : Int).toNat 0).toNat : Int) = (by_ x 1 : Int) := by rw [show (1 : Int).toNat = 1 from rfl, getD_by x 1 (by omega)]
      have hc1 : IntKind.i64.wrap ((x.data.toList.getD (1 : Int).toNat 0).toNat : Int) = (by_ x 1 : Int) := by rw [hb1, w1]
      have hb2 : ((x.data.toList.getD (2 : Int).toNat 0).toNat : Int) = (by_ x 2 : Int) := by rw [show (2 : Int).toNat = 2 from rfl, getD_by x 2 (by omega)]
      have hc2 : IntKind.i64.wrap ((x.data.toList.getD (2 : Int).toNat 0).toNat : Int) = (by_ x 2 : Int) := by rw [hb2, w2]
      have hb3 : ((x.data.toList.getD (3 : Int).toNat 0).toNat : Int) = (by_ x 3 : Int) := by rw [show (3 : Int).toNat = 3 from rfl, getD_by x 3 (by omega)]
      have hc3 : IntKind.i64.wrap ((x.data.toList.getD (3 : Int).toNat 0).toNat : Int) = (by_ x 3 : Int) := by rw [hb3, w3]
      refine Ev.ofE (hn 77 (by decide) (by decide)) Tryz.func77 rfl rfl ?_
      conv => whnf
      repeat (first
        | (refine sel_yes ?_ ?_; (first | assumption | (simp only [beq_iff_eq, bne_iff_ne, beq_eq_false_iff_ne, bne_eq_false_iff_eq, decide_eq_true_eq, decide_eq_false_iff_not, Bool.not_eq_true', Bool.not_eq_false', ne_eq, beq_true, beq_false, bne_self_eq_false, not_true_eq_false, not_false_eq_true, gt_iff_lt, ge_iff_le, Int.not_lt, Int.not_le, Bool.true_eq_false, Bool.false_eq_true] <;> omega)); conv => whnf)
        | (refine sel_no ?_ ?_; (first | assumption | (simp only [beq_iff_eq, bne_iff_ne, beq_eq_false_iff_ne, bne_eq_false_iff_eq, decide_eq_true_eq, decide_eq_false_iff_not, Bool.not_eq_true', Bool.not_eq_false', ne_eq, beq_true, beq_false, bne_self_eq_false, not_true_eq_false, not_false_eq_true, gt_iff_lt, ge_iff_le, Int.not_lt, Int.not_le, Bool.true_eq_false, Bool.false_eq_true] <;> omega)); conv => whnf)
        | (refine ⟨le_rfl' ?_, ?_⟩; rfl; conv => whnf)
        | (refine ⟨⟨?_, ?_⟩, ?_⟩; omega; omega; conv => whnf)
        | (refine ⟨⟨?_, ?_, ?_⟩, ?_⟩; rfl; omega; omega; conv => whnf)
        | (refine ⟨rfl, ?_, ?_⟩; decide; conv => whnf))
      try exact rfl
      refine vtup2 (vi ?_) rfl
      show _ = ((by_ x 0 % 8 * 262144 + by_ x 1 % 64 * 4096 + by_ x 2 % 64 * 64 + by_ x 3 % 64 : Nat) : Int)
      rw [hc0, hc1, hc2, hc3, tm8 (by_ x 0), tm64 (by_ x 1), tm64 (by_ x 2), tm64 (by_ x 3)]
      have e1 : IntKind.i64.wrap (((by_ x 0 % 8 : Nat) : Int) * 262144) = ((by_ x 0 % 8 * 262144 : Nat) : Int) := by rw [IntKind.wrap_i64]; omega
      have e2 : IntKind.i64.wrap (((by_ x 1 % 64 : Nat) : Int) * 4096) = ((by_ x 1 % 64 * 4096 : Nat) : Int) := by rw [IntKind.wrap_i64]; omega
      have e3 : IntKind.i64.wrap (((by_ x 0 % 8 * 262144 : Nat) : Int) + ((by_ x 1 % 64 * 4096 : Nat) : Int)) = ((by_ x 0 % 8 * 262144 + by_ x 1 % 64 * 4096 : Nat) : Int) := by rw [IntKind.wrap_i64]; omega
      have e4 : IntKind.i64.wrap (((by_ x 2 % 64 : Nat) : Int) * 64) = ((by_ x 2 % 64 * 64 : Nat) : Int) := by rw [IntKind.wrap_i64]; omega
      have e5 : IntKind.i64.wrap (((by_ x 0 % 8 * 262144 + by_ x 1 % 64 * 4096 : Nat) : Int) + ((by_ x 2 % 64 * 64 : Nat) : Int)) = ((by_ x 0 % 8 * 262144 + by_ x 1 % 64 * 4096 + by_ x 2 % 64 * 64 : Nat) : Int) := by rw [IntKind.wrap_i64]; omega
      rw [e1, e2, e3, e4, e5, IntKind.wrap_i64]
      omega
    · rw [e] at hb
      exact absurd ⟨rfl, rfl⟩ hb
  obtain ⟨r, h, rfl⟩ := key
  exact h
end
end Go.Proofs.YtbekoaalaofloaaGreatDoor.AB
end

section
set_option linter.unusedVariables false
set_option linter.unusedSimpArgs false
open Go Go.Ab Go.Proofs Go.Vl
namespace Go.Ab
/-- append of two elements that have just been laid -/
theorem Gro.two {sz bytes ida m : Nat} {hp : Hp} {a0 : Nat → Option Arr} {s x : V} {cs val : List V} {n : Nat} {Q : V × Hp → Prop} (h : Gro sz a0 m s cs n) (hx : ∃ c bx cp ro, x = .rsl c bx 0 0 2 ∧ hp.a bx = some ⟨0, sz, val, cp, ro⟩) (hold : ∀ b, b < m → hp.a b = a0 b) (hv : val.length = 2 * sz) (hc : ∀ c ∈ val, Go.Ab.cold c = true)
    (hb : (n + 2) * bytes ≤ maxRoom ∧ n + 2 ≤ maxRoom) (hi : ida < hp.m) (hm : m ≤ hp.m)
    (q : ∀ b v a', Gro sz a' hp.m (.rsl false b v 0 (n + 2)) (cs ++ val) (n + 2) → Q (.rsl false b v 0 (n + 2), ⟨hp.h, hp.n, a', hp.m⟩)) : opt (appendV sz bytes hp ida s x) Q := by
  obtain ⟨c, bx, cp, ro, rfl, ha⟩ := hx
  have hx' : Go.Ab.content none hp sz (.rsl c bx 0 0 2) = some (val, 2) := by
    simp [Go.Ab.content, ha, sub, hv, List.take_of_length_le]
  exact Gro.app (h.mono hold (Nat.le_refl m)) hx' (by decide) hv hc hb hi hm fun b v a' h' _ _ => q b v a' h'
end Go.Ab
namespace Go.Proofs.YtbekoaalaofloaaGreatDoor.AB
set_option maxRecDepth 100000
set_option maxHeartbeats 8000000
set_option linter.unusedSimpArgs false
section
variable {ext : Exts}
/-- a letter's units of 16 bits -/
def unitC (c : Nat) : List Int := if 65535 < c then [IntKind.u16.wrap (55296 + ((c - 65536) / 1024 : Nat)), IntKind.u16.wrap (56320 + ((c - 65536) % 1024 : Nat))] else [IntKind.u16.wrap c]
def unitsF (s : ByteArray) : Nat → Nat → List Int
  | 0, _ => []
  | f + 1, p => if p < s.size then unitC (Utf8.decode s p).1 ++ unitsF s f (p + (Utf8.decode s p).2) else []
theorem unitC_len (c : Nat) : (unitC c).length ≤ 2 := by unfold unitC; split <;> simp
theorem cold2 {x y : V} (h : cold x = true) (g : cold y = true) : ∀ c ∈ [x, y], cold c = true := fun c hc => by rcases List.mem_cons.1 hc with rfl | hc; exact h; rw [List.mem_singleton.1 hc]; exact g
theorem cold1 {x : V} (h : cold x = true) : ∀ c ∈ [x], cold c = true := fun c hc => by rw [List.mem_singleton.1 hc]; exact h
theorem wraps_i32_ (n : Int) (h₀ : 0 ≤ n) (h₁ : n < 2 ^ 31) : IntKind.i32.wrap n = n := by rw [IntKind.wrap_i32]; omega
theorem hi_is (c : Int) (h0 : 65536 ≤ c) (h1 : c ≤ 1114111) : Go.bits .or .i32 55296 ((c - 65536) / 1024) = 55296 + (c - 65536) / 1024 :=
  bits_join .i32 31 (by decide) wraps_i32_ 10 _ _ (by omega) (by omega) (by omega) (by omega) (by omega) (by omega)
theorem lo_is (c : Int) (h0 : 65536 ≤ c) (h1 : c ≤ 1114111) : Go.bits .or .i32 56320 (Go.bits .and .i32 (c - 65536) 1023) = 56320 + (c - 65536) % 1024 := by
  rw [show Go.bits .and .i32 (c - 65536) 1023 = (c - 65536) % 1024 from bits_mask .i32 31 (by decide) wraps_i32_ 10 (by decide) _ (by omega) (by omega)]
  exact bits_join .i32 31 (by decide) wraps_i32_ 10 _ _ (by omega) (by omega) (by omega) (by omega) (by omega) (by omega)
def hiP (c : Int) : Int := IntKind.u16.wrap (Go.bits .or .i32 55296 ((IntKind.i32.wrap (c - 65536)).fdiv (2 ^ min (Int.toNat 10) IntKind.i32.bits)))
def loP (c : Int) : Int := IntKind.u16.wrap (Go.bits .or .i32 56320 (Go.bits .and .i32 (IntKind.i32.wrap (c - 65536)) 1023))
theorem unitC_big (c : Nat) (h : 65535 < c) (h1 : c ≤ 1114111) : unitC c = [hiP c, loP c] := by
  unfold unitC hiP loP
  rw [if_pos h, wraps_i32_ ((c : Int) - 65536) (by omega) (by omega), show min (Int.toNat 10) IntKind.i32.bits = 10 from rfl, Int.fdiv_eq_ediv_of_nonneg _ (by decide), show ((2 : Int) ^ 10) = 1024 from rfl, hi_is _ (by omega) (by omega), lo_is _ (by omega) (by omega)]
  rw [show (((c - 65536) / 1024 : Nat) : Int) = ((c : Int) - 65536) / 1024 by omega, show (((c - 65536) % 1024 : Nat) : Int) = ((c : Int) - 65536) % 1024 by omega]
def hiR (c : Int) : Int := IntKind.u16.wrap (IntKind.i64.wrap (55296 + IntKind.i64.wrap (Int.tdiv (IntKind.i64.wrap (c - 65536)) 1024)))
def loR (c : Int) : Int := IntKind.u16.wrap (IntKind.i64.wrap (56320 + Int.tmod (IntKind.i64.wrap (c - 65536)) 1024))
theorem unitC_bigR (c : Nat) (h : 65535 < c) (h1 : c ≤ 1114111) : unitC c = [hiR c, loR c] := by
  unfold unitC hiR loR
  have e0 : IntKind.i64.wrap ((c : Int) - 65536) = ((c - 65536 : Nat) : Int) := by rw [IntKind.wrap_i64]; omega
  have e1 : Int.tdiv ((c - 65536 : Nat) : Int) 1024 = (((c - 65536) / 1024 : Nat) : Int) := by rw [Int.tdiv_eq_ediv_of_nonneg (by omega)]; omega
  have e2 : Int.tmod ((c - 65536 : Nat) : Int) 1024 = (((c - 65536) % 1024 : Nat) : Int) := by rw [Int.tmod_eq_emod_of_nonneg (by omega)]; omega
  have e3 : IntKind.i64.wrap (((c - 65536) / 1024 : Nat) : Int) = (((c - 65536) / 1024 : Nat) : Int) := by rw [IntKind.wrap_i64]; omega
  have e4 : IntKind.i64.wrap (55296 + (((c - 65536) / 1024 : Nat) : Int)) = 55296 + (((c - 65536) / 1024 : Nat) : Int) := by rw [IntKind.wrap_i64]; omega
  have e5 : IntKind.i64.wrap (56320 + (((c - 65536) % 1024 : Nat) : Int)) = 56320 + (((c - 65536) % 1024 : Nat) : Int) := by rw [IntKind.wrap_i64]; omega
  rw [if_pos h, e0, e1, e2, e3, e4, e5]
theorem dec_fits (s : ByteArray) (p : Nat) (hp : p < s.size) (hb : ¬ badD (Utf8.decode s p)) : p + (Utf8.decode s p).2 ≤ s.size := by
  rw [Lib.decode_at] at hb ⊢
  have := (s.get! p).toNat_lt
  unfold Lib.decodeN badD at *
  revert hb
  repeat' split
  all_goals (intro hb; dsimp only at *; omega)
theorem extract_twice (s : ByteArray) (p n : Nat) (hp : p ≤ s.size) : (s.extract p s.size).extract n (s.extract p s.size).size = s.extract (p + n) s.size := by
  rw [ByteArray.extract_extract]
  congr 1
  simp [ByteArray.size_extract]
  omega
theorem lunP (s : ByteArray) (hs : s.size ≤ 256) (Q : Ex → St → Prop) (d : Nat) :
    ∀ (p : Nat) (D : List Int) (S : V) (z : St), s.size ≤ p + d → D.length ≤ 2 * p → p ≤ s.size + 4 → Has z.t [(7, .ref 3 0), (3, S)] → Has z.hp.h [(3, some (.iter s p))] → z.hp.n = 4 → Gro 1 z.hp.a z.hp.m S (D.map (.int .u16)) D.length →
      (∀ (z' : St) (D' : List Int) (S' : V), Has z'.t [(3, S')] → z'.hp.n = 6 → D' = D ++ unitsF s d p → D'.length ≤ 1024 → Gro 1 z'.hp.a z'.hp.m S' (D'.map (.int .u16)) D'.length → Q (.exit 0) z') →
      Go.Ab.Loop (cfg ext) (lpOf Tryz.f100) 4 z Q := by
  induction d with
  | zero =>
    intro p D S z hd hl hp hz hb hn hg hq
    have g : decide (p < s.size) = false := decide_eq_false (by omega)
    rw [St.knows _ _ hz hn _ hb]
    refine Loop.round ?_
    conv => whnf
    refine sel_no g ?_
    conv => whnf
    exact hq _ D S ⟨rfl, trivial⟩ rfl (by simp [unitsF]) (by omega) (hg.mono (fun _ _ => rfl) (by simp only [St.put, St.new, St.bump]; exact Nat.le_add_right _ _))
  | succ d ih =>
    intro p D S z hd hl hp hz hb hn hg hq
    by_cases hlt : p < s.size
    · have g : decide (p < s.size) = true := decide_eq_true hlt
      have hdl := dec_le s p
      have eu : unitsF s (d + 1) p = unitC (Utf8.decode s p).1 ++ unitsF s d (p + (Utf8.decode s p).2) := by simp only [unitsF]; rw [if_pos hlt]
      by_cases hbig : 65535 < (Utf8.decode s p).1
      · have g2 : decide (((Utf8.decode s p).1 : Int) > 65535) = true := decide_eq_true (by omega)
        have eA : (D.map (V.int .u16) ++ [V.int .u16 (hiP (Utf8.decode s p).1)]) ++ [V.int .u16 (loP (Utf8.decode s p).1)] = (D ++ unitC (Utf8.decode s p).1).map (V.int .u16) := by rw [unitC_big _ hbig hdl.2.2]; simp
        have eB : D.length + 1 + 1 = (D ++ unitC (Utf8.decode s p).1).length := by rw [unitC_big _ hbig hdl.2.2]; simp
        rcases hg.form with ⟨eS, _⟩ | ⟨bS, vS, eS⟩ <;> subst eS
        all_goals
          rw [St.knows _ _ hz hn _ hb]
          refine Loop.round ?_
          conv => whnf
          refine sel_yes g ?_
          conv => whnf
          refine sel_yes g2 ?_
          conv => whnf
          refine ⟨rfl, ?_⟩
          conv => whnf
          refine ⟨⟨rfl, (show (1 : Nat) ≠ 0 by decide)⟩, ?_⟩
          refine Gro.one hg ⟨_, _, _, _, rfl, upd_is _ _ _⟩ ?_ ?_ ?_ ?_ ?_ ?_ (fun b1 v1 a1 h1 => ?_)
          · intro b0 hb0
            exact upd_lt (Nat.lt_of_lt_of_le hb0 (by ((conv => lhs; whnf); (repeat ((conv => rhs; whnf); first | with_reducible exact Nat.le_refl _ | refine Nat.le_trans ?_ (Nat.le_add_right _ _) | refine Nat.le_succ_of_le ?_)))))
          · rfl
          · exact (cold1 rfl)
          · exact ⟨by show (_ + 1) * 2 ≤ 140737488355328; (try simp only [List.length_append, List.length_cons, List.length_nil]); omega, by show _ + 1 ≤ 140737488355328; (try simp only [List.length_append, List.length_cons, List.length_nil]); omega⟩
          · exact Nat.add_lt_add_left (by decide) _
          · ((conv => lhs; whnf); (repeat ((conv => rhs; whnf); first | with_reducible exact Nat.le_refl _ | refine Nat.le_trans ?_ (Nat.le_add_right _ _) | refine Nat.le_succ_of_le ?_)))
          conv => whnf
          refine ⟨rfl, ?_⟩
          conv => whnf
          refine ⟨⟨rfl, (show (1 : Nat) ≠ 0 by decide)⟩, ?_⟩
          refine Gro.one h1 ⟨_, _, _, _, rfl, upd_is _ _ _⟩ ?_ ?_ ?_ ?_ ?_ ?_ (fun b2 v2 a2 h2 => ?_)
          · intro b0 hb0
            exact upd_lt (Nat.lt_of_lt_of_le hb0 (by ((conv => lhs; whnf); (repeat ((conv => rhs; whnf); first | with_reducible exact Nat.le_refl _ | refine Nat.le_trans ?_ (Nat.le_add_right _ _) | refine Nat.le_succ_of_le ?_)))))
          · rfl
          · exact (cold1 rfl)
          · exact ⟨by show (_ + 1) * 2 ≤ 140737488355328; (try simp only [List.length_append, List.length_cons, List.length_nil]); omega, by show _ + 1 ≤ 140737488355328; (try simp only [List.length_append, List.length_cons, List.length_nil]); omega⟩
          · exact Nat.add_lt_add_left (by decide) _
          · ((conv => lhs; whnf); (repeat ((conv => rhs; whnf); first | with_reducible exact Nat.le_refl _ | refine Nat.le_trans ?_ (Nat.le_add_right _ _) | refine Nat.le_succ_of_le ?_)))
          conv => whnf
          refine ih (p + (Utf8.decode s p).2) (D ++ unitC (Utf8.decode s p).1) _ _ (by omega) (by have := unitC_len (Utf8.decode s p).1; simp only [List.length_append]; omega) (by omega) ⟨rfl, rfl, trivial⟩ ⟨rfl, trivial⟩ rfl ?_ (fun z' D' S' a b c => hq z' D' S' a b (by rw [c, eu, List.append_assoc]))
          refine Gro.to (Gro.truncR h2 ?_) eA eB
          (conv => lhs; whnf); (repeat ((conv => rhs; whnf); first | with_reducible exact Nat.le_refl _ | refine Nat.le_trans ?_ (Nat.le_add_right _ _) | refine Nat.le_succ_of_le ?_))
      · have g2 : decide (((Utf8.decode s p).1 : Int) > 65535) = false := decide_eq_false (by omega)
        have eA : D.map (V.int .u16) ++ [V.int .u16 (IntKind.u16.wrap ((Utf8.decode s p).1 : Int))] = (D ++ unitC (Utf8.decode s p).1).map (V.int .u16) := by unfold unitC; rw [if_neg hbig]; simp
        have eB : D.length + 1 = (D ++ unitC (Utf8.decode s p).1).length := by unfold unitC; rw [if_neg hbig]; simp
        rcases hg.form with ⟨eS, _⟩ | ⟨bS, vS, eS⟩ <;> subst eS
        all_goals
          rw [St.knows _ _ hz hn _ hb]
          refine Loop.round ?_
          conv => whnf
          refine sel_yes g ?_
          conv => whnf
          refine sel_no g2 ?_
          conv => whnf
          refine ⟨rfl, ?_⟩
          conv => whnf
          refine ⟨⟨rfl, (show (1 : Nat) ≠ 0 by decide)⟩, ?_⟩
          refine Gro.one hg ⟨_, _, _, _, rfl, upd_is _ _ _⟩ ?_ ?_ ?_ ?_ ?_ ?_ (fun b1 v1 a1 h1 => ?_)
          · intro b0 hb0
            exact upd_lt (Nat.lt_of_lt_of_le hb0 (by ((conv => lhs; whnf); (repeat ((conv => rhs; whnf); first | with_reducible exact Nat.le_refl _ | refine Nat.le_trans ?_ (Nat.le_add_right _ _) | refine Nat.le_succ_of_le ?_)))))
          · rfl
          · exact (cold1 rfl)
          · exact ⟨by show (_ + 1) * 2 ≤ 140737488355328; (try simp only [List.length_append, List.length_cons, List.length_nil]); omega, by show _ + 1 ≤ 140737488355328; (try simp only [List.length_append, List.length_cons, List.length_nil]); omega⟩
          · exact Nat.add_lt_add_left (by decide) _
          · ((conv => lhs; whnf); (repeat ((conv => rhs; whnf); first | with_reducible exact Nat.le_refl _ | refine Nat.le_trans ?_ (Nat.le_add_right _ _) | refine Nat.le_succ_of_le ?_)))
          conv => whnf
          refine ih (p + (Utf8.decode s p).2) (D ++ unitC (Utf8.decode s p).1) _ _ (by omega) (by have := unitC_len (Utf8.decode s p).1; simp only [List.length_append]; omega) (by omega) ⟨rfl, rfl, trivial⟩ ⟨rfl, trivial⟩ rfl ?_ (fun z' D' S' a b c => hq z' D' S' a b (by rw [c, eu, List.append_assoc]))
          refine Gro.to (Gro.truncR h1 ?_) eA eB
          (conv => lhs; whnf); (repeat ((conv => rhs; whnf); first | with_reducible exact Nat.le_refl _ | refine Nat.le_trans ?_ (Nat.le_add_right _ _) | refine Nat.le_succ_of_le ?_))
    · have g : decide (p < s.size) = false := decide_eq_false hlt
      rw [St.knows _ _ hz hn _ hb]
      refine Loop.round ?_
      conv => whnf
      refine sel_no g ?_
      conv => whnf
      exact hq _ D S ⟨rfl, trivial⟩ rfl (by simp only [unitsF]; rw [if_neg hlt]; simp) (by omega) (hg.mono (fun _ _ => rfl) (by simp only [St.put, St.new, St.bump]; exact Nat.le_add_right _ _))
theorem lunR (hn0 : Non ext) (s : ByteArray) (hs : s.size ≤ 256) (Q : Ex → St → Prop) (d : Nat) :
    ∀ (p : Nat) (D : List Int) (S : V) (z : St), s.size ≤ p + d → D.length ≤ 2 * p → p ≤ s.size → utfGo s d p = true → Has z.t [(0, .str (s.extract p s.size)), (3, S)] → z.hp.n = 2 → Gro 1 z.hp.a z.hp.m S (D.map (.int .u16)) D.length →
      (∀ (z' : St) (D' : List Int) (S' : V), Has z'.t [(3, S')] → z'.hp.n = 5 → D' = D ++ unitsF s d p → D'.length ≤ 1024 → Gro 1 z'.hp.a z'.hp.m S' (D'.map (.int .u16)) D'.length → Q (.exit 0) z') →
      Go.Ab.Loop (cfg ext) (lpOf Tryz.f57) 2 z Q := by
  induction d with
  | zero =>
    intro p D S z hd hl hp hu hz hn hg hq
    have hx : (s.extract p s.size).size = 0 := by simp [ByteArray.size_extract]; omega
    have g : decide (((s.extract p s.size).size : Int) > 0) = false := decide_eq_false (by omega)
    rw [St.knows _ _ hz hn]
    refine Loop.round ?_
    conv => whnf
    refine sel_no g ?_
    conv => whnf
    exact hq _ D S ⟨rfl, trivial⟩ rfl (by simp [unitsF]) (by omega) (hg.mono (fun _ _ => rfl) (by simp only [St.put, St.new, St.bump]; exact Nat.le_add_right _ _))
  | succ d ih =>
    intro p D S z hd hl hp hu hz hn hg hq
    have hx : (s.extract p s.size).size = s.size - p := by simp [ByteArray.size_extract]
    by_cases hlt : p < s.size
    · have g : decide (((s.extract p s.size).size : Int) > 0) = true := decide_eq_true (by omega)
      have hdl := dec_le s p
      have eu : unitsF s (d + 1) p = unitC (Utf8.decode s p).1 ++ unitsF s d (p + (Utf8.decode s p).2) := by simp only [unitsF]; rw [if_pos hlt]
      have hnb : ¬ badD (Utf8.decode s p) := by
        intro h
        rw [utfGo, if_pos hlt, if_pos (show (Utf8.decode s p).1 = 65533 ∧ (Utf8.decode s p).2 = 1 from h)] at hu
        cases hu
      have hu' : utfGo s d (p + (Utf8.decode s p).2) = true := by rw [utfGo, if_pos hlt, if_neg (show ¬ ((Utf8.decode s p).1 = 65533 ∧ (Utf8.decode s p).2 = 1) from hnb)] at hu; exact hu
      have hf := dec_fits s p hlt hnb
      have hc := rcode hn0 (s.extract p s.size) (by omega) (by omega) (by rw [decode_extract]; exact hnb)
      rw [decode_extract] at hc
      have hex : (s.extract p s.size).extract (Utf8.decode s p).2 (s.extract p s.size).size = s.extract (p + (Utf8.decode s p).2) s.size := extract_twice s p _ hp
      have e1 : IntKind.i64.wrap (((Utf8.decode s p).1 : Int) - 65536) = ((Utf8.decode s p).1 : Int) - 65536 := by rw [IntKind.wrap_i64]; omega
      by_cases hbig : 65535 < (Utf8.decode s p).1
      · have g2 : decide (((Utf8.decode s p).1 : Int) > 65535) = true := decide_eq_true (by omega)
        have eA : D.map (V.int .u16) ++ [V.int .u16 (hiR (Utf8.decode s p).1), V.int .u16 (loR (Utf8.decode s p).1)] = (D ++ unitC (Utf8.decode s p).1).map (V.int .u16) := by rw [unitC_bigR _ hbig hdl.2.2]; simp
        have eB : D.length + 2 = (D ++ unitC (Utf8.decode s p).1).length := by rw [unitC_bigR _ hbig hdl.2.2]; simp
        rcases hg.form with ⟨eS, _⟩ | ⟨bS, vS, eS⟩ <;> subst eS
        all_goals
          rw [St.knows _ _ hz hn]
          refine Loop.round ?_
          conv => whnf
          refine sel_yes g ?_
          conv => whnf
          refine ⟨_, hc, ?_⟩
          conv => whnf
          refine ⟨_, slStr rfl (by omega : (Utf8.decode s p).2 ≤ (s.extract p s.size).size), ?_⟩
          rw [hex]
          conv => whnf
          refine sel_yes g2 ?_
          conv => whnf
          repeat (first
            | (refine sel_yes ?_ ?_; (first | assumption | (simp only [beq_iff_eq, bne_iff_ne, beq_eq_false_iff_ne, bne_eq_false_iff_eq, decide_eq_true_eq, decide_eq_false_iff_not, Bool.not_eq_true', Bool.not_eq_false', ne_eq, beq_true, beq_false, bne_self_eq_false, not_true_eq_false, not_false_eq_true, gt_iff_lt, ge_iff_le, Int.not_lt, Int.not_le, Bool.true_eq_false, Bool.false_eq_true] <;> omega)); conv => whnf)
            | (refine sel_no ?_ ?_; (first | assumption | (simp only [beq_iff_eq, bne_iff_ne, beq_eq_false_iff_ne, bne_eq_false_iff_eq, decide_eq_true_eq, decide_eq_false_iff_not, Bool.not_eq_true', Bool.not_eq_false', ne_eq, beq_true, beq_false, bne_self_eq_false, not_true_eq_false, not_false_eq_true, gt_iff_lt, ge_iff_le, Int.not_lt, Int.not_le, Bool.true_eq_false, Bool.false_eq_true] <;> omega)); conv => whnf)
            | (refine ⟨le_rfl' ?_, ?_⟩; rfl; conv => whnf)
            | (refine ⟨⟨?_, ?_⟩, ?_⟩; omega; omega; conv => whnf)
            | (refine ⟨⟨?_, ?_, ?_⟩, ?_⟩; rfl; omega; omega; conv => whnf)
            | (refine ⟨rfl, ?_, ?_⟩; decide; conv => whnf))
          try exact rfl
          refine ⟨rfl, ?_⟩
          conv => whnf
          refine ⟨⟨rfl, (show (1 : Nat) ≠ 0 by decide)⟩, ?_⟩
          refine Gro.two hg ⟨_, _, _, _, rfl, upd_is _ _ _⟩ ?_ ?_ ?_ ?_ ?_ ?_ (fun b1 v1 a1 h1 => ?_)
          · intro b0 hb0
            exact upd_lt (Nat.lt_of_lt_of_le hb0 (by ((conv => lhs; whnf); (repeat ((conv => rhs; whnf); first | with_reducible exact Nat.le_refl _ | refine Nat.le_trans ?_ (Nat.le_add_right _ _) | refine Nat.le_succ_of_le ?_)))))
          · rfl
          · exact cold2 rfl rfl
          · exact ⟨by show (_ + 2) * 2 ≤ 140737488355328; omega, by show _ + 2 ≤ 140737488355328; omega⟩
          · exact Nat.add_lt_add_left (by decide) _
          · ((conv => lhs; whnf); (repeat ((conv => rhs; whnf); first | with_reducible exact Nat.le_refl _ | refine Nat.le_trans ?_ (Nat.le_add_right _ _) | refine Nat.le_succ_of_le ?_)))
          conv => whnf
          refine ih (p + (Utf8.decode s p).2) (D ++ unitC (Utf8.decode s p).1) _ _ (by omega) (by have := unitC_len (Utf8.decode s p).1; simp only [List.length_append]; omega) hf hu' ⟨rfl, rfl, trivial⟩ rfl ?_ (fun z' D' S' a b c => hq z' D' S' a b (by rw [c, eu, List.append_assoc]))
          refine Gro.to (Gro.truncR h1 ?_) eA eB
          (conv => lhs; whnf); (repeat ((conv => rhs; whnf); first | with_reducible exact Nat.le_refl _ | refine Nat.le_trans ?_ (Nat.le_add_right _ _) | refine Nat.le_succ_of_le ?_))
      · have g2 : decide (((Utf8.decode s p).1 : Int) > 65535) = false := decide_eq_false (by omega)
        have eA : D.map (V.int .u16) ++ [V.int .u16 (IntKind.u16.wrap ((Utf8.decode s p).1 : Int))] = (D ++ unitC (Utf8.decode s p).1).map (V.int .u16) := by unfold unitC; rw [if_neg hbig]; simp
        have eB : D.length + 1 = (D ++ unitC (Utf8.decode s p).1).length := by unfold unitC; rw [if_neg hbig]; simp
        rcases hg.form with ⟨eS, _⟩ | ⟨bS, vS, eS⟩ <;> subst eS
        all_goals
          rw [St.knows _ _ hz hn]
          refine Loop.round ?_
          conv => whnf
          refine sel_yes g ?_
          conv => whnf
          refine ⟨_, hc, ?_⟩
          conv => whnf
          refine ⟨_, slStr rfl (by omega : (Utf8.decode s p).2 ≤ (s.extract p s.size).size), ?_⟩
          rw [hex]
          conv => whnf
          refine sel_no g2 ?_
          conv => whnf
          refine ⟨rfl, ?_⟩
          conv => whnf
          refine ⟨⟨rfl, (show (1 : Nat) ≠ 0 by decide)⟩, ?_⟩
          refine Gro.one hg ⟨_, _, _, _, rfl, upd_is _ _ _⟩ ?_ ?_ ?_ ?_ ?_ ?_ (fun b1 v1 a1 h1 => ?_)
          · intro b0 hb0
            exact upd_lt (Nat.lt_of_lt_of_le hb0 (by ((conv => lhs; whnf); (repeat ((conv => rhs; whnf); first | with_reducible exact Nat.le_refl _ | refine Nat.le_trans ?_ (Nat.le_add_right _ _) | refine Nat.le_succ_of_le ?_)))))
          · rfl
          · exact (cold1 rfl)
          · exact ⟨by show (_ + 1) * 2 ≤ 140737488355328; (try simp only [List.length_append, List.length_cons, List.length_nil]); omega, by show _ + 1 ≤ 140737488355328; (try simp only [List.length_append, List.length_cons, List.length_nil]); omega⟩
          · exact Nat.add_lt_add_left (by decide) _
          · ((conv => lhs; whnf); (repeat ((conv => rhs; whnf); first | with_reducible exact Nat.le_refl _ | refine Nat.le_trans ?_ (Nat.le_add_right _ _) | refine Nat.le_succ_of_le ?_)))
          conv => whnf
          refine ih (p + (Utf8.decode s p).2) (D ++ unitC (Utf8.decode s p).1) _ _ (by omega) (by have := unitC_len (Utf8.decode s p).1; simp only [List.length_append]; omega) hf hu' ⟨rfl, rfl, trivial⟩ rfl ?_ (fun z' D' S' a b c => hq z' D' S' a b (by rw [c, eu, List.append_assoc]))
          refine Gro.to (Gro.truncR h1 ?_) eA eB
          (conv => lhs; whnf); (repeat ((conv => rhs; whnf); first | with_reducible exact Nat.le_refl _ | refine Nat.le_trans ?_ (Nat.le_add_right _ _) | refine Nat.le_succ_of_le ?_))
    · have g : decide (((s.extract p s.size).size : Int) > 0) = false := decide_eq_false (by omega)
      rw [St.knows _ _ hz hn]
      refine Loop.round ?_
      conv => whnf
      refine sel_no g ?_
      conv => whnf
      exact hq _ D S ⟨rfl, trivial⟩ rfl (by simp only [unitsF]; rw [if_neg hlt]; simp) (by omega) (hg.mono (fun _ _ => rfl) (by simp only [St.put, St.new, St.bump]; exact Nat.le_add_right _ _))
end
end Go.Proofs.YtbekoaalaofloaaGreatDoor.AB
end

section
set_option linter.unusedVariables false
set_option linter.unusedSimpArgs false
open Go Go.Ab Go.Proofs Go.Vl
namespace Go.Proofs.YtbekoaalaofloaaGreatDoor.AB
set_option maxRecDepth 100000
set_option maxHeartbeats 8000000
set_option linter.unusedSimpArgs false
section
variable {ext : Exts}
theorem qUnits (hn : Non ext) (s : ByteArray) (hs : s.size ≤ 256) (hu : utfB s = true) : ∃ l : List Int, l.length ≤ 1024 ∧ (cfg ext).Ev 100 [.str s] (I .u16 l) ∧ (cfg ext).Ev 57 [.str s] (I .u16 l) := by
  have k1 : ∃ r, (cfg ext).Ev 100 [.str s] r ∧ r = I .u16 (unitsF s s.size 0) ∧ (unitsF s s.size 0).length ≤ 1024 := by
    refine Ev.ofF (hn 100 (by decide) (by decide)) Tryz.func100 rfl rfl ?_
    conv => whnf
    refine lunP s hs _ s.size 0 [] (.sl true [] 0) _ (by omega) (by simp) (by omega) ⟨rfl, rfl, trivial⟩ ⟨rfl, trivial⟩ rfl (Gro.nil _ _ _) (fun z l S h1 h2 h3 h4 h5 => ?_)
    rw [List.nil_append] at h3
    rw [St.knows _ _ h1 h2]
    rcases h5.form with ⟨eS, _⟩ | ⟨bS, vS, eS⟩ <;> subst eS
    all_goals
      conv => whnf
      exact Fin.gro rfl h5 ⟨by rw [← h3]; rfl, by rw [← h3]; exact h4⟩
  have k2 : ∃ r, (cfg ext).Ev 57 [.str s] r ∧ r = I .u16 (unitsF s s.size 0) := by
    refine Ev.ofF (hn 57 (by decide) (by decide)) Tryz.func57 rfl rfl ?_
    conv => whnf
    refine lunR hn s hs _ s.size 0 [] (.sl true [] 0) _ (by omega) (by simp) (by omega) hu ⟨?_, rfl, trivial⟩ rfl (Gro.nil _ _ _) (fun z l S h1 h2 h3 h4 h5 => ?_)
    · rw [ByteArray.extract_zero_size]; rfl
    rw [List.nil_append] at h3
    rw [St.knows _ _ h1 h2]
    rcases h5.form with ⟨eS, _⟩ | ⟨bS, vS, eS⟩ <;> subst eS
    all_goals
      conv => whnf
      exact Fin.gro rfl h5 (by rw [← h3]; rfl)
  obtain ⟨r1, e1, rfl, hl⟩ := k1
  obtain ⟨r2, e2, rfl⟩ := k2
  exact ⟨_, hl, e1, e2⟩
/-- what both say of a value -/
def HW (ext : Exts) (v : T) (h : Int) : Prop := (cfg ext).Ev 94 [A v] (.int .u32 h) ∧ (cfg ext).Ev 46 [A v] (.int .u32 h) ∧ U32 h
noncomputable def hZ (ext : Exts) (v : T) : Int := @dite _ (∃ h, HW ext v h) (Classical.propDecidable _) (fun h => Classical.choose h) (fun _ => 0)
theorem hZ_is {v : T} (h : ∃ h, HW ext v h) : HW ext v (hZ ext v) := by unfold hZ; rw [dif_pos h]; exact Classical.choose_spec h
theorem lallP (l : List T) (hl : l.length ≤ 1024) (E : ∀ a ∈ l, HW ext a (hZ ext a)) (Q : Ex → St → Prop) (d : Nat) :
    ∀ (i : Nat) (D : List Int) (S : V) (z : St), l.length - i = d → i ≤ l.length → D = (l.take i).map (hZ ext) → Has z.t [(8, .int .i64 i), (7, .int .i64 l.length), (6, .sl false (encL l) l.length), (3, S)] → z.hp.n = 5 → Gro 1 z.hp.a z.hp.m S (D.map (.int .u32)) D.length →
      (∀ (z' : St) (D' : List Int) (S' : V), Has z'.t [(3, S')] → z'.hp.n = 6 → D' = l.map (hZ ext) → Gro 1 z'.hp.a z'.hp.m S' (D'.map (.int .u32)) D'.length → Q (.exit 0) z') →
      Go.Ab.Loop (cfg ext) (lpOf Tryz.f102) 5 z Q := by
  induction d with
  | zero =>
    intro i D S z hd hi hD hz hn hg hq
    have g : decide ((i : Int) < (l.length : Int)) = false := decide_eq_false (by omega)
    rw [St.knows _ _ hz hn]
    refine Loop.round ?_
    conv => whnf
    refine sel_no g ?_
    conv => whnf
    exact hq _ D S ⟨rfl, trivial⟩ rfl (by rw [hD, List.take_of_length_le (by omega)]) (hg.mono (fun _ _ => rfl) (by simp only [St.put, St.new, St.bump]; exact Nat.le_add_right _ _))
  | succ d ih =>
    intro i D S z hd hi hD hz hn hg hq
    have hlt : i < l.length := by omega
    have hDl : D.length = i := by rw [hD]; simp; omega
    have g : decide ((i : Int) < (l.length : Int)) = true := decide_eq_true (by omega)
    have ew : IntKind.i64.wrap ((i : Int) + 1) = ((i + 1 : Nat) : Int) := wrap_add1 (by omega)
    have hr := (E _ (List.getElem_mem hlt)).1
    have eA : D.map (V.int .u32) ++ [V.int .u32 (hZ ext l[i])] = (D ++ [hZ ext l[i]]).map (V.int .u32) := by simp
    have eB : D.length + 1 = (D ++ [hZ ext l[i]]).length := by simp
    rcases hg.form with ⟨eS, _⟩ | ⟨bS, vS, eS⟩ <;> subst eS
    all_goals
      rw [St.knows _ _ hz hn]
      refine Loop.round ?_
      conv => whnf
      refine sel_yes g ?_
      conv => whnf
      refine ⟨⟨by omega, by omega⟩, ?_⟩
      conv => whnf
      refine ldA (i := i) hlt ?_
      conv => whnf
      refine ⟨_, hr, ?_⟩
      conv => whnf
      refine ⟨rfl, ?_⟩
      conv => whnf
      refine ⟨⟨rfl, (show (1 : Nat) ≠ 0 by decide)⟩, ?_⟩
      refine Gro.one hg ⟨_, _, _, _, rfl, upd_is _ _ _⟩ ?_ ?_ ?_ ?_ ?_ ?_ (fun b1 v1 a1 h1 => ?_)
      · intro b0 hb0
        exact upd_lt (Nat.lt_of_lt_of_le hb0 (by ((conv => lhs; whnf); (repeat ((conv => rhs; whnf); first | with_reducible exact Nat.le_refl _ | refine Nat.le_trans ?_ (Nat.le_add_right _ _) | refine Nat.le_succ_of_le ?_)))))
      · rfl
      · exact (cold1 rfl)
      · exact ⟨by show (_ + 1) * 4 ≤ 140737488355328; (try simp only [List.length_append, List.length_cons, List.length_nil]); omega, by show _ + 1 ≤ 140737488355328; (try simp only [List.length_append, List.length_cons, List.length_nil]); omega⟩
      · exact Nat.add_lt_add_left (by decide) _
      · ((conv => lhs; whnf); (repeat ((conv => rhs; whnf); first | with_reducible exact Nat.le_refl _ | refine Nat.le_trans ?_ (Nat.le_add_right _ _) | refine Nat.le_succ_of_le ?_)))
      conv => whnf
      refine ih (i + 1) (D ++ [hZ ext l[i]]) _ _ (by omega) (by omega) (by rw [hD, List.take_succ_eq_append_getElem hlt]; simp only [List.map_append, List.map_cons, List.map_nil]) ⟨?_, rfl, rfl, rfl, trivial⟩ rfl ?_ hq
      · conv => lhs; whnf
        exact vi ew
      · refine Gro.to (Gro.truncR h1 ?_) eA eB
        (conv => lhs; whnf); (repeat ((conv => rhs; whnf); first | with_reducible exact Nat.le_refl _ | refine Nat.le_trans ?_ (Nat.le_add_right _ _) | refine Nat.le_succ_of_le ?_))
theorem lallR (l : List T) (hl : l.length ≤ 1024) (E : ∀ a ∈ l, HW ext a (hZ ext a)) (Q : Ex → St → Prop) (d : Nat) :
    ∀ (i : Nat) (D : List Int) (S : V) (z : St), l.length - i = d → i ≤ l.length → D = (l.take i).map (hZ ext) → Has z.t [(4, .int .i64 i), (0, .sl false (encL l) l.length), (3, S)] → z.hp.n = 3 → Gro 1 z.hp.a z.hp.m S (D.map (.int .u32)) D.length →
      (∀ (z' : St) (D' : List Int) (S' : V), Has z'.t [(3, S')] → z'.hp.n = 7 → D' = l.map (hZ ext) → Gro 1 z'.hp.a z'.hp.m S' (D'.map (.int .u32)) D'.length → Q (.exit 0) z') →
      Go.Ab.Loop (cfg ext) (lpOf Tryz.f59) 3 z Q := by
  induction d with
  | zero =>
    intro i D S z hd hi hD hz hn hg hq
    have g : decide ((i : Int) < (l.length : Int)) = false := decide_eq_false (by omega)
    rw [St.knows _ _ hz hn]
    refine Loop.round ?_
    conv => whnf
    refine sel_no g ?_
    conv => whnf
    exact hq _ D S ⟨rfl, trivial⟩ rfl (by rw [hD, List.take_of_length_le (by omega)]) (hg.mono (fun _ _ => rfl) (by simp only [St.put, St.new, St.bump]; exact Nat.le_add_right _ _))
  | succ d ih =>
    intro i D S z hd hi hD hz hn hg hq
    have hlt : i < l.length := by omega
    have hDl : D.length = i := by rw [hD]; simp; omega
    have g : decide ((i : Int) < (l.length : Int)) = true := decide_eq_true (by omega)
    have ew : IntKind.i64.wrap ((i : Int) + 1) = ((i + 1 : Nat) : Int) := wrap_add1 (by omega)
    have hr := (E _ (List.getElem_mem hlt)).2.1
    have eA : D.map (V.int .u32) ++ [V.int .u32 (hZ ext l[i])] = (D ++ [hZ ext l[i]]).map (V.int .u32) := by simp
    have eB : D.length + 1 = (D ++ [hZ ext l[i]]).length := by simp
    rcases hg.form with ⟨eS, _⟩ | ⟨bS, vS, eS⟩ <;> subst eS
    all_goals
      rw [St.knows _ _ hz hn]
      refine Loop.round ?_
      conv => whnf
      refine sel_yes g ?_
      conv => whnf
      refine ⟨⟨by omega, by omega⟩, ?_⟩
      conv => whnf
      refine ldA (i := i) hlt ?_
      conv => whnf
      refine ⟨_, hr, ?_⟩
      conv => whnf
      refine ⟨rfl, ?_⟩
      conv => whnf
      refine ⟨⟨rfl, (show (1 : Nat) ≠ 0 by decide)⟩, ?_⟩
      refine Gro.one hg ⟨_, _, _, _, rfl, upd_is _ _ _⟩ ?_ ?_ ?_ ?_ ?_ ?_ (fun b1 v1 a1 h1 => ?_)
      · intro b0 hb0
        exact upd_lt (Nat.lt_of_lt_of_le hb0 (by ((conv => lhs; whnf); (repeat ((conv => rhs; whnf); first | with_reducible exact Nat.le_refl _ | refine Nat.le_trans ?_ (Nat.le_add_right _ _) | refine Nat.le_succ_of_le ?_)))))
      · rfl
      · exact (cold1 rfl)
      · exact ⟨by show (_ + 1) * 4 ≤ 140737488355328; (try simp only [List.length_append, List.length_cons, List.length_nil]); omega, by show _ + 1 ≤ 140737488355328; (try simp only [List.length_append, List.length_cons, List.length_nil]); omega⟩
      · exact Nat.add_lt_add_left (by decide) _
      · ((conv => lhs; whnf); (repeat ((conv => rhs; whnf); first | with_reducible exact Nat.le_refl _ | refine Nat.le_trans ?_ (Nat.le_add_right _ _) | refine Nat.le_succ_of_le ?_)))
      conv => whnf
      refine ih (i + 1) (D ++ [hZ ext l[i]]) _ _ (by omega) (by omega) (by rw [hD, List.take_succ_eq_append_getElem hlt]; simp only [List.map_append, List.map_cons, List.map_nil]) ⟨?_, rfl, rfl, trivial⟩ rfl ?_ hq
      · conv => lhs; whnf
        exact vi ew
      · refine Gro.to (Gro.truncR h1 ?_) eA eB
        (conv => lhs; whnf); (repeat ((conv => rhs; whnf); first | with_reducible exact Nat.le_refl _ | refine Nat.le_trans ?_ (Nat.le_add_right _ _) | refine Nat.le_succ_of_le ?_))
theorem qAll (hn : Non ext) (l : List T) (hl : l.length ≤ 1024) (E : ∀ a ∈ l, HW ext a (hZ ext a)) : (cfg ext).Ev 102 [.sl false (encL l) l.length] (I .u32 (l.map (hZ ext))) ∧ (cfg ext).Ev 59 [.sl false (encL l) l.length] (I .u32 (l.map (hZ ext))) := by
  have k1 : ∃ r, (cfg ext).Ev 102 [.sl false (encL l) l.length] r ∧ r = I .u32 (l.map (hZ ext)) := by
    refine Ev.ofF (hn 102 (by decide) (by decide)) Tryz.func102 rfl rfl ?_
    conv => whnf
    refine lallP l hl E _ l.length 0 [] (.sl true [] 0) _ (by omega) (by omega) rfl ⟨rfl, rfl, rfl, rfl, trivial⟩ rfl (Gro.nil _ _ _) (fun z D S h1 h2 h3 h5 => ?_)
    rw [St.knows _ _ h1 h2]
    rcases h5.form with ⟨eS, _⟩ | ⟨bS, vS, eS⟩ <;> subst eS
    all_goals
      conv => whnf
      exact Fin.gro rfl h5 (by rw [← h3]; rfl)
  have k2 : ∃ r, (cfg ext).Ev 59 [.sl false (encL l) l.length] r ∧ r = I .u32 (l.map (hZ ext)) := by
    refine Ev.ofF (hn 59 (by decide) (by decide)) Tryz.func59 rfl rfl ?_
    conv => whnf
    refine lallR l hl E _ l.length 0 [] (.sl true [] 0) _ (by omega) (by omega) rfl ⟨rfl, rfl, rfl, trivial⟩ rfl (Gro.nil _ _ _) (fun z D S h1 h2 h3 h5 => ?_)
    rw [St.knows _ _ h1 h2]
    rcases h5.form with ⟨eS, _⟩ | ⟨bS, vS, eS⟩ <;> subst eS
    all_goals
      conv => whnf
      exact Fin.gro rfl h5 (by rw [← h3]; rfl)
  obtain ⟨r1, e1, rfl⟩ := k1
  obtain ⟨r2, e2, rfl⟩ := k2
  exact ⟨e1, e2⟩
end
end Go.Proofs.YtbekoaalaofloaaGreatDoor.AB
end

section
set_option linter.unusedVariables false
set_option linter.unusedSimpArgs false
open Go Go.Ab Go.Proofs Go.Vl
namespace Go.Ab
theorem Gro.acc {a : Nat → Option Arr} {m : Nat} {s : V} {cs : List V} {n : Nat} (h : Gro 1 a m s cs n) : Acc a m s cs := by
  have hl : cs.length = n := by rw [h.len, Nat.mul_one]
  rcases h.is with ⟨h1, h2⟩ | ⟨b, v, h1, h2, h3⟩
  · exact .inl ⟨h1, List.eq_nil_of_length_eq_zero (by omega)⟩
  · exact .inr ⟨b, v, h1, by rw [hl]; exact h2, h3⟩
end Go.Ab
namespace Go.Proofs.YtbekoaalaofloaaGreatDoor.AB
set_option maxRecDepth 100000
set_option maxHeartbeats 8000000
set_option linter.unusedSimpArgs false
section
variable {ext : Exts}
theorem qEntry (hn : Non ext) (x y : Int) : ∃ r, (cfg ext).Ev 104 [.int .u32 x, .int .u32 y] (.int .u32 r) ∧ (cfg ext).Ev 61 [.int .u32 x, .int .u32 y] (.int .u32 r) := by
  obtain ⟨r, h1, h2, _⟩ := qOrdered hn [x, y] (by simp)
  refine ⟨r, ?_, ?_⟩
  · refine Ev.of (hn 104 (by decide) (by decide)) Tryz.func104 rfl rfl ?_
    conv => whnf
    refine ⟨_, h1, ?_⟩
    conv => whnf
    try exact rfl
  · refine Ev.of (hn 61 (by decide) (by decide)) Tryz.func61 rfl rfl ?_
    conv => whnf
    refine ⟨_, h2, ?_⟩
    conv => whnf
    try exact rfl
def EW (ext : Exts) (x y r : Int) : Prop := (cfg ext).Ev 104 [.int .u32 x, .int .u32 y] (.int .u32 r) ∧ (cfg ext).Ev 61 [.int .u32 x, .int .u32 y] (.int .u32 r)
noncomputable def eZ (ext : Exts) (x y : Int) : Int := @dite _ (∃ h, EW ext x y h) (Classical.propDecidable _) (fun h => Classical.choose h) (fun _ => 0)
theorem eZ_is (hn : Non ext) (x y : Int) : EW ext x y (eZ ext x y) := by have h : ∃ h, EW ext x y h := qEntry hn x y; unfold eZ; rw [dif_pos h]; exact Classical.choose_spec h
/-- the hashes of a map's pairs from a place on -/
noncomputable def entF (ext : Exts) (l : List Int) : Nat → Nat → List Int
  | 0, _ => []
  | d + 1, i => if h : i + 1 < l.length then eZ ext (l[i]'(by omega)) l[i + 1] :: entF ext l d (i + 2) else []

theorem lmapP (hn : Non ext) (l : List Int) (hl : l.length ≤ 1024) (he : l.length % 2 = 0) (N : Nat) (Q : Ex → St → Prop) (d : Nat) :
    ∀ (i : Nat) (D : List Int) (S : V) (z : St), l.length - i ≤ 2 * d → i ≤ l.length → i % 2 = 0 → D.length ≤ i → Has z.t [(5, .int .i64 i), (4, I .u32 l), (3, S)] → z.hp.n = N → Gro 1 z.hp.a z.hp.m S (D.map (.int .u32)) D.length →
      (∀ (z' : St) (D' : List Int) (S' : V), Has z'.t [(3, S')] → z'.hp.n = N + 4 → D' = D ++ entF ext l d i → D'.length ≤ 1024 → Gro 1 z'.hp.a z'.hp.m S' (D'.map (.int .u32)) D'.length → Q (.exit 1) z') →
      Go.Ab.Loop (cfg ext) (lpOf Tryz.f94) N z Q := by
  induction d with
  | zero =>
    intro i D S z hd hi hi2 hD hz hN hg hq
    have e1 : IntKind.i64.wrap ((i : Int) + 1) = ((i + 1 : Nat) : Int) := wrapN (by omega) (by omega)
    have g : decide ((i : Int) < (l.length : Int)) = false := decide_eq_false (by omega)
    rw [St.knows _ _ hz hN]
    refine Loop.round ?_
    conv => whnf
    refine sel_no g ?_
    conv => whnf
    exact hq _ D S ⟨rfl, trivial⟩ rfl (by simp [entF]) (by omega) (hg.mono (fun _ _ => rfl) (by simp only [St.put, St.new, St.bump]; exact Nat.le_add_right _ _))
  | succ d ih =>
    intro i D S z hd hi hi2 hD hz hN hg hq
    have e1 : IntKind.i64.wrap ((i : Int) + 1) = ((i + 1 : Nat) : Int) := wrapN (by omega) (by omega)
    have e2 : IntKind.i64.wrap ((i : Int) + 2) = ((i + 2 : Nat) : Int) := wrapN (by omega) (by omega)
    by_cases hlt : i < l.length
    · have hlt1 : i + 1 < l.length := by omega
      have g : decide ((i : Int) < (l.length : Int)) = true := decide_eq_true (by omega)
      have hr := (eZ_is hn l[i] l[i + 1]).1
      have eE : entF ext l (d + 1) i = eZ ext l[i] l[i + 1] :: entF ext l d (i + 2) := by simp only [entF]; rw [dif_pos hlt1]
      have eA : D.map (V.int .u32) ++ [V.int .u32 (eZ ext l[i] l[i + 1])] = (D ++ [eZ ext l[i] l[i + 1]]).map (V.int .u32) := by simp
      have eB : D.length + 1 = (D ++ [eZ ext l[i] l[i + 1]]).length := by simp
      rcases hg.form with ⟨eS, _⟩ | ⟨bS, vS, eS⟩ <;> subst eS
      all_goals
        rw [St.knows _ _ hz hN]
        refine Loop.round ?_
        conv => whnf
        refine sel_yes g ?_
        conv => whnf
        refine ⟨⟨by omega, by omega⟩, ?_⟩
        conv => whnf
        refine ldI (i := i) hlt ?_
        conv => whnf
        rw [e1]
        refine ⟨⟨by omega, by omega⟩, ?_⟩
        conv => whnf
        refine ldI (i := i + 1) hlt1 ?_
        conv => whnf
        refine ⟨_, hr, ?_⟩
        conv => whnf
        refine ⟨rfl, ?_⟩
        conv => whnf
        refine ⟨⟨rfl, (show (1 : Nat) ≠ 0 by decide)⟩, ?_⟩
        refine Gro.one hg ⟨_, _, _, _, rfl, upd_is _ _ _⟩ ?_ ?_ ?_ ?_ ?_ ?_ (fun b1 v1 a1 h1 => ?_)
        · intro b0 hb0
          exact upd_lt (Nat.lt_of_lt_of_le hb0 (by ((conv => lhs; whnf); (repeat ((conv => rhs; whnf); first | with_reducible exact Nat.le_refl _ | refine Nat.le_trans ?_ (Nat.le_add_right _ _) | refine Nat.le_succ_of_le ?_)))))
        · rfl
        · exact (cold1 rfl)
        · exact ⟨by show (_ + 1) * 4 ≤ 140737488355328; (try simp only [List.length_append, List.length_cons, List.length_nil]); omega, by show _ + 1 ≤ 140737488355328; (try simp only [List.length_append, List.length_cons, List.length_nil]); omega⟩
        · exact Nat.add_lt_add_left (by decide) _
        · ((conv => lhs; whnf); (repeat ((conv => rhs; whnf); first | with_reducible exact Nat.le_refl _ | refine Nat.le_trans ?_ (Nat.le_add_right _ _) | refine Nat.le_succ_of_le ?_)))
        conv => whnf
        refine ih (i + 2) (D ++ [eZ ext l[i] l[i + 1]]) _ _ (by omega) (by omega) (by omega) (by simp; omega) ⟨?_, rfl, rfl, trivial⟩ rfl ?_ (fun z' D' S' a b c => hq z' D' S' a b (by rw [c, eE]; simp))
        · conv => lhs; whnf
          exact vi e2
        · refine Gro.to (Gro.truncR h1 ?_) eA eB
          (conv => lhs; whnf); (repeat ((conv => rhs; whnf); first | with_reducible exact Nat.le_refl _ | refine Nat.le_trans ?_ (Nat.le_add_right _ _) | refine Nat.le_succ_of_le ?_))
    · have g : decide ((i : Int) < (l.length : Int)) = false := decide_eq_false (by omega)
      have eE : entF ext l (d + 1) i = [] := by simp only [entF]; rw [dif_neg (by omega)]
      rw [St.knows _ _ hz hN]
      refine Loop.round ?_
      conv => whnf
      refine sel_no g ?_
      conv => whnf
      exact hq _ D S ⟨rfl, trivial⟩ rfl (by rw [eE]; simp) (by omega) (hg.mono (fun _ _ => rfl) (by simp only [St.put, St.new, St.bump]; exact Nat.le_add_right _ _))
theorem lmapR (hn : Non ext) (l : List Int) (hl : l.length ≤ 1024) (he : l.length % 2 = 0) (N : Nat) (Q : Ex → St → Prop) (d : Nat) :
    ∀ (i : Nat) (D : List Int) (S : V) (z : St), l.length - i ≤ 2 * d → i ≤ l.length → i % 2 = 0 → D.length ≤ i → Has z.t [(5, .int .i64 i), (3, I .u32 l), (4, S)] → z.hp.n = N → Gro 1 z.hp.a z.hp.m S (D.map (.int .u32)) D.length →
      (∀ (z' : St) (D' : List Int) (S' : V), Has z'.t [(4, S')] → z'.hp.n = N + 5 → D' = D ++ entF ext l d i → D'.length ≤ 1024 → Gro 1 z'.hp.a z'.hp.m S' (D'.map (.int .u32)) D'.length → Q (.exit 1) z') →
      Go.Ab.Loop (cfg ext) (lpOf Tryz.f46) N z Q := by
  induction d with
  | zero =>
    intro i D S z hd hi hi2 hD hz hN hg hq
    have e1 : IntKind.i64.wrap ((i : Int) + 1) = ((i + 1 : Nat) : Int) := wrapN (by omega) (by omega)
    have g : decide (((i + 1 : Nat) : Int) < (l.length : Int)) = false := decide_eq_false (by omega)
    rw [St.knows _ _ hz hN]
    refine Loop.round ?_
    conv => whnf
    rw [e1]
    refine sel_no g ?_
    conv => whnf
    exact hq _ D S ⟨rfl, trivial⟩ rfl (by simp [entF]) (by omega) (hg.mono (fun _ _ => rfl) (by simp only [St.put, St.new, St.bump]; exact Nat.le_add_right _ _))
  | succ d ih =>
    intro i D S z hd hi hi2 hD hz hN hg hq
    have e1 : IntKind.i64.wrap ((i : Int) + 1) = ((i + 1 : Nat) : Int) := wrapN (by omega) (by omega)
    have e2 : IntKind.i64.wrap ((i : Int) + 2) = ((i + 2 : Nat) : Int) := wrapN (by omega) (by omega)
    by_cases hlt : i < l.length
    · have hlt1 : i + 1 < l.length := by omega
      have g : decide (((i + 1 : Nat) : Int) < (l.length : Int)) = true := decide_eq_true (by omega)
      have hr := (eZ_is hn l[i] l[i + 1]).2
      have eE : entF ext l (d + 1) i = eZ ext l[i] l[i + 1] :: entF ext l d (i + 2) := by simp only [entF]; rw [dif_pos hlt1]
      have eA : D.map (V.int .u32) ++ [V.int .u32 (eZ ext l[i] l[i + 1])] = (D ++ [eZ ext l[i] l[i + 1]]).map (V.int .u32) := by simp
      have eB : D.length + 1 = (D ++ [eZ ext l[i] l[i + 1]]).length := by simp
      rcases hg.form with ⟨eS, _⟩ | ⟨bS, vS, eS⟩ <;> subst eS
      all_goals
        rw [St.knows _ _ hz hN]
        refine Loop.round ?_
        conv => whnf
        rw [e1]
        refine sel_yes g ?_
        conv => whnf
        refine ⟨⟨by omega, by omega⟩, ?_⟩
        conv => whnf
        refine ldI (i := i) hlt ?_
        conv => whnf
        rw [e1]
        refine ⟨⟨by omega, by omega⟩, ?_⟩
        conv => whnf
        refine ldI (i := i + 1) hlt1 ?_
        conv => whnf
        refine ⟨_, hr, ?_⟩
        conv => whnf
        refine ⟨rfl, ?_⟩
        conv => whnf
        refine ⟨⟨rfl, (show (1 : Nat) ≠ 0 by decide)⟩, ?_⟩
        refine Gro.one hg ⟨_, _, _, _, rfl, upd_is _ _ _⟩ ?_ ?_ ?_ ?_ ?_ ?_ (fun b1 v1 a1 h1 => ?_)
        · intro b0 hb0
          exact upd_lt (Nat.lt_of_lt_of_le hb0 (by ((conv => lhs; whnf); (repeat ((conv => rhs; whnf); first | with_reducible exact Nat.le_refl _ | refine Nat.le_trans ?_ (Nat.le_add_right _ _) | refine Nat.le_succ_of_le ?_)))))
        · rfl
        · exact (cold1 rfl)
        · exact ⟨by show (_ + 1) * 4 ≤ 140737488355328; (try simp only [List.length_append, List.length_cons, List.length_nil]); omega, by show _ + 1 ≤ 140737488355328; (try simp only [List.length_append, List.length_cons, List.length_nil]); omega⟩
        · exact Nat.add_lt_add_left (by decide) _
        · ((conv => lhs; whnf); (repeat ((conv => rhs; whnf); first | with_reducible exact Nat.le_refl _ | refine Nat.le_trans ?_ (Nat.le_add_right _ _) | refine Nat.le_succ_of_le ?_)))
        conv => whnf
        refine ih (i + 2) (D ++ [eZ ext l[i] l[i + 1]]) _ _ (by omega) (by omega) (by omega) (by simp; omega) ⟨?_, rfl, rfl, trivial⟩ rfl ?_ (fun z' D' S' a b c => hq z' D' S' a b (by rw [c, eE]; simp))
        · conv => lhs; whnf
          exact vi e2
        · refine Gro.to (Gro.truncR h1 ?_) eA eB
          (conv => lhs; whnf); (repeat ((conv => rhs; whnf); first | with_reducible exact Nat.le_refl _ | refine Nat.le_trans ?_ (Nat.le_add_right _ _) | refine Nat.le_succ_of_le ?_))
    · have g : decide (((i + 1 : Nat) : Int) < (l.length : Int)) = false := decide_eq_false (by omega)
      have eE : entF ext l (d + 1) i = [] := by simp only [entF]; rw [dif_neg (by omega)]
      rw [St.knows _ _ hz hN]
      refine Loop.round ?_
      conv => whnf
      rw [e1]
      refine sel_no g ?_
      conv => whnf
      exact hq _ D S ⟨rfl, trivial⟩ rfl (by rw [eE]; simp) (by omega) (hg.mono (fun _ _ => rfl) (by simp only [St.put, St.new, St.bump]; exact Nat.le_add_right _ _))
end
end Go.Proofs.YtbekoaalaofloaaGreatDoor.AB
end

section
set_option linter.unusedVariables false
set_option linter.unusedSimpArgs false
open Go Go.Ab Go.Proofs Go.Vl
namespace Go.Proofs.YtbekoaalaofloaaGreatDoor.AB
set_option maxRecDepth 100000
set_option maxHeartbeats 16000000
set_option linter.unusedSimpArgs false
section
variable {ext : Exts}
theorem w0 (hn : Non ext) (k n : Int) (t : ByteArray) (l : List T) (hk : k = 0) : ∃ h, HW ext ⟨k, n, t, l⟩ h := by
  have key : ∃ r, (cfg ext).Ev 94 [A ⟨k, n, t, l⟩] r ∧ (∃ c, r = .int .u32 c ∧ U32 c) ∧ (cfg ext).Ev 46 [A ⟨k, n, t, l⟩] r := by
    refine Ev.ofE (hn 94 (by decide) (by decide)) Tryz.func94 rfl rfl ?_
    conv => whnf
    repeat (first
      | (refine sel_yes ?_ ?_; (first | assumption | (simp only [beq_iff_eq, bne_iff_ne, beq_eq_false_iff_ne, bne_eq_false_iff_eq, decide_eq_true_eq, decide_eq_false_iff_not, Bool.not_eq_true', Bool.not_eq_false', ne_eq, beq_true, beq_false, bne_self_eq_false, not_true_eq_false, not_false_eq_true, gt_iff_lt, ge_iff_le, Int.not_lt, Int.not_le, Bool.true_eq_false, Bool.false_eq_true] <;> omega)); conv => whnf)
      | (refine sel_no ?_ ?_; (first | assumption | (simp only [beq_iff_eq, bne_iff_ne, beq_eq_false_iff_ne, bne_eq_false_iff_eq, decide_eq_true_eq, decide_eq_false_iff_not, Bool.not_eq_true', Bool.not_eq_false', ne_eq, beq_true, beq_false, bne_self_eq_false, not_true_eq_false, not_false_eq_true, gt_iff_lt, ge_iff_le, Int.not_lt, Int.not_le, Bool.true_eq_false, Bool.false_eq_true] <;> omega)); conv => whnf)
      | (refine ⟨le_rfl' ?_, ?_⟩; rfl; conv => whnf)
      | (refine ⟨⟨?_, ?_⟩, ?_⟩; omega; omega; conv => whnf)
      | (refine ⟨⟨?_, ?_, ?_⟩, ?_⟩; rfl; omega; omega; conv => whnf)
      | (refine ⟨rfl, ?_, ?_⟩; decide; conv => whnf))
    try exact rfl
    refine ⟨⟨_, rfl, (by first | assumption | exact ⟨by decide, by decide⟩)⟩, ?_⟩
    refine Ev.of (hn 46 (by decide) (by decide)) Tryz.func46 rfl rfl ?_
    conv => whnf
    repeat (first
      | (refine sel_yes ?_ ?_; (first | assumption | (simp only [beq_iff_eq, bne_iff_ne, beq_eq_false_iff_ne, bne_eq_false_iff_eq, decide_eq_true_eq, decide_eq_false_iff_not, Bool.not_eq_true', Bool.not_eq_false', ne_eq, beq_true, beq_false, bne_self_eq_false, not_true_eq_false, not_false_eq_true, gt_iff_lt, ge_iff_le, Int.not_lt, Int.not_le, Bool.true_eq_false, Bool.false_eq_true] <;> omega)); conv => whnf)
      | (refine sel_no ?_ ?_; (first | assumption | (simp only [beq_iff_eq, bne_iff_ne, beq_eq_false_iff_ne, bne_eq_false_iff_eq, decide_eq_true_eq, decide_eq_false_iff_not, Bool.not_eq_true', Bool.not_eq_false', ne_eq, beq_true, beq_false, bne_self_eq_false, not_true_eq_false, not_false_eq_true, gt_iff_lt, ge_iff_le, Int.not_lt, Int.not_le, Bool.true_eq_false, Bool.false_eq_true] <;> omega)); conv => whnf)
      | (refine ⟨le_rfl' ?_, ?_⟩; rfl; conv => whnf)
      | (refine ⟨⟨?_, ?_⟩, ?_⟩; omega; omega; conv => whnf)
      | (refine ⟨⟨?_, ?_, ?_⟩, ?_⟩; rfl; omega; omega; conv => whnf)
      | (refine ⟨rfl, ?_, ?_⟩; decide; conv => whnf))
    try exact rfl
  obtain ⟨r, h, ⟨c, rfl, u⟩, g⟩ := key
  exact ⟨c, h, g, u⟩
theorem w1a (hn : Non ext) (k n : Int) (t : ByteArray) (l : List T) (hk : k = 1) (h1 : n = 1) : ∃ h, HW ext ⟨k, n, t, l⟩ h := by
  have key : ∃ r, (cfg ext).Ev 94 [A ⟨k, n, t, l⟩] r ∧ (∃ c, r = .int .u32 c ∧ U32 c) ∧ (cfg ext).Ev 46 [A ⟨k, n, t, l⟩] r := by
    refine Ev.ofE (hn 94 (by decide) (by decide)) Tryz.func94 rfl rfl ?_
    conv => whnf
    repeat (first
      | (refine sel_yes ?_ ?_; (first | assumption | (simp only [beq_iff_eq, bne_iff_ne, beq_eq_false_iff_ne, bne_eq_false_iff_eq, decide_eq_true_eq, decide_eq_false_iff_not, Bool.not_eq_true', Bool.not_eq_false', ne_eq, beq_true, beq_false, bne_self_eq_false, not_true_eq_false, not_false_eq_true, gt_iff_lt, ge_iff_le, Int.not_lt, Int.not_le, Bool.true_eq_false, Bool.false_eq_true] <;> omega)); conv => whnf)
      | (refine sel_no ?_ ?_; (first | assumption | (simp only [beq_iff_eq, bne_iff_ne, beq_eq_false_iff_ne, bne_eq_false_iff_eq, decide_eq_true_eq, decide_eq_false_iff_not, Bool.not_eq_true', Bool.not_eq_false', ne_eq, beq_true, beq_false, bne_self_eq_false, not_true_eq_false, not_false_eq_true, gt_iff_lt, ge_iff_le, Int.not_lt, Int.not_le, Bool.true_eq_false, Bool.false_eq_true] <;> omega)); conv => whnf)
      | (refine ⟨le_rfl' ?_, ?_⟩; rfl; conv => whnf)
      | (refine ⟨⟨?_, ?_⟩, ?_⟩; omega; omega; conv => whnf)
      | (refine ⟨⟨?_, ?_, ?_⟩, ?_⟩; rfl; omega; omega; conv => whnf)
      | (refine ⟨rfl, ?_, ?_⟩; decide; conv => whnf))
    try exact rfl
    refine ⟨⟨_, rfl, (by first | assumption | exact ⟨by decide, by decide⟩)⟩, ?_⟩
    refine Ev.of (hn 46 (by decide) (by decide)) Tryz.func46 rfl rfl ?_
    conv => whnf
    repeat (first
      | (refine sel_yes ?_ ?_; (first | assumption | (simp only [beq_iff_eq, bne_iff_ne, beq_eq_false_iff_ne, bne_eq_false_iff_eq, decide_eq_true_eq, decide_eq_false_iff_not, Bool.not_eq_true', Bool.not_eq_false', ne_eq, beq_true, beq_false, bne_self_eq_false, not_true_eq_false, not_false_eq_true, gt_iff_lt, ge_iff_le, Int.not_lt, Int.not_le, Bool.true_eq_false, Bool.false_eq_true] <;> omega)); conv => whnf)
      | (refine sel_no ?_ ?_; (first | assumption | (simp only [beq_iff_eq, bne_iff_ne, beq_eq_false_iff_ne, bne_eq_false_iff_eq, decide_eq_true_eq, decide_eq_false_iff_not, Bool.not_eq_true', Bool.not_eq_false', ne_eq, beq_true, beq_false, bne_self_eq_false, not_true_eq_false, not_false_eq_true, gt_iff_lt, ge_iff_le, Int.not_lt, Int.not_le, Bool.true_eq_false, Bool.false_eq_true] <;> omega)); conv => whnf)
      | (refine ⟨le_rfl' ?_, ?_⟩; rfl; conv => whnf)
      | (refine ⟨⟨?_, ?_⟩, ?_⟩; omega; omega; conv => whnf)
      | (refine ⟨⟨?_, ?_, ?_⟩, ?_⟩; rfl; omega; omega; conv => whnf)
      | (refine ⟨rfl, ?_, ?_⟩; decide; conv => whnf))
    try exact rfl
  obtain ⟨r, h, ⟨c, rfl, u⟩, g⟩ := key
  exact ⟨c, h, g, u⟩
theorem w1b (hn : Non ext) (k n : Int) (t : ByteArray) (l : List T) (hk : k = 1) (h1 : n ≠ 1) : ∃ h, HW ext ⟨k, n, t, l⟩ h := by
  have key : ∃ r, (cfg ext).Ev 94 [A ⟨k, n, t, l⟩] r ∧ (∃ c, r = .int .u32 c ∧ U32 c) ∧ (cfg ext).Ev 46 [A ⟨k, n, t, l⟩] r := by
    refine Ev.ofE (hn 94 (by decide) (by decide)) Tryz.func94 rfl rfl ?_
    conv => whnf
    repeat (first
      | (refine sel_yes ?_ ?_; (first | assumption | (simp only [beq_iff_eq, bne_iff_ne, beq_eq_false_iff_ne, bne_eq_false_iff_eq, decide_eq_true_eq, decide_eq_false_iff_not, Bool.not_eq_true', Bool.not_eq_false', ne_eq, beq_true, beq_false, bne_self_eq_false, not_true_eq_false, not_false_eq_true, gt_iff_lt, ge_iff_le, Int.not_lt, Int.not_le, Bool.true_eq_false, Bool.false_eq_true] <;> omega)); conv => whnf)
      | (refine sel_no ?_ ?_; (first | assumption | (simp only [beq_iff_eq, bne_iff_ne, beq_eq_false_iff_ne, bne_eq_false_iff_eq, decide_eq_true_eq, decide_eq_false_iff_not, Bool.not_eq_true', Bool.not_eq_false', ne_eq, beq_true, beq_false, bne_self_eq_false, not_true_eq_false, not_false_eq_true, gt_iff_lt, ge_iff_le, Int.not_lt, Int.not_le, Bool.true_eq_false, Bool.false_eq_true] <;> omega)); conv => whnf)
      | (refine ⟨le_rfl' ?_, ?_⟩; rfl; conv => whnf)
      | (refine ⟨⟨?_, ?_⟩, ?_⟩; omega; omega; conv => whnf)
      | (refine ⟨⟨?_, ?_, ?_⟩, ?_⟩; rfl; omega; omega; conv => whnf)
      | (refine ⟨rfl, ?_, ?_⟩; decide; conv => whnf))
    try exact rfl
    refine ⟨⟨_, rfl, (by first | assumption | exact ⟨by decide, by decide⟩)⟩, ?_⟩
    refine Ev.of (hn 46 (by decide) (by decide)) Tryz.func46 rfl rfl ?_
    conv => whnf
    repeat (first
      | (refine sel_yes ?_ ?_; (first | assumption | (simp only [beq_iff_eq, bne_iff_ne, beq_eq_false_iff_ne, bne_eq_false_iff_eq, decide_eq_true_eq, decide_eq_false_iff_not, Bool.not_eq_true', Bool.not_eq_false', ne_eq, beq_true, beq_false, bne_self_eq_false, not_true_eq_false, not_false_eq_true, gt_iff_lt, ge_iff_le, Int.not_lt, Int.not_le, Bool.true_eq_false, Bool.false_eq_true] <;> omega)); conv => whnf)
      | (refine sel_no ?_ ?_; (first | assumption | (simp only [beq_iff_eq, bne_iff_ne, beq_eq_false_iff_ne, bne_eq_false_iff_eq, decide_eq_true_eq, decide_eq_false_iff_not, Bool.not_eq_true', Bool.not_eq_false', ne_eq, beq_true, beq_false, bne_self_eq_false, not_true_eq_false, not_false_eq_true, gt_iff_lt, ge_iff_le, Int.not_lt, Int.not_le, Bool.true_eq_false, Bool.false_eq_true] <;> omega)); conv => whnf)
      | (refine ⟨le_rfl' ?_, ?_⟩; rfl; conv => whnf)
      | (refine ⟨⟨?_, ?_⟩, ?_⟩; omega; omega; conv => whnf)
      | (refine ⟨⟨?_, ?_, ?_⟩, ?_⟩; rfl; omega; omega; conv => whnf)
      | (refine ⟨rfl, ?_, ?_⟩; decide; conv => whnf))
    try exact rfl
  obtain ⟨r, h, ⟨c, rfl, u⟩, g⟩ := key
  exact ⟨c, h, g, u⟩
theorem w2 (hn : Non ext) (k n : Int) (t : ByteArray) (l : List T) (hk : k = 2) : ∃ h, HW ext ⟨k, n, t, l⟩ h := by
  have key : ∃ r, (cfg ext).Ev 94 [A ⟨k, n, t, l⟩] r ∧ (∃ c, r = .int .u32 c ∧ U32 c) ∧ (cfg ext).Ev 46 [A ⟨k, n, t, l⟩] r := by
    obtain ⟨r, e1, e2, ur⟩ := qLong hn n
    refine Ev.ofE (hn 94 (by decide) (by decide)) Tryz.func94 rfl rfl ?_
    conv => whnf
    repeat (first
      | (refine sel_yes ?_ ?_; (first | assumption | (simp only [beq_iff_eq, bne_iff_ne, beq_eq_false_iff_ne, bne_eq_false_iff_eq, decide_eq_true_eq, decide_eq_false_iff_not, Bool.not_eq_true', Bool.not_eq_false', ne_eq, beq_true, beq_false, bne_self_eq_false, not_true_eq_false, not_false_eq_true, gt_iff_lt, ge_iff_le, Int.not_lt, Int.not_le, Bool.true_eq_false, Bool.false_eq_true] <;> omega)); conv => whnf)
      | (refine sel_no ?_ ?_; (first | assumption | (simp only [beq_iff_eq, bne_iff_ne, beq_eq_false_iff_ne, bne_eq_false_iff_eq, decide_eq_true_eq, decide_eq_false_iff_not, Bool.not_eq_true', Bool.not_eq_false', ne_eq, beq_true, beq_false, bne_self_eq_false, not_true_eq_false, not_false_eq_true, gt_iff_lt, ge_iff_le, Int.not_lt, Int.not_le, Bool.true_eq_false, Bool.false_eq_true] <;> omega)); conv => whnf)
      | (refine ⟨_, e1, ?_⟩; conv => whnf)
      | (refine ⟨le_rfl' ?_, ?_⟩; rfl; conv => whnf)
      | (refine ⟨⟨?_, ?_⟩, ?_⟩; omega; omega; conv => whnf)
      | (refine ⟨⟨?_, ?_, ?_⟩, ?_⟩; rfl; omega; omega; conv => whnf)
      | (refine ⟨rfl, ?_, ?_⟩; decide; conv => whnf))
    try exact rfl
    refine ⟨⟨_, rfl, (by first | assumption | exact ⟨by decide, by decide⟩)⟩, ?_⟩
    refine Ev.of (hn 46 (by decide) (by decide)) Tryz.func46 rfl rfl ?_
    conv => whnf
    repeat (first
      | (refine sel_yes ?_ ?_; (first | assumption | (simp only [beq_iff_eq, bne_iff_ne, beq_eq_false_iff_ne, bne_eq_false_iff_eq, decide_eq_true_eq, decide_eq_false_iff_not, Bool.not_eq_true', Bool.not_eq_false', ne_eq, beq_true, beq_false, bne_self_eq_false, not_true_eq_false, not_false_eq_true, gt_iff_lt, ge_iff_le, Int.not_lt, Int.not_le, Bool.true_eq_false, Bool.false_eq_true] <;> omega)); conv => whnf)
      | (refine sel_no ?_ ?_; (first | assumption | (simp only [beq_iff_eq, bne_iff_ne, beq_eq_false_iff_ne, bne_eq_false_iff_eq, decide_eq_true_eq, decide_eq_false_iff_not, Bool.not_eq_true', Bool.not_eq_false', ne_eq, beq_true, beq_false, bne_self_eq_false, not_true_eq_false, not_false_eq_true, gt_iff_lt, ge_iff_le, Int.not_lt, Int.not_le, Bool.true_eq_false, Bool.false_eq_true] <;> omega)); conv => whnf)
      | (refine ⟨_, e2, ?_⟩; conv => whnf)
      | (refine ⟨le_rfl' ?_, ?_⟩; rfl; conv => whnf)
      | (refine ⟨⟨?_, ?_⟩, ?_⟩; omega; omega; conv => whnf)
      | (refine ⟨⟨?_, ?_, ?_⟩, ?_⟩; rfl; omega; omega; conv => whnf)
      | (refine ⟨rfl, ?_, ?_⟩; decide; conv => whnf))
    try exact rfl
  obtain ⟨r, h, ⟨c, rfl, u⟩, g⟩ := key
  exact ⟨c, h, g, u⟩
theorem w3 (hn : Non ext) (k n : Int) (t : ByteArray) (l : List T) (hk : k = 3) (hs : t.size ≤ 256) (hu : utfB t = true) : ∃ h, HW ext ⟨k, n, t, l⟩ h := by
  have key : ∃ r, (cfg ext).Ev 94 [A ⟨k, n, t, l⟩] r ∧ (∃ c, r = .int .u32 c ∧ U32 c) ∧ (cfg ext).Ev 46 [A ⟨k, n, t, l⟩] r := by
    obtain ⟨U, hU, a1, a2⟩ := qUnits hn t hs hu
    obtain ⟨j, b1, b2⟩ := qJava hn U (by omega)
    obtain ⟨r, c1, c2, ur⟩ := qInt hn j
    refine Ev.ofE (hn 94 (by decide) (by decide)) Tryz.func94 rfl rfl ?_
    conv => whnf
    repeat (first
      | (refine sel_yes ?_ ?_; (first | assumption | (simp only [beq_iff_eq, bne_iff_ne, beq_eq_false_iff_ne, bne_eq_false_iff_eq, decide_eq_true_eq, decide_eq_false_iff_not, Bool.not_eq_true', Bool.not_eq_false', ne_eq, beq_true, beq_false, bne_self_eq_false, not_true_eq_false, not_false_eq_true, gt_iff_lt, ge_iff_le, Int.not_lt, Int.not_le, Bool.true_eq_false, Bool.false_eq_true] <;> omega)); conv => whnf)
      | (refine sel_no ?_ ?_; (first | assumption | (simp only [beq_iff_eq, bne_iff_ne, beq_eq_false_iff_ne, bne_eq_false_iff_eq, decide_eq_true_eq, decide_eq_false_iff_not, Bool.not_eq_true', Bool.not_eq_false', ne_eq, beq_true, beq_false, bne_self_eq_false, not_true_eq_false, not_false_eq_true, gt_iff_lt, ge_iff_le, Int.not_lt, Int.not_le, Bool.true_eq_false, Bool.false_eq_true] <;> omega)); conv => whnf)
      | (refine ⟨_, a1, ?_⟩; conv => whnf)
      | (refine ⟨_, b1, ?_⟩; conv => whnf)
      | (refine ⟨_, c1, ?_⟩; conv => whnf)
      | (refine ⟨le_rfl' ?_, ?_⟩; rfl; conv => whnf)
      | (refine ⟨⟨?_, ?_⟩, ?_⟩; omega; omega; conv => whnf)
      | (refine ⟨⟨?_, ?_, ?_⟩, ?_⟩; rfl; omega; omega; conv => whnf)
      | (refine ⟨rfl, ?_, ?_⟩; decide; conv => whnf))
    try exact rfl
    refine ⟨⟨_, rfl, (by first | assumption | exact ⟨by decide, by decide⟩)⟩, ?_⟩
    refine Ev.of (hn 46 (by decide) (by decide)) Tryz.func46 rfl rfl ?_
    conv => whnf
    repeat (first
      | (refine sel_yes ?_ ?_; (first | assumption | (simp only [beq_iff_eq, bne_iff_ne, beq_eq_false_iff_ne, bne_eq_false_iff_eq, decide_eq_true_eq, decide_eq_false_iff_not, Bool.not_eq_true', Bool.not_eq_false', ne_eq, beq_true, beq_false, bne_self_eq_false, not_true_eq_false, not_false_eq_true, gt_iff_lt, ge_iff_le, Int.not_lt, Int.not_le, Bool.true_eq_false, Bool.false_eq_true] <;> omega)); conv => whnf)
      | (refine sel_no ?_ ?_; (first | assumption | (simp only [beq_iff_eq, bne_iff_ne, beq_eq_false_iff_ne, bne_eq_false_iff_eq, decide_eq_true_eq, decide_eq_false_iff_not, Bool.not_eq_true', Bool.not_eq_false', ne_eq, beq_true, beq_false, bne_self_eq_false, not_true_eq_false, not_false_eq_true, gt_iff_lt, ge_iff_le, Int.not_lt, Int.not_le, Bool.true_eq_false, Bool.false_eq_true] <;> omega)); conv => whnf)
      | (refine ⟨_, a2, ?_⟩; conv => whnf)
      | (refine ⟨_, b2, ?_⟩; conv => whnf)
      | (refine ⟨_, c2, ?_⟩; conv => whnf)
      | (refine ⟨le_rfl' ?_, ?_⟩; rfl; conv => whnf)
      | (refine ⟨⟨?_, ?_⟩, ?_⟩; omega; omega; conv => whnf)
      | (refine ⟨⟨?_, ?_, ?_⟩, ?_⟩; rfl; omega; omega; conv => whnf)
      | (refine ⟨rfl, ?_, ?_⟩; decide; conv => whnf))
    try exact rfl
  obtain ⟨r, h, ⟨c, rfl, u⟩, g⟩ := key
  exact ⟨c, h, g, u⟩
theorem w4 (hn : Non ext) (k n : Int) (t : ByteArray) (l : List T) (hk : k = 4) (h3 : l.length ≤ 1024) (E : ∀ a ∈ l, HW ext a (hZ ext a)) : ∃ h, HW ext ⟨k, n, t, l⟩ h := by
  have key : ∃ r, (cfg ext).Ev 94 [A ⟨k, n, t, l⟩] r ∧ (∃ c, r = .int .u32 c ∧ U32 c) ∧ (cfg ext).Ev 46 [A ⟨k, n, t, l⟩] r := by
    obtain ⟨a1, a2⟩ := qAll hn l h3 E
    obtain ⟨r, b1, b2, ur⟩ := qOrdered hn (l.map (hZ ext)) (by simp; omega)
    refine Ev.ofE (hn 94 (by decide) (by decide)) Tryz.func94 rfl rfl ?_
    conv => whnf
    repeat (first
      | (refine sel_yes ?_ ?_; (first | assumption | (simp only [beq_iff_eq, bne_iff_ne, beq_eq_false_iff_ne, bne_eq_false_iff_eq, decide_eq_true_eq, decide_eq_false_iff_not, Bool.not_eq_true', Bool.not_eq_false', ne_eq, beq_true, beq_false, bne_self_eq_false, not_true_eq_false, not_false_eq_true, gt_iff_lt, ge_iff_le, Int.not_lt, Int.not_le, Bool.true_eq_false, Bool.false_eq_true] <;> omega)); conv => whnf)
      | (refine sel_no ?_ ?_; (first | assumption | (simp only [beq_iff_eq, bne_iff_ne, beq_eq_false_iff_ne, bne_eq_false_iff_eq, decide_eq_true_eq, decide_eq_false_iff_not, Bool.not_eq_true', Bool.not_eq_false', ne_eq, beq_true, beq_false, bne_self_eq_false, not_true_eq_false, not_false_eq_true, gt_iff_lt, ge_iff_le, Int.not_lt, Int.not_le, Bool.true_eq_false, Bool.false_eq_true] <;> omega)); conv => whnf)
      | (refine ⟨_, a1, ?_⟩; conv => whnf)
      | (refine ⟨_, b1, ?_⟩; conv => whnf)
      | (refine ⟨le_rfl' ?_, ?_⟩; rfl; conv => whnf)
      | (refine ⟨⟨?_, ?_⟩, ?_⟩; omega; omega; conv => whnf)
      | (refine ⟨⟨?_, ?_, ?_⟩, ?_⟩; rfl; omega; omega; conv => whnf)
      | (refine ⟨rfl, ?_, ?_⟩; decide; conv => whnf))
    try exact rfl
    refine ⟨⟨_, rfl, (by first | assumption | exact ⟨by decide, by decide⟩)⟩, ?_⟩
    refine Ev.of (hn 46 (by decide) (by decide)) Tryz.func46 rfl rfl ?_
    conv => whnf
    repeat (first
      | (refine sel_yes ?_ ?_; (first | assumption | (simp only [beq_iff_eq, bne_iff_ne, beq_eq_false_iff_ne, bne_eq_false_iff_eq, decide_eq_true_eq, decide_eq_false_iff_not, Bool.not_eq_true', Bool.not_eq_false', ne_eq, beq_true, beq_false, bne_self_eq_false, not_true_eq_false, not_false_eq_true, gt_iff_lt, ge_iff_le, Int.not_lt, Int.not_le, Bool.true_eq_false, Bool.false_eq_true] <;> omega)); conv => whnf)
      | (refine sel_no ?_ ?_; (first | assumption | (simp only [beq_iff_eq, bne_iff_ne, beq_eq_false_iff_ne, bne_eq_false_iff_eq, decide_eq_true_eq, decide_eq_false_iff_not, Bool.not_eq_true', Bool.not_eq_false', ne_eq, beq_true, beq_false, bne_self_eq_false, not_true_eq_false, not_false_eq_true, gt_iff_lt, ge_iff_le, Int.not_lt, Int.not_le, Bool.true_eq_false, Bool.false_eq_true] <;> omega)); conv => whnf)
      | (refine ⟨_, a2, ?_⟩; conv => whnf)
      | (refine ⟨_, b2, ?_⟩; conv => whnf)
      | (refine ⟨le_rfl' ?_, ?_⟩; rfl; conv => whnf)
      | (refine ⟨⟨?_, ?_⟩, ?_⟩; omega; omega; conv => whnf)
      | (refine ⟨⟨?_, ?_, ?_⟩, ?_⟩; rfl; omega; omega; conv => whnf)
      | (refine ⟨rfl, ?_, ?_⟩; decide; conv => whnf))
    try exact rfl
  obtain ⟨r, h, ⟨c, rfl, u⟩, g⟩ := key
  exact ⟨c, h, g, u⟩
theorem w5 (hn : Non ext) (k n : Int) (t : ByteArray) (l : List T) (hk : k = 5) (h3 : l.length ≤ 1024) (E : ∀ a ∈ l, HW ext a (hZ ext a)) : ∃ h, HW ext ⟨k, n, t, l⟩ h := by
  have key : ∃ r, (cfg ext).Ev 94 [A ⟨k, n, t, l⟩] r ∧ (∃ c, r = .int .u32 c ∧ U32 c) ∧ (cfg ext).Ev 46 [A ⟨k, n, t, l⟩] r := by
    obtain ⟨a1, a2⟩ := qAll hn l h3 E
    obtain ⟨r, b1, b2, ur⟩ := qUnordered hn (l.map (hZ ext)) (by simp; omega)
    refine Ev.ofE (hn 94 (by decide) (by decide)) Tryz.func94 rfl rfl ?_
    conv => whnf
    repeat (first
      | (refine sel_yes ?_ ?_; (first | assumption | (simp only [beq_iff_eq, bne_iff_ne, beq_eq_false_iff_ne, bne_eq_false_iff_eq, decide_eq_true_eq, decide_eq_false_iff_not, Bool.not_eq_true', Bool.not_eq_false', ne_eq, beq_true, beq_false, bne_self_eq_false, not_true_eq_false, not_false_eq_true, gt_iff_lt, ge_iff_le, Int.not_lt, Int.not_le, Bool.true_eq_false, Bool.false_eq_true] <;> omega)); conv => whnf)
      | (refine sel_no ?_ ?_; (first | assumption | (simp only [beq_iff_eq, bne_iff_ne, beq_eq_false_iff_ne, bne_eq_false_iff_eq, decide_eq_true_eq, decide_eq_false_iff_not, Bool.not_eq_true', Bool.not_eq_false', ne_eq, beq_true, beq_false, bne_self_eq_false, not_true_eq_false, not_false_eq_true, gt_iff_lt, ge_iff_le, Int.not_lt, Int.not_le, Bool.true_eq_false, Bool.false_eq_true] <;> omega)); conv => whnf)
      | (refine ⟨_, a1, ?_⟩; conv => whnf)
      | (refine ⟨_, b1, ?_⟩; conv => whnf)
      | (refine ⟨le_rfl' ?_, ?_⟩; rfl; conv => whnf)
      | (refine ⟨⟨?_, ?_⟩, ?_⟩; omega; omega; conv => whnf)
      | (refine ⟨⟨?_, ?_, ?_⟩, ?_⟩; rfl; omega; omega; conv => whnf)
      | (refine ⟨rfl, ?_, ?_⟩; decide; conv => whnf))
    try exact rfl
    refine ⟨⟨_, rfl, (by first | assumption | exact ⟨by decide, by decide⟩)⟩, ?_⟩
    refine Ev.of (hn 46 (by decide) (by decide)) Tryz.func46 rfl rfl ?_
    conv => whnf
    repeat (first
      | (refine sel_yes ?_ ?_; (first | assumption | (simp only [beq_iff_eq, bne_iff_ne, beq_eq_false_iff_ne, bne_eq_false_iff_eq, decide_eq_true_eq, decide_eq_false_iff_not, Bool.not_eq_true', Bool.not_eq_false', ne_eq, beq_true, beq_false, bne_self_eq_false, not_true_eq_false, not_false_eq_true, gt_iff_lt, ge_iff_le, Int.not_lt, Int.not_le, Bool.true_eq_false, Bool.false_eq_true] <;> omega)); conv => whnf)
      | (refine sel_no ?_ ?_; (first | assumption | (simp only [beq_iff_eq, bne_iff_ne, beq_eq_false_iff_ne, bne_eq_false_iff_eq, decide_eq_true_eq, decide_eq_false_iff_not, Bool.not_eq_true', Bool.not_eq_false', ne_eq, beq_true, beq_false, bne_self_eq_false, not_true_eq_false, not_false_eq_true, gt_iff_lt, ge_iff_le, Int.not_lt, Int.not_le, Bool.true_eq_false, Bool.false_eq_true] <;> omega)); conv => whnf)
      | (refine ⟨_, a2, ?_⟩; conv => whnf)
      | (refine ⟨_, b2, ?_⟩; conv => whnf)
      | (refine ⟨le_rfl' ?_, ?_⟩; rfl; conv => whnf)
      | (refine ⟨⟨?_, ?_⟩, ?_⟩; omega; omega; conv => whnf)
      | (refine ⟨⟨?_, ?_, ?_⟩, ?_⟩; rfl; omega; omega; conv => whnf)
      | (refine ⟨rfl, ?_, ?_⟩; decide; conv => whnf))
    try exact rfl
  obtain ⟨r, h, ⟨c, rfl, u⟩, g⟩ := key
  exact ⟨c, h, g, u⟩
end
end Go.Proofs.YtbekoaalaofloaaGreatDoor.AB
end

section
set_option linter.unusedVariables false
set_option linter.unusedSimpArgs false
open Go Go.Ab Go.Proofs Go.Vl
namespace Go.Proofs.YtbekoaalaofloaaGreatDoor.AB
set_option maxRecDepth 100000
set_option maxHeartbeats 16000000
set_option linter.unusedSimpArgs false
section
variable {ext : Exts}
theorem entF_len (l : List Int) : ∀ (d i : Nat), (entF ext l d i).length ≤ d
  | 0, _ => by simp [entF]
  | d + 1, i => by
    simp only [entF]
    split
    · have := entF_len l d (i + 2)
      simp only [List.length_cons]; omega
    · simp
theorem c6P (hn : Non ext) (k n : Int) (t : ByteArray) (l : List T) (L : List Int) (r : Int) (h3 : L.length ≤ 1024) (h6 : L.length % 2 = 0)
    (a1 : (cfg ext).Ev 102 [.sl false (encL l) l.length] (I .u32 L)) (b1 : (cfg ext).Ev 103 [I .u32 (entF ext L L.length 0)] (.int .u32 r)) (z : St) (K : Ex → St → Prop)
    (hz : Has z.t [(1, .ref 0 0), (7, .int .i64 6)]) (hb : Has z.hp.h [(0, some (.cells (cellsV ⟨k, n, t, l⟩) false))]) (hN : z.hp.n = 10) (hr : ∀ z', z'.t 2 = .int .u32 r → K .ret z') : xCode (cfg ext) (atP (bodyOf Tryz.f94) [true, false, true, false, true, true, true, true, true, true]) z K := by
  rw [St.knows _ _ hz hN _ hb]
  conv => whnf
  refine ⟨_, a1, ?_⟩
  conv => whnf
  refine lmapP hn L h3 h6 _ _ L.length 0 [] (.sl true [] 0) _ (by omega) (Nat.zero_le _) rfl (Nat.le_refl _) ⟨rfl, rfl, rfl, trivial⟩ rfl (Gro.nil _ _ _) (fun z D S e1 e2 e3 e4 e5 => ?_)
  rw [List.nil_append] at e3
  rw [← e3] at b1
  rw [St.knows _ _ e1 e2]
  have h4 := e5.acc
  rcases h4 with ⟨rfl, e4⟩ | ⟨b, w, hb, rfl, e4⟩
  · have : D = [] := by simpa using e4
    subst this
    conv => whnf
    refine ⟨_, b1, ?_⟩
    conv => whnf
    exact hr _ rfl
  · have ha4 : Acc z.hp.a z.hp.m (.rsl false b w 0 (D.map (V.int .u32)).length) (D.map (.int .u32)) := .inr ⟨b, w, hb, rfl, e4⟩
    conv => whnf
    refine opt_acc1 (k := .u32) (l := D) (m := z.hp.m) ha4 rfl rfl (fun a' => ?_)
    refine ⟨_, b1, ?_⟩
    conv => whnf
    exact hr _ rfl
theorem c6R (hn : Non ext) (k n : Int) (t : ByteArray) (l : List T) (L : List Int) (r : Int) (h3 : L.length ≤ 1024) (h6 : L.length % 2 = 0)
    (a1 : (cfg ext).Ev 59 [.sl false (encL l) l.length] (I .u32 L)) (b1 : (cfg ext).Ev 60 [I .u32 (entF ext L L.length 0)] (.int .u32 r)) (z : St) (K : Ex → St → Prop)
    (hz : Has z.t [(1, .ref 0 0), (7, .int .i64 6)]) (hb : Has z.hp.h [(0, some (.cells (cellsV ⟨k, n, t, l⟩) false))]) (hN : z.hp.n = 10) (hr : ∀ z', z'.t 2 = .int .u32 r → K .ret z') : xCode (cfg ext) (atP (bodyOf Tryz.f46) [true, false, true, false, true, true, true, true, true, true]) z K := by
  rw [St.knows _ _ hz hN _ hb]
  conv => whnf
  refine ⟨_, a1, ?_⟩
  conv => whnf
  refine lmapR hn L h3 h6 _ _ L.length 0 [] (.sl true [] 0) _ (by omega) (Nat.zero_le _) rfl (Nat.le_refl _) ⟨rfl, rfl, rfl, trivial⟩ rfl (Gro.nil _ _ _) (fun z D S e1 e2 e3 e4 e5 => ?_)
  rw [List.nil_append] at e3
  rw [← e3] at b1
  rw [St.knows _ _ e1 e2]
  have h4 := e5.acc
  rcases h4 with ⟨rfl, e4⟩ | ⟨b, w, hb, rfl, e4⟩
  · have : D = [] := by simpa using e4
    subst this
    conv => whnf
    refine ⟨_, b1, ?_⟩
    conv => whnf
    exact hr _ rfl
  · have ha4 : Acc z.hp.a z.hp.m (.rsl false b w 0 (D.map (V.int .u32)).length) (D.map (.int .u32)) := .inr ⟨b, w, hb, rfl, e4⟩
    conv => whnf
    refine opt_acc1 (k := .u32) (l := D) (m := z.hp.m) ha4 rfl rfl (fun a' => ?_)
    refine ⟨_, b1, ?_⟩
    conv => whnf
    exact hr _ rfl
theorem w6 (hn : Non ext) (k n : Int) (t : ByteArray) (l : List T) (hk : k = 6) (h3 : l.length ≤ 1024) (h6 : l.length % 2 = 0) (E : ∀ a ∈ l, HW ext a (hZ ext a)) : ∃ h, HW ext ⟨k, n, t, l⟩ h := by
  have hL : (l.map (hZ ext)).length = l.length := by simp
  obtain ⟨a1, a2⟩ := qAll hn l h3 E
  generalize l.map (hZ ext) = L at a1 a2 hL
  have hb := entF_len (ext := ext) L L.length 0
  obtain ⟨r, b1, b2, ur⟩ := qUnordered hn (entF ext L L.length 0) (by omega)
  have g1 : (k == 1) = false := by rw [hk]; rfl
  have g2 : (k == 2) = false := by rw [hk]; rfl
  have g3 : (k == 3) = false := by rw [hk]; rfl
  have h3' : L.length ≤ 1024 := by omega
  have h6' : L.length % 2 = 0 := by omega
  have k1 : ∃ x, (cfg ext).Ev 94 [A ⟨k, n, t, l⟩] x ∧ x = .int .u32 r := by
    refine Ev.ofE (hn 94 (by decide) (by decide)) Tryz.func94 rfl rfl ?_
    conv => whnf
    refine sel_no g1 ?_
    conv => whnf
    refine sel_no g2 ?_
    conv => whnf
    refine sel_no g3 ?_
    refine c6P hn k n t l L r h3' h6' a1 b1 _ _ ⟨rfl, vi hk, trivial⟩ ⟨rfl, trivial⟩ rfl (fun z e => ?_)
    rw [St.knows [(2, _)] _ ⟨e, trivial⟩ rfl]
    conv => whnf
  have k2 : ∃ x, (cfg ext).Ev 46 [A ⟨k, n, t, l⟩] x ∧ x = .int .u32 r := by
    refine Ev.ofE (hn 46 (by decide) (by decide)) Tryz.func46 rfl rfl ?_
    conv => whnf
    refine sel_no g1 ?_
    conv => whnf
    refine sel_no g2 ?_
    conv => whnf
    refine sel_no g3 ?_
    refine c6R hn k n t l L r h3' h6' a2 b2 _ _ ⟨rfl, vi hk, trivial⟩ ⟨rfl, trivial⟩ rfl (fun z e => ?_)
    rw [St.knows [(2, _)] _ ⟨e, trivial⟩ rfl]
    conv => whnf
  obtain ⟨_, x1, rfl⟩ := k1
  obtain ⟨_, x2, rfl⟩ := k2
  exact ⟨r, x1, x2, ur⟩
mutual
theorem whole (hn : Non ext) : (v : T) → OkV v → partsV v ≤ 1024 → HW ext v (hZ ext v)
  | ⟨k, n, t, l⟩, h, hp => by
    have hT : t = ⟨#[]⟩ → t.size ≤ 256 := fun e => by rw [e]; show 0 ≤ 256; omega
    simp only [OkV] at h
    simp only [partsV] at hp
    have hl := partsL_len l
    have E := wholeL hn l h.2.2 (by omega)
    have pv := h.1
    unfold PlainV at pv
    obtain ⟨p1, p2, p3⟩ := pv
    refine hZ_is ?_
    by_cases k1 : k = 1
    · by_cases n1 : n = 1
      · exact w1a hn k n t l k1 n1
      · exact w1b hn k n t l k1 n1
    by_cases k3 : k = 3
    · rw [if_neg k1, if_pos k3] at p3
      exact w3 hn k n t l k3 p3.1 p3.2
    rw [if_neg k1, if_neg k3] at p3
    by_cases k0 : k = 0
    · exact w0 hn k n t l k0
    by_cases k2 : k = 2
    · exact w2 hn k n t l k2
    by_cases k4 : k = 4
    · exact w4 hn k n t l k4 (by omega) E
    by_cases k5 : k = 5
    · exact w5 hn k n t l k5 (by omega) E
    have k6 : k = 6 := by omega
    have h6 : l.length % 2 = 0 := by
      have := h.2.1
      unfold FormV at this
      rw [if_neg (by omega), if_pos k6] at this
      exact this.1
    exact w6 hn k n t l k6 (by omega) h6 E
theorem wholeL (hn : Non ext) : (l : List T) → OkL l → partsL l ≤ 1024 → ∀ a ∈ l, HW ext a (hZ ext a)
  | [], _, _, a, ha => by cases ha
  | v :: l, h, hp, a, ha => by
    simp only [OkL] at h
    simp only [partsL] at hp
    rcases List.mem_cons.1 ha with e | ha
    · rw [e]; exact whole hn v h.1 (by omega)
    · exact wholeL hn l h.2 (by omega) a ha
end
end
end Go.Proofs.YtbekoaalaofloaaGreatDoor.AB
end

section
set_option linter.unusedVariables false
set_option linter.unusedSimpArgs false
open Go Go.Ab Go.Proofs Go.Vl
namespace Go.Proofs.YtbekoaalaofloaaGreatDoor.AB
set_option maxRecDepth 100000
set_option maxHeartbeats 8000000
set_option linter.unusedSimpArgs false
section
variable {ext : Exts}
noncomputable def propB (p : Prop) : Bool := @decide p (Classical.propDecidable p)
theorem propB_iff {p : Prop} : propB p = true ↔ p := by unfold propB; exact @decide_eq_true_iff p (Classical.propDecidable p)
theorem propB_yes {p : Prop} (h : p) : propB p = true := propB_iff.2 h
theorem propB_no {p : Prop} (h : ¬ p) : propB p = false := by
  cases e : propB p with
  | false => rfl
  | true => exact absurd (propB_iff.1 e) h
/-- from a place on, a row rises -/
def RiseF (st : Nat) (l : List T) (i : Nat) : Prop := ∀ j, i ≤ j → j % st = 0 → ∀ (h : j < l.length) (h0 : st ≤ j), cmpV (l[j - st]'(by omega)) (l[j]) < 0
theorem rise_F {st : Nat} (hst : 0 < st) (l : List T) : RiseF st l st ↔ Rise st l := by
  constructor
  · intro h i hi hlt
    have := h (i + st) (by omega) (by rw [Nat.add_mod_right]; exact hi) hlt (by omega)
    simpa using this
  · intro h j h1 h2 h3 h4
    have := h (j - st) (by have := Nat.sub_add_cancel h4; rw [← this, Nat.add_mod_right] at h2; exact h2) (by omega)
    simpa [Nat.sub_add_cancel h4] using this
theorem lown01 (k n : Int) (t : ByteArray) (l : List T) (hl : l.length ≤ 1024) (E : ∀ a ∈ l, ∀ b ∈ l, (cfg ext).Ev 39 [A a, A b] (.int .i64 (cmpV a b))) (st : Nat) (hst : st = 1 ∨ st = 2) (N : Nat) (Q : Ex → St → Prop) (d : Nat) :
    ∀ (i : Nat) (z : St), l.length ≤ i + st * d → i ≤ l.length + 2 → st ≤ i → i % st = 0 → Has z.t [(4, .int .i64 i), (3, .int .i64 st), (1, .ref 0 0)] → Has z.hp.h [(0, some (.cells (encX' k n t l) false))] → z.hp.n = N + 1 →
      (∀ z' : St, z'.t 2 = .bool false → ¬ RiseF st l i → Q .ret z') → (∀ z' : St, RiseF st l i → Q (.exit 0) z') →
      Go.Ab.Loop (cfg ext) (lpOf Tryz.f37) (N + 1) z Q := by
  induction d with
  | zero =>
    intro i z hd hi h1 hm ht hh hz hr hq
    have g : decide ((i : Int) < (l.length : Int)) = false := decide_eq_false (by omega)
    rw [St.knows _ _ ht hz _ hh]
    refine Loop.round ?_
    conv => whnf
    repeat (first
      | (refine sel_yes ?_ ?_; (first | assumption | (simp only [beq_iff_eq, bne_iff_ne, beq_eq_false_iff_ne, bne_eq_false_iff_eq, decide_eq_true_eq, decide_eq_false_iff_not, Bool.not_eq_true', Bool.not_eq_false', ne_eq, beq_true, beq_false, bne_self_eq_false, not_true_eq_false, not_false_eq_true, gt_iff_lt, ge_iff_le, Int.not_lt, Int.not_le, Bool.true_eq_false, Bool.false_eq_true] <;> omega)); conv => whnf)
      | (refine sel_no ?_ ?_; (first | assumption | (simp only [beq_iff_eq, bne_iff_ne, beq_eq_false_iff_ne, bne_eq_false_iff_eq, decide_eq_true_eq, decide_eq_false_iff_not, Bool.not_eq_true', Bool.not_eq_false', ne_eq, beq_true, beq_false, bne_self_eq_false, not_true_eq_false, not_false_eq_true, gt_iff_lt, ge_iff_le, Int.not_lt, Int.not_le, Bool.true_eq_false, Bool.false_eq_true] <;> omega)); conv => whnf)
      | (refine ⟨le_rfl' ?_, ?_⟩; rfl; conv => whnf)
      | (refine ⟨⟨?_, ?_⟩, ?_⟩; omega; omega; conv => whnf)
      | (refine ⟨⟨?_, ?_, ?_⟩, ?_⟩; rfl; omega; omega; conv => whnf)
      | (refine ⟨rfl, ?_, ?_⟩; decide; conv => whnf))
    try exact rfl
    exact hq _ (fun j h2 h3 h4 _ => by omega)
  | succ d ih =>
    intro i z hd hi h1 hm ht hh hz hr hq
    by_cases hlt : i < l.length
    · have g : decide ((i : Int) < (l.length : Int)) = true := decide_eq_true (by omega)
      have hE := E _ (List.getElem_mem (show i - st < l.length by omega)) _ (List.getElem_mem hlt)
      have hw : IntKind.i64.wrap ((i : Int) - (st : Int)) = ((i - st : Nat) : Int) := by rw [IntKind.wrap_i64]; omega
      have hw1 : IntKind.i64.wrap ((i : Int) + (st : Int)) = ((i + st : Nat) : Int) := by rw [IntKind.wrap_i64]; omega
      have hto : (IntKind.i64.wrap ((i : Int) - (st : Int))).toNat = i - st := by rw [hw, Int.toNat_natCast]
      have hld : ∀ {Q : V → Prop}, Q (A (l[i - st]'(by omega))) → (IntKind.i64.wrap ((i : Int) - (st : Int))).toNat * 4 + 4 ≤ (encL l).length ∧ opt (one (some true) (sub (encL l) ((IntKind.i64.wrap ((i : Int) - (st : Int))).toNat * 4) 4)) fun v => fv v Q := by
        intro Q hq
        rw [hto]
        exact ldA (by omega) hq
      rw [St.knows _ _ ht hz _ hh]
      refine Loop.round ?_
      conv => whnf
      repeat (first
        | (refine sel_yes ?_ ?_; (first | assumption | (simp only [beq_iff_eq, bne_iff_ne, beq_eq_false_iff_ne, bne_eq_false_iff_eq, decide_eq_true_eq, decide_eq_false_iff_not, Bool.not_eq_true', Bool.not_eq_false', ne_eq, beq_true, beq_false, bne_self_eq_false, not_true_eq_false, not_false_eq_true, gt_iff_lt, ge_iff_le, Int.not_lt, Int.not_le, Bool.true_eq_false, Bool.false_eq_true] <;> omega)); conv => whnf)
        | (refine sel_no ?_ ?_; (first | assumption | (simp only [beq_iff_eq, bne_iff_ne, beq_eq_false_iff_ne, bne_eq_false_iff_eq, decide_eq_true_eq, decide_eq_false_iff_not, Bool.not_eq_true', Bool.not_eq_false', ne_eq, beq_true, beq_false, bne_self_eq_false, not_true_eq_false, not_false_eq_true, gt_iff_lt, ge_iff_le, Int.not_lt, Int.not_le, Bool.true_eq_false, Bool.false_eq_true] <;> omega)); conv => whnf)
        | (refine ⟨le_rfl' ?_, ?_⟩; rfl; conv => whnf)
        | (refine ⟨⟨?_, ?_⟩, ?_⟩; omega; omega; conv => whnf)
        | (refine ⟨⟨?_, ?_, ?_⟩, ?_⟩; rfl; omega; omega; conv => whnf)
        | (refine ⟨rfl, ?_, ?_⟩; decide; conv => whnf))
      try exact rfl
      refine hld ?_
      conv => whnf
      refine ⟨⟨by omega, by omega⟩, ?_⟩
      conv => whnf
      refine ldA (i := i) hlt ?_
      conv => whnf
      refine ⟨_, hE, ?_⟩
      conv => whnf
      by_cases hc : cmpV (l[i - st]'(by omega)) l[i] < 0
      · have hc' : decide (cmpV (l[i - st]'(by omega)) l[i] ≥ 0) = false := decide_eq_false (by omega)
        refine sel_no hc' ?_
        conv => whnf
        refine ih (i + st) _ (by rw [Nat.mul_succ] at hd; omega) (by omega) (by omega) (by rw [Nat.add_mod_right]; exact hm) ⟨?_, rfl, rfl, trivial⟩ ⟨?_, trivial⟩ rfl (fun z' a b => hr z' a (fun g => b (fun j h2 h3 h4 h5 => g j (by omega) h3 h4 h5))) (fun z' a => hq z' (fun j h2 h3 h4 h5 => ?_))
        · conv => lhs; whnf
          exact vi hw1
        · rfl
        · by_cases hj : i + st ≤ j
          · exact a j hj h3 h4 h5
          · obtain rfl : j = i := by
              rcases hst with rfl | rfl <;> omega
            exact hc
      · have hc' : decide (cmpV (l[i - st]'(by omega)) l[i] ≥ 0) = true := decide_eq_true (by omega)
        refine sel_yes hc' ?_
        conv => whnf
        exact hr _ rfl (fun g => hc (g i (Nat.le_refl _) hm hlt h1))
    · have g : decide ((i : Int) < (l.length : Int)) = false := decide_eq_false (by omega)
      rw [St.knows _ _ ht hz _ hh]
      refine Loop.round ?_
      conv => whnf
      repeat (first
        | (refine sel_yes ?_ ?_; (first | assumption | (simp only [beq_iff_eq, bne_iff_ne, beq_eq_false_iff_ne, bne_eq_false_iff_eq, decide_eq_true_eq, decide_eq_false_iff_not, Bool.not_eq_true', Bool.not_eq_false', ne_eq, beq_true, beq_false, bne_self_eq_false, not_true_eq_false, not_false_eq_true, gt_iff_lt, ge_iff_le, Int.not_lt, Int.not_le, Bool.true_eq_false, Bool.false_eq_true] <;> omega)); conv => whnf)
        | (refine sel_no ?_ ?_; (first | assumption | (simp only [beq_iff_eq, bne_iff_ne, beq_eq_false_iff_ne, bne_eq_false_iff_eq, decide_eq_true_eq, decide_eq_false_iff_not, Bool.not_eq_true', Bool.not_eq_false', ne_eq, beq_true, beq_false, bne_self_eq_false, not_true_eq_false, not_false_eq_true, gt_iff_lt, ge_iff_le, Int.not_lt, Int.not_le, Bool.true_eq_false, Bool.false_eq_true] <;> omega)); conv => whnf)
        | (refine ⟨le_rfl' ?_, ?_⟩; rfl; conv => whnf)
        | (refine ⟨⟨?_, ?_⟩, ?_⟩; omega; omega; conv => whnf)
        | (refine ⟨⟨?_, ?_, ?_⟩, ?_⟩; rfl; omega; omega; conv => whnf)
        | (refine ⟨rfl, ?_, ?_⟩; decide; conv => whnf))
      try exact rfl
      exact hq _ (fun j h2 h3 h4 _ => by omega)
end
end Go.Proofs.YtbekoaalaofloaaGreatDoor.AB
end

section
set_option linter.unusedVariables false
set_option linter.unusedSimpArgs false
open Go Go.Ab Go.Proofs Go.Vl
namespace Go.Proofs.YtbekoaalaofloaaGreatDoor.AB
set_option maxRecDepth 100000
set_option maxHeartbeats 16000000
set_option linter.unusedSimpArgs false
section
variable {ext : Exts}
theorem rownLa (hn : Non ext) (k n : Int) (t : ByteArray) (l : List T) (hw : WfV ⟨k, n, t, l⟩) (hl : l.length ≤ 1024) (t0 : t = ⟨#[]⟩) (hk : k = 0) (hn0 : n = 0) (hl0 : l = []) :
    ∃ r, (cfg ext).Ev 37 [A ⟨k, n, t, l⟩] r ∧ r = .bool (propB (PlainV k n t ∧ FormV k l)) := by
  have hc := rcoll hn k
  rw [show decide (k = 4 ∨ k = 5 ∨ k = 6) = false from decide_eq_false (by omega)] at hc
  have h1 : Int.tmod (l.length : Int) 1 = 0 := Int.tmod_one _
  have hte : (!(t.toList == (⟨#[]⟩ : ByteArray).toList)) = false := by rw [t0, beq_self_eq_true]; rfl
  have hteF : ((!(t.toList == (⟨#[]⟩ : ByteArray).toList)) == false) = true := by rw [hte]; rfl
  have hw' := hw
  simp only [WfV] at hw'
  have E : ∀ a ∈ l, ∀ b ∈ l, (cfg ext).Ev 39 [A a, A b] (.int .i64 (cmpV a b)) := fun a ha b _ => rcmpL hn l hw'.2.2.2.2 a ha b
  have hlz : l.length = 0 := by rw [hl0]; rfl
  rw [propB_yes ⟨⟨.inr t0, by omega, by rw [if_neg (by omega), if_neg (by omega)]; omega⟩, by unfold FormV; rw [if_neg (by omega), if_neg (by omega), if_neg (by omega)]; exact hl0⟩]
  refine Ev.ofF (hn 37 (by decide) (by decide)) Tryz.func37 rfl rfl ?_
  conv => whnf
  repeat (first
    | (refine sel_yes ?_ ?_; (first | assumption | (simp only [beq_iff_eq, bne_iff_ne, beq_eq_false_iff_ne, bne_eq_false_iff_eq, decide_eq_true_eq, decide_eq_false_iff_not, Bool.not_eq_true', Bool.not_eq_false', ne_eq, beq_true, beq_false, bne_self_eq_false, not_true_eq_false, not_false_eq_true, gt_iff_lt, ge_iff_le, Int.not_lt, Int.not_le, Bool.true_eq_false, Bool.false_eq_true] <;> omega)); conv => whnf)
    | (refine sel_no ?_ ?_; (first | assumption | (simp only [beq_iff_eq, bne_iff_ne, beq_eq_false_iff_ne, bne_eq_false_iff_eq, decide_eq_true_eq, decide_eq_false_iff_not, Bool.not_eq_true', Bool.not_eq_false', ne_eq, beq_true, beq_false, bne_self_eq_false, not_true_eq_false, not_false_eq_true, gt_iff_lt, ge_iff_le, Int.not_lt, Int.not_le, Bool.true_eq_false, Bool.false_eq_true] <;> omega)); conv => whnf)
    | (refine ⟨_, hc, ?_⟩; conv => whnf)
    | (refine ⟨le_rfl' ?_, ?_⟩; rfl; conv => whnf)
    | (refine ⟨⟨?_, ?_⟩, ?_⟩; omega; omega; conv => whnf)
    | (refine ⟨⟨?_, ?_, ?_⟩, ?_⟩; rfl; omega; omega; conv => whnf)
    | (refine ⟨rfl, ?_, ?_⟩; decide; conv => whnf))
  try exact rfl
  refine lown01 k n t l hl E 1 (.inl rfl) _ _ l.length 1 _ (by omega) (by omega) (by decide) (by decide) ⟨rfl, rfl, rfl, trivial⟩ ⟨rfl, trivial⟩ rfl (fun z a b => absurd (fun j _ _ h4 _ => by omega) b) (fun z b => ?_)
  conv => whnf
  exact ⟨rfl⟩
theorem rownMa (hn : Non ext) (k n : Int) (t : ByteArray) (l : List T) (hw : WfV ⟨k, n, t, l⟩) (hl : l.length ≤ 1024) (t0 : t = ⟨#[]⟩) (hk : k = 0) (hn0 : n = 0) (hpos : 0 < l.length) :
    ∃ r, (cfg ext).Ev 37 [A ⟨k, n, t, l⟩] r ∧ r = .bool (propB (PlainV k n t ∧ FormV k l)) := by
  have hc := rcoll hn k
  rw [show decide (k = 4 ∨ k = 5 ∨ k = 6) = false from decide_eq_false (by omega)] at hc
  have h1 : Int.tmod (l.length : Int) 1 = 0 := Int.tmod_one _
  have hte : (!(t.toList == (⟨#[]⟩ : ByteArray).toList)) = false := by rw [t0, beq_self_eq_true]; rfl
  have hteF : ((!(t.toList == (⟨#[]⟩ : ByteArray).toList)) == false) = true := by rw [hte]; rfl
  have hw' := hw
  simp only [WfV] at hw'
  have E : ∀ a ∈ l, ∀ b ∈ l, (cfg ext).Ev 39 [A a, A b] (.int .i64 (cmpV a b)) := fun a ha b _ => rcmpL hn l hw'.2.2.2.2 a ha b
  rw [propB_no (fun h => by have := h.2; unfold FormV at this; rw [if_neg (by omega), if_neg (by omega), if_neg (by omega)] at this; rw [this] at hpos; simp at hpos)]
  refine Ev.ofF (hn 37 (by decide) (by decide)) Tryz.func37 rfl rfl ?_
  conv => whnf
  repeat (first
    | (refine sel_yes ?_ ?_; (first | assumption | (simp only [beq_iff_eq, bne_iff_ne, beq_eq_false_iff_ne, bne_eq_false_iff_eq, decide_eq_true_eq, decide_eq_false_iff_not, Bool.not_eq_true', Bool.not_eq_false', ne_eq, beq_true, beq_false, bne_self_eq_false, not_true_eq_false, not_false_eq_true, gt_iff_lt, ge_iff_le, Int.not_lt, Int.not_le, Bool.true_eq_false, Bool.false_eq_true] <;> omega)); conv => whnf)
    | (refine sel_no ?_ ?_; (first | assumption | (simp only [beq_iff_eq, bne_iff_ne, beq_eq_false_iff_ne, bne_eq_false_iff_eq, decide_eq_true_eq, decide_eq_false_iff_not, Bool.not_eq_true', Bool.not_eq_false', ne_eq, beq_true, beq_false, bne_self_eq_false, not_true_eq_false, not_false_eq_true, gt_iff_lt, ge_iff_le, Int.not_lt, Int.not_le, Bool.true_eq_false, Bool.false_eq_true] <;> omega)); conv => whnf)
    | (refine ⟨_, hc, ?_⟩; conv => whnf)
    | (refine ⟨le_rfl' ?_, ?_⟩; rfl; conv => whnf)
    | (refine ⟨⟨?_, ?_⟩, ?_⟩; omega; omega; conv => whnf)
    | (refine ⟨⟨?_, ?_, ?_⟩, ?_⟩; rfl; omega; omega; conv => whnf)
    | (refine ⟨rfl, ?_, ?_⟩; decide; conv => whnf))
  try exact rfl
  exact ⟨rfl⟩
theorem rownLb (hn : Non ext) (k n : Int) (t : ByteArray) (l : List T) (hw : WfV ⟨k, n, t, l⟩) (hl : l.length ≤ 1024) (t0 : t = ⟨#[]⟩) (hk : k = 1) (hn0 : n = 0) (hl0 : l = []) :
    ∃ r, (cfg ext).Ev 37 [A ⟨k, n, t, l⟩] r ∧ r = .bool (propB (PlainV k n t ∧ FormV k l)) := by
  have hc := rcoll hn k
  rw [show decide (k = 4 ∨ k = 5 ∨ k = 6) = false from decide_eq_false (by omega)] at hc
  have h1 : Int.tmod (l.length : Int) 1 = 0 := Int.tmod_one _
  have hte : (!(t.toList == (⟨#[]⟩ : ByteArray).toList)) = false := by rw [t0, beq_self_eq_true]; rfl
  have hteF : ((!(t.toList == (⟨#[]⟩ : ByteArray).toList)) == false) = true := by rw [hte]; rfl
  have hw' := hw
  simp only [WfV] at hw'
  have E : ∀ a ∈ l, ∀ b ∈ l, (cfg ext).Ev 39 [A a, A b] (.int .i64 (cmpV a b)) := fun a ha b _ => rcmpL hn l hw'.2.2.2.2 a ha b
  have hlz : l.length = 0 := by rw [hl0]; rfl
  rw [propB_yes ⟨⟨.inr t0, .inl hk, by rw [if_pos hk]; omega⟩, by unfold FormV; rw [if_neg (by omega), if_neg (by omega), if_neg (by omega)]; exact hl0⟩]
  refine Ev.ofF (hn 37 (by decide) (by decide)) Tryz.func37 rfl rfl ?_
  conv => whnf
  repeat (first
    | (refine sel_yes ?_ ?_; (first | assumption | (simp only [beq_iff_eq, bne_iff_ne, beq_eq_false_iff_ne, bne_eq_false_iff_eq, decide_eq_true_eq, decide_eq_false_iff_not, Bool.not_eq_true', Bool.not_eq_false', ne_eq, beq_true, beq_false, bne_self_eq_false, not_true_eq_false, not_false_eq_true, gt_iff_lt, ge_iff_le, Int.not_lt, Int.not_le, Bool.true_eq_false, Bool.false_eq_true] <;> omega)); conv => whnf)
    | (refine sel_no ?_ ?_; (first | assumption | (simp only [beq_iff_eq, bne_iff_ne, beq_eq_false_iff_ne, bne_eq_false_iff_eq, decide_eq_true_eq, decide_eq_false_iff_not, Bool.not_eq_true', Bool.not_eq_false', ne_eq, beq_true, beq_false, bne_self_eq_false, not_true_eq_false, not_false_eq_true, gt_iff_lt, ge_iff_le, Int.not_lt, Int.not_le, Bool.true_eq_false, Bool.false_eq_true] <;> omega)); conv => whnf)
    | (refine ⟨_, hc, ?_⟩; conv => whnf)
    | (refine ⟨le_rfl' ?_, ?_⟩; rfl; conv => whnf)
    | (refine ⟨⟨?_, ?_⟩, ?_⟩; omega; omega; conv => whnf)
    | (refine ⟨⟨?_, ?_, ?_⟩, ?_⟩; rfl; omega; omega; conv => whnf)
    | (refine ⟨rfl, ?_, ?_⟩; decide; conv => whnf))
  try exact rfl
  refine lown01 k n t l hl E 1 (.inl rfl) _ _ l.length 1 _ (by omega) (by omega) (by decide) (by decide) ⟨rfl, rfl, rfl, trivial⟩ ⟨rfl, trivial⟩ rfl (fun z a b => absurd (fun j _ _ h4 _ => by omega) b) (fun z b => ?_)
  conv => whnf
  exact ⟨rfl⟩
theorem rownMb (hn : Non ext) (k n : Int) (t : ByteArray) (l : List T) (hw : WfV ⟨k, n, t, l⟩) (hl : l.length ≤ 1024) (t0 : t = ⟨#[]⟩) (hk : k = 1) (hn0 : n = 0) (hpos : 0 < l.length) :
    ∃ r, (cfg ext).Ev 37 [A ⟨k, n, t, l⟩] r ∧ r = .bool (propB (PlainV k n t ∧ FormV k l)) := by
  have hc := rcoll hn k
  rw [show decide (k = 4 ∨ k = 5 ∨ k = 6) = false from decide_eq_false (by omega)] at hc
  have h1 : Int.tmod (l.length : Int) 1 = 0 := Int.tmod_one _
  have hte : (!(t.toList == (⟨#[]⟩ : ByteArray).toList)) = false := by rw [t0, beq_self_eq_true]; rfl
  have hteF : ((!(t.toList == (⟨#[]⟩ : ByteArray).toList)) == false) = true := by rw [hte]; rfl
  have hw' := hw
  simp only [WfV] at hw'
  have E : ∀ a ∈ l, ∀ b ∈ l, (cfg ext).Ev 39 [A a, A b] (.int .i64 (cmpV a b)) := fun a ha b _ => rcmpL hn l hw'.2.2.2.2 a ha b
  rw [propB_no (fun h => by have := h.2; unfold FormV at this; rw [if_neg (by omega), if_neg (by omega), if_neg (by omega)] at this; rw [this] at hpos; simp at hpos)]
  refine Ev.ofF (hn 37 (by decide) (by decide)) Tryz.func37 rfl rfl ?_
  conv => whnf
  repeat (first
    | (refine sel_yes ?_ ?_; (first | assumption | (simp only [beq_iff_eq, bne_iff_ne, beq_eq_false_iff_ne, bne_eq_false_iff_eq, decide_eq_true_eq, decide_eq_false_iff_not, Bool.not_eq_true', Bool.not_eq_false', ne_eq, beq_true, beq_false, bne_self_eq_false, not_true_eq_false, not_false_eq_true, gt_iff_lt, ge_iff_le, Int.not_lt, Int.not_le, Bool.true_eq_false, Bool.false_eq_true] <;> omega)); conv => whnf)
    | (refine sel_no ?_ ?_; (first | assumption | (simp only [beq_iff_eq, bne_iff_ne, beq_eq_false_iff_ne, bne_eq_false_iff_eq, decide_eq_true_eq, decide_eq_false_iff_not, Bool.not_eq_true', Bool.not_eq_false', ne_eq, beq_true, beq_false, bne_self_eq_false, not_true_eq_false, not_false_eq_true, gt_iff_lt, ge_iff_le, Int.not_lt, Int.not_le, Bool.true_eq_false, Bool.false_eq_true] <;> omega)); conv => whnf)
    | (refine ⟨_, hc, ?_⟩; conv => whnf)
    | (refine ⟨le_rfl' ?_, ?_⟩; rfl; conv => whnf)
    | (refine ⟨⟨?_, ?_⟩, ?_⟩; omega; omega; conv => whnf)
    | (refine ⟨⟨?_, ?_, ?_⟩, ?_⟩; rfl; omega; omega; conv => whnf)
    | (refine ⟨rfl, ?_, ?_⟩; decide; conv => whnf))
  try exact rfl
  exact ⟨rfl⟩
theorem rownLc (hn : Non ext) (k n : Int) (t : ByteArray) (l : List T) (hw : WfV ⟨k, n, t, l⟩) (hl : l.length ≤ 1024) (t0 : t = ⟨#[]⟩) (hk : k = 1) (hn0 : n = 1) (hl0 : l = []) :
    ∃ r, (cfg ext).Ev 37 [A ⟨k, n, t, l⟩] r ∧ r = .bool (propB (PlainV k n t ∧ FormV k l)) := by
  have hc := rcoll hn k
  rw [show decide (k = 4 ∨ k = 5 ∨ k = 6) = false from decide_eq_false (by omega)] at hc
  have h1 : Int.tmod (l.length : Int) 1 = 0 := Int.tmod_one _
  have hte : (!(t.toList == (⟨#[]⟩ : ByteArray).toList)) = false := by rw [t0, beq_self_eq_true]; rfl
  have hteF : ((!(t.toList == (⟨#[]⟩ : ByteArray).toList)) == false) = true := by rw [hte]; rfl
  have hw' := hw
  simp only [WfV] at hw'
  have E : ∀ a ∈ l, ∀ b ∈ l, (cfg ext).Ev 39 [A a, A b] (.int .i64 (cmpV a b)) := fun a ha b _ => rcmpL hn l hw'.2.2.2.2 a ha b
  have hlz : l.length = 0 := by rw [hl0]; rfl
  rw [propB_yes ⟨⟨.inr t0, .inl hk, by rw [if_pos hk]; omega⟩, by unfold FormV; rw [if_neg (by omega), if_neg (by omega), if_neg (by omega)]; exact hl0⟩]
  refine Ev.ofF (hn 37 (by decide) (by decide)) Tryz.func37 rfl rfl ?_
  conv => whnf
  repeat (first
    | (refine sel_yes ?_ ?_; (first | assumption | (simp only [beq_iff_eq, bne_iff_ne, beq_eq_false_iff_ne, bne_eq_false_iff_eq, decide_eq_true_eq, decide_eq_false_iff_not, Bool.not_eq_true', Bool.not_eq_false', ne_eq, beq_true, beq_false, bne_self_eq_false, not_true_eq_false, not_false_eq_true, gt_iff_lt, ge_iff_le, Int.not_lt, Int.not_le, Bool.true_eq_false, Bool.false_eq_true] <;> omega)); conv => whnf)
    | (refine sel_no ?_ ?_; (first | assumption | (simp only [beq_iff_eq, bne_iff_ne, beq_eq_false_iff_ne, bne_eq_false_iff_eq, decide_eq_true_eq, decide_eq_false_iff_not, Bool.not_eq_true', Bool.not_eq_false', ne_eq, beq_true, beq_false, bne_self_eq_false, not_true_eq_false, not_false_eq_true, gt_iff_lt, ge_iff_le, Int.not_lt, Int.not_le, Bool.true_eq_false, Bool.false_eq_true] <;> omega)); conv => whnf)
    | (refine ⟨_, hc, ?_⟩; conv => whnf)
    | (refine ⟨le_rfl' ?_, ?_⟩; rfl; conv => whnf)
    | (refine ⟨⟨?_, ?_⟩, ?_⟩; omega; omega; conv => whnf)
    | (refine ⟨⟨?_, ?_, ?_⟩, ?_⟩; rfl; omega; omega; conv => whnf)
    | (refine ⟨rfl, ?_, ?_⟩; decide; conv => whnf))
  try exact rfl
  refine lown01 k n t l hl E 1 (.inl rfl) _ _ l.length 1 _ (by omega) (by omega) (by decide) (by decide) ⟨rfl, rfl, rfl, trivial⟩ ⟨rfl, trivial⟩ rfl (fun z a b => absurd (fun j _ _ h4 _ => by omega) b) (fun z b => ?_)
  conv => whnf
  exact ⟨rfl⟩
theorem rownMc (hn : Non ext) (k n : Int) (t : ByteArray) (l : List T) (hw : WfV ⟨k, n, t, l⟩) (hl : l.length ≤ 1024) (t0 : t = ⟨#[]⟩) (hk : k = 1) (hn0 : n = 1) (hpos : 0 < l.length) :
    ∃ r, (cfg ext).Ev 37 [A ⟨k, n, t, l⟩] r ∧ r = .bool (propB (PlainV k n t ∧ FormV k l)) := by
  have hc := rcoll hn k
  rw [show decide (k = 4 ∨ k = 5 ∨ k = 6) = false from decide_eq_false (by omega)] at hc
  have h1 : Int.tmod (l.length : Int) 1 = 0 := Int.tmod_one _
  have hte : (!(t.toList == (⟨#[]⟩ : ByteArray).toList)) = false := by rw [t0, beq_self_eq_true]; rfl
  have hteF : ((!(t.toList == (⟨#[]⟩ : ByteArray).toList)) == false) = true := by rw [hte]; rfl
  have hw' := hw
  simp only [WfV] at hw'
  have E : ∀ a ∈ l, ∀ b ∈ l, (cfg ext).Ev 39 [A a, A b] (.int .i64 (cmpV a b)) := fun a ha b _ => rcmpL hn l hw'.2.2.2.2 a ha b
  rw [propB_no (fun h => by have := h.2; unfold FormV at this; rw [if_neg (by omega), if_neg (by omega), if_neg (by omega)] at this; rw [this] at hpos; simp at hpos)]
  refine Ev.ofF (hn 37 (by decide) (by decide)) Tryz.func37 rfl rfl ?_
  conv => whnf
  repeat (first
    | (refine sel_yes ?_ ?_; (first | assumption | (simp only [beq_iff_eq, bne_iff_ne, beq_eq_false_iff_ne, bne_eq_false_iff_eq, decide_eq_true_eq, decide_eq_false_iff_not, Bool.not_eq_true', Bool.not_eq_false', ne_eq, beq_true, beq_false, bne_self_eq_false, not_true_eq_false, not_false_eq_true, gt_iff_lt, ge_iff_le, Int.not_lt, Int.not_le, Bool.true_eq_false, Bool.false_eq_true] <;> omega)); conv => whnf)
    | (refine sel_no ?_ ?_; (first | assumption | (simp only [beq_iff_eq, bne_iff_ne, beq_eq_false_iff_ne, bne_eq_false_iff_eq, decide_eq_true_eq, decide_eq_false_iff_not, Bool.not_eq_true', Bool.not_eq_false', ne_eq, beq_true, beq_false, bne_self_eq_false, not_true_eq_false, not_false_eq_true, gt_iff_lt, ge_iff_le, Int.not_lt, Int.not_le, Bool.true_eq_false, Bool.false_eq_true] <;> omega)); conv => whnf)
    | (refine ⟨_, hc, ?_⟩; conv => whnf)
    | (refine ⟨le_rfl' ?_, ?_⟩; rfl; conv => whnf)
    | (refine ⟨⟨?_, ?_⟩, ?_⟩; omega; omega; conv => whnf)
    | (refine ⟨⟨?_, ?_, ?_⟩, ?_⟩; rfl; omega; omega; conv => whnf)
    | (refine ⟨rfl, ?_, ?_⟩; decide; conv => whnf))
  try exact rfl
  exact ⟨rfl⟩
theorem rownLd (hn : Non ext) (k n : Int) (t : ByteArray) (l : List T) (hw : WfV ⟨k, n, t, l⟩) (hl : l.length ≤ 1024) (t0 : t = ⟨#[]⟩) (hk : k = 2) (hl0 : l = []) :
    ∃ r, (cfg ext).Ev 37 [A ⟨k, n, t, l⟩] r ∧ r = .bool (propB (PlainV k n t ∧ FormV k l)) := by
  have hc := rcoll hn k
  rw [show decide (k = 4 ∨ k = 5 ∨ k = 6) = false from decide_eq_false (by omega)] at hc
  have h1 : Int.tmod (l.length : Int) 1 = 0 := Int.tmod_one _
  have hte : (!(t.toList == (⟨#[]⟩ : ByteArray).toList)) = false := by rw [t0, beq_self_eq_true]; rfl
  have hteF : ((!(t.toList == (⟨#[]⟩ : ByteArray).toList)) == false) = true := by rw [hte]; rfl
  have hw' := hw
  simp only [WfV] at hw'
  have E : ∀ a ∈ l, ∀ b ∈ l, (cfg ext).Ev 39 [A a, A b] (.int .i64 (cmpV a b)) := fun a ha b _ => rcmpL hn l hw'.2.2.2.2 a ha b
  have hlz : l.length = 0 := by rw [hl0]; rfl
  rw [propB_yes ⟨⟨.inr t0, by omega, by rw [if_neg (by omega), if_neg (by omega)]; omega⟩, by unfold FormV; rw [if_neg (by omega), if_neg (by omega), if_neg (by omega)]; exact hl0⟩]
  refine Ev.ofF (hn 37 (by decide) (by decide)) Tryz.func37 rfl rfl ?_
  conv => whnf
  repeat (first
    | (refine sel_yes ?_ ?_; (first | assumption | (simp only [beq_iff_eq, bne_iff_ne, beq_eq_false_iff_ne, bne_eq_false_iff_eq, decide_eq_true_eq, decide_eq_false_iff_not, Bool.not_eq_true', Bool.not_eq_false', ne_eq, beq_true, beq_false, bne_self_eq_false, not_true_eq_false, not_false_eq_true, gt_iff_lt, ge_iff_le, Int.not_lt, Int.not_le, Bool.true_eq_false, Bool.false_eq_true] <;> omega)); conv => whnf)
    | (refine sel_no ?_ ?_; (first | assumption | (simp only [beq_iff_eq, bne_iff_ne, beq_eq_false_iff_ne, bne_eq_false_iff_eq, decide_eq_true_eq, decide_eq_false_iff_not, Bool.not_eq_true', Bool.not_eq_false', ne_eq, beq_true, beq_false, bne_self_eq_false, not_true_eq_false, not_false_eq_true, gt_iff_lt, ge_iff_le, Int.not_lt, Int.not_le, Bool.true_eq_false, Bool.false_eq_true] <;> omega)); conv => whnf)
    | (refine ⟨_, hc, ?_⟩; conv => whnf)
    | (refine ⟨le_rfl' ?_, ?_⟩; rfl; conv => whnf)
    | (refine ⟨⟨?_, ?_⟩, ?_⟩; omega; omega; conv => whnf)
    | (refine ⟨⟨?_, ?_, ?_⟩, ?_⟩; rfl; omega; omega; conv => whnf)
    | (refine ⟨rfl, ?_, ?_⟩; decide; conv => whnf))
  try exact rfl
  refine lown01 k n t l hl E 1 (.inl rfl) _ _ l.length 1 _ (by omega) (by omega) (by decide) (by decide) ⟨rfl, rfl, rfl, trivial⟩ ⟨rfl, trivial⟩ rfl (fun z a b => absurd (fun j _ _ h4 _ => by omega) b) (fun z b => ?_)
  conv => whnf
  exact ⟨rfl⟩
theorem rownMd (hn : Non ext) (k n : Int) (t : ByteArray) (l : List T) (hw : WfV ⟨k, n, t, l⟩) (hl : l.length ≤ 1024) (t0 : t = ⟨#[]⟩) (hk : k = 2) (hpos : 0 < l.length) :
    ∃ r, (cfg ext).Ev 37 [A ⟨k, n, t, l⟩] r ∧ r = .bool (propB (PlainV k n t ∧ FormV k l)) := by
  have hc := rcoll hn k
  rw [show decide (k = 4 ∨ k = 5 ∨ k = 6) = false from decide_eq_false (by omega)] at hc
  have h1 : Int.tmod (l.length : Int) 1 = 0 := Int.tmod_one _
  have hte : (!(t.toList == (⟨#[]⟩ : ByteArray).toList)) = false := by rw [t0, beq_self_eq_true]; rfl
  have hteF : ((!(t.toList == (⟨#[]⟩ : ByteArray).toList)) == false) = true := by rw [hte]; rfl
  have hw' := hw
  simp only [WfV] at hw'
  have E : ∀ a ∈ l, ∀ b ∈ l, (cfg ext).Ev 39 [A a, A b] (.int .i64 (cmpV a b)) := fun a ha b _ => rcmpL hn l hw'.2.2.2.2 a ha b
  rw [propB_no (fun h => by have := h.2; unfold FormV at this; rw [if_neg (by omega), if_neg (by omega), if_neg (by omega)] at this; rw [this] at hpos; simp at hpos)]
  refine Ev.ofF (hn 37 (by decide) (by decide)) Tryz.func37 rfl rfl ?_
  conv => whnf
  repeat (first
    | (refine sel_yes ?_ ?_; (first | assumption | (simp only [beq_iff_eq, bne_iff_ne, beq_eq_false_iff_ne, bne_eq_false_iff_eq, decide_eq_true_eq, decide_eq_false_iff_not, Bool.not_eq_true', Bool.not_eq_false', ne_eq, beq_true, beq_false, bne_self_eq_false, not_true_eq_false, not_false_eq_true, gt_iff_lt, ge_iff_le, Int.not_lt, Int.not_le, Bool.true_eq_false, Bool.false_eq_true] <;> omega)); conv => whnf)
    | (refine sel_no ?_ ?_; (first | assumption | (simp only [beq_iff_eq, bne_iff_ne, beq_eq_false_iff_ne, bne_eq_false_iff_eq, decide_eq_true_eq, decide_eq_false_iff_not, Bool.not_eq_true', Bool.not_eq_false', ne_eq, beq_true, beq_false, bne_self_eq_false, not_true_eq_false, not_false_eq_true, gt_iff_lt, ge_iff_le, Int.not_lt, Int.not_le, Bool.true_eq_false, Bool.false_eq_true] <;> omega)); conv => whnf)
    | (refine ⟨_, hc, ?_⟩; conv => whnf)
    | (refine ⟨le_rfl' ?_, ?_⟩; rfl; conv => whnf)
    | (refine ⟨⟨?_, ?_⟩, ?_⟩; omega; omega; conv => whnf)
    | (refine ⟨⟨?_, ?_, ?_⟩, ?_⟩; rfl; omega; omega; conv => whnf)
    | (refine ⟨rfl, ?_, ?_⟩; decide; conv => whnf))
  try exact rfl
  exact ⟨rfl⟩
theorem rownN (hn : Non ext) (k n : Int) (t : ByteArray) (l : List T) (hw : WfV ⟨k, n, t, l⟩) (hl : l.length ≤ 1024) (t0 : t = ⟨#[]⟩) (low : k = 0 ∨ k = 1 ∨ k = 2) (hnk : ¬ (k = 2 ∨ n = 0 ∨ (k = 1 ∧ n = 1))) :
    ∃ r, (cfg ext).Ev 37 [A ⟨k, n, t, l⟩] r ∧ r = .bool (propB (PlainV k n t ∧ FormV k l)) := by
  rw [propB_no (fun h => by have := h.1; unfold PlainV at this; obtain ⟨_, h2, h3⟩ := this; by_cases hk1 : k = 1; rw [if_pos hk1] at h3; omega; omega)]
  refine Ev.ofF (hn 37 (by decide) (by decide)) Tryz.func37 rfl rfl ?_
  conv => whnf
  by_cases hk1 : k = 1
  · repeat (first
      | (refine sel_yes ?_ ?_; (first | assumption | (simp only [beq_iff_eq, bne_iff_ne, beq_eq_false_iff_ne, bne_eq_false_iff_eq, decide_eq_true_eq, decide_eq_false_iff_not, Bool.not_eq_true', Bool.not_eq_false', ne_eq, beq_true, beq_false, bne_self_eq_false, not_true_eq_false, not_false_eq_true, gt_iff_lt, ge_iff_le, Int.not_lt, Int.not_le, Bool.true_eq_false, Bool.false_eq_true] <;> omega)); conv => whnf)
      | (refine sel_no ?_ ?_; (first | assumption | (simp only [beq_iff_eq, bne_iff_ne, beq_eq_false_iff_ne, bne_eq_false_iff_eq, decide_eq_true_eq, decide_eq_false_iff_not, Bool.not_eq_true', Bool.not_eq_false', ne_eq, beq_true, beq_false, bne_self_eq_false, not_true_eq_false, not_false_eq_true, gt_iff_lt, ge_iff_le, Int.not_lt, Int.not_le, Bool.true_eq_false, Bool.false_eq_true] <;> omega)); conv => whnf)
      | (refine ⟨le_rfl' ?_, ?_⟩; rfl; conv => whnf)
      | (refine ⟨⟨?_, ?_⟩, ?_⟩; omega; omega; conv => whnf)
      | (refine ⟨⟨?_, ?_, ?_⟩, ?_⟩; rfl; omega; omega; conv => whnf)
      | (refine ⟨rfl, ?_, ?_⟩; decide; conv => whnf))
    try exact rfl
    exact ⟨rfl⟩
  · repeat (first
      | (refine sel_yes ?_ ?_; (first | assumption | (simp only [beq_iff_eq, bne_iff_ne, beq_eq_false_iff_ne, bne_eq_false_iff_eq, decide_eq_true_eq, decide_eq_false_iff_not, Bool.not_eq_true', Bool.not_eq_false', ne_eq, beq_true, beq_false, bne_self_eq_false, not_true_eq_false, not_false_eq_true, gt_iff_lt, ge_iff_le, Int.not_lt, Int.not_le, Bool.true_eq_false, Bool.false_eq_true] <;> omega)); conv => whnf)
      | (refine sel_no ?_ ?_; (first | assumption | (simp only [beq_iff_eq, bne_iff_ne, beq_eq_false_iff_ne, bne_eq_false_iff_eq, decide_eq_true_eq, decide_eq_false_iff_not, Bool.not_eq_true', Bool.not_eq_false', ne_eq, beq_true, beq_false, bne_self_eq_false, not_true_eq_false, not_false_eq_true, gt_iff_lt, ge_iff_le, Int.not_lt, Int.not_le, Bool.true_eq_false, Bool.false_eq_true] <;> omega)); conv => whnf)
      | (refine ⟨le_rfl' ?_, ?_⟩; rfl; conv => whnf)
      | (refine ⟨⟨?_, ?_⟩, ?_⟩; omega; omega; conv => whnf)
      | (refine ⟨⟨?_, ?_, ?_⟩, ?_⟩; rfl; omega; omega; conv => whnf)
      | (refine ⟨rfl, ?_, ?_⟩; decide; conv => whnf))
    try exact rfl
    exact ⟨rfl⟩
theorem rownL (hn : Non ext) (k n : Int) (t : ByteArray) (l : List T) (hw : WfV ⟨k, n, t, l⟩) (hl : l.length ≤ 1024) (t0 : t = ⟨#[]⟩) (low : k = 0 ∨ k = 1 ∨ k = 2) :
    ∃ r, (cfg ext).Ev 37 [A ⟨k, n, t, l⟩] r ∧ r = .bool (propB (PlainV k n t ∧ FormV k l)) := by
  have hlt0 : l = [] ∨ 0 < l.length := by cases l with | nil => exact .inl rfl | cons a l => exact .inr (by simp)
  by_cases hnk : (k = 2 ∨ n = 0 ∨ (k = 1 ∧ n = 1))
  · rcases hlt0 with h0 | hpos
    · by_cases k2 : k = 2
      · exact rownLd hn k n t l hw hl t0 k2 h0
      by_cases n0 : n = 0
      · by_cases k0 : k = 0
        · exact rownLa hn k n t l hw hl t0 k0 n0 h0
        · exact rownLb hn k n t l hw hl t0 (by omega) n0 h0
      · exact rownLc hn k n t l hw hl t0 (by omega) (by omega) h0
    · by_cases k2 : k = 2
      · exact rownMd hn k n t l hw hl t0 k2 hpos
      by_cases n0 : n = 0
      · by_cases k0 : k = 0
        · exact rownMa hn k n t l hw hl t0 k0 n0 hpos
        · exact rownMb hn k n t l hw hl t0 (by omega) n0 hpos
      · exact rownMc hn k n t l hw hl t0 (by omega) (by omega) hpos
  · exact rownN hn k n t l hw hl t0 low hnk
end
end Go.Proofs.YtbekoaalaofloaaGreatDoor.AB
end

section
set_option linter.unusedVariables false
set_option linter.unusedSimpArgs false
open Go Go.Ab Go.Proofs Go.Vl
namespace Go.Proofs.YtbekoaalaofloaaGreatDoor.AB
set_option maxRecDepth 100000
set_option maxHeartbeats 16000000
set_option linter.unusedSimpArgs false
section
variable {ext : Exts}
theorem rownR (hn : Non ext) (k n : Int) (t : ByteArray) (l : List T) (hw : WfV ⟨k, n, t, l⟩) (hl : l.length ≤ 1024) (h : k < 0 ∨ k > 6) :
    ∃ r, (cfg ext).Ev 37 [A ⟨k, n, t, l⟩] r ∧ r = .bool (propB (PlainV k n t ∧ FormV k l)) := by
  have hw' := hw
  simp only [WfV] at hw'
  have E : ∀ a ∈ l, ∀ b ∈ l, (cfg ext).Ev 39 [A a, A b] (.int .i64 (cmpV a b)) := fun a ha b _ => rcmpL hn l hw'.2.2.2.2 a ha b
  refine Ev.ofF (hn 37 (by decide) (by decide)) Tryz.func37 rfl rfl ?_
  conv => whnf
  by_cases k0 : k < 0
  · rw [propB_no (fun h => by have := h.1; unfold PlainV at this; obtain ⟨_, _, h3⟩ := this; rw [if_neg (by omega), if_neg (by omega)] at h3; omega)]
    repeat (first
      | (refine sel_yes ?_ ?_; (first | assumption | (simp only [beq_iff_eq, bne_iff_ne, beq_eq_false_iff_ne, bne_eq_false_iff_eq, decide_eq_true_eq, decide_eq_false_iff_not, Bool.not_eq_true', Bool.not_eq_false', ne_eq, beq_true, beq_false, bne_self_eq_false, not_true_eq_false, not_false_eq_true, gt_iff_lt, ge_iff_le, Int.not_lt, Int.not_le, Bool.true_eq_false, Bool.false_eq_true] <;> omega)); conv => whnf)
      | (refine sel_no ?_ ?_; (first | assumption | (simp only [beq_iff_eq, bne_iff_ne, beq_eq_false_iff_ne, bne_eq_false_iff_eq, decide_eq_true_eq, decide_eq_false_iff_not, Bool.not_eq_true', Bool.not_eq_false', ne_eq, beq_true, beq_false, bne_self_eq_false, not_true_eq_false, not_false_eq_true, gt_iff_lt, ge_iff_le, Int.not_lt, Int.not_le, Bool.true_eq_false, Bool.false_eq_true] <;> omega)); conv => whnf)
      | (refine ⟨le_rfl' ?_, ?_⟩; rfl; conv => whnf)
      | (refine ⟨⟨?_, ?_⟩, ?_⟩; omega; omega; conv => whnf)
      | (refine ⟨⟨?_, ?_, ?_⟩, ?_⟩; rfl; omega; omega; conv => whnf)
      | (refine ⟨rfl, ?_, ?_⟩; decide; conv => whnf))
    try exact rfl
    exact ⟨rfl⟩
  by_cases k7 : k > 6
  · rw [propB_no (fun h => by have := h.1; unfold PlainV at this; obtain ⟨_, _, h3⟩ := this; rw [if_neg (by omega), if_neg (by omega)] at h3; omega)]
    repeat (first
      | (refine sel_yes ?_ ?_; (first | assumption | (simp only [beq_iff_eq, bne_iff_ne, beq_eq_false_iff_ne, bne_eq_false_iff_eq, decide_eq_true_eq, decide_eq_false_iff_not, Bool.not_eq_true', Bool.not_eq_false', ne_eq, beq_true, beq_false, bne_self_eq_false, not_true_eq_false, not_false_eq_true, gt_iff_lt, ge_iff_le, Int.not_lt, Int.not_le, Bool.true_eq_false, Bool.false_eq_true] <;> omega)); conv => whnf)
      | (refine sel_no ?_ ?_; (first | assumption | (simp only [beq_iff_eq, bne_iff_ne, beq_eq_false_iff_ne, bne_eq_false_iff_eq, decide_eq_true_eq, decide_eq_false_iff_not, Bool.not_eq_true', Bool.not_eq_false', ne_eq, beq_true, beq_false, bne_self_eq_false, not_true_eq_false, not_false_eq_true, gt_iff_lt, ge_iff_le, Int.not_lt, Int.not_le, Bool.true_eq_false, Bool.false_eq_true] <;> omega)); conv => whnf)
      | (refine ⟨le_rfl' ?_, ?_⟩; rfl; conv => whnf)
      | (refine ⟨⟨?_, ?_⟩, ?_⟩; omega; omega; conv => whnf)
      | (refine ⟨⟨?_, ?_, ?_⟩, ?_⟩; rfl; omega; omega; conv => whnf)
      | (refine ⟨rfl, ?_, ?_⟩; decide; conv => whnf))
    try exact rfl
    exact ⟨rfl⟩
  exact absurd h (by omega)
theorem rown3 (hn : Non ext) (k n : Int) (t : ByteArray) (l : List T) (hw : WfV ⟨k, n, t, l⟩) (hl : l.length ≤ 1024) (k3 : k = 3) :
    ∃ r, (cfg ext).Ev 37 [A ⟨k, n, t, l⟩] r ∧ r = .bool (propB (PlainV k n t ∧ FormV k l)) := by
  have hw' := hw
  simp only [WfV] at hw'
  have E : ∀ a ∈ l, ∀ b ∈ l, (cfg ext).Ev 39 [A a, A b] (.int .i64 (cmpV a b)) := fun a ha b _ => rcmpL hn l hw'.2.2.2.2 a ha b
  refine Ev.ofF (hn 37 (by decide) (by decide)) Tryz.func37 rfl rfl ?_
  conv => whnf
  subst k3
  by_cases n0 : n = 0
  · subst n0
    by_cases hz : t.size ≤ 256
    · have hlt := rletters hn t (by omega)
      have hz' : decide ((t.size : Int) ≤ 256) = true := decide_eq_true (by omega)
      by_cases hu : lettersZ t ≥ 0
      · have hu' : decide (lettersZ t ≥ 0) = true := decide_eq_true hu
        have hub : utfB t = true := by rw [← letters_ok]; exact hu'
        by_cases hl0 : l = []
        · subst hl0
          rw [propB_yes (⟨⟨.inl rfl, .inr (.inr rfl), by rw [if_neg (by decide), if_pos rfl]; exact ⟨hz, hub⟩⟩, by unfold FormV; rw [if_neg (by decide), if_neg (by decide), if_neg (by decide)]⟩)]
          repeat (first
            | (refine sel_yes ?_ ?_; (first | assumption | (simp only [beq_iff_eq, bne_iff_ne, beq_eq_false_iff_ne, bne_eq_false_iff_eq, decide_eq_true_eq, decide_eq_false_iff_not, Bool.not_eq_true', Bool.not_eq_false', ne_eq, beq_true, beq_false, bne_self_eq_false, not_true_eq_false, not_false_eq_true, gt_iff_lt, ge_iff_le, Int.not_lt, Int.not_le, Bool.true_eq_false, Bool.false_eq_true] <;> omega)); conv => whnf)
            | (refine sel_no ?_ ?_; (first | assumption | (simp only [beq_iff_eq, bne_iff_ne, beq_eq_false_iff_ne, bne_eq_false_iff_eq, decide_eq_true_eq, decide_eq_false_iff_not, Bool.not_eq_true', Bool.not_eq_false', ne_eq, beq_true, beq_false, bne_self_eq_false, not_true_eq_false, not_false_eq_true, gt_iff_lt, ge_iff_le, Int.not_lt, Int.not_le, Bool.true_eq_false, Bool.false_eq_true] <;> omega)); conv => whnf)
            | (refine ⟨_, hlt, ?_⟩; conv => whnf)
            | (refine ⟨le_rfl' ?_, ?_⟩; rfl; conv => whnf)
            | (refine ⟨⟨?_, ?_⟩, ?_⟩; omega; omega; conv => whnf)
            | (refine ⟨⟨?_, ?_, ?_⟩, ?_⟩; rfl; omega; omega; conv => whnf)
            | (refine ⟨rfl, ?_, ?_⟩; decide; conv => whnf))
          try exact rfl
          exact ⟨rfl⟩
        · have hl1 : l.length ≠ 0 := fun h => hl0 (List.eq_nil_of_length_eq_zero h)
          rw [propB_no (fun h => by have := h.2; unfold FormV at this; rw [if_neg (by decide), if_neg (by decide), if_neg (by decide)] at this; exact hl0 this)]
          repeat (first
            | (refine sel_yes ?_ ?_; (first | assumption | (simp only [beq_iff_eq, bne_iff_ne, beq_eq_false_iff_ne, bne_eq_false_iff_eq, decide_eq_true_eq, decide_eq_false_iff_not, Bool.not_eq_true', Bool.not_eq_false', ne_eq, beq_true, beq_false, bne_self_eq_false, not_true_eq_false, not_false_eq_true, gt_iff_lt, ge_iff_le, Int.not_lt, Int.not_le, Bool.true_eq_false, Bool.false_eq_true] <;> omega)); conv => whnf)
            | (refine sel_no ?_ ?_; (first | assumption | (simp only [beq_iff_eq, bne_iff_ne, beq_eq_false_iff_ne, bne_eq_false_iff_eq, decide_eq_true_eq, decide_eq_false_iff_not, Bool.not_eq_true', Bool.not_eq_false', ne_eq, beq_true, beq_false, bne_self_eq_false, not_true_eq_false, not_false_eq_true, gt_iff_lt, ge_iff_le, Int.not_lt, Int.not_le, Bool.true_eq_false, Bool.false_eq_true] <;> omega)); conv => whnf)
            | (refine ⟨_, hlt, ?_⟩; conv => whnf)
            | (refine ⟨le_rfl' ?_, ?_⟩; rfl; conv => whnf)
            | (refine ⟨⟨?_, ?_⟩, ?_⟩; omega; omega; conv => whnf)
            | (refine ⟨⟨?_, ?_, ?_⟩, ?_⟩; rfl; omega; omega; conv => whnf)
            | (refine ⟨rfl, ?_, ?_⟩; decide; conv => whnf))
          try exact rfl
          refine ⟨congrArg V.bool ?_⟩
          show ((l.length : Int) == 0) = false
          rw [beq_eq_false_iff_ne]; omega
      · have hu' : decide (lettersZ t ≥ 0) = false := decide_eq_false hu
        have hub : utfB t = false := by rw [← letters_ok]; exact hu'
        rw [propB_no (fun h => by have := h.1; unfold PlainV at this; obtain ⟨_, _, h3⟩ := this; rw [if_neg (by decide), if_pos rfl, hub] at h3; cases h3.2)]
        repeat (first
          | (refine sel_yes ?_ ?_; (first | assumption | (simp only [beq_iff_eq, bne_iff_ne, beq_eq_false_iff_ne, bne_eq_false_iff_eq, decide_eq_true_eq, decide_eq_false_iff_not, Bool.not_eq_true', Bool.not_eq_false', ne_eq, beq_true, beq_false, bne_self_eq_false, not_true_eq_false, not_false_eq_true, gt_iff_lt, ge_iff_le, Int.not_lt, Int.not_le, Bool.true_eq_false, Bool.false_eq_true] <;> omega)); conv => whnf)
          | (refine sel_no ?_ ?_; (first | assumption | (simp only [beq_iff_eq, bne_iff_ne, beq_eq_false_iff_ne, bne_eq_false_iff_eq, decide_eq_true_eq, decide_eq_false_iff_not, Bool.not_eq_true', Bool.not_eq_false', ne_eq, beq_true, beq_false, bne_self_eq_false, not_true_eq_false, not_false_eq_true, gt_iff_lt, ge_iff_le, Int.not_lt, Int.not_le, Bool.true_eq_false, Bool.false_eq_true] <;> omega)); conv => whnf)
          | (refine ⟨_, hlt, ?_⟩; conv => whnf)
          | (refine ⟨le_rfl' ?_, ?_⟩; rfl; conv => whnf)
          | (refine ⟨⟨?_, ?_⟩, ?_⟩; omega; omega; conv => whnf)
          | (refine ⟨⟨?_, ?_, ?_⟩, ?_⟩; rfl; omega; omega; conv => whnf)
          | (refine ⟨rfl, ?_, ?_⟩; decide; conv => whnf))
        try exact rfl
        exact ⟨rfl⟩
    · have hz' : decide ((t.size : Int) ≤ 256) = false := decide_eq_false (by omega)
      rw [propB_no (fun h => by have := h.1; unfold PlainV at this; obtain ⟨_, _, h3⟩ := this; rw [if_neg (by decide), if_pos rfl] at h3; exact hz h3.1)]
      repeat (first
        | (refine sel_yes ?_ ?_; (first | assumption | (simp only [beq_iff_eq, bne_iff_ne, beq_eq_false_iff_ne, bne_eq_false_iff_eq, decide_eq_true_eq, decide_eq_false_iff_not, Bool.not_eq_true', Bool.not_eq_false', ne_eq, beq_true, beq_false, bne_self_eq_false, not_true_eq_false, not_false_eq_true, gt_iff_lt, ge_iff_le, Int.not_lt, Int.not_le, Bool.true_eq_false, Bool.false_eq_true] <;> omega)); conv => whnf)
        | (refine sel_no ?_ ?_; (first | assumption | (simp only [beq_iff_eq, bne_iff_ne, beq_eq_false_iff_ne, bne_eq_false_iff_eq, decide_eq_true_eq, decide_eq_false_iff_not, Bool.not_eq_true', Bool.not_eq_false', ne_eq, beq_true, beq_false, bne_self_eq_false, not_true_eq_false, not_false_eq_true, gt_iff_lt, ge_iff_le, Int.not_lt, Int.not_le, Bool.true_eq_false, Bool.false_eq_true] <;> omega)); conv => whnf)
        | (refine ⟨le_rfl' ?_, ?_⟩; rfl; conv => whnf)
        | (refine ⟨⟨?_, ?_⟩, ?_⟩; omega; omega; conv => whnf)
        | (refine ⟨⟨?_, ?_, ?_⟩, ?_⟩; rfl; omega; omega; conv => whnf)
        | (refine ⟨rfl, ?_, ?_⟩; decide; conv => whnf))
      try exact rfl
      exact ⟨rfl⟩
  · rw [propB_no (fun h => by have := h.1; unfold PlainV at this; obtain ⟨_, h2, _⟩ := this; omega)]
    repeat (first
      | (refine sel_yes ?_ ?_; (first | assumption | (simp only [beq_iff_eq, bne_iff_ne, beq_eq_false_iff_ne, bne_eq_false_iff_eq, decide_eq_true_eq, decide_eq_false_iff_not, Bool.not_eq_true', Bool.not_eq_false', ne_eq, beq_true, beq_false, bne_self_eq_false, not_true_eq_false, not_false_eq_true, gt_iff_lt, ge_iff_le, Int.not_lt, Int.not_le, Bool.true_eq_false, Bool.false_eq_true] <;> omega)); conv => whnf)
      | (refine sel_no ?_ ?_; (first | assumption | (simp only [beq_iff_eq, bne_iff_ne, beq_eq_false_iff_ne, bne_eq_false_iff_eq, decide_eq_true_eq, decide_eq_false_iff_not, Bool.not_eq_true', Bool.not_eq_false', ne_eq, beq_true, beq_false, bne_self_eq_false, not_true_eq_false, not_false_eq_true, gt_iff_lt, ge_iff_le, Int.not_lt, Int.not_le, Bool.true_eq_false, Bool.false_eq_true] <;> omega)); conv => whnf)
      | (refine ⟨le_rfl' ?_, ?_⟩; rfl; conv => whnf)
      | (refine ⟨⟨?_, ?_⟩, ?_⟩; omega; omega; conv => whnf)
      | (refine ⟨⟨?_, ?_, ?_⟩, ?_⟩; rfl; omega; omega; conv => whnf)
      | (refine ⟨rfl, ?_, ?_⟩; decide; conv => whnf))
    try exact rfl
    exact ⟨rfl⟩
theorem rownC (hn : Non ext) (k n : Int) (t : ByteArray) (l : List T) (hw : WfV ⟨k, n, t, l⟩) (hl : l.length ≤ 1024) (t0 : t = ⟨#[]⟩) (hi : k = 4 ∨ k = 5 ∨ k = 6) :
    ∃ r, (cfg ext).Ev 37 [A ⟨k, n, t, l⟩] r ∧ r = .bool (propB (PlainV k n t ∧ FormV k l)) := by
  have hw' := hw
  simp only [WfV] at hw'
  have E : ∀ a ∈ l, ∀ b ∈ l, (cfg ext).Ev 39 [A a, A b] (.int .i64 (cmpV a b)) := fun a ha b _ => rcmpL hn l hw'.2.2.2.2 a ha b
  refine Ev.ofF (hn 37 (by decide) (by decide)) Tryz.func37 rfl rfl ?_
  conv => whnf
  have hte : (!(t.toList == (⟨#[]⟩ : ByteArray).toList)) = false := by rw [t0, beq_self_eq_true]; rfl
  have hteF : ((!(t.toList == (⟨#[]⟩ : ByteArray).toList)) == false) = true := by rw [hte]; rfl
  have k3 : ¬ k = 3 := by omega
  have hlt0 : l = [] ∨ 0 < l.length := by cases l with | nil => exact .inl rfl | cons a l => exact .inr (by simp)
  have h1 : Int.tmod (l.length : Int) 1 = 0 := Int.tmod_one _
  have plain (h1 : k = 1 ∨ k = 2 ∨ n = 0) (h2 : k = 1 → n = 0 ∨ n = 1) : PlainV k n t := ⟨.inr t0, h1, by
    split
    · exact h2 ‹_›
    · omega⟩
  · by_cases n0 : n = 0
    · subst n0
      have hpl : PlainV k 0 t := plain (.inr (.inr rfl)) (by omega)
      have hc := rcoll hn k
      rw [show decide (k = 4 ∨ k = 5 ∨ k = 6) = true from decide_eq_true (by omega)] at hc
      rcases (show k = 4 ∨ k = 5 ∨ k = 6 by omega) with rfl | rfl | rfl
      · rw [propB_yes ⟨hpl, by unfold FormV; rw [if_pos rfl]; trivial⟩]
        repeat (first
          | (refine sel_yes ?_ ?_; (first | assumption | (simp only [beq_iff_eq, bne_iff_ne, beq_eq_false_iff_ne, bne_eq_false_iff_eq, decide_eq_true_eq, decide_eq_false_iff_not, Bool.not_eq_true', Bool.not_eq_false', ne_eq, beq_true, beq_false, bne_self_eq_false, not_true_eq_false, not_false_eq_true, gt_iff_lt, ge_iff_le, Int.not_lt, Int.not_le, Bool.true_eq_false, Bool.false_eq_true] <;> omega)); conv => whnf)
          | (refine sel_no ?_ ?_; (first | assumption | (simp only [beq_iff_eq, bne_iff_ne, beq_eq_false_iff_ne, bne_eq_false_iff_eq, decide_eq_true_eq, decide_eq_false_iff_not, Bool.not_eq_true', Bool.not_eq_false', ne_eq, beq_true, beq_false, bne_self_eq_false, not_true_eq_false, not_false_eq_true, gt_iff_lt, ge_iff_le, Int.not_lt, Int.not_le, Bool.true_eq_false, Bool.false_eq_true] <;> omega)); conv => whnf)
          | (refine ⟨_, hc, ?_⟩; conv => whnf)
          | (refine ⟨le_rfl' ?_, ?_⟩; rfl; conv => whnf)
          | (refine ⟨⟨?_, ?_⟩, ?_⟩; omega; omega; conv => whnf)
          | (refine ⟨⟨?_, ?_, ?_⟩, ?_⟩; rfl; omega; omega; conv => whnf)
          | (refine ⟨rfl, ?_, ?_⟩; decide; conv => whnf))
        try exact rfl
        exact ⟨rfl⟩
      · have ef : PlainV 5 0 t ∧ FormV 5 l ↔ RiseF 1 l 1 := by
          rw [rise_F (by decide)]; unfold FormV; rw [if_neg (by decide), if_neg (by decide), if_pos rfl]; exact ⟨fun h => h.2, fun h => ⟨hpl, h⟩⟩
        repeat (first
          | (refine sel_yes ?_ ?_; (first | assumption | (simp only [beq_iff_eq, bne_iff_ne, beq_eq_false_iff_ne, bne_eq_false_iff_eq, decide_eq_true_eq, decide_eq_false_iff_not, Bool.not_eq_true', Bool.not_eq_false', ne_eq, beq_true, beq_false, bne_self_eq_false, not_true_eq_false, not_false_eq_true, gt_iff_lt, ge_iff_le, Int.not_lt, Int.not_le, Bool.true_eq_false, Bool.false_eq_true] <;> omega)); conv => whnf)
          | (refine sel_no ?_ ?_; (first | assumption | (simp only [beq_iff_eq, bne_iff_ne, beq_eq_false_iff_ne, bne_eq_false_iff_eq, decide_eq_true_eq, decide_eq_false_iff_not, Bool.not_eq_true', Bool.not_eq_false', ne_eq, beq_true, beq_false, bne_self_eq_false, not_true_eq_false, not_false_eq_true, gt_iff_lt, ge_iff_le, Int.not_lt, Int.not_le, Bool.true_eq_false, Bool.false_eq_true] <;> omega)); conv => whnf)
          | (refine ⟨_, hc, ?_⟩; conv => whnf)
          | (refine ⟨le_rfl' ?_, ?_⟩; rfl; conv => whnf)
          | (refine ⟨⟨?_, ?_⟩, ?_⟩; omega; omega; conv => whnf)
          | (refine ⟨⟨?_, ?_, ?_⟩, ?_⟩; rfl; omega; omega; conv => whnf)
          | (refine ⟨rfl, ?_, ?_⟩; decide; conv => whnf))
        try exact rfl
        refine lown01 5 0 t l hl E 1 (.inl rfl) _ _ l.length 1 _ (by omega) (by omega) (by decide) (by decide) ⟨rfl, rfl, rfl, trivial⟩ ⟨rfl, trivial⟩ rfl (fun z a b => ?_) (fun z b => ?_)
        · exact Fin.tmpB (i := 2) rfl a (by rw [propB_no (fun h => b (ef.1 h))])
        · rw [propB_yes (ef.2 b)]
          conv => whnf
          exact ⟨rfl⟩
      · by_cases hev : l.length % 2 = 0
        · have h2 : Int.tmod (l.length : Int) 2 = 0 := by rw [Int.tmod_eq_emod_of_nonneg (by omega)]; omega
          have ef : PlainV 6 0 t ∧ FormV 6 l ↔ RiseF 2 l 2 := by
            rw [rise_F (by decide)]; unfold FormV; rw [if_neg (by decide), if_pos rfl]; exact ⟨fun h => h.2.2, fun h => ⟨hpl, hev, h⟩⟩
          repeat (first
            | (refine sel_yes ?_ ?_; (first | assumption | (simp only [beq_iff_eq, bne_iff_ne, beq_eq_false_iff_ne, bne_eq_false_iff_eq, decide_eq_true_eq, decide_eq_false_iff_not, Bool.not_eq_true', Bool.not_eq_false', ne_eq, beq_true, beq_false, bne_self_eq_false, not_true_eq_false, not_false_eq_true, gt_iff_lt, ge_iff_le, Int.not_lt, Int.not_le, Bool.true_eq_false, Bool.false_eq_true] <;> omega)); conv => whnf)
            | (refine sel_no ?_ ?_; (first | assumption | (simp only [beq_iff_eq, bne_iff_ne, beq_eq_false_iff_ne, bne_eq_false_iff_eq, decide_eq_true_eq, decide_eq_false_iff_not, Bool.not_eq_true', Bool.not_eq_false', ne_eq, beq_true, beq_false, bne_self_eq_false, not_true_eq_false, not_false_eq_true, gt_iff_lt, ge_iff_le, Int.not_lt, Int.not_le, Bool.true_eq_false, Bool.false_eq_true] <;> omega)); conv => whnf)
            | (refine ⟨_, hc, ?_⟩; conv => whnf)
            | (refine ⟨le_rfl' ?_, ?_⟩; rfl; conv => whnf)
            | (refine ⟨⟨?_, ?_⟩, ?_⟩; omega; omega; conv => whnf)
            | (refine ⟨⟨?_, ?_, ?_⟩, ?_⟩; rfl; omega; omega; conv => whnf)
            | (refine ⟨rfl, ?_, ?_⟩; decide; conv => whnf))
          try exact rfl
          refine lown01 6 0 t l hl E 2 (.inr rfl) _ _ l.length 2 _ (by omega) (by omega) (by decide) (by decide) ⟨rfl, rfl, rfl, trivial⟩ ⟨rfl, trivial⟩ rfl (fun z a b => ?_) (fun z b => ?_)
          · exact Fin.tmpB (i := 2) rfl a (by rw [propB_no (fun h => b (ef.1 h))])
          · rw [propB_yes (ef.2 b)]
            conv => whnf
            exact ⟨rfl⟩
        · have h2 : Int.tmod (l.length : Int) 2 ≠ 0 := by rw [Int.tmod_eq_emod_of_nonneg (by omega)]; omega
          rw [propB_no (fun h => by have := h.2; unfold FormV at this; rw [if_neg (by decide), if_pos rfl] at this; exact hev this.1)]
          repeat (first
            | (refine sel_yes ?_ ?_; (first | assumption | (simp only [beq_iff_eq, bne_iff_ne, beq_eq_false_iff_ne, bne_eq_false_iff_eq, decide_eq_true_eq, decide_eq_false_iff_not, Bool.not_eq_true', Bool.not_eq_false', ne_eq, beq_true, beq_false, bne_self_eq_false, not_true_eq_false, not_false_eq_true, gt_iff_lt, ge_iff_le, Int.not_lt, Int.not_le, Bool.true_eq_false, Bool.false_eq_true] <;> omega)); conv => whnf)
            | (refine sel_no ?_ ?_; (first | assumption | (simp only [beq_iff_eq, bne_iff_ne, beq_eq_false_iff_ne, bne_eq_false_iff_eq, decide_eq_true_eq, decide_eq_false_iff_not, Bool.not_eq_true', Bool.not_eq_false', ne_eq, beq_true, beq_false, bne_self_eq_false, not_true_eq_false, not_false_eq_true, gt_iff_lt, ge_iff_le, Int.not_lt, Int.not_le, Bool.true_eq_false, Bool.false_eq_true] <;> omega)); conv => whnf)
            | (refine ⟨_, hc, ?_⟩; conv => whnf)
            | (refine ⟨le_rfl' ?_, ?_⟩; rfl; conv => whnf)
            | (refine ⟨⟨?_, ?_⟩, ?_⟩; omega; omega; conv => whnf)
            | (refine ⟨⟨?_, ?_, ?_⟩, ?_⟩; rfl; omega; omega; conv => whnf)
            | (refine ⟨rfl, ?_, ?_⟩; decide; conv => whnf))
          try exact rfl
          exact ⟨rfl⟩
    · rw [propB_no (fun h => by have := h.1; unfold PlainV at this; obtain ⟨_, h2, h3⟩ := this; omega)]
      repeat (first
        | (refine sel_yes ?_ ?_; (first | assumption | (simp only [beq_iff_eq, bne_iff_ne, beq_eq_false_iff_ne, bne_eq_false_iff_eq, decide_eq_true_eq, decide_eq_false_iff_not, Bool.not_eq_true', Bool.not_eq_false', ne_eq, beq_true, beq_false, bne_self_eq_false, not_true_eq_false, not_false_eq_true, gt_iff_lt, ge_iff_le, Int.not_lt, Int.not_le, Bool.true_eq_false, Bool.false_eq_true] <;> omega)); conv => whnf)
        | (refine sel_no ?_ ?_; (first | assumption | (simp only [beq_iff_eq, bne_iff_ne, beq_eq_false_iff_ne, bne_eq_false_iff_eq, decide_eq_true_eq, decide_eq_false_iff_not, Bool.not_eq_true', Bool.not_eq_false', ne_eq, beq_true, beq_false, bne_self_eq_false, not_true_eq_false, not_false_eq_true, gt_iff_lt, ge_iff_le, Int.not_lt, Int.not_le, Bool.true_eq_false, Bool.false_eq_true] <;> omega)); conv => whnf)
        | (refine ⟨le_rfl' ?_, ?_⟩; rfl; conv => whnf)
        | (refine ⟨⟨?_, ?_⟩, ?_⟩; omega; omega; conv => whnf)
        | (refine ⟨⟨?_, ?_, ?_⟩, ?_⟩; rfl; omega; omega; conv => whnf)
        | (refine ⟨rfl, ?_, ?_⟩; decide; conv => whnf))
      try exact rfl
      exact ⟨rfl⟩
theorem rownT (hn : Non ext) (k n : Int) (t : ByteArray) (l : List T) (hw : WfV ⟨k, n, t, l⟩) (hl : l.length ≤ 1024) (t0 : t ≠ ⟨#[]⟩) (k3 : k ≠ 3) (h : ¬ (k < 0 ∨ k > 6)) :
    ∃ r, (cfg ext).Ev 37 [A ⟨k, n, t, l⟩] r ∧ r = .bool (propB (PlainV k n t ∧ FormV k l)) := by
  have hw' := hw
  simp only [WfV] at hw'
  have E : ∀ a ∈ l, ∀ b ∈ l, (cfg ext).Ev 39 [A a, A b] (.int .i64 (cmpV a b)) := fun a ha b _ => rcmpL hn l hw'.2.2.2.2 a ha b
  refine Ev.ofF (hn 37 (by decide) (by decide)) Tryz.func37 rfl rfl ?_
  conv => whnf
  have hte : (!(t.toList == (⟨#[]⟩ : ByteArray).toList)) = true := by
    rw [Bool.not_eq_true', beq_eq_false_iff_ne]
    intro h
    exact t0 (Go.WideShapes.bytes_inj (by rw [ByteArray.toList_eq, ByteArray.toList_eq] at h; exact h))
  have hteF : ((!(t.toList == (⟨#[]⟩ : ByteArray).toList)) == false) = false := by rw [hte]; rfl
  rw [propB_no (fun h => by have := h.1; unfold PlainV at this; obtain ⟨h1, _, _⟩ := this; rcases h1 with h1 | h1; exact k3 h1; exact t0 h1)]
  by_cases k2 : k = 2
  · repeat (first
      | (refine sel_yes ?_ ?_; (first | assumption | (simp only [beq_iff_eq, bne_iff_ne, beq_eq_false_iff_ne, bne_eq_false_iff_eq, decide_eq_true_eq, decide_eq_false_iff_not, Bool.not_eq_true', Bool.not_eq_false', ne_eq, beq_true, beq_false, bne_self_eq_false, not_true_eq_false, not_false_eq_true, gt_iff_lt, ge_iff_le, Int.not_lt, Int.not_le, Bool.true_eq_false, Bool.false_eq_true] <;> omega)); conv => whnf)
      | (refine sel_no ?_ ?_; (first | assumption | (simp only [beq_iff_eq, bne_iff_ne, beq_eq_false_iff_ne, bne_eq_false_iff_eq, decide_eq_true_eq, decide_eq_false_iff_not, Bool.not_eq_true', Bool.not_eq_false', ne_eq, beq_true, beq_false, bne_self_eq_false, not_true_eq_false, not_false_eq_true, gt_iff_lt, ge_iff_le, Int.not_lt, Int.not_le, Bool.true_eq_false, Bool.false_eq_true] <;> omega)); conv => whnf)
      | (refine ⟨le_rfl' ?_, ?_⟩; rfl; conv => whnf)
      | (refine ⟨⟨?_, ?_⟩, ?_⟩; omega; omega; conv => whnf)
      | (refine ⟨⟨?_, ?_, ?_⟩, ?_⟩; rfl; omega; omega; conv => whnf)
      | (refine ⟨rfl, ?_, ?_⟩; decide; conv => whnf))
    try exact rfl
    exact ⟨rfl⟩
  by_cases n0 : n = 0
  · repeat (first
      | (refine sel_yes ?_ ?_; (first | assumption | (simp only [beq_iff_eq, bne_iff_ne, beq_eq_false_iff_ne, bne_eq_false_iff_eq, decide_eq_true_eq, decide_eq_false_iff_not, Bool.not_eq_true', Bool.not_eq_false', ne_eq, beq_true, beq_false, bne_self_eq_false, not_true_eq_false, not_false_eq_true, gt_iff_lt, ge_iff_le, Int.not_lt, Int.not_le, Bool.true_eq_false, Bool.false_eq_true] <;> omega)); conv => whnf)
      | (refine sel_no ?_ ?_; (first | assumption | (simp only [beq_iff_eq, bne_iff_ne, beq_eq_false_iff_ne, bne_eq_false_iff_eq, decide_eq_true_eq, decide_eq_false_iff_not, Bool.not_eq_true', Bool.not_eq_false', ne_eq, beq_true, beq_false, bne_self_eq_false, not_true_eq_false, not_false_eq_true, gt_iff_lt, ge_iff_le, Int.not_lt, Int.not_le, Bool.true_eq_false, Bool.false_eq_true] <;> omega)); conv => whnf)
      | (refine ⟨le_rfl' ?_, ?_⟩; rfl; conv => whnf)
      | (refine ⟨⟨?_, ?_⟩, ?_⟩; omega; omega; conv => whnf)
      | (refine ⟨⟨?_, ?_, ?_⟩, ?_⟩; rfl; omega; omega; conv => whnf)
      | (refine ⟨rfl, ?_, ?_⟩; decide; conv => whnf))
    try exact rfl
    exact ⟨rfl⟩
  by_cases hk1 : k = 1
  · by_cases n1 : n = 1
    · repeat (first
        | (refine sel_yes ?_ ?_; (first | assumption | (simp only [beq_iff_eq, bne_iff_ne, beq_eq_false_iff_ne, bne_eq_false_iff_eq, decide_eq_true_eq, decide_eq_false_iff_not, Bool.not_eq_true', Bool.not_eq_false', ne_eq, beq_true, beq_false, bne_self_eq_false, not_true_eq_false, not_false_eq_true, gt_iff_lt, ge_iff_le, Int.not_lt, Int.not_le, Bool.true_eq_false, Bool.false_eq_true] <;> omega)); conv => whnf)
        | (refine sel_no ?_ ?_; (first | assumption | (simp only [beq_iff_eq, bne_iff_ne, beq_eq_false_iff_ne, bne_eq_false_iff_eq, decide_eq_true_eq, decide_eq_false_iff_not, Bool.not_eq_true', Bool.not_eq_false', ne_eq, beq_true, beq_false, bne_self_eq_false, not_true_eq_false, not_false_eq_true, gt_iff_lt, ge_iff_le, Int.not_lt, Int.not_le, Bool.true_eq_false, Bool.false_eq_true] <;> omega)); conv => whnf)
        | (refine ⟨le_rfl' ?_, ?_⟩; rfl; conv => whnf)
        | (refine ⟨⟨?_, ?_⟩, ?_⟩; omega; omega; conv => whnf)
        | (refine ⟨⟨?_, ?_, ?_⟩, ?_⟩; rfl; omega; omega; conv => whnf)
        | (refine ⟨rfl, ?_, ?_⟩; decide; conv => whnf))
      try exact rfl
      exact ⟨rfl⟩
    · repeat (first
        | (refine sel_yes ?_ ?_; (first | assumption | (simp only [beq_iff_eq, bne_iff_ne, beq_eq_false_iff_ne, bne_eq_false_iff_eq, decide_eq_true_eq, decide_eq_false_iff_not, Bool.not_eq_true', Bool.not_eq_false', ne_eq, beq_true, beq_false, bne_self_eq_false, not_true_eq_false, not_false_eq_true, gt_iff_lt, ge_iff_le, Int.not_lt, Int.not_le, Bool.true_eq_false, Bool.false_eq_true] <;> omega)); conv => whnf)
        | (refine sel_no ?_ ?_; (first | assumption | (simp only [beq_iff_eq, bne_iff_ne, beq_eq_false_iff_ne, bne_eq_false_iff_eq, decide_eq_true_eq, decide_eq_false_iff_not, Bool.not_eq_true', Bool.not_eq_false', ne_eq, beq_true, beq_false, bne_self_eq_false, not_true_eq_false, not_false_eq_true, gt_iff_lt, ge_iff_le, Int.not_lt, Int.not_le, Bool.true_eq_false, Bool.false_eq_true] <;> omega)); conv => whnf)
        | (refine ⟨le_rfl' ?_, ?_⟩; rfl; conv => whnf)
        | (refine ⟨⟨?_, ?_⟩, ?_⟩; omega; omega; conv => whnf)
        | (refine ⟨⟨?_, ?_, ?_⟩, ?_⟩; rfl; omega; omega; conv => whnf)
        | (refine ⟨rfl, ?_, ?_⟩; decide; conv => whnf))
      try exact rfl
      exact ⟨rfl⟩
  · repeat (first
      | (refine sel_yes ?_ ?_; (first | assumption | (simp only [beq_iff_eq, bne_iff_ne, beq_eq_false_iff_ne, bne_eq_false_iff_eq, decide_eq_true_eq, decide_eq_false_iff_not, Bool.not_eq_true', Bool.not_eq_false', ne_eq, beq_true, beq_false, bne_self_eq_false, not_true_eq_false, not_false_eq_true, gt_iff_lt, ge_iff_le, Int.not_lt, Int.not_le, Bool.true_eq_false, Bool.false_eq_true] <;> omega)); conv => whnf)
      | (refine sel_no ?_ ?_; (first | assumption | (simp only [beq_iff_eq, bne_iff_ne, beq_eq_false_iff_ne, bne_eq_false_iff_eq, decide_eq_true_eq, decide_eq_false_iff_not, Bool.not_eq_true', Bool.not_eq_false', ne_eq, beq_true, beq_false, bne_self_eq_false, not_true_eq_false, not_false_eq_true, gt_iff_lt, ge_iff_le, Int.not_lt, Int.not_le, Bool.true_eq_false, Bool.false_eq_true] <;> omega)); conv => whnf)
      | (refine ⟨le_rfl' ?_, ?_⟩; rfl; conv => whnf)
      | (refine ⟨⟨?_, ?_⟩, ?_⟩; omega; omega; conv => whnf)
      | (refine ⟨⟨?_, ?_, ?_⟩, ?_⟩; rfl; omega; omega; conv => whnf)
      | (refine ⟨rfl, ?_, ?_⟩; decide; conv => whnf))
    try exact rfl
    exact ⟨rfl⟩
theorem rown (hn : Non ext) (k n : Int) (t : ByteArray) (l : List T) (hw : WfV ⟨k, n, t, l⟩) (hl : l.length ≤ 1024) :
    (cfg ext).Ev 37 [A ⟨k, n, t, l⟩] (.bool (propB (PlainV k n t ∧ FormV k l))) := by
  have key : ∃ r, (cfg ext).Ev 37 [A ⟨k, n, t, l⟩] r ∧ r = .bool (propB (PlainV k n t ∧ FormV k l)) := by
    by_cases h : k < 0 ∨ k > 6
    · exact rownR hn k n t l hw hl h
    by_cases k3 : k = 3
    · exact rown3 hn k n t l hw hl k3
    by_cases t0 : t = ⟨#[]⟩
    · by_cases low : k = 0 ∨ k = 1 ∨ k = 2
      · exact rownL hn k n t l hw hl t0 low
      · exact rownC hn k n t l hw hl t0 (by omega)
    · exact rownT hn k n t l hw hl t0 k3 h
  obtain ⟨r, h, rfl⟩ := key
  exact h
end
end Go.Proofs.YtbekoaalaofloaaGreatDoor.AB
end
