/- What PathsGet is proved with: what the program's functions make of their arguments, by the evaluator. -/
import Derived.Test.YtjfjagnnefmepaaDoorZPathsGetV0
import Derived.Test.YtjfjagnnefmepaaDoorZPathsGetL0
section
set_option linter.unusedVariables false
set_option linter.unusedSimpArgs false
open Go Go.Ab Go.Proofs Go.Vl
namespace Go.Proofs.YtjfjagnnefmepaaDoor.AB
set_option maxRecDepth 100000
set_option maxHeartbeats 8000000
set_option linter.unusedSimpArgs false
section
variable {ext : Exts}
theorem lutf2 (s : ByteArray) (p : Nat) (hp : p < s.size) (hs : s.size ≤ 4611686018427387904) (n : Nat) (hn : n = 2 ∨ n = 3 ∨ n = 4) (hpn : p + n ≤ s.size) (N : Nat) (Q : Ex → St → Prop) (d : Nat) :
    ∀ (i : Nat) (z : St), n - i = d → 2 ≤ i → i ≤ n → Has z.t [(9, .int .i64 i), (6, .int .i64 n), (0, .str s), (1, .int .i64 p)] → z.hp.n = N →
      (∀ z' : St, z'.t 4 = .int .i64 0 → (¬ ∀ j, i ≤ j → j < n → 128 ≤ by_ s (p + j) ∧ by_ s (p + j) ≤ 191) → Q .ret z') →
      (∀ z' : St, Has z'.t [(6, .int .i64 n)] → (∀ j, i ≤ j → j < n → 128 ≤ by_ s (p + j) ∧ by_ s (p + j) ≤ 191) → Q (.exit 2) z') →
      Go.Ab.Loop (cfg ext) (lpOf Tryd.f117) N z Q := by
  induction d with
  | zero =>
    intro i z hd h2 hi ht hz hr hq
    obtain rfl : i = n := by omega
    have g : decide ((i : Int) < (i : Int)) = false := decide_eq_false (by omega)
    rw [St.knows _ _ ht hz]
    refine Loop.round ?_
    conv => whnf
    repeat (first
      | (refine sel_yes ?_ ?_; (first | assumption | (simp only [beq_iff_eq, bne_iff_ne, beq_eq_false_iff_ne, bne_eq_false_iff_eq, decide_eq_true_eq, decide_eq_false_iff_not, Bool.not_eq_true', Bool.not_eq_false', ne_eq, beq_true, beq_false, bne_self_eq_false, not_true_eq_false, not_false_eq_true, gt_iff_lt, ge_iff_le, Int.not_lt, Int.not_le, Bool.true_eq_false, Bool.false_eq_true] <;> omega)); conv => whnf)
      | (refine sel_no ?_ ?_; (first | assumption | (simp only [beq_iff_eq, bne_iff_ne, beq_eq_false_iff_ne, bne_eq_false_iff_eq, decide_eq_true_eq, decide_eq_false_iff_not, Bool.not_eq_true', Bool.not_eq_false', ne_eq, beq_true, beq_false, bne_self_eq_false, not_true_eq_false, not_false_eq_true, gt_iff_lt, ge_iff_le, Int.not_lt, Int.not_le, Bool.true_eq_false, Bool.false_eq_true] <;> omega)); conv => whnf)
      | (refine ⟨le_rfl' ?_, ?_⟩; rfl; conv => whnf)
      | (refine ⟨⟨?_, ?_⟩, ?_⟩; omega; omega; conv => whnf)
      | (refine ⟨⟨?_, ?_, ?_⟩, ?_⟩; rfl; omega; omega; conv => whnf)
      | (refine ⟨rfl, ?_, ?_⟩; decide; conv => whnf))
    try exact rfl
    exact hq _ ⟨rfl, trivial⟩ (fun j h1 h2 => by omega)
  | succ d ih =>
    intro i z hd h2 hi ht hz hr hq
    have g : decide ((i : Int) < (n : Int)) = true := decide_eq_true (by omega)
    have hw : IntKind.i64.wrap ((p : Int) + (i : Int)) = ((p + i : Nat) : Int) := by rw [IntKind.wrap_i64]; omega
    have hb : ((s.data.toList.getD (IntKind.i64.wrap ((p : Int) + (i : Int))).toNat 0).toNat : Int) = (by_ s (p + i) : Int) := by rw [hw, Int.toNat_natCast, getD_by s (p + i) (by omega)]
    have hw1 : IntKind.i64.wrap ((i : Int) + 1) = ((i + 1 : Nat) : Int) := by rw [IntKind.wrap_i64]; omega
    by_cases c1 : 128 ≤ by_ s (p + i)
    · by_cases c2 : by_ s (p + i) ≤ 191
      · rw [St.knows _ _ ht hz]
        refine Loop.round ?_
        conv => whnf
        repeat (first
          | (refine sel_yes ?_ ?_; (first | assumption | (simp only [beq_iff_eq, bne_iff_ne, beq_eq_false_iff_ne, bne_eq_false_iff_eq, decide_eq_true_eq, decide_eq_false_iff_not, Bool.not_eq_true', Bool.not_eq_false', ne_eq, beq_true, beq_false, bne_self_eq_false, not_true_eq_false, not_false_eq_true, gt_iff_lt, ge_iff_le, Int.not_lt, Int.not_le, Bool.true_eq_false, Bool.false_eq_true] <;> omega)); conv => whnf)
          | (refine sel_no ?_ ?_; (first | assumption | (simp only [beq_iff_eq, bne_iff_ne, beq_eq_false_iff_ne, bne_eq_false_iff_eq, decide_eq_true_eq, decide_eq_false_iff_not, Bool.not_eq_true', Bool.not_eq_false', ne_eq, beq_true, beq_false, bne_self_eq_false, not_true_eq_false, not_false_eq_true, gt_iff_lt, ge_iff_le, Int.not_lt, Int.not_le, Bool.true_eq_false, Bool.false_eq_true] <;> omega)); conv => whnf)
          | (refine ⟨le_rfl' ?_, ?_⟩; rfl; conv => whnf)
          | (refine ⟨⟨?_, ?_⟩, ?_⟩; omega; omega; conv => whnf)
          | (refine ⟨⟨?_, ?_, ?_⟩, ?_⟩; rfl; omega; omega; conv => whnf)
          | (refine ⟨rfl, ?_, ?_⟩; decide; conv => whnf))
        try exact rfl
        refine ih (i + 1) _ (by omega) (by omega) (by omega) ⟨?_, rfl, rfl, rfl, trivial⟩ rfl (fun z' a b => hr z' a (fun g => b (fun j h1 h2 => g j (by omega) h2))) (fun z' a b => hq z' a (fun j h1 h2 => ?_))
        · conv => lhs; whnf
          exact vi hw1
        · rcases Nat.lt_or_ge i j with h | h
          · exact b j (by omega) h2
          · obtain rfl : j = i := by omega
            exact ⟨c1, c2⟩
      · rw [St.knows _ _ ht hz]
        refine Loop.round ?_
        conv => whnf
        repeat (first
          | (refine sel_yes ?_ ?_; (first | assumption | (simp only [beq_iff_eq, bne_iff_ne, beq_eq_false_iff_ne, bne_eq_false_iff_eq, decide_eq_true_eq, decide_eq_false_iff_not, Bool.not_eq_true', Bool.not_eq_false', ne_eq, beq_true, beq_false, bne_self_eq_false, not_true_eq_false, not_false_eq_true, gt_iff_lt, ge_iff_le, Int.not_lt, Int.not_le, Bool.true_eq_false, Bool.false_eq_true] <;> omega)); conv => whnf)
          | (refine sel_no ?_ ?_; (first | assumption | (simp only [beq_iff_eq, bne_iff_ne, beq_eq_false_iff_ne, bne_eq_false_iff_eq, decide_eq_true_eq, decide_eq_false_iff_not, Bool.not_eq_true', Bool.not_eq_false', ne_eq, beq_true, beq_false, bne_self_eq_false, not_true_eq_false, not_false_eq_true, gt_iff_lt, ge_iff_le, Int.not_lt, Int.not_le, Bool.true_eq_false, Bool.false_eq_true] <;> omega)); conv => whnf)
          | (refine ⟨le_rfl' ?_, ?_⟩; rfl; conv => whnf)
          | (refine ⟨⟨?_, ?_⟩, ?_⟩; omega; omega; conv => whnf)
          | (refine ⟨⟨?_, ?_, ?_⟩, ?_⟩; rfl; omega; omega; conv => whnf)
          | (refine ⟨rfl, ?_, ?_⟩; decide; conv => whnf))
        try exact rfl
        exact hr _ rfl (fun g => c2 (g i (Nat.le_refl _) (by omega)).2)
    · rw [St.knows _ _ ht hz]
      refine Loop.round ?_
      conv => whnf
      repeat (first
        | (refine sel_yes ?_ ?_; (first | assumption | (simp only [beq_iff_eq, bne_iff_ne, beq_eq_false_iff_ne, bne_eq_false_iff_eq, decide_eq_true_eq, decide_eq_false_iff_not, Bool.not_eq_true', Bool.not_eq_false', ne_eq, beq_true, beq_false, bne_self_eq_false, not_true_eq_false, not_false_eq_true, gt_iff_lt, ge_iff_le, Int.not_lt, Int.not_le, Bool.true_eq_false, Bool.false_eq_true] <;> omega)); conv => whnf)
        | (refine sel_no ?_ ?_; (first | assumption | (simp only [beq_iff_eq, bne_iff_ne, beq_eq_false_iff_ne, bne_eq_false_iff_eq, decide_eq_true_eq, decide_eq_false_iff_not, Bool.not_eq_true', Bool.not_eq_false', ne_eq, beq_true, beq_false, bne_self_eq_false, not_true_eq_false, not_false_eq_true, gt_iff_lt, ge_iff_le, Int.not_lt, Int.not_le, Bool.true_eq_false, Bool.false_eq_true] <;> omega)); conv => whnf)
        | (refine ⟨le_rfl' ?_, ?_⟩; rfl; conv => whnf)
        | (refine ⟨⟨?_, ?_⟩, ?_⟩; omega; omega; conv => whnf)
        | (refine ⟨⟨?_, ?_, ?_⟩, ?_⟩; rfl; omega; omega; conv => whnf)
        | (refine ⟨rfl, ?_, ?_⟩; decide; conv => whnf))
      try exact rfl
      exact hr _ rfl (fun g => c1 (g i (Nat.le_refl _) (by omega)).1)
theorem vi' {k : IntKind} {a b : Int} (h : a = b) : V.int k a = V.int k b := by rw [h]
theorem rutf (h0 : Non ext) (s : ByteArray) (p : Nat) (hp : p < s.size) (hs : s.size ≤ 4611686018427387904) : (cfg ext).Ev 117 [.str s, .int .i64 p] (.int .i64 (utfN s p)) := by
  have hb0 : ((s.data.toList.getD (p : Int).toNat 0).toNat : Int) = (by_ s p : Int) := by rw [Int.toNat_natCast, getD_by s p hp]
  have l0 := by_lt s p
  have l1 := by_lt s (p + 1)
  have hw1 : IntKind.i64.wrap ((p : Int) + 1) = ((p + 1 : Nat) : Int) := by rw [IntKind.wrap_i64]; omega
  have hw2 : IntKind.i64.wrap ((p : Int) + 2) = ((p + 2 : Nat) : Int) := by rw [IntKind.wrap_i64]; omega
  have hw3 : IntKind.i64.wrap ((p : Int) + 3) = ((p + 3 : Nat) : Int) := by rw [IntKind.wrap_i64]; omega
  have hw4 : IntKind.i64.wrap ((p : Int) + 4) = ((p + 4 : Nat) : Int) := by rw [IntKind.wrap_i64]; omega
  have key : ∃ r, (cfg ext).Ev 117 [.str s, .int .i64 p] r ∧ r = .int .i64 (utfN s p) := by
    refine Ev.ofF (h0 117 (by decide) (by decide)) Tryd.func117 rfl rfl ?_
    conv => whnf
    repeat (first
      | (refine sel_yes ?_ ?_; (first | assumption | (simp only [beq_iff_eq, bne_iff_ne, beq_eq_false_iff_ne, bne_eq_false_iff_eq, decide_eq_true_eq, decide_eq_false_iff_not, Bool.not_eq_true', Bool.not_eq_false', ne_eq, beq_true, beq_false, bne_self_eq_false, not_true_eq_false, not_false_eq_true, gt_iff_lt, ge_iff_le, Int.not_lt, Int.not_le, Bool.true_eq_false, Bool.false_eq_true] <;> omega)); conv => whnf)
      | (refine sel_no ?_ ?_; (first | assumption | (simp only [beq_iff_eq, bne_iff_ne, beq_eq_false_iff_ne, bne_eq_false_iff_eq, decide_eq_true_eq, decide_eq_false_iff_not, Bool.not_eq_true', Bool.not_eq_false', ne_eq, beq_true, beq_false, bne_self_eq_false, not_true_eq_false, not_false_eq_true, gt_iff_lt, ge_iff_le, Int.not_lt, Int.not_le, Bool.true_eq_false, Bool.false_eq_true] <;> omega)); conv => whnf)
      | (refine ⟨le_rfl' ?_, ?_⟩; rfl; conv => whnf)
      | (refine ⟨⟨?_, ?_⟩, ?_⟩; omega; omega; conv => whnf)
      | (refine ⟨⟨?_, ?_, ?_⟩, ?_⟩; rfl; omega; omega; conv => whnf)
      | (refine ⟨rfl, ?_, ?_⟩; decide; conv => whnf))
    try exact rfl
    by_cases c0 : by_ s p < 128
    · repeat (first
        | (refine sel_yes ?_ ?_; (first | assumption | (simp only [beq_iff_eq, bne_iff_ne, beq_eq_false_iff_ne, bne_eq_false_iff_eq, decide_eq_true_eq, decide_eq_false_iff_not, Bool.not_eq_true', Bool.not_eq_false', ne_eq, beq_true, beq_false, bne_self_eq_false, not_true_eq_false, not_false_eq_true, gt_iff_lt, ge_iff_le, Int.not_lt, Int.not_le, Bool.true_eq_false, Bool.false_eq_true] <;> omega)); conv => whnf)
        | (refine sel_no ?_ ?_; (first | assumption | (simp only [beq_iff_eq, bne_iff_ne, beq_eq_false_iff_ne, bne_eq_false_iff_eq, decide_eq_true_eq, decide_eq_false_iff_not, Bool.not_eq_true', Bool.not_eq_false', ne_eq, beq_true, beq_false, bne_self_eq_false, not_true_eq_false, not_false_eq_true, gt_iff_lt, ge_iff_le, Int.not_lt, Int.not_le, Bool.true_eq_false, Bool.false_eq_true] <;> omega)); conv => whnf)
        | (refine ⟨le_rfl' ?_, ?_⟩; rfl; conv => whnf)
        | (refine ⟨⟨?_, ?_⟩, ?_⟩; omega; omega; conv => whnf)
        | (refine ⟨⟨?_, ?_, ?_⟩, ?_⟩; rfl; omega; omega; conv => whnf)
        | (refine ⟨rfl, ?_, ?_⟩; decide; conv => whnf))
      try exact rfl
      exact ⟨vi (by unfold utfN utfR; rw [if_pos c0]; rfl)⟩
    · by_cases c1 : 194 ≤ by_ s p ∧ by_ s p ≤ 223
      · skip
        have e : utfN s p = chkN (s.size - p) (by_ s (p + 1)) (by_ s (p + 2)) (by_ s (p + 3)) 2 128 191 := by
          unfold utfN utfR
          repeat' split
          all_goals first | rfl | (exfalso; omega)
        by_cases d1 : p + 2 ≤ s.size
        · have hb1 : ((s.data.toList.getD (IntKind.i64.wrap ((p : Int) + 1)).toNat 0).toNat : Int) = (by_ s (p + 1) : Int) := by rw [hw1, Int.toNat_natCast, getD_by s (p + 1) (by omega)]
          by_cases d2 : 128 ≤ by_ s (p + 1)
          · by_cases d3 : by_ s (p + 1) ≤ 191
            · repeat (first
                | (refine sel_yes ?_ ?_; (first | assumption | (simp only [beq_iff_eq, bne_iff_ne, beq_eq_false_iff_ne, bne_eq_false_iff_eq, decide_eq_true_eq, decide_eq_false_iff_not, Bool.not_eq_true', Bool.not_eq_false', ne_eq, beq_true, beq_false, bne_self_eq_false, not_true_eq_false, not_false_eq_true, gt_iff_lt, ge_iff_le, Int.not_lt, Int.not_le, Bool.true_eq_false, Bool.false_eq_true] <;> omega)); conv => whnf)
                | (refine sel_no ?_ ?_; (first | assumption | (simp only [beq_iff_eq, bne_iff_ne, beq_eq_false_iff_ne, bne_eq_false_iff_eq, decide_eq_true_eq, decide_eq_false_iff_not, Bool.not_eq_true', Bool.not_eq_false', ne_eq, beq_true, beq_false, bne_self_eq_false, not_true_eq_false, not_false_eq_true, gt_iff_lt, ge_iff_le, Int.not_lt, Int.not_le, Bool.true_eq_false, Bool.false_eq_true] <;> omega)); conv => whnf)
                | (refine ⟨le_rfl' ?_, ?_⟩; rfl; conv => whnf)
                | (refine ⟨⟨?_, ?_⟩, ?_⟩; omega; omega; conv => whnf)
                | (refine ⟨⟨?_, ?_, ?_⟩, ?_⟩; rfl; omega; omega; conv => whnf)
                | (refine ⟨rfl, ?_, ?_⟩; decide; conv => whnf))
              try exact rfl
              refine lutf2 s p hp hs 2 (by decide) d1 _ _ 0 2 _ rfl (by decide) (by decide) ⟨rfl, rfl, rfl, rfl, trivial⟩ rfl (fun z a b => ?_) (fun z a b => ?_)
              · refine Fin.tmp (i := 4) rfl a (vi ?_)
                rw [e]
                unfold chkN
                repeat' split
                all_goals first | rfl | (exfalso; exact b (fun j h1 h2 => by (have : j = 2 ∨ j = 3 := by omega); rcases this with rfl | rfl <;> omega))
              · rw [St.knows _ z.hp.n a rfl]
                conv => whnf
                refine ⟨vi ?_⟩
                rw [e]
                unfold chkN
                repeat' split
                all_goals first | rfl | (exfalso; omega)
            · repeat (first
                | (refine sel_yes ?_ ?_; (first | assumption | (simp only [beq_iff_eq, bne_iff_ne, beq_eq_false_iff_ne, bne_eq_false_iff_eq, decide_eq_true_eq, decide_eq_false_iff_not, Bool.not_eq_true', Bool.not_eq_false', ne_eq, beq_true, beq_false, bne_self_eq_false, not_true_eq_false, not_false_eq_true, gt_iff_lt, ge_iff_le, Int.not_lt, Int.not_le, Bool.true_eq_false, Bool.false_eq_true] <;> omega)); conv => whnf)
                | (refine sel_no ?_ ?_; (first | assumption | (simp only [beq_iff_eq, bne_iff_ne, beq_eq_false_iff_ne, bne_eq_false_iff_eq, decide_eq_true_eq, decide_eq_false_iff_not, Bool.not_eq_true', Bool.not_eq_false', ne_eq, beq_true, beq_false, bne_self_eq_false, not_true_eq_false, not_false_eq_true, gt_iff_lt, ge_iff_le, Int.not_lt, Int.not_le, Bool.true_eq_false, Bool.false_eq_true] <;> omega)); conv => whnf)
                | (refine ⟨le_rfl' ?_, ?_⟩; rfl; conv => whnf)
                | (refine ⟨⟨?_, ?_⟩, ?_⟩; omega; omega; conv => whnf)
                | (refine ⟨⟨?_, ?_, ?_⟩, ?_⟩; rfl; omega; omega; conv => whnf)
                | (refine ⟨rfl, ?_, ?_⟩; decide; conv => whnf))
              try exact rfl
              refine ⟨vi ?_⟩
              rw [e]; unfold chkN; rw [if_neg (by omega), if_pos (by omega)]; rfl
          · repeat (first
              | (refine sel_yes ?_ ?_; (first | assumption | (simp only [beq_iff_eq, bne_iff_ne, beq_eq_false_iff_ne, bne_eq_false_iff_eq, decide_eq_true_eq, decide_eq_false_iff_not, Bool.not_eq_true', Bool.not_eq_false', ne_eq, beq_true, beq_false, bne_self_eq_false, not_true_eq_false, not_false_eq_true, gt_iff_lt, ge_iff_le, Int.not_lt, Int.not_le, Bool.true_eq_false, Bool.false_eq_true] <;> omega)); conv => whnf)
              | (refine sel_no ?_ ?_; (first | assumption | (simp only [beq_iff_eq, bne_iff_ne, beq_eq_false_iff_ne, bne_eq_false_iff_eq, decide_eq_true_eq, decide_eq_false_iff_not, Bool.not_eq_true', Bool.not_eq_false', ne_eq, beq_true, beq_false, bne_self_eq_false, not_true_eq_false, not_false_eq_true, gt_iff_lt, ge_iff_le, Int.not_lt, Int.not_le, Bool.true_eq_false, Bool.false_eq_true] <;> omega)); conv => whnf)
              | (refine ⟨le_rfl' ?_, ?_⟩; rfl; conv => whnf)
              | (refine ⟨⟨?_, ?_⟩, ?_⟩; omega; omega; conv => whnf)
              | (refine ⟨⟨?_, ?_, ?_⟩, ?_⟩; rfl; omega; omega; conv => whnf)
              | (refine ⟨rfl, ?_, ?_⟩; decide; conv => whnf))
            try exact rfl
            refine ⟨vi ?_⟩
            rw [e]; unfold chkN; rw [if_neg (by omega), if_pos (by omega)]; rfl
        · repeat (first
            | (refine sel_yes ?_ ?_; (first | assumption | (simp only [beq_iff_eq, bne_iff_ne, beq_eq_false_iff_ne, bne_eq_false_iff_eq, decide_eq_true_eq, decide_eq_false_iff_not, Bool.not_eq_true', Bool.not_eq_false', ne_eq, beq_true, beq_false, bne_self_eq_false, not_true_eq_false, not_false_eq_true, gt_iff_lt, ge_iff_le, Int.not_lt, Int.not_le, Bool.true_eq_false, Bool.false_eq_true] <;> omega)); conv => whnf)
            | (refine sel_no ?_ ?_; (first | assumption | (simp only [beq_iff_eq, bne_iff_ne, beq_eq_false_iff_ne, bne_eq_false_iff_eq, decide_eq_true_eq, decide_eq_false_iff_not, Bool.not_eq_true', Bool.not_eq_false', ne_eq, beq_true, beq_false, bne_self_eq_false, not_true_eq_false, not_false_eq_true, gt_iff_lt, ge_iff_le, Int.not_lt, Int.not_le, Bool.true_eq_false, Bool.false_eq_true] <;> omega)); conv => whnf)
            | (refine ⟨le_rfl' ?_, ?_⟩; rfl; conv => whnf)
            | (refine ⟨⟨?_, ?_⟩, ?_⟩; omega; omega; conv => whnf)
            | (refine ⟨⟨?_, ?_, ?_⟩, ?_⟩; rfl; omega; omega; conv => whnf)
            | (refine ⟨rfl, ?_, ?_⟩; decide; conv => whnf))
          try exact rfl
          refine ⟨vi ?_⟩
          rw [e]; unfold chkN; rw [if_pos (by omega)]; rfl
      · by_cases c2 : by_ s p = 224
        · skip
          have e : utfN s p = chkN (s.size - p) (by_ s (p + 1)) (by_ s (p + 2)) (by_ s (p + 3)) 3 160 191 := by
            unfold utfN utfR
            repeat' split
            all_goals first | rfl | (exfalso; omega)
          by_cases d1 : p + 3 ≤ s.size
          · have hb1 : ((s.data.toList.getD (IntKind.i64.wrap ((p : Int) + 1)).toNat 0).toNat : Int) = (by_ s (p + 1) : Int) := by rw [hw1, Int.toNat_natCast, getD_by s (p + 1) (by omega)]
            by_cases d2 : 160 ≤ by_ s (p + 1)
            · by_cases d3 : by_ s (p + 1) ≤ 191
              · repeat (first
                  | (refine sel_yes ?_ ?_; (first | assumption | (simp only [beq_iff_eq, bne_iff_ne, beq_eq_false_iff_ne, bne_eq_false_iff_eq, decide_eq_true_eq, decide_eq_false_iff_not, Bool.not_eq_true', Bool.not_eq_false', ne_eq, beq_true, beq_false, bne_self_eq_false, not_true_eq_false, not_false_eq_true, gt_iff_lt, ge_iff_le, Int.not_lt, Int.not_le, Bool.true_eq_false, Bool.false_eq_true] <;> omega)); conv => whnf)
                  | (refine sel_no ?_ ?_; (first | assumption | (simp only [beq_iff_eq, bne_iff_ne, beq_eq_false_iff_ne, bne_eq_false_iff_eq, decide_eq_true_eq, decide_eq_false_iff_not, Bool.not_eq_true', Bool.not_eq_false', ne_eq, beq_true, beq_false, bne_self_eq_false, not_true_eq_false, not_false_eq_true, gt_iff_lt, ge_iff_le, Int.not_lt, Int.not_le, Bool.true_eq_false, Bool.false_eq_true] <;> omega)); conv => whnf)
                  | (refine ⟨le_rfl' ?_, ?_⟩; rfl; conv => whnf)
                  | (refine ⟨⟨?_, ?_⟩, ?_⟩; omega; omega; conv => whnf)
                  | (refine ⟨⟨?_, ?_, ?_⟩, ?_⟩; rfl; omega; omega; conv => whnf)
                  | (refine ⟨rfl, ?_, ?_⟩; decide; conv => whnf))
                try exact rfl
                refine lutf2 s p hp hs 3 (by decide) d1 _ _ 1 2 _ rfl (by decide) (by decide) ⟨rfl, rfl, rfl, rfl, trivial⟩ rfl (fun z a b => ?_) (fun z a b => ?_)
                · refine Fin.tmp (i := 4) rfl a (vi ?_)
                  rw [e]
                  unfold chkN
                  repeat' split
                  all_goals first | rfl | (exfalso; exact b (fun j h1 h2 => by (have : j = 2 ∨ j = 3 := by omega); rcases this with rfl | rfl <;> omega))
                · rw [St.knows _ z.hp.n a rfl]
                  have b2 := b 2 (by decide) (by decide)
                  conv => whnf
                  refine ⟨vi ?_⟩
                  rw [e]
                  unfold chkN
                  repeat' split
                  all_goals first | rfl | (exfalso; omega)
              · repeat (first
                  | (refine sel_yes ?_ ?_; (first | assumption | (simp only [beq_iff_eq, bne_iff_ne, beq_eq_false_iff_ne, bne_eq_false_iff_eq, decide_eq_true_eq, decide_eq_false_iff_not, Bool.not_eq_true', Bool.not_eq_false', ne_eq, beq_true, beq_false, bne_self_eq_false, not_true_eq_false, not_false_eq_true, gt_iff_lt, ge_iff_le, Int.not_lt, Int.not_le, Bool.true_eq_false, Bool.false_eq_true] <;> omega)); conv => whnf)
                  | (refine sel_no ?_ ?_; (first | assumption | (simp only [beq_iff_eq, bne_iff_ne, beq_eq_false_iff_ne, bne_eq_false_iff_eq, decide_eq_true_eq, decide_eq_false_iff_not, Bool.not_eq_true', Bool.not_eq_false', ne_eq, beq_true, beq_false, bne_self_eq_false, not_true_eq_false, not_false_eq_true, gt_iff_lt, ge_iff_le, Int.not_lt, Int.not_le, Bool.true_eq_false, Bool.false_eq_true] <;> omega)); conv => whnf)
                  | (refine ⟨le_rfl' ?_, ?_⟩; rfl; conv => whnf)
                  | (refine ⟨⟨?_, ?_⟩, ?_⟩; omega; omega; conv => whnf)
                  | (refine ⟨⟨?_, ?_, ?_⟩, ?_⟩; rfl; omega; omega; conv => whnf)
                  | (refine ⟨rfl, ?_, ?_⟩; decide; conv => whnf))
                try exact rfl
                refine ⟨vi ?_⟩
                rw [e]; unfold chkN; rw [if_neg (by omega), if_pos (by omega)]; rfl
            · repeat (first
                | (refine sel_yes ?_ ?_; (first | assumption | (simp only [beq_iff_eq, bne_iff_ne, beq_eq_false_iff_ne, bne_eq_false_iff_eq, decide_eq_true_eq, decide_eq_false_iff_not, Bool.not_eq_true', Bool.not_eq_false', ne_eq, beq_true, beq_false, bne_self_eq_false, not_true_eq_false, not_false_eq_true, gt_iff_lt, ge_iff_le, Int.not_lt, Int.not_le, Bool.true_eq_false, Bool.false_eq_true] <;> omega)); conv => whnf)
                | (refine sel_no ?_ ?_; (first | assumption | (simp only [beq_iff_eq, bne_iff_ne, beq_eq_false_iff_ne, bne_eq_false_iff_eq, decide_eq_true_eq, decide_eq_false_iff_not, Bool.not_eq_true', Bool.not_eq_false', ne_eq, beq_true, beq_false, bne_self_eq_false, not_true_eq_false, not_false_eq_true, gt_iff_lt, ge_iff_le, Int.not_lt, Int.not_le, Bool.true_eq_false, Bool.false_eq_true] <;> omega)); conv => whnf)
                | (refine ⟨le_rfl' ?_, ?_⟩; rfl; conv => whnf)
                | (refine ⟨⟨?_, ?_⟩, ?_⟩; omega; omega; conv => whnf)
                | (refine ⟨⟨?_, ?_, ?_⟩, ?_⟩; rfl; omega; omega; conv => whnf)
                | (refine ⟨rfl, ?_, ?_⟩; decide; conv => whnf))
              try exact rfl
              refine ⟨vi ?_⟩
              rw [e]; unfold chkN; rw [if_neg (by omega), if_pos (by omega)]; rfl
          · repeat (first
              | (refine sel_yes ?_ ?_; (first | assumption | (simp only [beq_iff_eq, bne_iff_ne, beq_eq_false_iff_ne, bne_eq_false_iff_eq, decide_eq_true_eq, decide_eq_false_iff_not, Bool.not_eq_true', Bool.not_eq_false', ne_eq, beq_true, beq_false, bne_self_eq_false, not_true_eq_false, not_false_eq_true, gt_iff_lt, ge_iff_le, Int.not_lt, Int.not_le, Bool.true_eq_false, Bool.false_eq_true] <;> omega)); conv => whnf)
              | (refine sel_no ?_ ?_; (first | assumption | (simp only [beq_iff_eq, bne_iff_ne, beq_eq_false_iff_ne, bne_eq_false_iff_eq, decide_eq_true_eq, decide_eq_false_iff_not, Bool.not_eq_true', Bool.not_eq_false', ne_eq, beq_true, beq_false, bne_self_eq_false, not_true_eq_false, not_false_eq_true, gt_iff_lt, ge_iff_le, Int.not_lt, Int.not_le, Bool.true_eq_false, Bool.false_eq_true] <;> omega)); conv => whnf)
              | (refine ⟨le_rfl' ?_, ?_⟩; rfl; conv => whnf)
              | (refine ⟨⟨?_, ?_⟩, ?_⟩; omega; omega; conv => whnf)
              | (refine ⟨⟨?_, ?_, ?_⟩, ?_⟩; rfl; omega; omega; conv => whnf)
              | (refine ⟨rfl, ?_, ?_⟩; decide; conv => whnf))
            try exact rfl
            refine ⟨vi ?_⟩
            rw [e]; unfold chkN; rw [if_pos (by omega)]; rfl
        · by_cases c3 : by_ s p = 237
          · skip
            have e : utfN s p = chkN (s.size - p) (by_ s (p + 1)) (by_ s (p + 2)) (by_ s (p + 3)) 3 128 159 := by
              unfold utfN utfR
              repeat' split
              all_goals first | rfl | (exfalso; omega)
            by_cases d1 : p + 3 ≤ s.size
            · have hb1 : ((s.data.toList.getD (IntKind.i64.wrap ((p : Int) + 1)).toNat 0).toNat : Int) = (by_ s (p + 1) : Int) := by rw [hw1, Int.toNat_natCast, getD_by s (p + 1) (by omega)]
              by_cases d2 : 128 ≤ by_ s (p + 1)
              · by_cases d3 : by_ s (p + 1) ≤ 159
                · repeat (first
                    | (refine sel_yes ?_ ?_; (first | assumption | (simp only [beq_iff_eq, bne_iff_ne, beq_eq_false_iff_ne, bne_eq_false_iff_eq, decide_eq_true_eq, decide_eq_false_iff_not, Bool.not_eq_true', Bool.not_eq_false', ne_eq, beq_true, beq_false, bne_self_eq_false, not_true_eq_false, not_false_eq_true, gt_iff_lt, ge_iff_le, Int.not_lt, Int.not_le, Bool.true_eq_false, Bool.false_eq_true] <;> omega)); conv => whnf)
                    | (refine sel_no ?_ ?_; (first | assumption | (simp only [beq_iff_eq, bne_iff_ne, beq_eq_false_iff_ne, bne_eq_false_iff_eq, decide_eq_true_eq, decide_eq_false_iff_not, Bool.not_eq_true', Bool.not_eq_false', ne_eq, beq_true, beq_false, bne_self_eq_false, not_true_eq_false, not_false_eq_true, gt_iff_lt, ge_iff_le, Int.not_lt, Int.not_le, Bool.true_eq_false, Bool.false_eq_true] <;> omega)); conv => whnf)
                    | (refine ⟨le_rfl' ?_, ?_⟩; rfl; conv => whnf)
                    | (refine ⟨⟨?_, ?_⟩, ?_⟩; omega; omega; conv => whnf)
                    | (refine ⟨⟨?_, ?_, ?_⟩, ?_⟩; rfl; omega; omega; conv => whnf)
                    | (refine ⟨rfl, ?_, ?_⟩; decide; conv => whnf))
                  try exact rfl
                  refine lutf2 s p hp hs 3 (by decide) d1 _ _ 1 2 _ rfl (by decide) (by decide) ⟨rfl, rfl, rfl, rfl, trivial⟩ rfl (fun z a b => ?_) (fun z a b => ?_)
                  · refine Fin.tmp (i := 4) rfl a (vi ?_)
                    rw [e]
                    unfold chkN
                    repeat' split
                    all_goals first | rfl | (exfalso; exact b (fun j h1 h2 => by (have : j = 2 ∨ j = 3 := by omega); rcases this with rfl | rfl <;> omega))
                  · rw [St.knows _ z.hp.n a rfl]
                    have b2 := b 2 (by decide) (by decide)
                    conv => whnf
                    refine ⟨vi ?_⟩
                    rw [e]
                    unfold chkN
                    repeat' split
                    all_goals first | rfl | (exfalso; omega)
                · repeat (first
                    | (refine sel_yes ?_ ?_; (first | assumption | (simp only [beq_iff_eq, bne_iff_ne, beq_eq_false_iff_ne, bne_eq_false_iff_eq, decide_eq_true_eq, decide_eq_false_iff_not, Bool.not_eq_true', Bool.not_eq_false', ne_eq, beq_true, beq_false, bne_self_eq_false, not_true_eq_false, not_false_eq_true, gt_iff_lt, ge_iff_le, Int.not_lt, Int.not_le, Bool.true_eq_false, Bool.false_eq_true] <;> omega)); conv => whnf)
                    | (refine sel_no ?_ ?_; (first | assumption | (simp only [beq_iff_eq, bne_iff_ne, beq_eq_false_iff_ne, bne_eq_false_iff_eq, decide_eq_true_eq, decide_eq_false_iff_not, Bool.not_eq_true', Bool.not_eq_false', ne_eq, beq_true, beq_false, bne_self_eq_false, not_true_eq_false, not_false_eq_true, gt_iff_lt, ge_iff_le, Int.not_lt, Int.not_le, Bool.true_eq_false, Bool.false_eq_true] <;> omega)); conv => whnf)
                    | (refine ⟨le_rfl' ?_, ?_⟩; rfl; conv => whnf)
                    | (refine ⟨⟨?_, ?_⟩, ?_⟩; omega; omega; conv => whnf)
                    | (refine ⟨⟨?_, ?_, ?_⟩, ?_⟩; rfl; omega; omega; conv => whnf)
                    | (refine ⟨rfl, ?_, ?_⟩; decide; conv => whnf))
                  try exact rfl
                  refine ⟨vi ?_⟩
                  rw [e]; unfold chkN; rw [if_neg (by omega), if_pos (by omega)]; rfl
              · repeat (first
                  | (refine sel_yes ?_ ?_; (first | assumption | (simp only [beq_iff_eq, bne_iff_ne, beq_eq_false_iff_ne, bne_eq_false_iff_eq, decide_eq_true_eq, decide_eq_false_iff_not, Bool.not_eq_true', Bool.not_eq_false', ne_eq, beq_true, beq_false, bne_self_eq_false, not_true_eq_false, not_false_eq_true, gt_iff_lt, ge_iff_le, Int.not_lt, Int.not_le, Bool.true_eq_false, Bool.false_eq_true] <;> omega)); conv => whnf)
                  | (refine sel_no ?_ ?_; (first | assumption | (simp only [beq_iff_eq, bne_iff_ne, beq_eq_false_iff_ne, bne_eq_false_iff_eq, decide_eq_true_eq, decide_eq_false_iff_not, Bool.not_eq_true', Bool.not_eq_false', ne_eq, beq_true, beq_false, bne_self_eq_false, not_true_eq_false, not_false_eq_true, gt_iff_lt, ge_iff_le, Int.not_lt, Int.not_le, Bool.true_eq_false, Bool.false_eq_true] <;> omega)); conv => whnf)
                  | (refine ⟨le_rfl' ?_, ?_⟩; rfl; conv => whnf)
                  | (refine ⟨⟨?_, ?_⟩, ?_⟩; omega; omega; conv => whnf)
                  | (refine ⟨⟨?_, ?_, ?_⟩, ?_⟩; rfl; omega; omega; conv => whnf)
                  | (refine ⟨rfl, ?_, ?_⟩; decide; conv => whnf))
                try exact rfl
                refine ⟨vi ?_⟩
                rw [e]; unfold chkN; rw [if_neg (by omega), if_pos (by omega)]; rfl
            · repeat (first
                | (refine sel_yes ?_ ?_; (first | assumption | (simp only [beq_iff_eq, bne_iff_ne, beq_eq_false_iff_ne, bne_eq_false_iff_eq, decide_eq_true_eq, decide_eq_false_iff_not, Bool.not_eq_true', Bool.not_eq_false', ne_eq, beq_true, beq_false, bne_self_eq_false, not_true_eq_false, not_false_eq_true, gt_iff_lt, ge_iff_le, Int.not_lt, Int.not_le, Bool.true_eq_false, Bool.false_eq_true] <;> omega)); conv => whnf)
                | (refine sel_no ?_ ?_; (first | assumption | (simp only [beq_iff_eq, bne_iff_ne, beq_eq_false_iff_ne, bne_eq_false_iff_eq, decide_eq_true_eq, decide_eq_false_iff_not, Bool.not_eq_true', Bool.not_eq_false', ne_eq, beq_true, beq_false, bne_self_eq_false, not_true_eq_false, not_false_eq_true, gt_iff_lt, ge_iff_le, Int.not_lt, Int.not_le, Bool.true_eq_false, Bool.false_eq_true] <;> omega)); conv => whnf)
                | (refine ⟨le_rfl' ?_, ?_⟩; rfl; conv => whnf)
                | (refine ⟨⟨?_, ?_⟩, ?_⟩; omega; omega; conv => whnf)
                | (refine ⟨⟨?_, ?_, ?_⟩, ?_⟩; rfl; omega; omega; conv => whnf)
                | (refine ⟨rfl, ?_, ?_⟩; decide; conv => whnf))
              try exact rfl
              refine ⟨vi ?_⟩
              rw [e]; unfold chkN; rw [if_pos (by omega)]; rfl
          · by_cases c4 : 224 ≤ by_ s p ∧ by_ s p ≤ 239
            · skip
              have e : utfN s p = chkN (s.size - p) (by_ s (p + 1)) (by_ s (p + 2)) (by_ s (p + 3)) 3 128 191 := by
                unfold utfN utfR
                repeat' split
                all_goals first | rfl | (exfalso; omega)
              by_cases d1 : p + 3 ≤ s.size
              · have hb1 : ((s.data.toList.getD (IntKind.i64.wrap ((p : Int) + 1)).toNat 0).toNat : Int) = (by_ s (p + 1) : Int) := by rw [hw1, Int.toNat_natCast, getD_by s (p + 1) (by omega)]
                by_cases d2 : 128 ≤ by_ s (p + 1)
                · by_cases d3 : by_ s (p + 1) ≤ 191
                  · repeat (first
                      | (refine sel_yes ?_ ?_; (first | assumption | (simp only [beq_iff_eq, bne_iff_ne, beq_eq_false_iff_ne, bne_eq_false_iff_eq, decide_eq_true_eq, decide_eq_false_iff_not, Bool.not_eq_true', Bool.not_eq_false', ne_eq, beq_true, beq_false, bne_self_eq_false, not_true_eq_false, not_false_eq_true, gt_iff_lt, ge_iff_le, Int.not_lt, Int.not_le, Bool.true_eq_false, Bool.false_eq_true] <;> omega)); conv => whnf)
                      | (refine sel_no ?_ ?_; (first | assumption | (simp only [beq_iff_eq, bne_iff_ne, beq_eq_false_iff_ne, bne_eq_false_iff_eq, decide_eq_true_eq, decide_eq_false_iff_not, Bool.not_eq_true', Bool.not_eq_false', ne_eq, beq_true, beq_false, bne_self_eq_false, not_true_eq_false, not_false_eq_true, gt_iff_lt, ge_iff_le, Int.not_lt, Int.not_le, Bool.true_eq_false, Bool.false_eq_true] <;> omega)); conv => whnf)
                      | (refine ⟨le_rfl' ?_, ?_⟩; rfl; conv => whnf)
                      | (refine ⟨⟨?_, ?_⟩, ?_⟩; omega; omega; conv => whnf)
                      | (refine ⟨⟨?_, ?_, ?_⟩, ?_⟩; rfl; omega; omega; conv => whnf)
                      | (refine ⟨rfl, ?_, ?_⟩; decide; conv => whnf))
                    try exact rfl
                    refine lutf2 s p hp hs 3 (by decide) d1 _ _ 1 2 _ rfl (by decide) (by decide) ⟨rfl, rfl, rfl, rfl, trivial⟩ rfl (fun z a b => ?_) (fun z a b => ?_)
                    · refine Fin.tmp (i := 4) rfl a (vi ?_)
                      rw [e]
                      unfold chkN
                      repeat' split
                      all_goals first | rfl | (exfalso; exact b (fun j h1 h2 => by (have : j = 2 ∨ j = 3 := by omega); rcases this with rfl | rfl <;> omega))
                    · rw [St.knows _ z.hp.n a rfl]
                      have b2 := b 2 (by decide) (by decide)
                      conv => whnf
                      refine ⟨vi ?_⟩
                      rw [e]
                      unfold chkN
                      repeat' split
                      all_goals first | rfl | (exfalso; omega)
                  · repeat (first
                      | (refine sel_yes ?_ ?_; (first | assumption | (simp only [beq_iff_eq, bne_iff_ne, beq_eq_false_iff_ne, bne_eq_false_iff_eq, decide_eq_true_eq, decide_eq_false_iff_not, Bool.not_eq_true', Bool.not_eq_false', ne_eq, beq_true, beq_false, bne_self_eq_false, not_true_eq_false, not_false_eq_true, gt_iff_lt, ge_iff_le, Int.not_lt, Int.not_le, Bool.true_eq_false, Bool.false_eq_true] <;> omega)); conv => whnf)
                      | (refine sel_no ?_ ?_; (first | assumption | (simp only [beq_iff_eq, bne_iff_ne, beq_eq_false_iff_ne, bne_eq_false_iff_eq, decide_eq_true_eq, decide_eq_false_iff_not, Bool.not_eq_true', Bool.not_eq_false', ne_eq, beq_true, beq_false, bne_self_eq_false, not_true_eq_false, not_false_eq_true, gt_iff_lt, ge_iff_le, Int.not_lt, Int.not_le, Bool.true_eq_false, Bool.false_eq_true] <;> omega)); conv => whnf)
                      | (refine ⟨le_rfl' ?_, ?_⟩; rfl; conv => whnf)
                      | (refine ⟨⟨?_, ?_⟩, ?_⟩; omega; omega; conv => whnf)
                      | (refine ⟨⟨?_, ?_, ?_⟩, ?_⟩; rfl; omega; omega; conv => whnf)
                      | (refine ⟨rfl, ?_, ?_⟩; decide; conv => whnf))
                    try exact rfl
                    refine ⟨vi ?_⟩
                    rw [e]; unfold chkN; rw [if_neg (by omega), if_pos (by omega)]; rfl
                · repeat (first
                    | (refine sel_yes ?_ ?_; (first | assumption | (simp only [beq_iff_eq, bne_iff_ne, beq_eq_false_iff_ne, bne_eq_false_iff_eq, decide_eq_true_eq, decide_eq_false_iff_not, Bool.not_eq_true', Bool.not_eq_false', ne_eq, beq_true, beq_false, bne_self_eq_false, not_true_eq_false, not_false_eq_true, gt_iff_lt, ge_iff_le, Int.not_lt, Int.not_le, Bool.true_eq_false, Bool.false_eq_true] <;> omega)); conv => whnf)
                    | (refine sel_no ?_ ?_; (first | assumption | (simp only [beq_iff_eq, bne_iff_ne, beq_eq_false_iff_ne, bne_eq_false_iff_eq, decide_eq_true_eq, decide_eq_false_iff_not, Bool.not_eq_true', Bool.not_eq_false', ne_eq, beq_true, beq_false, bne_self_eq_false, not_true_eq_false, not_false_eq_true, gt_iff_lt, ge_iff_le, Int.not_lt, Int.not_le, Bool.true_eq_false, Bool.false_eq_true] <;> omega)); conv => whnf)
                    | (refine ⟨le_rfl' ?_, ?_⟩; rfl; conv => whnf)
                    | (refine ⟨⟨?_, ?_⟩, ?_⟩; omega; omega; conv => whnf)
                    | (refine ⟨⟨?_, ?_, ?_⟩, ?_⟩; rfl; omega; omega; conv => whnf)
                    | (refine ⟨rfl, ?_, ?_⟩; decide; conv => whnf))
                  try exact rfl
                  refine ⟨vi ?_⟩
                  rw [e]; unfold chkN; rw [if_neg (by omega), if_pos (by omega)]; rfl
              · repeat (first
                  | (refine sel_yes ?_ ?_; (first | assumption | (simp only [beq_iff_eq, bne_iff_ne, beq_eq_false_iff_ne, bne_eq_false_iff_eq, decide_eq_true_eq, decide_eq_false_iff_not, Bool.not_eq_true', Bool.not_eq_false', ne_eq, beq_true, beq_false, bne_self_eq_false, not_true_eq_false, not_false_eq_true, gt_iff_lt, ge_iff_le, Int.not_lt, Int.not_le, Bool.true_eq_false, Bool.false_eq_true] <;> omega)); conv => whnf)
                  | (refine sel_no ?_ ?_; (first | assumption | (simp only [beq_iff_eq, bne_iff_ne, beq_eq_false_iff_ne, bne_eq_false_iff_eq, decide_eq_true_eq, decide_eq_false_iff_not, Bool.not_eq_true', Bool.not_eq_false', ne_eq, beq_true, beq_false, bne_self_eq_false, not_true_eq_false, not_false_eq_true, gt_iff_lt, ge_iff_le, Int.not_lt, Int.not_le, Bool.true_eq_false, Bool.false_eq_true] <;> omega)); conv => whnf)
                  | (refine ⟨le_rfl' ?_, ?_⟩; rfl; conv => whnf)
                  | (refine ⟨⟨?_, ?_⟩, ?_⟩; omega; omega; conv => whnf)
                  | (refine ⟨⟨?_, ?_, ?_⟩, ?_⟩; rfl; omega; omega; conv => whnf)
                  | (refine ⟨rfl, ?_, ?_⟩; decide; conv => whnf))
                try exact rfl
                refine ⟨vi ?_⟩
                rw [e]; unfold chkN; rw [if_pos (by omega)]; rfl
            · by_cases c5 : by_ s p = 240
              · skip
                have e : utfN s p = chkN (s.size - p) (by_ s (p + 1)) (by_ s (p + 2)) (by_ s (p + 3)) 4 144 191 := by
                  unfold utfN utfR
                  repeat' split
                  all_goals first | rfl | (exfalso; omega)
                by_cases d1 : p + 4 ≤ s.size
                · have hb1 : ((s.data.toList.getD (IntKind.i64.wrap ((p : Int) + 1)).toNat 0).toNat : Int) = (by_ s (p + 1) : Int) := by rw [hw1, Int.toNat_natCast, getD_by s (p + 1) (by omega)]
                  by_cases d2 : 144 ≤ by_ s (p + 1)
                  · by_cases d3 : by_ s (p + 1) ≤ 191
                    · repeat (first
                        | (refine sel_yes ?_ ?_; (first | assumption | (simp only [beq_iff_eq, bne_iff_ne, beq_eq_false_iff_ne, bne_eq_false_iff_eq, decide_eq_true_eq, decide_eq_false_iff_not, Bool.not_eq_true', Bool.not_eq_false', ne_eq, beq_true, beq_false, bne_self_eq_false, not_true_eq_false, not_false_eq_true, gt_iff_lt, ge_iff_le, Int.not_lt, Int.not_le, Bool.true_eq_false, Bool.false_eq_true] <;> omega)); conv => whnf)
                        | (refine sel_no ?_ ?_; (first | assumption | (simp only [beq_iff_eq, bne_iff_ne, beq_eq_false_iff_ne, bne_eq_false_iff_eq, decide_eq_true_eq, decide_eq_false_iff_not, Bool.not_eq_true', Bool.not_eq_false', ne_eq, beq_true, beq_false, bne_self_eq_false, not_true_eq_false, not_false_eq_true, gt_iff_lt, ge_iff_le, Int.not_lt, Int.not_le, Bool.true_eq_false, Bool.false_eq_true] <;> omega)); conv => whnf)
                        | (refine ⟨le_rfl' ?_, ?_⟩; rfl; conv => whnf)
                        | (refine ⟨⟨?_, ?_⟩, ?_⟩; omega; omega; conv => whnf)
                        | (refine ⟨⟨?_, ?_, ?_⟩, ?_⟩; rfl; omega; omega; conv => whnf)
                        | (refine ⟨rfl, ?_, ?_⟩; decide; conv => whnf))
                      try exact rfl
                      refine lutf2 s p hp hs 4 (by decide) d1 _ _ 2 2 _ rfl (by decide) (by decide) ⟨rfl, rfl, rfl, rfl, trivial⟩ rfl (fun z a b => ?_) (fun z a b => ?_)
                      · refine Fin.tmp (i := 4) rfl a (vi ?_)
                        rw [e]
                        unfold chkN
                        repeat' split
                        all_goals first | rfl | (exfalso; exact b (fun j h1 h2 => by (have : j = 2 ∨ j = 3 := by omega); rcases this with rfl | rfl <;> omega))
                      · rw [St.knows _ z.hp.n a rfl]
                        have b2 := b 2 (by decide) (by decide)
                        have b3 := b 3 (by decide) (by decide)
                        conv => whnf
                        refine ⟨vi ?_⟩
                        rw [e]
                        unfold chkN
                        repeat' split
                        all_goals first | rfl | (exfalso; omega)
                    · repeat (first
                        | (refine sel_yes ?_ ?_; (first | assumption | (simp only [beq_iff_eq, bne_iff_ne, beq_eq_false_iff_ne, bne_eq_false_iff_eq, decide_eq_true_eq, decide_eq_false_iff_not, Bool.not_eq_true', Bool.not_eq_false', ne_eq, beq_true, beq_false, bne_self_eq_false, not_true_eq_false, not_false_eq_true, gt_iff_lt, ge_iff_le, Int.not_lt, Int.not_le, Bool.true_eq_false, Bool.false_eq_true] <;> omega)); conv => whnf)
                        | (refine sel_no ?_ ?_; (first | assumption | (simp only [beq_iff_eq, bne_iff_ne, beq_eq_false_iff_ne, bne_eq_false_iff_eq, decide_eq_true_eq, decide_eq_false_iff_not, Bool.not_eq_true', Bool.not_eq_false', ne_eq, beq_true, beq_false, bne_self_eq_false, not_true_eq_false, not_false_eq_true, gt_iff_lt, ge_iff_le, Int.not_lt, Int.not_le, Bool.true_eq_false, Bool.false_eq_true] <;> omega)); conv => whnf)
                        | (refine ⟨le_rfl' ?_, ?_⟩; rfl; conv => whnf)
                        | (refine ⟨⟨?_, ?_⟩, ?_⟩; omega; omega; conv => whnf)
                        | (refine ⟨⟨?_, ?_, ?_⟩, ?_⟩; rfl; omega; omega; conv => whnf)
                        | (refine ⟨rfl, ?_, ?_⟩; decide; conv => whnf))
                      try exact rfl
                      refine ⟨vi ?_⟩
                      rw [e]; unfold chkN; rw [if_neg (by omega), if_pos (by omega)]; rfl
                  · repeat (first
                      | (refine sel_yes ?_ ?_; (first | assumption | (simp only [beq_iff_eq, bne_iff_ne, beq_eq_false_iff_ne, bne_eq_false_iff_eq, decide_eq_true_eq, decide_eq_false_iff_not, Bool.not_eq_true', Bool.not_eq_false', ne_eq, beq_true, beq_false, bne_self_eq_false, not_true_eq_false, not_false_eq_true, gt_iff_lt, ge_iff_le, Int.not_lt, Int.not_le, Bool.true_eq_false, Bool.false_eq_true] <;> omega)); conv => whnf)
                      | (refine sel_no ?_ ?_; (first | assumption | (simp only [beq_iff_eq, bne_iff_ne, beq_eq_false_iff_ne, bne_eq_false_iff_eq, decide_eq_true_eq, decide_eq_false_iff_not, Bool.not_eq_true', Bool.not_eq_false', ne_eq, beq_true, beq_false, bne_self_eq_false, not_true_eq_false, not_false_eq_true, gt_iff_lt, ge_iff_le, Int.not_lt, Int.not_le, Bool.true_eq_false, Bool.false_eq_true] <;> omega)); conv => whnf)
                      | (refine ⟨le_rfl' ?_, ?_⟩; rfl; conv => whnf)
                      | (refine ⟨⟨?_, ?_⟩, ?_⟩; omega; omega; conv => whnf)
                      | (refine ⟨⟨?_, ?_, ?_⟩, ?_⟩; rfl; omega; omega; conv => whnf)
                      | (refine ⟨rfl, ?_, ?_⟩; decide; conv => whnf))
                    try exact rfl
                    refine ⟨vi ?_⟩
                    rw [e]; unfold chkN; rw [if_neg (by omega), if_pos (by omega)]; rfl
                · repeat (first
                    | (refine sel_yes ?_ ?_; (first | assumption | (simp only [beq_iff_eq, bne_iff_ne, beq_eq_false_iff_ne, bne_eq_false_iff_eq, decide_eq_true_eq, decide_eq_false_iff_not, Bool.not_eq_true', Bool.not_eq_false', ne_eq, beq_true, beq_false, bne_self_eq_false, not_true_eq_false, not_false_eq_true, gt_iff_lt, ge_iff_le, Int.not_lt, Int.not_le, Bool.true_eq_false, Bool.false_eq_true] <;> omega)); conv => whnf)
                    | (refine sel_no ?_ ?_; (first | assumption | (simp only [beq_iff_eq, bne_iff_ne, beq_eq_false_iff_ne, bne_eq_false_iff_eq, decide_eq_true_eq, decide_eq_false_iff_not, Bool.not_eq_true', Bool.not_eq_false', ne_eq, beq_true, beq_false, bne_self_eq_false, not_true_eq_false, not_false_eq_true, gt_iff_lt, ge_iff_le, Int.not_lt, Int.not_le, Bool.true_eq_false, Bool.false_eq_true] <;> omega)); conv => whnf)
                    | (refine ⟨le_rfl' ?_, ?_⟩; rfl; conv => whnf)
                    | (refine ⟨⟨?_, ?_⟩, ?_⟩; omega; omega; conv => whnf)
                    | (refine ⟨⟨?_, ?_, ?_⟩, ?_⟩; rfl; omega; omega; conv => whnf)
                    | (refine ⟨rfl, ?_, ?_⟩; decide; conv => whnf))
                  try exact rfl
                  refine ⟨vi ?_⟩
                  rw [e]; unfold chkN; rw [if_pos (by omega)]; rfl
              · by_cases c6 : by_ s p = 244
                · skip
                  have e : utfN s p = chkN (s.size - p) (by_ s (p + 1)) (by_ s (p + 2)) (by_ s (p + 3)) 4 128 143 := by
                    unfold utfN utfR
                    repeat' split
                    all_goals first | rfl | (exfalso; omega)
                  by_cases d1 : p + 4 ≤ s.size
                  · have hb1 : ((s.data.toList.getD (IntKind.i64.wrap ((p : Int) + 1)).toNat 0).toNat : Int) = (by_ s (p + 1) : Int) := by rw [hw1, Int.toNat_natCast, getD_by s (p + 1) (by omega)]
                    by_cases d2 : 128 ≤ by_ s (p + 1)
                    · by_cases d3 : by_ s (p + 1) ≤ 143
                      · repeat (first
                          | (refine sel_yes ?_ ?_; (first | assumption | (simp only [beq_iff_eq, bne_iff_ne, beq_eq_false_iff_ne, bne_eq_false_iff_eq, decide_eq_true_eq, decide_eq_false_iff_not, Bool.not_eq_true', Bool.not_eq_false', ne_eq, beq_true, beq_false, bne_self_eq_false, not_true_eq_false, not_false_eq_true, gt_iff_lt, ge_iff_le, Int.not_lt, Int.not_le, Bool.true_eq_false, Bool.false_eq_true] <;> omega)); conv => whnf)
                          | (refine sel_no ?_ ?_; (first | assumption | (simp only [beq_iff_eq, bne_iff_ne, beq_eq_false_iff_ne, bne_eq_false_iff_eq, decide_eq_true_eq, decide_eq_false_iff_not, Bool.not_eq_true', Bool.not_eq_false', ne_eq, beq_true, beq_false, bne_self_eq_false, not_true_eq_false, not_false_eq_true, gt_iff_lt, ge_iff_le, Int.not_lt, Int.not_le, Bool.true_eq_false, Bool.false_eq_true] <;> omega)); conv => whnf)
                          | (refine ⟨le_rfl' ?_, ?_⟩; rfl; conv => whnf)
                          | (refine ⟨⟨?_, ?_⟩, ?_⟩; omega; omega; conv => whnf)
                          | (refine ⟨⟨?_, ?_, ?_⟩, ?_⟩; rfl; omega; omega; conv => whnf)
                          | (refine ⟨rfl, ?_, ?_⟩; decide; conv => whnf))
                        try exact rfl
                        refine lutf2 s p hp hs 4 (by decide) d1 _ _ 2 2 _ rfl (by decide) (by decide) ⟨rfl, rfl, rfl, rfl, trivial⟩ rfl (fun z a b => ?_) (fun z a b => ?_)
                        · refine Fin.tmp (i := 4) rfl a (vi ?_)
                          rw [e]
                          unfold chkN
                          repeat' split
                          all_goals first | rfl | (exfalso; exact b (fun j h1 h2 => by (have : j = 2 ∨ j = 3 := by omega); rcases this with rfl | rfl <;> omega))
                        · rw [St.knows _ z.hp.n a rfl]
                          have b2 := b 2 (by decide) (by decide)
                          have b3 := b 3 (by decide) (by decide)
                          conv => whnf
                          refine ⟨vi ?_⟩
                          rw [e]
                          unfold chkN
                          repeat' split
                          all_goals first | rfl | (exfalso; omega)
                      · repeat (first
                          | (refine sel_yes ?_ ?_; (first | assumption | (simp only [beq_iff_eq, bne_iff_ne, beq_eq_false_iff_ne, bne_eq_false_iff_eq, decide_eq_true_eq, decide_eq_false_iff_not, Bool.not_eq_true', Bool.not_eq_false', ne_eq, beq_true, beq_false, bne_self_eq_false, not_true_eq_false, not_false_eq_true, gt_iff_lt, ge_iff_le, Int.not_lt, Int.not_le, Bool.true_eq_false, Bool.false_eq_true] <;> omega)); conv => whnf)
                          | (refine sel_no ?_ ?_; (first | assumption | (simp only [beq_iff_eq, bne_iff_ne, beq_eq_false_iff_ne, bne_eq_false_iff_eq, decide_eq_true_eq, decide_eq_false_iff_not, Bool.not_eq_true', Bool.not_eq_false', ne_eq, beq_true, beq_false, bne_self_eq_false, not_true_eq_false, not_false_eq_true, gt_iff_lt, ge_iff_le, Int.not_lt, Int.not_le, Bool.true_eq_false, Bool.false_eq_true] <;> omega)); conv => whnf)
                          | (refine ⟨le_rfl' ?_, ?_⟩; rfl; conv => whnf)
                          | (refine ⟨⟨?_, ?_⟩, ?_⟩; omega; omega; conv => whnf)
                          | (refine ⟨⟨?_, ?_, ?_⟩, ?_⟩; rfl; omega; omega; conv => whnf)
                          | (refine ⟨rfl, ?_, ?_⟩; decide; conv => whnf))
                        try exact rfl
                        refine ⟨vi ?_⟩
                        rw [e]; unfold chkN; rw [if_neg (by omega), if_pos (by omega)]; rfl
                    · repeat (first
                        | (refine sel_yes ?_ ?_; (first | assumption | (simp only [beq_iff_eq, bne_iff_ne, beq_eq_false_iff_ne, bne_eq_false_iff_eq, decide_eq_true_eq, decide_eq_false_iff_not, Bool.not_eq_true', Bool.not_eq_false', ne_eq, beq_true, beq_false, bne_self_eq_false, not_true_eq_false, not_false_eq_true, gt_iff_lt, ge_iff_le, Int.not_lt, Int.not_le, Bool.true_eq_false, Bool.false_eq_true] <;> omega)); conv => whnf)
                        | (refine sel_no ?_ ?_; (first | assumption | (simp only [beq_iff_eq, bne_iff_ne, beq_eq_false_iff_ne, bne_eq_false_iff_eq, decide_eq_true_eq, decide_eq_false_iff_not, Bool.not_eq_true', Bool.not_eq_false', ne_eq, beq_true, beq_false, bne_self_eq_false, not_true_eq_false, not_false_eq_true, gt_iff_lt, ge_iff_le, Int.not_lt, Int.not_le, Bool.true_eq_false, Bool.false_eq_true] <;> omega)); conv => whnf)
                        | (refine ⟨le_rfl' ?_, ?_⟩; rfl; conv => whnf)
                        | (refine ⟨⟨?_, ?_⟩, ?_⟩; omega; omega; conv => whnf)
                        | (refine ⟨⟨?_, ?_, ?_⟩, ?_⟩; rfl; omega; omega; conv => whnf)
                        | (refine ⟨rfl, ?_, ?_⟩; decide; conv => whnf))
                      try exact rfl
                      refine ⟨vi ?_⟩
                      rw [e]; unfold chkN; rw [if_neg (by omega), if_pos (by omega)]; rfl
                  · repeat (first
                      | (refine sel_yes ?_ ?_; (first | assumption | (simp only [beq_iff_eq, bne_iff_ne, beq_eq_false_iff_ne, bne_eq_false_iff_eq, decide_eq_true_eq, decide_eq_false_iff_not, Bool.not_eq_true', Bool.not_eq_false', ne_eq, beq_true, beq_false, bne_self_eq_false, not_true_eq_false, not_false_eq_true, gt_iff_lt, ge_iff_le, Int.not_lt, Int.not_le, Bool.true_eq_false, Bool.false_eq_true] <;> omega)); conv => whnf)
                      | (refine sel_no ?_ ?_; (first | assumption | (simp only [beq_iff_eq, bne_iff_ne, beq_eq_false_iff_ne, bne_eq_false_iff_eq, decide_eq_true_eq, decide_eq_false_iff_not, Bool.not_eq_true', Bool.not_eq_false', ne_eq, beq_true, beq_false, bne_self_eq_false, not_true_eq_false, not_false_eq_true, gt_iff_lt, ge_iff_le, Int.not_lt, Int.not_le, Bool.true_eq_false, Bool.false_eq_true] <;> omega)); conv => whnf)
                      | (refine ⟨le_rfl' ?_, ?_⟩; rfl; conv => whnf)
                      | (refine ⟨⟨?_, ?_⟩, ?_⟩; omega; omega; conv => whnf)
                      | (refine ⟨⟨?_, ?_, ?_⟩, ?_⟩; rfl; omega; omega; conv => whnf)
                      | (refine ⟨rfl, ?_, ?_⟩; decide; conv => whnf))
                    try exact rfl
                    refine ⟨vi ?_⟩
                    rw [e]; unfold chkN; rw [if_pos (by omega)]; rfl
                · by_cases c7 : 240 ≤ by_ s p ∧ by_ s p ≤ 244
                  · skip
                    have e : utfN s p = chkN (s.size - p) (by_ s (p + 1)) (by_ s (p + 2)) (by_ s (p + 3)) 4 128 191 := by
                      unfold utfN utfR
                      repeat' split
                      all_goals first | rfl | (exfalso; omega)
                    by_cases d1 : p + 4 ≤ s.size
                    · have hb1 : ((s.data.toList.getD (IntKind.i64.wrap ((p : Int) + 1)).toNat 0).toNat : Int) = (by_ s (p + 1) : Int) := by rw [hw1, Int.toNat_natCast, getD_by s (p + 1) (by omega)]
                      by_cases d2 : 128 ≤ by_ s (p + 1)
                      · by_cases d3 : by_ s (p + 1) ≤ 191
                        · repeat (first
                            | (refine sel_yes ?_ ?_; (first | assumption | (simp only [beq_iff_eq, bne_iff_ne, beq_eq_false_iff_ne, bne_eq_false_iff_eq, decide_eq_true_eq, decide_eq_false_iff_not, Bool.not_eq_true', Bool.not_eq_false', ne_eq, beq_true, beq_false, bne_self_eq_false, not_true_eq_false, not_false_eq_true, gt_iff_lt, ge_iff_le, Int.not_lt, Int.not_le, Bool.true_eq_false, Bool.false_eq_true] <;> omega)); conv => whnf)
                            | (refine sel_no ?_ ?_; (first | assumption | (simp only [beq_iff_eq, bne_iff_ne, beq_eq_false_iff_ne, bne_eq_false_iff_eq, decide_eq_true_eq, decide_eq_false_iff_not, Bool.not_eq_true', Bool.not_eq_false', ne_eq, beq_true, beq_false, bne_self_eq_false, not_true_eq_false, not_false_eq_true, gt_iff_lt, ge_iff_le, Int.not_lt, Int.not_le, Bool.true_eq_false, Bool.false_eq_true] <;> omega)); conv => whnf)
                            | (refine ⟨le_rfl' ?_, ?_⟩; rfl; conv => whnf)
                            | (refine ⟨⟨?_, ?_⟩, ?_⟩; omega; omega; conv => whnf)
                            | (refine ⟨⟨?_, ?_, ?_⟩, ?_⟩; rfl; omega; omega; conv => whnf)
                            | (refine ⟨rfl, ?_, ?_⟩; decide; conv => whnf))
                          try exact rfl
                          refine lutf2 s p hp hs 4 (by decide) d1 _ _ 2 2 _ rfl (by decide) (by decide) ⟨rfl, rfl, rfl, rfl, trivial⟩ rfl (fun z a b => ?_) (fun z a b => ?_)
                          · refine Fin.tmp (i := 4) rfl a (vi ?_)
                            rw [e]
                            unfold chkN
                            repeat' split
                            all_goals first | rfl | (exfalso; exact b (fun j h1 h2 => by (have : j = 2 ∨ j = 3 := by omega); rcases this with rfl | rfl <;> omega))
                          · rw [St.knows _ z.hp.n a rfl]
                            have b2 := b 2 (by decide) (by decide)
                            have b3 := b 3 (by decide) (by decide)
                            conv => whnf
                            refine ⟨vi ?_⟩
                            rw [e]
                            unfold chkN
                            repeat' split
                            all_goals first | rfl | (exfalso; omega)
                        · repeat (first
                            | (refine sel_yes ?_ ?_; (first | assumption | (simp only [beq_iff_eq, bne_iff_ne, beq_eq_false_iff_ne, bne_eq_false_iff_eq, decide_eq_true_eq, decide_eq_false_iff_not, Bool.not_eq_true', Bool.not_eq_false', ne_eq, beq_true, beq_false, bne_self_eq_false, not_true_eq_false, not_false_eq_true, gt_iff_lt, ge_iff_le, Int.not_lt, Int.not_le, Bool.true_eq_false, Bool.false_eq_true] <;> omega)); conv => whnf)
                            | (refine sel_no ?_ ?_; (first | assumption | (simp only [beq_iff_eq, bne_iff_ne, beq_eq_false_iff_ne, bne_eq_false_iff_eq, decide_eq_true_eq, decide_eq_false_iff_not, Bool.not_eq_true', Bool.not_eq_false', ne_eq, beq_true, beq_false, bne_self_eq_false, not_true_eq_false, not_false_eq_true, gt_iff_lt, ge_iff_le, Int.not_lt, Int.not_le, Bool.true_eq_false, Bool.false_eq_true] <;> omega)); conv => whnf)
                            | (refine ⟨le_rfl' ?_, ?_⟩; rfl; conv => whnf)
                            | (refine ⟨⟨?_, ?_⟩, ?_⟩; omega; omega; conv => whnf)
                            | (refine ⟨⟨?_, ?_, ?_⟩, ?_⟩; rfl; omega; omega; conv => whnf)
                            | (refine ⟨rfl, ?_, ?_⟩; decide; conv => whnf))
                          try exact rfl
                          refine ⟨vi ?_⟩
                          rw [e]; unfold chkN; rw [if_neg (by omega), if_pos (by omega)]; rfl
                      · repeat (first
                          | (refine sel_yes ?_ ?_; (first | assumption | (simp only [beq_iff_eq, bne_iff_ne, beq_eq_false_iff_ne, bne_eq_false_iff_eq, decide_eq_true_eq, decide_eq_false_iff_not, Bool.not_eq_true', Bool.not_eq_false', ne_eq, beq_true, beq_false, bne_self_eq_false, not_true_eq_false, not_false_eq_true, gt_iff_lt, ge_iff_le, Int.not_lt, Int.not_le, Bool.true_eq_false, Bool.false_eq_true] <;> omega)); conv => whnf)
                          | (refine sel_no ?_ ?_; (first | assumption | (simp only [beq_iff_eq, bne_iff_ne, beq_eq_false_iff_ne, bne_eq_false_iff_eq, decide_eq_true_eq, decide_eq_false_iff_not, Bool.not_eq_true', Bool.not_eq_false', ne_eq, beq_true, beq_false, bne_self_eq_false, not_true_eq_false, not_false_eq_true, gt_iff_lt, ge_iff_le, Int.not_lt, Int.not_le, Bool.true_eq_false, Bool.false_eq_true] <;> omega)); conv => whnf)
                          | (refine ⟨le_rfl' ?_, ?_⟩; rfl; conv => whnf)
                          | (refine ⟨⟨?_, ?_⟩, ?_⟩; omega; omega; conv => whnf)
                          | (refine ⟨⟨?_, ?_, ?_⟩, ?_⟩; rfl; omega; omega; conv => whnf)
                          | (refine ⟨rfl, ?_, ?_⟩; decide; conv => whnf))
                        try exact rfl
                        refine ⟨vi ?_⟩
                        rw [e]; unfold chkN; rw [if_neg (by omega), if_pos (by omega)]; rfl
                    · repeat (first
                        | (refine sel_yes ?_ ?_; (first | assumption | (simp only [beq_iff_eq, bne_iff_ne, beq_eq_false_iff_ne, bne_eq_false_iff_eq, decide_eq_true_eq, decide_eq_false_iff_not, Bool.not_eq_true', Bool.not_eq_false', ne_eq, beq_true, beq_false, bne_self_eq_false, not_true_eq_false, not_false_eq_true, gt_iff_lt, ge_iff_le, Int.not_lt, Int.not_le, Bool.true_eq_false, Bool.false_eq_true] <;> omega)); conv => whnf)
                        | (refine sel_no ?_ ?_; (first | assumption | (simp only [beq_iff_eq, bne_iff_ne, beq_eq_false_iff_ne, bne_eq_false_iff_eq, decide_eq_true_eq, decide_eq_false_iff_not, Bool.not_eq_true', Bool.not_eq_false', ne_eq, beq_true, beq_false, bne_self_eq_false, not_true_eq_false, not_false_eq_true, gt_iff_lt, ge_iff_le, Int.not_lt, Int.not_le, Bool.true_eq_false, Bool.false_eq_true] <;> omega)); conv => whnf)
                        | (refine ⟨le_rfl' ?_, ?_⟩; rfl; conv => whnf)
                        | (refine ⟨⟨?_, ?_⟩, ?_⟩; omega; omega; conv => whnf)
                        | (refine ⟨⟨?_, ?_, ?_⟩, ?_⟩; rfl; omega; omega; conv => whnf)
                        | (refine ⟨rfl, ?_, ?_⟩; decide; conv => whnf))
                      try exact rfl
                      refine ⟨vi ?_⟩
                      rw [e]; unfold chkN; rw [if_pos (by omega)]; rfl
                  · have e : utfN s p = 0 := by
                      unfold utfN utfR
                      repeat' split
                      all_goals first | rfl | (exfalso; omega)
                    by_cases c9 : by_ s p < 194
                    · repeat (first
                        | (refine sel_yes ?_ ?_; (first | assumption | (simp only [beq_iff_eq, bne_iff_ne, beq_eq_false_iff_ne, bne_eq_false_iff_eq, decide_eq_true_eq, decide_eq_false_iff_not, Bool.not_eq_true', Bool.not_eq_false', ne_eq, beq_true, beq_false, bne_self_eq_false, not_true_eq_false, not_false_eq_true, gt_iff_lt, ge_iff_le, Int.not_lt, Int.not_le, Bool.true_eq_false, Bool.false_eq_true] <;> omega)); conv => whnf)
                        | (refine sel_no ?_ ?_; (first | assumption | (simp only [beq_iff_eq, bne_iff_ne, beq_eq_false_iff_ne, bne_eq_false_iff_eq, decide_eq_true_eq, decide_eq_false_iff_not, Bool.not_eq_true', Bool.not_eq_false', ne_eq, beq_true, beq_false, bne_self_eq_false, not_true_eq_false, not_false_eq_true, gt_iff_lt, ge_iff_le, Int.not_lt, Int.not_le, Bool.true_eq_false, Bool.false_eq_true] <;> omega)); conv => whnf)
                        | (refine ⟨le_rfl' ?_, ?_⟩; rfl; conv => whnf)
                        | (refine ⟨⟨?_, ?_⟩, ?_⟩; omega; omega; conv => whnf)
                        | (refine ⟨⟨?_, ?_, ?_⟩, ?_⟩; rfl; omega; omega; conv => whnf)
                        | (refine ⟨rfl, ?_, ?_⟩; decide; conv => whnf))
                      try exact rfl
                      exact ⟨vi (by rw [e]; rfl)⟩
                    · repeat (first
                        | (refine sel_yes ?_ ?_; (first | assumption | (simp only [beq_iff_eq, bne_iff_ne, beq_eq_false_iff_ne, bne_eq_false_iff_eq, decide_eq_true_eq, decide_eq_false_iff_not, Bool.not_eq_true', Bool.not_eq_false', ne_eq, beq_true, beq_false, bne_self_eq_false, not_true_eq_false, not_false_eq_true, gt_iff_lt, ge_iff_le, Int.not_lt, Int.not_le, Bool.true_eq_false, Bool.false_eq_true] <;> omega)); conv => whnf)
                        | (refine sel_no ?_ ?_; (first | assumption | (simp only [beq_iff_eq, bne_iff_ne, beq_eq_false_iff_ne, bne_eq_false_iff_eq, decide_eq_true_eq, decide_eq_false_iff_not, Bool.not_eq_true', Bool.not_eq_false', ne_eq, beq_true, beq_false, bne_self_eq_false, not_true_eq_false, not_false_eq_true, gt_iff_lt, ge_iff_le, Int.not_lt, Int.not_le, Bool.true_eq_false, Bool.false_eq_true] <;> omega)); conv => whnf)
                        | (refine ⟨le_rfl' ?_, ?_⟩; rfl; conv => whnf)
                        | (refine ⟨⟨?_, ?_⟩, ?_⟩; omega; omega; conv => whnf)
                        | (refine ⟨⟨?_, ?_, ?_⟩, ?_⟩; rfl; omega; omega; conv => whnf)
                        | (refine ⟨rfl, ?_, ?_⟩; decide; conv => whnf))
                      try exact rfl
                      exact ⟨vi (by rw [e]; rfl)⟩
  obtain ⟨r, h, rfl⟩ := key
  exact h
end
end Go.Proofs.YtjfjagnnefmepaaDoor.AB
end

section
set_option linter.unusedVariables false
set_option linter.unusedSimpArgs false
open Go Go.Ab Go.Proofs Go.Vl
namespace Go.Proofs.YtjfjagnnefmepaaDoor.AB
set_option maxRecDepth 100000
set_option maxHeartbeats 8000000
set_option linter.unusedSimpArgs false
section
variable {ext : Exts}
/-- how many letters a text has from a place on; none: it is no UTF-8 -/
def lettersF (s : ByteArray) : Nat → Nat → Option Nat
  | 0, _ => some 0
  | f + 1, p => if p < s.size then (if utfN s p = 0 then none else (lettersF s f (p + utfN s p)).map (· + 1)) else some 0
theorem utfGo_letters (s : ByteArray) : ∀ (f p : Nat), (lettersF s f p).isSome = utfGo s f p
  | 0, p => rfl
  | f + 1, p => by
    simp only [lettersF, utfGo]
    by_cases h : p < s.size
    · rw [if_pos h, if_pos h]
      rcases utfN_dec s p with ⟨e, hb⟩ | ⟨e, h0, hb⟩
      · rw [if_pos e, if_pos (show (Utf8.decode s p).1 = 65533 ∧ (Utf8.decode s p).2 = 1 from hb)]; rfl
      · rw [if_neg (by omega), if_neg (show ¬ ((Utf8.decode s p).1 = 65533 ∧ (Utf8.decode s p).2 = 1) from hb), e]
        rw [← utfGo_letters s f]
        cases lettersF s f (p + (Utf8.decode s p).2) <;> rfl
    · rw [if_neg h, if_neg h]; rfl
theorem lletters (hn : Non ext) (s : ByteArray) (hs : s.size ≤ 4611686018427387904) (Q : Ex → St → Prop) (f : Nat) :
    ∀ (p c : Nat) (z : St), s.size ≤ p + f → p ≤ s.size + 4 → c ≤ p → Has z.t [(4, .int .i64 p), (3, .int .i64 c), (0, .str s)] → z.hp.n = 3 →
      (∀ z' : St, z'.t 2 = .int .i64 (-1) → lettersF s f p = none → Q .ret z') →
      (∀ (z' : St) (k : Nat), Has z'.t [(3, .int .i64 ((c + k : Nat) : Int))] → lettersF s f p = some k → Q (.exit 0) z') →
      Go.Ab.Loop (cfg ext) (lpOf Tryd.f105) 3 z Q := by
  induction f with
  | zero =>
    intro p c z hf hp hc ht hz hr hq
    have g : decide ((p : Int) < (s.size : Int)) = false := decide_eq_false (by omega)
    rw [St.knows _ _ ht hz]
    refine Loop.round ?_
    conv => whnf
    repeat (first
      | (refine sel_yes ?_ ?_; (first | assumption | (simp only [beq_iff_eq, bne_iff_ne, beq_eq_false_iff_ne, bne_eq_false_iff_eq, decide_eq_true_eq, decide_eq_false_iff_not, Bool.not_eq_true', Bool.not_eq_false', ne_eq, beq_true, beq_false, bne_self_eq_false, not_true_eq_false, not_false_eq_true, gt_iff_lt, ge_iff_le, Int.not_lt, Int.not_le, Bool.true_eq_false, Bool.false_eq_true] <;> omega)); conv => whnf)
      | (refine sel_no ?_ ?_; (first | assumption | (simp only [beq_iff_eq, bne_iff_ne, beq_eq_false_iff_ne, bne_eq_false_iff_eq, decide_eq_true_eq, decide_eq_false_iff_not, Bool.not_eq_true', Bool.not_eq_false', ne_eq, beq_true, beq_false, bne_self_eq_false, not_true_eq_false, not_false_eq_true, gt_iff_lt, ge_iff_le, Int.not_lt, Int.not_le, Bool.true_eq_false, Bool.false_eq_true] <;> omega)); conv => whnf)
      | (refine ⟨le_rfl' ?_, ?_⟩; rfl; conv => whnf)
      | (refine ⟨⟨?_, ?_⟩, ?_⟩; omega; omega; conv => whnf)
      | (refine ⟨⟨?_, ?_, ?_⟩, ?_⟩; rfl; omega; omega; conv => whnf)
      | (refine ⟨rfl, ?_, ?_⟩; decide; conv => whnf))
    try exact rfl
    exact hq _ 0 ⟨rfl, trivial⟩ rfl
  | succ f ih =>
    intro p c z hf hp hc ht hz hr hq
    by_cases h : p < s.size
    · have g : decide ((p : Int) < (s.size : Int)) = true := decide_eq_true (by omega)
      have hu := rutf hn s p h hs
      have el : lettersF s (f + 1) p = if utfN s p = 0 then none else (lettersF s f (p + utfN s p)).map (· + 1) := by simp only [lettersF]; rw [if_pos h]
      by_cases h0 : utfN s p = 0
      · rw [if_pos h0] at el
        rw [h0] at hu
        rw [St.knows _ _ ht hz]
        refine Loop.round ?_
        conv => whnf
        repeat (first
          | (refine sel_yes ?_ ?_; (first | assumption | (simp only [beq_iff_eq, bne_iff_ne, beq_eq_false_iff_ne, bne_eq_false_iff_eq, decide_eq_true_eq, decide_eq_false_iff_not, Bool.not_eq_true', Bool.not_eq_false', ne_eq, beq_true, beq_false, bne_self_eq_false, not_true_eq_false, not_false_eq_true, gt_iff_lt, ge_iff_le, Int.not_lt, Int.not_le, Bool.true_eq_false, Bool.false_eq_true] <;> omega)); conv => whnf)
          | (refine sel_no ?_ ?_; (first | assumption | (simp only [beq_iff_eq, bne_iff_ne, beq_eq_false_iff_ne, bne_eq_false_iff_eq, decide_eq_true_eq, decide_eq_false_iff_not, Bool.not_eq_true', Bool.not_eq_false', ne_eq, beq_true, beq_false, bne_self_eq_false, not_true_eq_false, not_false_eq_true, gt_iff_lt, ge_iff_le, Int.not_lt, Int.not_le, Bool.true_eq_false, Bool.false_eq_true] <;> omega)); conv => whnf)
          | (refine ⟨_, hu, ?_⟩; conv => whnf)
          | (refine ⟨le_rfl' ?_, ?_⟩; rfl; conv => whnf)
          | (refine ⟨⟨?_, ?_⟩, ?_⟩; omega; omega; conv => whnf)
          | (refine ⟨⟨?_, ?_, ?_⟩, ?_⟩; rfl; omega; omega; conv => whnf)
          | (refine ⟨rfl, ?_, ?_⟩; decide; conv => whnf))
        try exact rfl
        exact hr _ rfl el
      · rw [if_neg h0] at el
        have hle : utfN s p ≤ 4 := by
          rcases utfN_dec s p with ⟨e, _⟩ | ⟨e, _, _⟩
          · omega
          · have := dec_le s p; omega
        have g0 : ((utfN s p : Int) == 0) = false := by rw [beq_eq_false_iff_ne]; omega
        have hw1 : IntKind.i64.wrap ((p : Int) + (utfN s p : Int)) = ((p + utfN s p : Nat) : Int) := by rw [IntKind.wrap_i64]; omega
        have hw2 : IntKind.i64.wrap ((c : Int) + 1) = ((c + 1 : Nat) : Int) := by rw [IntKind.wrap_i64]; omega
        rw [St.knows _ _ ht hz]
        refine Loop.round ?_
        conv => whnf
        repeat (first
          | (refine sel_yes ?_ ?_; (first | assumption | (simp only [beq_iff_eq, bne_iff_ne, beq_eq_false_iff_ne, bne_eq_false_iff_eq, decide_eq_true_eq, decide_eq_false_iff_not, Bool.not_eq_true', Bool.not_eq_false', ne_eq, beq_true, beq_false, bne_self_eq_false, not_true_eq_false, not_false_eq_true, gt_iff_lt, ge_iff_le, Int.not_lt, Int.not_le, Bool.true_eq_false, Bool.false_eq_true] <;> omega)); conv => whnf)
          | (refine sel_no ?_ ?_; (first | assumption | (simp only [beq_iff_eq, bne_iff_ne, beq_eq_false_iff_ne, bne_eq_false_iff_eq, decide_eq_true_eq, decide_eq_false_iff_not, Bool.not_eq_true', Bool.not_eq_false', ne_eq, beq_true, beq_false, bne_self_eq_false, not_true_eq_false, not_false_eq_true, gt_iff_lt, ge_iff_le, Int.not_lt, Int.not_le, Bool.true_eq_false, Bool.false_eq_true] <;> omega)); conv => whnf)
          | (refine ⟨_, hu, ?_⟩; conv => whnf)
          | (refine ⟨le_rfl' ?_, ?_⟩; rfl; conv => whnf)
          | (refine ⟨⟨?_, ?_⟩, ?_⟩; omega; omega; conv => whnf)
          | (refine ⟨⟨?_, ?_, ?_⟩, ?_⟩; rfl; omega; omega; conv => whnf)
          | (refine ⟨rfl, ?_, ?_⟩; decide; conv => whnf))
        try exact rfl
        refine ih (p + utfN s p) (c + 1) _ (by omega) (by omega) (by omega) ⟨?_, ?_, rfl, trivial⟩ rfl (fun z' a b => hr z' a (by rw [el, b]; rfl)) (fun z' k a b => hq z' (k + 1) (by rw [show c + (k + 1) = c + 1 + k by omega]; exact a) (by rw [el, b]; rfl))
        · conv => lhs; whnf
          exact vi hw1
        · conv => lhs; whnf
          exact vi hw2
    · have g : decide ((p : Int) < (s.size : Int)) = false := decide_eq_false (by omega)
      rw [St.knows _ _ ht hz]
      refine Loop.round ?_
      conv => whnf
      repeat (first
        | (refine sel_yes ?_ ?_; (first | assumption | (simp only [beq_iff_eq, bne_iff_ne, beq_eq_false_iff_ne, bne_eq_false_iff_eq, decide_eq_true_eq, decide_eq_false_iff_not, Bool.not_eq_true', Bool.not_eq_false', ne_eq, beq_true, beq_false, bne_self_eq_false, not_true_eq_false, not_false_eq_true, gt_iff_lt, ge_iff_le, Int.not_lt, Int.not_le, Bool.true_eq_false, Bool.false_eq_true] <;> omega)); conv => whnf)
        | (refine sel_no ?_ ?_; (first | assumption | (simp only [beq_iff_eq, bne_iff_ne, beq_eq_false_iff_ne, bne_eq_false_iff_eq, decide_eq_true_eq, decide_eq_false_iff_not, Bool.not_eq_true', Bool.not_eq_false', ne_eq, beq_true, beq_false, bne_self_eq_false, not_true_eq_false, not_false_eq_true, gt_iff_lt, ge_iff_le, Int.not_lt, Int.not_le, Bool.true_eq_false, Bool.false_eq_true] <;> omega)); conv => whnf)
        | (refine ⟨le_rfl' ?_, ?_⟩; rfl; conv => whnf)
        | (refine ⟨⟨?_, ?_⟩, ?_⟩; omega; omega; conv => whnf)
        | (refine ⟨⟨?_, ?_, ?_⟩, ?_⟩; rfl; omega; omega; conv => whnf)
        | (refine ⟨rfl, ?_, ?_⟩; decide; conv => whnf))
      try exact rfl
      exact hq _ 0 ⟨rfl, trivial⟩ (by simp only [lettersF]; rw [if_neg h])
/-- how many letters a text has; below 0: it is no UTF-8 -/
def lettersZ (s : ByteArray) : Int := match lettersF s s.size 0 with | some k => k | none => -1
theorem rletters (hn : Non ext) (s : ByteArray) (hs : s.size ≤ 4611686018427387904) : (cfg ext).Ev 105 [.str s] (.int .i64 (lettersZ s)) := by
  have key : ∃ r, (cfg ext).Ev 105 [.str s] r ∧ r = .int .i64 (lettersZ s) := by
    refine Ev.ofF (hn 105 (by decide) (by decide)) Tryd.func105 rfl rfl ?_
    conv => whnf
    refine lletters hn s hs _ s.size 0 0 _ (by omega) (by omega) (Nat.le_refl _) ⟨rfl, rfl, rfl, trivial⟩ rfl (fun z a b => ?_) (fun z k a b => ?_)
    · exact Fin.tmp (i := 2) rfl a (vi (by unfold lettersZ; rw [b]))
    · rw [St.knows _ z.hp.n a rfl]
      conv => whnf
      exact ⟨vi (by unfold lettersZ; rw [b]; simp)⟩
  obtain ⟨r, h, rfl⟩ := key
  exact h
theorem letters_ok (s : ByteArray) : decide (lettersZ s ≥ 0) = utfB s := by
  have := utfGo_letters s s.size 0
  unfold utfB
  rw [← this]
  unfold lettersZ
  cases lettersF s s.size 0 with
  | none => rfl
  | some k => simp
end
end Go.Proofs.YtjfjagnnefmepaaDoor.AB
end

section
set_option linter.unusedVariables false
set_option linter.unusedSimpArgs false
open Go Go.Ab Go.Proofs Go.Vl
namespace Go.Proofs.YtjfjagnnefmepaaDoor.AB
set_option maxRecDepth 100000
set_option maxHeartbeats 8000000
set_option linter.unusedSimpArgs false
section
variable {ext : Exts}
noncomputable def propB (p : Prop) : Bool := @decide p (Classical.propDecidable p)
theorem propB_iff {p : Prop} : propB p = true ↔ p := by unfold propB; exact @decide_eq_true_iff p (Classical.propDecidable p)
theorem propB_yes {p : Prop} (h : p) : propB p = true := propB_iff.2 h
theorem propB_no {p : Prop} (h : ¬ p) : propB p = false := by
  cases e : propB p with
  | false => rfl
  | true => exact absurd (propB_iff.1 e) h
/-- from a place on, a row rises -/
def RiseF (st : Nat) (l : List T) (i : Nat) : Prop := ∀ j, i ≤ j → j % st = 0 → ∀ (h : j < l.length) (h0 : st ≤ j), cmpV (l[j - st]'(by omega)) (l[j]) < 0
theorem rise_F {st : Nat} (hst : 0 < st) (l : List T) : RiseF st l st ↔ Rise st l := by
  constructor
  · intro h i hi hlt
    have := h (i + st) (by omega) (by rw [Nat.add_mod_right]; exact hi) hlt (by omega)
    simpa using this
  · intro h j h1 h2 h3 h4
    have := h (j - st) (by have := Nat.sub_add_cancel h4; rw [← this, Nat.add_mod_right] at h2; exact h2) (by omega)
    simpa [Nat.sub_add_cancel h4] using this
theorem lown01 (k n : Int) (t : ByteArray) (l : List T) (hl : l.length ≤ 1024) (E : ∀ a ∈ l, ∀ b ∈ l, (cfg ext).Ev 107 [A a, A b] (.int .i64 (cmpV a b))) (st : Nat) (hst : st = 1 ∨ st = 2) (N : Nat) (Q : Ex → St → Prop) (d : Nat) :
    ∀ (i : Nat) (z : St), l.length ≤ i + st * d → i ≤ l.length + 2 → st ≤ i → i % st = 0 → Has z.t [(4, .int .i64 i), (3, .int .i64 st), (1, .ref 0 0)] → Has z.hp.h [(0, some (.cells (encX' k n t l) false))] → z.hp.n = N + 1 →
      (∀ z' : St, z'.t 2 = .bool false → ¬ RiseF st l i → Q .ret z') → (∀ z' : St, RiseF st l i → Q (.exit 0) z') →
      Go.Ab.Loop (cfg ext) (lpOf Tryd.f81) (N + 1) z Q := by
  induction d with
  | zero =>
    intro i z hd hi h1 hm ht hh hz hr hq
    have g : decide ((i : Int) < (l.length : Int)) = false := decide_eq_false (by omega)
    rw [St.knows _ _ ht hz _ hh]
    refine Loop.round ?_
    conv => whnf
    repeat (first
      | (refine sel_yes ?_ ?_; (first | assumption | (simp only [beq_iff_eq, bne_iff_ne, beq_eq_false_iff_ne, bne_eq_false_iff_eq, decide_eq_true_eq, decide_eq_false_iff_not, Bool.not_eq_true', Bool.not_eq_false', ne_eq, beq_true, beq_false, bne_self_eq_false, not_true_eq_false, not_false_eq_true, gt_iff_lt, ge_iff_le, Int.not_lt, Int.not_le, Bool.true_eq_false, Bool.false_eq_true] <;> omega)); conv => whnf)
      | (refine sel_no ?_ ?_; (first | assumption | (simp only [beq_iff_eq, bne_iff_ne, beq_eq_false_iff_ne, bne_eq_false_iff_eq, decide_eq_true_eq, decide_eq_false_iff_not, Bool.not_eq_true', Bool.not_eq_false', ne_eq, beq_true, beq_false, bne_self_eq_false, not_true_eq_false, not_false_eq_true, gt_iff_lt, ge_iff_le, Int.not_lt, Int.not_le, Bool.true_eq_false, Bool.false_eq_true] <;> omega)); conv => whnf)
      | (refine ⟨le_rfl' ?_, ?_⟩; rfl; conv => whnf)
      | (refine ⟨⟨?_, ?_⟩, ?_⟩; omega; omega; conv => whnf)
      | (refine ⟨⟨?_, ?_, ?_⟩, ?_⟩; rfl; omega; omega; conv => whnf)
      | (refine ⟨rfl, ?_, ?_⟩; decide; conv => whnf))
    try exact rfl
    exact hq _ (fun j h2 h3 h4 _ => by omega)
  | succ d ih =>
    intro i z hd hi h1 hm ht hh hz hr hq
    by_cases hlt : i < l.length
    · have g : decide ((i : Int) < (l.length : Int)) = true := decide_eq_true (by omega)
      have hE := E _ (List.getElem_mem (show i - st < l.length by omega)) _ (List.getElem_mem hlt)
      have hw : IntKind.i64.wrap ((i : Int) - (st : Int)) = ((i - st : Nat) : Int) := by rw [IntKind.wrap_i64]; omega
      have hw1 : IntKind.i64.wrap ((i : Int) + (st : Int)) = ((i + st : Nat) : Int) := by rw [IntKind.wrap_i64]; omega
      have hto : (IntKind.i64.wrap ((i : Int) - (st : Int))).toNat = i - st := by rw [hw, Int.toNat_natCast]
      have hld : ∀ {Q : V → Prop}, Q (A (l[i - st]'(by omega))) → (IntKind.i64.wrap ((i : Int) - (st : Int))).toNat * 4 + 4 ≤ (encL l).length ∧ opt (one (some true) (sub (encL l) ((IntKind.i64.wrap ((i : Int) - (st : Int))).toNat * 4) 4)) fun v => fv v Q := by
        intro Q hq
        rw [hto]
        exact ldA (by omega) hq
      rw [St.knows _ _ ht hz _ hh]
      refine Loop.round ?_
      conv => whnf
      repeat (first
        | (refine sel_yes ?_ ?_; (first | assumption | (simp only [beq_iff_eq, bne_iff_ne, beq_eq_false_iff_ne, bne_eq_false_iff_eq, decide_eq_true_eq, decide_eq_false_iff_not, Bool.not_eq_true', Bool.not_eq_false', ne_eq, beq_true, beq_false, bne_self_eq_false, not_true_eq_false, not_false_eq_true, gt_iff_lt, ge_iff_le, Int.not_lt, Int.not_le, Bool.true_eq_false, Bool.false_eq_true] <;> omega)); conv => whnf)
        | (refine sel_no ?_ ?_; (first | assumption | (simp only [beq_iff_eq, bne_iff_ne, beq_eq_false_iff_ne, bne_eq_false_iff_eq, decide_eq_true_eq, decide_eq_false_iff_not, Bool.not_eq_true', Bool.not_eq_false', ne_eq, beq_true, beq_false, bne_self_eq_false, not_true_eq_false, not_false_eq_true, gt_iff_lt, ge_iff_le, Int.not_lt, Int.not_le, Bool.true_eq_false, Bool.false_eq_true] <;> omega)); conv => whnf)
        | (refine ⟨le_rfl' ?_, ?_⟩; rfl; conv => whnf)
        | (refine ⟨⟨?_, ?_⟩, ?_⟩; omega; omega; conv => whnf)
        | (refine ⟨⟨?_, ?_, ?_⟩, ?_⟩; rfl; omega; omega; conv => whnf)
        | (refine ⟨rfl, ?_, ?_⟩; decide; conv => whnf))
      try exact rfl
      refine hld ?_
      conv => whnf
      refine ⟨⟨by omega, by omega⟩, ?_⟩
      conv => whnf
      refine ldA (i := i) hlt ?_
      conv => whnf
      refine ⟨_, hE, ?_⟩
      conv => whnf
      by_cases hc : cmpV (l[i - st]'(by omega)) l[i] < 0
      · have hc' : decide (cmpV (l[i - st]'(by omega)) l[i] ≥ 0) = false := decide_eq_false (by omega)
        refine sel_no hc' ?_
        conv => whnf
        refine ih (i + st) _ (by rw [Nat.mul_succ] at hd; omega) (by omega) (by omega) (by rw [Nat.add_mod_right]; exact hm) ⟨?_, rfl, rfl, trivial⟩ ⟨?_, trivial⟩ rfl (fun z' a b => hr z' a (fun g => b (fun j h2 h3 h4 h5 => g j (by omega) h3 h4 h5))) (fun z' a => hq z' (fun j h2 h3 h4 h5 => ?_))
        · conv => lhs; whnf
          exact vi hw1
        · rfl
        · by_cases hj : i + st ≤ j
          · exact a j hj h3 h4 h5
          · obtain rfl : j = i := by
              rcases hst with rfl | rfl <;> omega
            exact hc
      · have hc' : decide (cmpV (l[i - st]'(by omega)) l[i] ≥ 0) = true := decide_eq_true (by omega)
        refine sel_yes hc' ?_
        conv => whnf
        exact hr _ rfl (fun g => hc (g i (Nat.le_refl _) hm hlt h1))
    · have g : decide ((i : Int) < (l.length : Int)) = false := decide_eq_false (by omega)
      rw [St.knows _ _ ht hz _ hh]
      refine Loop.round ?_
      conv => whnf
      repeat (first
        | (refine sel_yes ?_ ?_; (first | assumption | (simp only [beq_iff_eq, bne_iff_ne, beq_eq_false_iff_ne, bne_eq_false_iff_eq, decide_eq_true_eq, decide_eq_false_iff_not, Bool.not_eq_true', Bool.not_eq_false', ne_eq, beq_true, beq_false, bne_self_eq_false, not_true_eq_false, not_false_eq_true, gt_iff_lt, ge_iff_le, Int.not_lt, Int.not_le, Bool.true_eq_false, Bool.false_eq_true] <;> omega)); conv => whnf)
        | (refine sel_no ?_ ?_; (first | assumption | (simp only [beq_iff_eq, bne_iff_ne, beq_eq_false_iff_ne, bne_eq_false_iff_eq, decide_eq_true_eq, decide_eq_false_iff_not, Bool.not_eq_true', Bool.not_eq_false', ne_eq, beq_true, beq_false, bne_self_eq_false, not_true_eq_false, not_false_eq_true, gt_iff_lt, ge_iff_le, Int.not_lt, Int.not_le, Bool.true_eq_false, Bool.false_eq_true] <;> omega)); conv => whnf)
        | (refine ⟨le_rfl' ?_, ?_⟩; rfl; conv => whnf)
        | (refine ⟨⟨?_, ?_⟩, ?_⟩; omega; omega; conv => whnf)
        | (refine ⟨⟨?_, ?_, ?_⟩, ?_⟩; rfl; omega; omega; conv => whnf)
        | (refine ⟨rfl, ?_, ?_⟩; decide; conv => whnf))
      try exact rfl
      exact hq _ (fun j h2 h3 h4 _ => by omega)
end
end Go.Proofs.YtjfjagnnefmepaaDoor.AB
end

section
set_option linter.unusedVariables false
set_option linter.unusedSimpArgs false
open Go Go.Ab Go.Proofs Go.Vl
namespace Go.Proofs.YtjfjagnnefmepaaDoor.AB
set_option maxRecDepth 100000
set_option maxHeartbeats 16000000
set_option linter.unusedSimpArgs false
section
variable {ext : Exts}
theorem rownLa (hn : Non ext) (k n : Int) (t : ByteArray) (l : List T) (hw : WfV ⟨k, n, t, l⟩) (hl : l.length ≤ 1024) (t0 : t = ⟨#[]⟩) (hk : k = 0) (hn0 : n = 0) (hl0 : l = []) :
    ∃ r, (cfg ext).Ev 81 [A ⟨k, n, t, l⟩] r ∧ r = .bool (propB (PlainV k n t ∧ FormV k l)) := by
  have hc := rcoll hn k
  rw [show decide (k = 4 ∨ k = 5 ∨ k = 6) = false from decide_eq_false (by omega)] at hc
  have h1 : Int.tmod (l.length : Int) 1 = 0 := Int.tmod_one _
  have hte : (!(t.toList == (⟨#[]⟩ : ByteArray).toList)) = false := by rw [t0, beq_self_eq_true]; rfl
  have hteF : ((!(t.toList == (⟨#[]⟩ : ByteArray).toList)) == false) = true := by rw [hte]; rfl
  have hw' := hw
  simp only [WfV] at hw'
  have E : ∀ a ∈ l, ∀ b ∈ l, (cfg ext).Ev 107 [A a, A b] (.int .i64 (cmpV a b)) := fun a ha b _ => rcmpL hn l hw'.2.2.2.2 a ha b
  have hlz : l.length = 0 := by rw [hl0]; rfl
  rw [propB_yes ⟨⟨.inr t0, by omega, by rw [if_neg (by omega), if_neg (by omega)]; omega⟩, by unfold FormV; rw [if_neg (by omega), if_neg (by omega), if_neg (by omega)]; exact hl0⟩]
  refine Ev.ofF (hn 81 (by decide) (by decide)) Tryd.func81 rfl rfl ?_
  conv => whnf
  repeat (first
    | (refine sel_yes ?_ ?_; (first | assumption | (simp only [beq_iff_eq, bne_iff_ne, beq_eq_false_iff_ne, bne_eq_false_iff_eq, decide_eq_true_eq, decide_eq_false_iff_not, Bool.not_eq_true', Bool.not_eq_false', ne_eq, beq_true, beq_false, bne_self_eq_false, not_true_eq_false, not_false_eq_true, gt_iff_lt, ge_iff_le, Int.not_lt, Int.not_le, Bool.true_eq_false, Bool.false_eq_true] <;> omega)); conv => whnf)
    | (refine sel_no ?_ ?_; (first | assumption | (simp only [beq_iff_eq, bne_iff_ne, beq_eq_false_iff_ne, bne_eq_false_iff_eq, decide_eq_true_eq, decide_eq_false_iff_not, Bool.not_eq_true', Bool.not_eq_false', ne_eq, beq_true, beq_false, bne_self_eq_false, not_true_eq_false, not_false_eq_true, gt_iff_lt, ge_iff_le, Int.not_lt, Int.not_le, Bool.true_eq_false, Bool.false_eq_true] <;> omega)); conv => whnf)
    | (refine ⟨_, hc, ?_⟩; conv => whnf)
    | (refine ⟨le_rfl' ?_, ?_⟩; rfl; conv => whnf)
    | (refine ⟨⟨?_, ?_⟩, ?_⟩; omega; omega; conv => whnf)
    | (refine ⟨⟨?_, ?_, ?_⟩, ?_⟩; rfl; omega; omega; conv => whnf)
    | (refine ⟨rfl, ?_, ?_⟩; decide; conv => whnf))
  try exact rfl
  refine lown01 k n t l hl E 1 (.inl rfl) _ _ l.length 1 _ (by omega) (by omega) (by decide) (by decide) ⟨rfl, rfl, rfl, trivial⟩ ⟨rfl, trivial⟩ rfl (fun z a b => absurd (fun j _ _ h4 _ => by omega) b) (fun z b => ?_)
  conv => whnf
  exact ⟨rfl⟩
theorem rownMa (hn : Non ext) (k n : Int) (t : ByteArray) (l : List T) (hw : WfV ⟨k, n, t, l⟩) (hl : l.length ≤ 1024) (t0 : t = ⟨#[]⟩) (hk : k = 0) (hn0 : n = 0) (hpos : 0 < l.length) :
    ∃ r, (cfg ext).Ev 81 [A ⟨k, n, t, l⟩] r ∧ r = .bool (propB (PlainV k n t ∧ FormV k l)) := by
  have hc := rcoll hn k
  rw [show decide (k = 4 ∨ k = 5 ∨ k = 6) = false from decide_eq_false (by omega)] at hc
  have h1 : Int.tmod (l.length : Int) 1 = 0 := Int.tmod_one _
  have hte : (!(t.toList == (⟨#[]⟩ : ByteArray).toList)) = false := by rw [t0, beq_self_eq_true]; rfl
  have hteF : ((!(t.toList == (⟨#[]⟩ : ByteArray).toList)) == false) = true := by rw [hte]; rfl
  have hw' := hw
  simp only [WfV] at hw'
  have E : ∀ a ∈ l, ∀ b ∈ l, (cfg ext).Ev 107 [A a, A b] (.int .i64 (cmpV a b)) := fun a ha b _ => rcmpL hn l hw'.2.2.2.2 a ha b
  rw [propB_no (fun h => by have := h.2; unfold FormV at this; rw [if_neg (by omega), if_neg (by omega), if_neg (by omega)] at this; rw [this] at hpos; simp at hpos)]
  refine Ev.ofF (hn 81 (by decide) (by decide)) Tryd.func81 rfl rfl ?_
  conv => whnf
  repeat (first
    | (refine sel_yes ?_ ?_; (first | assumption | (simp only [beq_iff_eq, bne_iff_ne, beq_eq_false_iff_ne, bne_eq_false_iff_eq, decide_eq_true_eq, decide_eq_false_iff_not, Bool.not_eq_true', Bool.not_eq_false', ne_eq, beq_true, beq_false, bne_self_eq_false, not_true_eq_false, not_false_eq_true, gt_iff_lt, ge_iff_le, Int.not_lt, Int.not_le, Bool.true_eq_false, Bool.false_eq_true] <;> omega)); conv => whnf)
    | (refine sel_no ?_ ?_; (first | assumption | (simp only [beq_iff_eq, bne_iff_ne, beq_eq_false_iff_ne, bne_eq_false_iff_eq, decide_eq_true_eq, decide_eq_false_iff_not, Bool.not_eq_true', Bool.not_eq_false', ne_eq, beq_true, beq_false, bne_self_eq_false, not_true_eq_false, not_false_eq_true, gt_iff_lt, ge_iff_le, Int.not_lt, Int.not_le, Bool.true_eq_false, Bool.false_eq_true] <;> omega)); conv => whnf)
    | (refine ⟨_, hc, ?_⟩; conv => whnf)
    | (refine ⟨le_rfl' ?_, ?_⟩; rfl; conv => whnf)
    | (refine ⟨⟨?_, ?_⟩, ?_⟩; omega; omega; conv => whnf)
    | (refine ⟨⟨?_, ?_, ?_⟩, ?_⟩; rfl; omega; omega; conv => whnf)
    | (refine ⟨rfl, ?_, ?_⟩; decide; conv => whnf))
  try exact rfl
  exact ⟨rfl⟩
theorem rownLb (hn : Non ext) (k n : Int) (t : ByteArray) (l : List T) (hw : WfV ⟨k, n, t, l⟩) (hl : l.length ≤ 1024) (t0 : t = ⟨#[]⟩) (hk : k = 1) (hn0 : n = 0) (hl0 : l = []) :
    ∃ r, (cfg ext).Ev 81 [A ⟨k, n, t, l⟩] r ∧ r = .bool (propB (PlainV k n t ∧ FormV k l)) := by
  have hc := rcoll hn k
  rw [show decide (k = 4 ∨ k = 5 ∨ k = 6) = false from decide_eq_false (by omega)] at hc
  have h1 : Int.tmod (l.length : Int) 1 = 0 := Int.tmod_one _
  have hte : (!(t.toList == (⟨#[]⟩ : ByteArray).toList)) = false := by rw [t0, beq_self_eq_true]; rfl
  have hteF : ((!(t.toList == (⟨#[]⟩ : ByteArray).toList)) == false) = true := by rw [hte]; rfl
  have hw' := hw
  simp only [WfV] at hw'
  have E : ∀ a ∈ l, ∀ b ∈ l, (cfg ext).Ev 107 [A a, A b] (.int .i64 (cmpV a b)) := fun a ha b _ => rcmpL hn l hw'.2.2.2.2 a ha b
  have hlz : l.length = 0 := by rw [hl0]; rfl
  rw [propB_yes ⟨⟨.inr t0, .inl hk, by rw [if_pos hk]; omega⟩, by unfold FormV; rw [if_neg (by omega), if_neg (by omega), if_neg (by omega)]; exact hl0⟩]
  refine Ev.ofF (hn 81 (by decide) (by decide)) Tryd.func81 rfl rfl ?_
  conv => whnf
  repeat (first
    | (refine sel_yes ?_ ?_; (first | assumption | (simp only [beq_iff_eq, bne_iff_ne, beq_eq_false_iff_ne, bne_eq_false_iff_eq, decide_eq_true_eq, decide_eq_false_iff_not, Bool.not_eq_true', Bool.not_eq_false', ne_eq, beq_true, beq_false, bne_self_eq_false, not_true_eq_false, not_false_eq_true, gt_iff_lt, ge_iff_le, Int.not_lt, Int.not_le, Bool.true_eq_false, Bool.false_eq_true] <;> omega)); conv => whnf)
    | (refine sel_no ?_ ?_; (first | assumption | (simp only [beq_iff_eq, bne_iff_ne, beq_eq_false_iff_ne, bne_eq_false_iff_eq, decide_eq_true_eq, decide_eq_false_iff_not, Bool.not_eq_true', Bool.not_eq_false', ne_eq, beq_true, beq_false, bne_self_eq_false, not_true_eq_false, not_false_eq_true, gt_iff_lt, ge_iff_le, Int.not_lt, Int.not_le, Bool.true_eq_false, Bool.false_eq_true] <;> omega)); conv => whnf)
    | (refine ⟨_, hc, ?_⟩; conv => whnf)
    | (refine ⟨le_rfl' ?_, ?_⟩; rfl; conv => whnf)
    | (refine ⟨⟨?_, ?_⟩, ?_⟩; omega; omega; conv => whnf)
    | (refine ⟨⟨?_, ?_, ?_⟩, ?_⟩; rfl; omega; omega; conv => whnf)
    | (refine ⟨rfl, ?_, ?_⟩; decide; conv => whnf))
  try exact rfl
  refine lown01 k n t l hl E 1 (.inl rfl) _ _ l.length 1 _ (by omega) (by omega) (by decide) (by decide) ⟨rfl, rfl, rfl, trivial⟩ ⟨rfl, trivial⟩ rfl (fun z a b => absurd (fun j _ _ h4 _ => by omega) b) (fun z b => ?_)
  conv => whnf
  exact ⟨rfl⟩
theorem rownMb (hn : Non ext) (k n : Int) (t : ByteArray) (l : List T) (hw : WfV ⟨k, n, t, l⟩) (hl : l.length ≤ 1024) (t0 : t = ⟨#[]⟩) (hk : k = 1) (hn0 : n = 0) (hpos : 0 < l.length) :
    ∃ r, (cfg ext).Ev 81 [A ⟨k, n, t, l⟩] r ∧ r = .bool (propB (PlainV k n t ∧ FormV k l)) := by
  have hc := rcoll hn k
  rw [show decide (k = 4 ∨ k = 5 ∨ k = 6) = false from decide_eq_false (by omega)] at hc
  have h1 : Int.tmod (l.length : Int) 1 = 0 := Int.tmod_one _
  have hte : (!(t.toList == (⟨#[]⟩ : ByteArray).toList)) = false := by rw [t0, beq_self_eq_true]; rfl
  have hteF : ((!(t.toList == (⟨#[]⟩ : ByteArray).toList)) == false) = true := by rw [hte]; rfl
  have hw' := hw
  simp only [WfV] at hw'
  have E : ∀ a ∈ l, ∀ b ∈ l, (cfg ext).Ev 107 [A a, A b] (.int .i64 (cmpV a b)) := fun a ha b _ => rcmpL hn l hw'.2.2.2.2 a ha b
  rw [propB_no (fun h => by have := h.2; unfold FormV at this; rw [if_neg (by omega), if_neg (by omega), if_neg (by omega)] at this; rw [this] at hpos; simp at hpos)]
  refine Ev.ofF (hn 81 (by decide) (by decide)) Tryd.func81 rfl rfl ?_
  conv => whnf
  repeat (first
    | (refine sel_yes ?_ ?_; (first | assumption | (simp only [beq_iff_eq, bne_iff_ne, beq_eq_false_iff_ne, bne_eq_false_iff_eq, decide_eq_true_eq, decide_eq_false_iff_not, Bool.not_eq_true', Bool.not_eq_false', ne_eq, beq_true, beq_false, bne_self_eq_false, not_true_eq_false, not_false_eq_true, gt_iff_lt, ge_iff_le, Int.not_lt, Int.not_le, Bool.true_eq_false, Bool.false_eq_true] <;> omega)); conv => whnf)
    | (refine sel_no ?_ ?_; (first | assumption | (simp only [beq_iff_eq, bne_iff_ne, beq_eq_false_iff_ne, bne_eq_false_iff_eq, decide_eq_true_eq, decide_eq_false_iff_not, Bool.not_eq_true', Bool.not_eq_false', ne_eq, beq_true, beq_false, bne_self_eq_false, not_true_eq_false, not_false_eq_true, gt_iff_lt, ge_iff_le, Int.not_lt, Int.not_le, Bool.true_eq_false, Bool.false_eq_true] <;> omega)); conv => whnf)
    | (refine ⟨_, hc, ?_⟩; conv => whnf)
    | (refine ⟨le_rfl' ?_, ?_⟩; rfl; conv => whnf)
    | (refine ⟨⟨?_, ?_⟩, ?_⟩; omega; omega; conv => whnf)
    | (refine ⟨⟨?_, ?_, ?_⟩, ?_⟩; rfl; omega; omega; conv => whnf)
    | (refine ⟨rfl, ?_, ?_⟩; decide; conv => whnf))
  try exact rfl
  exact ⟨rfl⟩
theorem rownLc (hn : Non ext) (k n : Int) (t : ByteArray) (l : List T) (hw : WfV ⟨k, n, t, l⟩) (hl : l.length ≤ 1024) (t0 : t = ⟨#[]⟩) (hk : k = 1) (hn0 : n = 1) (hl0 : l = []) :
    ∃ r, (cfg ext).Ev 81 [A ⟨k, n, t, l⟩] r ∧ r = .bool (propB (PlainV k n t ∧ FormV k l)) := by
  have hc := rcoll hn k
  rw [show decide (k = 4 ∨ k = 5 ∨ k = 6) = false from decide_eq_false (by omega)] at hc
  have h1 : Int.tmod (l.length : Int) 1 = 0 := Int.tmod_one _
  have hte : (!(t.toList == (⟨#[]⟩ : ByteArray).toList)) = false := by rw [t0, beq_self_eq_true]; rfl
  have hteF : ((!(t.toList == (⟨#[]⟩ : ByteArray).toList)) == false) = true := by rw [hte]; rfl
  have hw' := hw
  simp only [WfV] at hw'
  have E : ∀ a ∈ l, ∀ b ∈ l, (cfg ext).Ev 107 [A a, A b] (.int .i64 (cmpV a b)) := fun a ha b _ => rcmpL hn l hw'.2.2.2.2 a ha b
  have hlz : l.length = 0 := by rw [hl0]; rfl
  rw [propB_yes ⟨⟨.inr t0, .inl hk, by rw [if_pos hk]; omega⟩, by unfold FormV; rw [if_neg (by omega), if_neg (by omega), if_neg (by omega)]; exact hl0⟩]
  refine Ev.ofF (hn 81 (by decide) (by decide)) Tryd.func81 rfl rfl ?_
  conv => whnf
  repeat (first
    | (refine sel_yes ?_ ?_; (first | assumption | (simp only [beq_iff_eq, bne_iff_ne, beq_eq_false_iff_ne, bne_eq_false_iff_eq, decide_eq_true_eq, decide_eq_false_iff_not, Bool.not_eq_true', Bool.not_eq_false', ne_eq, beq_true, beq_false, bne_self_eq_false, not_true_eq_false, not_false_eq_true, gt_iff_lt, ge_iff_le, Int.not_lt, Int.not_le, Bool.true_eq_false, Bool.false_eq_true] <;> omega)); conv => whnf)
    | (refine sel_no ?_ ?_; (first | assumption | (simp only [beq_iff_eq, bne_iff_ne, beq_eq_false_iff_ne, bne_eq_false_iff_eq, decide_eq_true_eq, decide_eq_false_iff_not, Bool.not_eq_true', Bool.not_eq_false', ne_eq, beq_true, beq_false, bne_self_eq_false, not_true_eq_false, not_false_eq_true, gt_iff_lt, ge_iff_le, Int.not_lt, Int.not_le, Bool.true_eq_false, Bool.false_eq_true] <;> omega)); conv => whnf)
    | (refine ⟨_, hc, ?_⟩; conv => whnf)
    | (refine ⟨le_rfl' ?_, ?_⟩; rfl; conv => whnf)
    | (refine ⟨⟨?_, ?_⟩, ?_⟩; omega; omega; conv => whnf)
    | (refine ⟨⟨?_, ?_, ?_⟩, ?_⟩; rfl; omega; omega; conv => whnf)
    | (refine ⟨rfl, ?_, ?_⟩; decide; conv => whnf))
  try exact rfl
  refine lown01 k n t l hl E 1 (.inl rfl) _ _ l.length 1 _ (by omega) (by omega) (by decide) (by decide) ⟨rfl, rfl, rfl, trivial⟩ ⟨rfl, trivial⟩ rfl (fun z a b => absurd (fun j _ _ h4 _ => by omega) b) (fun z b => ?_)
  conv => whnf
  exact ⟨rfl⟩
theorem rownMc (hn : Non ext) (k n : Int) (t : ByteArray) (l : List T) (hw : WfV ⟨k, n, t, l⟩) (hl : l.length ≤ 1024) (t0 : t = ⟨#[]⟩) (hk : k = 1) (hn0 : n = 1) (hpos : 0 < l.length) :
    ∃ r, (cfg ext).Ev 81 [A ⟨k, n, t, l⟩] r ∧ r = .bool (propB (PlainV k n t ∧ FormV k l)) := by
  have hc := rcoll hn k
  rw [show decide (k = 4 ∨ k = 5 ∨ k = 6) = false from decide_eq_false (by omega)] at hc
  have h1 : Int.tmod (l.length : Int) 1 = 0 := Int.tmod_one _
  have hte : (!(t.toList == (⟨#[]⟩ : ByteArray).toList)) = false := by rw [t0, beq_self_eq_true]; rfl
  have hteF : ((!(t.toList == (⟨#[]⟩ : ByteArray).toList)) == false) = true := by rw [hte]; rfl
  have hw' := hw
  simp only [WfV] at hw'
  have E : ∀ a ∈ l, ∀ b ∈ l, (cfg ext).Ev 107 [A a, A b] (.int .i64 (cmpV a b)) := fun a ha b _ => rcmpL hn l hw'.2.2.2.2 a ha b
  rw [propB_no (fun h => by have := h.2; unfold FormV at this; rw [if_neg (by omega), if_neg (by omega), if_neg (by omega)] at this; rw [this] at hpos; simp at hpos)]
  refine Ev.ofF (hn 81 (by decide) (by decide)) Tryd.func81 rfl rfl ?_
  conv => whnf
  repeat (first
    | (refine sel_yes ?_ ?_; (first | assumption | (simp only [beq_iff_eq, bne_iff_ne, beq_eq_false_iff_ne, bne_eq_false_iff_eq, decide_eq_true_eq, decide_eq_false_iff_not, Bool.not_eq_true', Bool.not_eq_false', ne_eq, beq_true, beq_false, bne_self_eq_false, not_true_eq_false, not_false_eq_true, gt_iff_lt, ge_iff_le, Int.not_lt, Int.not_le, Bool.true_eq_false, Bool.false_eq_true] <;> omega)); conv => whnf)
    | (refine sel_no ?_ ?_; (first | assumption | (simp only [beq_iff_eq, bne_iff_ne, beq_eq_false_iff_ne, bne_eq_false_iff_eq, decide_eq_true_eq, decide_eq_false_iff_not, Bool.not_eq_true', Bool.not_eq_false', ne_eq, beq_true, beq_false, bne_self_eq_false, not_true_eq_false, not_false_eq_true, gt_iff_lt, ge_iff_le, Int.not_lt, Int.not_le, Bool.true_eq_false, Bool.false_eq_true] <;> omega)); conv => whnf)
    | (refine ⟨_, hc, ?_⟩; conv => whnf)
    | (refine ⟨le_rfl' ?_, ?_⟩; rfl; conv => whnf)
    | (refine ⟨⟨?_, ?_⟩, ?_⟩; omega; omega; conv => whnf)
    | (refine ⟨⟨?_, ?_, ?_⟩, ?_⟩; rfl; omega; omega; conv => whnf)
    | (refine ⟨rfl, ?_, ?_⟩; decide; conv => whnf))
  try exact rfl
  exact ⟨rfl⟩
theorem rownLd (hn : Non ext) (k n : Int) (t : ByteArray) (l : List T) (hw : WfV ⟨k, n, t, l⟩) (hl : l.length ≤ 1024) (t0 : t = ⟨#[]⟩) (hk : k = 2) (hl0 : l = []) :
    ∃ r, (cfg ext).Ev 81 [A ⟨k, n, t, l⟩] r ∧ r = .bool (propB (PlainV k n t ∧ FormV k l)) := by
  have hc := rcoll hn k
  rw [show decide (k = 4 ∨ k = 5 ∨ k = 6) = false from decide_eq_false (by omega)] at hc
  have h1 : Int.tmod (l.length : Int) 1 = 0 := Int.tmod_one _
  have hte : (!(t.toList == (⟨#[]⟩ : ByteArray).toList)) = false := by rw [t0, beq_self_eq_true]; rfl
  have hteF : ((!(t.toList == (⟨#[]⟩ : ByteArray).toList)) == false) = true := by rw [hte]; rfl
  have hw' := hw
  simp only [WfV] at hw'
  have E : ∀ a ∈ l, ∀ b ∈ l, (cfg ext).Ev 107 [A a, A b] (.int .i64 (cmpV a b)) := fun a ha b _ => rcmpL hn l hw'.2.2.2.2 a ha b
  have hlz : l.length = 0 := by rw [hl0]; rfl
  rw [propB_yes ⟨⟨.inr t0, by omega, by rw [if_neg (by omega), if_neg (by omega)]; omega⟩, by unfold FormV; rw [if_neg (by omega), if_neg (by omega), if_neg (by omega)]; exact hl0⟩]
  refine Ev.ofF (hn 81 (by decide) (by decide)) Tryd.func81 rfl rfl ?_
  conv => whnf
  repeat (first
    | (refine sel_yes ?_ ?_; (first | assumption | (simp only [beq_iff_eq, bne_iff_ne, beq_eq_false_iff_ne, bne_eq_false_iff_eq, decide_eq_true_eq, decide_eq_false_iff_not, Bool.not_eq_true', Bool.not_eq_false', ne_eq, beq_true, beq_false, bne_self_eq_false, not_true_eq_false, not_false_eq_true, gt_iff_lt, ge_iff_le, Int.not_lt, Int.not_le, Bool.true_eq_false, Bool.false_eq_true] <;> omega)); conv => whnf)
    | (refine sel_no ?_ ?_; (first | assumption | (simp only [beq_iff_eq, bne_iff_ne, beq_eq_false_iff_ne, bne_eq_false_iff_eq, decide_eq_true_eq, decide_eq_false_iff_not, Bool.not_eq_true', Bool.not_eq_false', ne_eq, beq_true, beq_false, bne_self_eq_false, not_true_eq_false, not_false_eq_true, gt_iff_lt, ge_iff_le, Int.not_lt, Int.not_le, Bool.true_eq_false, Bool.false_eq_true] <;> omega)); conv => whnf)
    | (refine ⟨_, hc, ?_⟩; conv => whnf)
    | (refine ⟨le_rfl' ?_, ?_⟩; rfl; conv => whnf)
    | (refine ⟨⟨?_, ?_⟩, ?_⟩; omega; omega; conv => whnf)
    | (refine ⟨⟨?_, ?_, ?_⟩, ?_⟩; rfl; omega; omega; conv => whnf)
    | (refine ⟨rfl, ?_, ?_⟩; decide; conv => whnf))
  try exact rfl
  refine lown01 k n t l hl E 1 (.inl rfl) _ _ l.length 1 _ (by omega) (by omega) (by decide) (by decide) ⟨rfl, rfl, rfl, trivial⟩ ⟨rfl, trivial⟩ rfl (fun z a b => absurd (fun j _ _ h4 _ => by omega) b) (fun z b => ?_)
  conv => whnf
  exact ⟨rfl⟩
theorem rownMd (hn : Non ext) (k n : Int) (t : ByteArray) (l : List T) (hw : WfV ⟨k, n, t, l⟩) (hl : l.length ≤ 1024) (t0 : t = ⟨#[]⟩) (hk : k = 2) (hpos : 0 < l.length) :
    ∃ r, (cfg ext).Ev 81 [A ⟨k, n, t, l⟩] r ∧ r = .bool (propB (PlainV k n t ∧ FormV k l)) := by
  have hc := rcoll hn k
  rw [show decide (k = 4 ∨ k = 5 ∨ k = 6) = false from decide_eq_false (by omega)] at hc
  have h1 : Int.tmod (l.length : Int) 1 = 0 := Int.tmod_one _
  have hte : (!(t.toList == (⟨#[]⟩ : ByteArray).toList)) = false := by rw [t0, beq_self_eq_true]; rfl
  have hteF : ((!(t.toList == (⟨#[]⟩ : ByteArray).toList)) == false) = true := by rw [hte]; rfl
  have hw' := hw
  simp only [WfV] at hw'
  have E : ∀ a ∈ l, ∀ b ∈ l, (cfg ext).Ev 107 [A a, A b] (.int .i64 (cmpV a b)) := fun a ha b _ => rcmpL hn l hw'.2.2.2.2 a ha b
  rw [propB_no (fun h => by have := h.2; unfold FormV at this; rw [if_neg (by omega), if_neg (by omega), if_neg (by omega)] at this; rw [this] at hpos; simp at hpos)]
  refine Ev.ofF (hn 81 (by decide) (by decide)) Tryd.func81 rfl rfl ?_
  conv => whnf
  repeat (first
    | (refine sel_yes ?_ ?_; (first | assumption | (simp only [beq_iff_eq, bne_iff_ne, beq_eq_false_iff_ne, bne_eq_false_iff_eq, decide_eq_true_eq, decide_eq_false_iff_not, Bool.not_eq_true', Bool.not_eq_false', ne_eq, beq_true, beq_false, bne_self_eq_false, not_true_eq_false, not_false_eq_true, gt_iff_lt, ge_iff_le, Int.not_lt, Int.not_le, Bool.true_eq_false, Bool.false_eq_true] <;> omega)); conv => whnf)
    | (refine sel_no ?_ ?_; (first | assumption | (simp only [beq_iff_eq, bne_iff_ne, beq_eq_false_iff_ne, bne_eq_false_iff_eq, decide_eq_true_eq, decide_eq_false_iff_not, Bool.not_eq_true', Bool.not_eq_false', ne_eq, beq_true, beq_false, bne_self_eq_false, not_true_eq_false, not_false_eq_true, gt_iff_lt, ge_iff_le, Int.not_lt, Int.not_le, Bool.true_eq_false, Bool.false_eq_true] <;> omega)); conv => whnf)
    | (refine ⟨_, hc, ?_⟩; conv => whnf)
    | (refine ⟨le_rfl' ?_, ?_⟩; rfl; conv => whnf)
    | (refine ⟨⟨?_, ?_⟩, ?_⟩; omega; omega; conv => whnf)
    | (refine ⟨⟨?_, ?_, ?_⟩, ?_⟩; rfl; omega; omega; conv => whnf)
    | (refine ⟨rfl, ?_, ?_⟩; decide; conv => whnf))
  try exact rfl
  exact ⟨rfl⟩
theorem rownN (hn : Non ext) (k n : Int) (t : ByteArray) (l : List T) (hw : WfV ⟨k, n, t, l⟩) (hl : l.length ≤ 1024) (t0 : t = ⟨#[]⟩) (low : k = 0 ∨ k = 1 ∨ k = 2) (hnk : ¬ (k = 2 ∨ n = 0 ∨ (k = 1 ∧ n = 1))) :
    ∃ r, (cfg ext).Ev 81 [A ⟨k, n, t, l⟩] r ∧ r = .bool (propB (PlainV k n t ∧ FormV k l)) := by
  rw [propB_no (fun h => by have := h.1; unfold PlainV at this; obtain ⟨_, h2, h3⟩ := this; by_cases hk1 : k = 1; rw [if_pos hk1] at h3; omega; omega)]
  refine Ev.ofF (hn 81 (by decide) (by decide)) Tryd.func81 rfl rfl ?_
  conv => whnf
  by_cases hk1 : k = 1
  · repeat (first
      | (refine sel_yes ?_ ?_; (first | assumption | (simp only [beq_iff_eq, bne_iff_ne, beq_eq_false_iff_ne, bne_eq_false_iff_eq, decide_eq_true_eq, decide_eq_false_iff_not, Bool.not_eq_true', Bool.not_eq_false', ne_eq, beq_true, beq_false, bne_self_eq_false, not_true_eq_false, not_false_eq_true, gt_iff_lt, ge_iff_le, Int.not_lt, Int.not_le, Bool.true_eq_false, Bool.false_eq_true] <;> omega)); conv => whnf)
      | (refine sel_no ?_ ?_; (first | assumption | (simp only [beq_iff_eq, bne_iff_ne, beq_eq_false_iff_ne, bne_eq_false_iff_eq, decide_eq_true_eq, decide_eq_false_iff_not, Bool.not_eq_true', Bool.not_eq_false', ne_eq, beq_true, beq_false, bne_self_eq_false, not_true_eq_false, not_false_eq_true, gt_iff_lt, ge_iff_le, Int.not_lt, Int.not_le, Bool.true_eq_false, Bool.false_eq_true] <;> omega)); conv => whnf)
      | (refine ⟨le_rfl' ?_, ?_⟩; rfl; conv => whnf)
      | (refine ⟨⟨?_, ?_⟩, ?_⟩; omega; omega; conv => whnf)
      | (refine ⟨⟨?_, ?_, ?_⟩, ?_⟩; rfl; omega; omega; conv => whnf)
      | (refine ⟨rfl, ?_, ?_⟩; decide; conv => whnf))
    try exact rfl
    exact ⟨rfl⟩
  · repeat (first
      | (refine sel_yes ?_ ?_; (first | assumption | (simp only [beq_iff_eq, bne_iff_ne, beq_eq_false_iff_ne, bne_eq_false_iff_eq, decide_eq_true_eq, decide_eq_false_iff_not, Bool.not_eq_true', Bool.not_eq_false', ne_eq, beq_true, beq_false, bne_self_eq_false, not_true_eq_false, not_false_eq_true, gt_iff_lt, ge_iff_le, Int.not_lt, Int.not_le, Bool.true_eq_false, Bool.false_eq_true] <;> omega)); conv => whnf)
      | (refine sel_no ?_ ?_; (first | assumption | (simp only [beq_iff_eq, bne_iff_ne, beq_eq_false_iff_ne, bne_eq_false_iff_eq, decide_eq_true_eq, decide_eq_false_iff_not, Bool.not_eq_true', Bool.not_eq_false', ne_eq, beq_true, beq_false, bne_self_eq_false, not_true_eq_false, not_false_eq_true, gt_iff_lt, ge_iff_le, Int.not_lt, Int.not_le, Bool.true_eq_false, Bool.false_eq_true] <;> omega)); conv => whnf)
      | (refine ⟨le_rfl' ?_, ?_⟩; rfl; conv => whnf)
      | (refine ⟨⟨?_, ?_⟩, ?_⟩; omega; omega; conv => whnf)
      | (refine ⟨⟨?_, ?_, ?_⟩, ?_⟩; rfl; omega; omega; conv => whnf)
      | (refine ⟨rfl, ?_, ?_⟩; decide; conv => whnf))
    try exact rfl
    exact ⟨rfl⟩
theorem rownL (hn : Non ext) (k n : Int) (t : ByteArray) (l : List T) (hw : WfV ⟨k, n, t, l⟩) (hl : l.length ≤ 1024) (t0 : t = ⟨#[]⟩) (low : k = 0 ∨ k = 1 ∨ k = 2) :
    ∃ r, (cfg ext).Ev 81 [A ⟨k, n, t, l⟩] r ∧ r = .bool (propB (PlainV k n t ∧ FormV k l)) := by
  have hlt0 : l = [] ∨ 0 < l.length := by cases l with | nil => exact .inl rfl | cons a l => exact .inr (by simp)
  by_cases hnk : (k = 2 ∨ n = 0 ∨ (k = 1 ∧ n = 1))
  · rcases hlt0 with h0 | hpos
    · by_cases k2 : k = 2
      · exact rownLd hn k n t l hw hl t0 k2 h0
      by_cases n0 : n = 0
      · by_cases k0 : k = 0
        · exact rownLa hn k n t l hw hl t0 k0 n0 h0
        · exact rownLb hn k n t l hw hl t0 (by omega) n0 h0
      · exact rownLc hn k n t l hw hl t0 (by omega) (by omega) h0
    · by_cases k2 : k = 2
      · exact rownMd hn k n t l hw hl t0 k2 hpos
      by_cases n0 : n = 0
      · by_cases k0 : k = 0
        · exact rownMa hn k n t l hw hl t0 k0 n0 hpos
        · exact rownMb hn k n t l hw hl t0 (by omega) n0 hpos
      · exact rownMc hn k n t l hw hl t0 (by omega) (by omega) hpos
  · exact rownN hn k n t l hw hl t0 low hnk
end
end Go.Proofs.YtjfjagnnefmepaaDoor.AB
end

section
set_option linter.unusedVariables false
set_option linter.unusedSimpArgs false
open Go Go.Ab Go.Proofs Go.Vl
namespace Go.Proofs.YtjfjagnnefmepaaDoor.AB
set_option maxRecDepth 100000
set_option maxHeartbeats 16000000
set_option linter.unusedSimpArgs false
section
variable {ext : Exts}
theorem rownR (hn : Non ext) (k n : Int) (t : ByteArray) (l : List T) (hw : WfV ⟨k, n, t, l⟩) (hl : l.length ≤ 1024) (h : k < 0 ∨ k > 6) :
    ∃ r, (cfg ext).Ev 81 [A ⟨k, n, t, l⟩] r ∧ r = .bool (propB (PlainV k n t ∧ FormV k l)) := by
  have hw' := hw
  simp only [WfV] at hw'
  have E : ∀ a ∈ l, ∀ b ∈ l, (cfg ext).Ev 107 [A a, A b] (.int .i64 (cmpV a b)) := fun a ha b _ => rcmpL hn l hw'.2.2.2.2 a ha b
  refine Ev.ofF (hn 81 (by decide) (by decide)) Tryd.func81 rfl rfl ?_
  conv => whnf
  by_cases k0 : k < 0
  · rw [propB_no (fun h => by have := h.1; unfold PlainV at this; obtain ⟨_, _, h3⟩ := this; rw [if_neg (by omega), if_neg (by omega)] at h3; omega)]
    repeat (first
      | (refine sel_yes ?_ ?_; (first | assumption | (simp only [beq_iff_eq, bne_iff_ne, beq_eq_false_iff_ne, bne_eq_false_iff_eq, decide_eq_true_eq, decide_eq_false_iff_not, Bool.not_eq_true', Bool.not_eq_false', ne_eq, beq_true, beq_false, bne_self_eq_false, not_true_eq_false, not_false_eq_true, gt_iff_lt, ge_iff_le, Int.not_lt, Int.not_le, Bool.true_eq_false, Bool.false_eq_true] <;> omega)); conv => whnf)
      | (refine sel_no ?_ ?_; (first | assumption | (simp only [beq_iff_eq, bne_iff_ne, beq_eq_false_iff_ne, bne_eq_false_iff_eq, decide_eq_true_eq, decide_eq_false_iff_not, Bool.not_eq_true', Bool.not_eq_false', ne_eq, beq_true, beq_false, bne_self_eq_false, not_true_eq_false, not_false_eq_true, gt_iff_lt, ge_iff_le, Int.not_lt, Int.not_le, Bool.true_eq_false, Bool.false_eq_true] <;> omega)); conv => whnf)
      | (refine ⟨le_rfl' ?_, ?_⟩; rfl; conv => whnf)
      | (refine ⟨⟨?_, ?_⟩, ?_⟩; omega; omega; conv => whnf)
      | (refine ⟨⟨?_, ?_, ?_⟩, ?_⟩; rfl; omega; omega; conv => whnf)
      | (refine ⟨rfl, ?_, ?_⟩; decide; conv => whnf))
    try exact rfl
    exact ⟨rfl⟩
  by_cases k7 : k > 6
  · rw [propB_no (fun h => by have := h.1; unfold PlainV at this; obtain ⟨_, _, h3⟩ := this; rw [if_neg (by omega), if_neg (by omega)] at h3; omega)]
    repeat (first
      | (refine sel_yes ?_ ?_; (first | assumption | (simp only [beq_iff_eq, bne_iff_ne, beq_eq_false_iff_ne, bne_eq_false_iff_eq, decide_eq_true_eq, decide_eq_false_iff_not, Bool.not_eq_true', Bool.not_eq_false', ne_eq, beq_true, beq_false, bne_self_eq_false, not_true_eq_false, not_false_eq_true, gt_iff_lt, ge_iff_le, Int.not_lt, Int.not_le, Bool.true_eq_false, Bool.false_eq_true] <;> omega)); conv => whnf)
      | (refine sel_no ?_ ?_; (first | assumption | (simp only [beq_iff_eq, bne_iff_ne, beq_eq_false_iff_ne, bne_eq_false_iff_eq, decide_eq_true_eq, decide_eq_false_iff_not, Bool.not_eq_true', Bool.not_eq_false', ne_eq, beq_true, beq_false, bne_self_eq_false, not_true_eq_false, not_false_eq_true, gt_iff_lt, ge_iff_le, Int.not_lt, Int.not_le, Bool.true_eq_false, Bool.false_eq_true] <;> omega)); conv => whnf)
      | (refine ⟨le_rfl' ?_, ?_⟩; rfl; conv => whnf)
      | (refine ⟨⟨?_, ?_⟩, ?_⟩; omega; omega; conv => whnf)
      | (refine ⟨⟨?_, ?_, ?_⟩, ?_⟩; rfl; omega; omega; conv => whnf)
      | (refine ⟨rfl, ?_, ?_⟩; decide; conv => whnf))
    try exact rfl
    exact ⟨rfl⟩
  exact absurd h (by omega)
theorem rown3 (hn : Non ext) (k n : Int) (t : ByteArray) (l : List T) (hw : WfV ⟨k, n, t, l⟩) (hl : l.length ≤ 1024) (k3 : k = 3) :
    ∃ r, (cfg ext).Ev 81 [A ⟨k, n, t, l⟩] r ∧ r = .bool (propB (PlainV k n t ∧ FormV k l)) := by
  have hw' := hw
  simp only [WfV] at hw'
  have E : ∀ a ∈ l, ∀ b ∈ l, (cfg ext).Ev 107 [A a, A b] (.int .i64 (cmpV a b)) := fun a ha b _ => rcmpL hn l hw'.2.2.2.2 a ha b
  refine Ev.ofF (hn 81 (by decide) (by decide)) Tryd.func81 rfl rfl ?_
  conv => whnf
  subst k3
  by_cases n0 : n = 0
  · subst n0
    by_cases hz : t.size ≤ 256
    · have hlt := rletters hn t (by omega)
      have hz' : decide ((t.size : Int) ≤ 256) = true := decide_eq_true (by omega)
      by_cases hu : lettersZ t ≥ 0
      · have hu' : decide (lettersZ t ≥ 0) = true := decide_eq_true hu
        have hub : utfB t = true := by rw [← letters_ok]; exact hu'
        by_cases hl0 : l = []
        · subst hl0
          rw [propB_yes (⟨⟨.inl rfl, .inr (.inr rfl), by rw [if_neg (by decide), if_pos rfl]; exact ⟨hz, hub⟩⟩, by unfold FormV; rw [if_neg (by decide), if_neg (by decide), if_neg (by decide)]⟩)]
          repeat (first
            | (refine sel_yes ?_ ?_; (first | assumption | (simp only [beq_iff_eq, bne_iff_ne, beq_eq_false_iff_ne, bne_eq_false_iff_eq, decide_eq_true_eq, decide_eq_false_iff_not, Bool.not_eq_true', Bool.not_eq_false', ne_eq, beq_true, beq_false, bne_self_eq_false, not_true_eq_false, not_false_eq_true, gt_iff_lt, ge_iff_le, Int.not_lt, Int.not_le, Bool.true_eq_false, Bool.false_eq_true] <;> omega)); conv => whnf)
            | (refine sel_no ?_ ?_; (first | assumption | (simp only [beq_iff_eq, bne_iff_ne, beq_eq_false_iff_ne, bne_eq_false_iff_eq, decide_eq_true_eq, decide_eq_false_iff_not, Bool.not_eq_true', Bool.not_eq_false', ne_eq, beq_true, beq_false, bne_self_eq_false, not_true_eq_false, not_false_eq_true, gt_iff_lt, ge_iff_le, Int.not_lt, Int.not_le, Bool.true_eq_false, Bool.false_eq_true] <;> omega)); conv => whnf)
            | (refine ⟨_, hlt, ?_⟩; conv => whnf)
            | (refine ⟨le_rfl' ?_, ?_⟩; rfl; conv => whnf)
            | (refine ⟨⟨?_, ?_⟩, ?_⟩; omega; omega; conv => whnf)
            | (refine ⟨⟨?_, ?_, ?_⟩, ?_⟩; rfl; omega; omega; conv => whnf)
            | (refine ⟨rfl, ?_, ?_⟩; decide; conv => whnf))
          try exact rfl
          exact ⟨rfl⟩
        · have hl1 : l.length ≠ 0 := fun h => hl0 (List.eq_nil_of_length_eq_zero h)
          rw [propB_no (fun h => by have := h.2; unfold FormV at this; rw [if_neg (by decide), if_neg (by decide), if_neg (by decide)] at this; exact hl0 this)]
          repeat (first
            | (refine sel_yes ?_ ?_; (first | assumption | (simp only [beq_iff_eq, bne_iff_ne, beq_eq_false_iff_ne, bne_eq_false_iff_eq, decide_eq_true_eq, decide_eq_false_iff_not, Bool.not_eq_true', Bool.not_eq_false', ne_eq, beq_true, beq_false, bne_self_eq_false, not_true_eq_false, not_false_eq_true, gt_iff_lt, ge_iff_le, Int.not_lt, Int.not_le, Bool.true_eq_false, Bool.false_eq_true] <;> omega)); conv => whnf)
            | (refine sel_no ?_ ?_; (first | assumption | (simp only [beq_iff_eq, bne_iff_ne, beq_eq_false_iff_ne, bne_eq_false_iff_eq, decide_eq_true_eq, decide_eq_false_iff_not, Bool.not_eq_true', Bool.not_eq_false', ne_eq, beq_true, beq_false, bne_self_eq_false, not_true_eq_false, not_false_eq_true, gt_iff_lt, ge_iff_le, Int.not_lt, Int.not_le, Bool.true_eq_false, Bool.false_eq_true] <;> omega)); conv => whnf)
            | (refine ⟨_, hlt, ?_⟩; conv => whnf)
            | (refine ⟨le_rfl' ?_, ?_⟩; rfl; conv => whnf)
            | (refine ⟨⟨?_, ?_⟩, ?_⟩; omega; omega; conv => whnf)
            | (refine ⟨⟨?_, ?_, ?_⟩, ?_⟩; rfl; omega; omega; conv => whnf)
            | (refine ⟨rfl, ?_, ?_⟩; decide; conv => whnf))
          try exact rfl
          refine ⟨congrArg V.bool ?_⟩
          show ((l.length : Int) == 0) = false
          rw [beq_eq_false_iff_ne]; omega
      · have hu' : decide (lettersZ t ≥ 0) = false := decide_eq_false hu
        have hub : utfB t = false := by rw [← letters_ok]; exact hu'
        rw [propB_no (fun h => by have := h.1; unfold PlainV at this; obtain ⟨_, _, h3⟩ := this; rw [if_neg (by decide), if_pos rfl, hub] at h3; cases h3.2)]
        repeat (first
          | (refine sel_yes ?_ ?_; (first | assumption | (simp only [beq_iff_eq, bne_iff_ne, beq_eq_false_iff_ne, bne_eq_false_iff_eq, decide_eq_true_eq, decide_eq_false_iff_not, Bool.not_eq_true', Bool.not_eq_false', ne_eq, beq_true, beq_false, bne_self_eq_false, not_true_eq_false, not_false_eq_true, gt_iff_lt, ge_iff_le, Int.not_lt, Int.not_le, Bool.true_eq_false, Bool.false_eq_true] <;> omega)); conv => whnf)
          | (refine sel_no ?_ ?_; (first | assumption | (simp only [beq_iff_eq, bne_iff_ne, beq_eq_false_iff_ne, bne_eq_false_iff_eq, decide_eq_true_eq, decide_eq_false_iff_not, Bool.not_eq_true', Bool.not_eq_false', ne_eq, beq_true, beq_false, bne_self_eq_false, not_true_eq_false, not_false_eq_true, gt_iff_lt, ge_iff_le, Int.not_lt, Int.not_le, Bool.true_eq_false, Bool.false_eq_true] <;> omega)); conv => whnf)
          | (refine ⟨_, hlt, ?_⟩; conv => whnf)
          | (refine ⟨le_rfl' ?_, ?_⟩; rfl; conv => whnf)
          | (refine ⟨⟨?_, ?_⟩, ?_⟩; omega; omega; conv => whnf)
          | (refine ⟨⟨?_, ?_, ?_⟩, ?_⟩; rfl; omega; omega; conv => whnf)
          | (refine ⟨rfl, ?_, ?_⟩; decide; conv => whnf))
        try exact rfl
        exact ⟨rfl⟩
    · have hz' : decide ((t.size : Int) ≤ 256) = false := decide_eq_false (by omega)
      rw [propB_no (fun h => by have := h.1; unfold PlainV at this; obtain ⟨_, _, h3⟩ := this; rw [if_neg (by decide), if_pos rfl] at h3; exact hz h3.1)]
      repeat (first
        | (refine sel_yes ?_ ?_; (first | assumption | (simp only [beq_iff_eq, bne_iff_ne, beq_eq_false_iff_ne, bne_eq_false_iff_eq, decide_eq_true_eq, decide_eq_false_iff_not, Bool.not_eq_true', Bool.not_eq_false', ne_eq, beq_true, beq_false, bne_self_eq_false, not_true_eq_false, not_false_eq_true, gt_iff_lt, ge_iff_le, Int.not_lt, Int.not_le, Bool.true_eq_false, Bool.false_eq_true] <;> omega)); conv => whnf)
        | (refine sel_no ?_ ?_; (first | assumption | (simp only [beq_iff_eq, bne_iff_ne, beq_eq_false_iff_ne, bne_eq_false_iff_eq, decide_eq_true_eq, decide_eq_false_iff_not, Bool.not_eq_true', Bool.not_eq_false', ne_eq, beq_true, beq_false, bne_self_eq_false, not_true_eq_false, not_false_eq_true, gt_iff_lt, ge_iff_le, Int.not_lt, Int.not_le, Bool.true_eq_false, Bool.false_eq_true] <;> omega)); conv => whnf)
        | (refine ⟨le_rfl' ?_, ?_⟩; rfl; conv => whnf)
        | (refine ⟨⟨?_, ?_⟩, ?_⟩; omega; omega; conv => whnf)
        | (refine ⟨⟨?_, ?_, ?_⟩, ?_⟩; rfl; omega; omega; conv => whnf)
        | (refine ⟨rfl, ?_, ?_⟩; decide; conv => whnf))
      try exact rfl
      exact ⟨rfl⟩
  · rw [propB_no (fun h => by have := h.1; unfold PlainV at this; obtain ⟨_, h2, _⟩ := this; omega)]
    repeat (first
      | (refine sel_yes ?_ ?_; (first | assumption | (simp only [beq_iff_eq, bne_iff_ne, beq_eq_false_iff_ne, bne_eq_false_iff_eq, decide_eq_true_eq, decide_eq_false_iff_not, Bool.not_eq_true', Bool.not_eq_false', ne_eq, beq_true, beq_false, bne_self_eq_false, not_true_eq_false, not_false_eq_true, gt_iff_lt, ge_iff_le, Int.not_lt, Int.not_le, Bool.true_eq_false, Bool.false_eq_true] <;> omega)); conv => whnf)
      | (refine sel_no ?_ ?_; (first | assumption | (simp only [beq_iff_eq, bne_iff_ne, beq_eq_false_iff_ne, bne_eq_false_iff_eq, decide_eq_true_eq, decide_eq_false_iff_not, Bool.not_eq_true', Bool.not_eq_false', ne_eq, beq_true, beq_false, bne_self_eq_false, not_true_eq_false, not_false_eq_true, gt_iff_lt, ge_iff_le, Int.not_lt, Int.not_le, Bool.true_eq_false, Bool.false_eq_true] <;> omega)); conv => whnf)
      | (refine ⟨le_rfl' ?_, ?_⟩; rfl; conv => whnf)
      | (refine ⟨⟨?_, ?_⟩, ?_⟩; omega; omega; conv => whnf)
      | (refine ⟨⟨?_, ?_, ?_⟩, ?_⟩; rfl; omega; omega; conv => whnf)
      | (refine ⟨rfl, ?_, ?_⟩; decide; conv => whnf))
    try exact rfl
    exact ⟨rfl⟩
theorem rownC (hn : Non ext) (k n : Int) (t : ByteArray) (l : List T) (hw : WfV ⟨k, n, t, l⟩) (hl : l.length ≤ 1024) (t0 : t = ⟨#[]⟩) (hi : k = 4 ∨ k = 5 ∨ k = 6) :
    ∃ r, (cfg ext).Ev 81 [A ⟨k, n, t, l⟩] r ∧ r = .bool (propB (PlainV k n t ∧ FormV k l)) := by
  have hw' := hw
  simp only [WfV] at hw'
  have E : ∀ a ∈ l, ∀ b ∈ l, (cfg ext).Ev 107 [A a, A b] (.int .i64 (cmpV a b)) := fun a ha b _ => rcmpL hn l hw'.2.2.2.2 a ha b
  refine Ev.ofF (hn 81 (by decide) (by decide)) Tryd.func81 rfl rfl ?_
  conv => whnf
  have hte : (!(t.toList == (⟨#[]⟩ : ByteArray).toList)) = false := by rw [t0, beq_self_eq_true]; rfl
  have hteF : ((!(t.toList == (⟨#[]⟩ : ByteArray).toList)) == false) = true := by rw [hte]; rfl
  have k3 : ¬ k = 3 := by omega
  have hlt0 : l = [] ∨ 0 < l.length := by cases l with | nil => exact .inl rfl | cons a l => exact .inr (by simp)
  have h1 : Int.tmod (l.length : Int) 1 = 0 := Int.tmod_one _
  have plain (h1 : k = 1 ∨ k = 2 ∨ n = 0) (h2 : k = 1 → n = 0 ∨ n = 1) : PlainV k n t := ⟨.inr t0, h1, by
    split
    · exact h2 ‹_›
    · omega⟩
  · by_cases n0 : n = 0
    · subst n0
      have hpl : PlainV k 0 t := plain (.inr (.inr rfl)) (by omega)
      have hc := rcoll hn k
      rw [show decide (k = 4 ∨ k = 5 ∨ k = 6) = true from decide_eq_true (by omega)] at hc
      rcases (show k = 4 ∨ k = 5 ∨ k = 6 by omega) with rfl | rfl | rfl
      · rw [propB_yes ⟨hpl, by unfold FormV; rw [if_pos rfl]; trivial⟩]
        repeat (first
          | (refine sel_yes ?_ ?_; (first | assumption | (simp only [beq_iff_eq, bne_iff_ne, beq_eq_false_iff_ne, bne_eq_false_iff_eq, decide_eq_true_eq, decide_eq_false_iff_not, Bool.not_eq_true', Bool.not_eq_false', ne_eq, beq_true, beq_false, bne_self_eq_false, not_true_eq_false, not_false_eq_true, gt_iff_lt, ge_iff_le, Int.not_lt, Int.not_le, Bool.true_eq_false, Bool.false_eq_true] <;> omega)); conv => whnf)
          | (refine sel_no ?_ ?_; (first | assumption | (simp only [beq_iff_eq, bne_iff_ne, beq_eq_false_iff_ne, bne_eq_false_iff_eq, decide_eq_true_eq, decide_eq_false_iff_not, Bool.not_eq_true', Bool.not_eq_false', ne_eq, beq_true, beq_false, bne_self_eq_false, not_true_eq_false, not_false_eq_true, gt_iff_lt, ge_iff_le, Int.not_lt, Int.not_le, Bool.true_eq_false, Bool.false_eq_true] <;> omega)); conv => whnf)
          | (refine ⟨_, hc, ?_⟩; conv => whnf)
          | (refine ⟨le_rfl' ?_, ?_⟩; rfl; conv => whnf)
          | (refine ⟨⟨?_, ?_⟩, ?_⟩; omega; omega; conv => whnf)
          | (refine ⟨⟨?_, ?_, ?_⟩, ?_⟩; rfl; omega; omega; conv => whnf)
          | (refine ⟨rfl, ?_, ?_⟩; decide; conv => whnf))
        try exact rfl
        exact ⟨rfl⟩
      · have ef : PlainV 5 0 t ∧ FormV 5 l ↔ RiseF 1 l 1 := by
          rw [rise_F (by decide)]; unfold FormV; rw [if_neg (by decide), if_neg (by decide), if_pos rfl]; exact ⟨fun h => h.2, fun h => ⟨hpl, h⟩⟩
        repeat (first
          | (refine sel_yes ?_ ?_; (first | assumption | (simp only [beq_iff_eq, bne_iff_ne, beq_eq_false_iff_ne, bne_eq_false_iff_eq, decide_eq_true_eq, decide_eq_false_iff_not, Bool.not_eq_true', Bool.not_eq_false', ne_eq, beq_true, beq_false, bne_self_eq_false, not_true_eq_false, not_false_eq_true, gt_iff_lt, ge_iff_le, Int.not_lt, Int.not_le, Bool.true_eq_false, Bool.false_eq_true] <;> omega)); conv => whnf)
          | (refine sel_no ?_ ?_; (first | assumption | (simp only [beq_iff_eq, bne_iff_ne, beq_eq_false_iff_ne, bne_eq_false_iff_eq, decide_eq_true_eq, decide_eq_false_iff_not, Bool.not_eq_true', Bool.not_eq_false', ne_eq, beq_true, beq_false, bne_self_eq_false, not_true_eq_false, not_false_eq_true, gt_iff_lt, ge_iff_le, Int.not_lt, Int.not_le, Bool.true_eq_false, Bool.false_eq_true] <;> omega)); conv => whnf)
          | (refine ⟨_, hc, ?_⟩; conv => whnf)
          | (refine ⟨le_rfl' ?_, ?_⟩; rfl; conv => whnf)
          | (refine ⟨⟨?_, ?_⟩, ?_⟩; omega; omega; conv => whnf)
          | (refine ⟨⟨?_, ?_, ?_⟩, ?_⟩; rfl; omega; omega; conv => whnf)
          | (refine ⟨rfl, ?_, ?_⟩; decide; conv => whnf))
        try exact rfl
        refine lown01 5 0 t l hl E 1 (.inl rfl) _ _ l.length 1 _ (by omega) (by omega) (by decide) (by decide) ⟨rfl, rfl, rfl, trivial⟩ ⟨rfl, trivial⟩ rfl (fun z a b => ?_) (fun z b => ?_)
        · exact Fin.tmpB (i := 2) rfl a (by rw [propB_no (fun h => b (ef.1 h))])
        · rw [propB_yes (ef.2 b)]
          conv => whnf
          exact ⟨rfl⟩
      · by_cases hev : l.length % 2 = 0
        · have h2 : Int.tmod (l.length : Int) 2 = 0 := by rw [Int.tmod_eq_emod_of_nonneg (by omega)]; omega
          have ef : PlainV 6 0 t ∧ FormV 6 l ↔ RiseF 2 l 2 := by
            rw [rise_F (by decide)]; unfold FormV; rw [if_neg (by decide), if_pos rfl]; exact ⟨fun h => h.2.2, fun h => ⟨hpl, hev, h⟩⟩
          repeat (first
            | (refine sel_yes ?_ ?_; (first | assumption | (simp only [beq_iff_eq, bne_iff_ne, beq_eq_false_iff_ne, bne_eq_false_iff_eq, decide_eq_true_eq, decide_eq_false_iff_not, Bool.not_eq_true', Bool.not_eq_false', ne_eq, beq_true, beq_false, bne_self_eq_false, not_true_eq_false, not_false_eq_true, gt_iff_lt, ge_iff_le, Int.not_lt, Int.not_le, Bool.true_eq_false, Bool.false_eq_true] <;> omega)); conv => whnf)
            | (refine sel_no ?_ ?_; (first | assumption | (simp only [beq_iff_eq, bne_iff_ne, beq_eq_false_iff_ne, bne_eq_false_iff_eq, decide_eq_true_eq, decide_eq_false_iff_not, Bool.not_eq_true', Bool.not_eq_false', ne_eq, beq_true, beq_false, bne_self_eq_false, not_true_eq_false, not_false_eq_true, gt_iff_lt, ge_iff_le, Int.not_lt, Int.not_le, Bool.true_eq_false, Bool.false_eq_true] <;> omega)); conv => whnf)
            | (refine ⟨_, hc, ?_⟩; conv => whnf)
            | (refine ⟨le_rfl' ?_, ?_⟩; rfl; conv => whnf)
            | (refine ⟨⟨?_, ?_⟩, ?_⟩; omega; omega; conv => whnf)
            | (refine ⟨⟨?_, ?_, ?_⟩, ?_⟩; rfl; omega; omega; conv => whnf)
            | (refine ⟨rfl, ?_, ?_⟩; decide; conv => whnf))
          try exact rfl
          refine lown01 6 0 t l hl E 2 (.inr rfl) _ _ l.length 2 _ (by omega) (by omega) (by decide) (by decide) ⟨rfl, rfl, rfl, trivial⟩ ⟨rfl, trivial⟩ rfl (fun z a b => ?_) (fun z b => ?_)
          · exact Fin.tmpB (i := 2) rfl a (by rw [propB_no (fun h => b (ef.1 h))])
          · rw [propB_yes (ef.2 b)]
            conv => whnf
            exact ⟨rfl⟩
        · have h2 : Int.tmod (l.length : Int) 2 ≠ 0 := by rw [Int.tmod_eq_emod_of_nonneg (by omega)]; omega
          rw [propB_no (fun h => by have := h.2; unfold FormV at this; rw [if_neg (by decide), if_pos rfl] at this; exact hev this.1)]
          repeat (first
            | (refine sel_yes ?_ ?_; (first | assumption | (simp only [beq_iff_eq, bne_iff_ne, beq_eq_false_iff_ne, bne_eq_false_iff_eq, decide_eq_true_eq, decide_eq_false_iff_not, Bool.not_eq_true', Bool.not_eq_false', ne_eq, beq_true, beq_false, bne_self_eq_false, not_true_eq_false, not_false_eq_true, gt_iff_lt, ge_iff_le, Int.not_lt, Int.not_le, Bool.true_eq_false, Bool.false_eq_true] <;> omega)); conv => whnf)
            | (refine sel_no ?_ ?_; (first | assumption | (simp only [beq_iff_eq, bne_iff_ne, beq_eq_false_iff_ne, bne_eq_false_iff_eq, decide_eq_true_eq, decide_eq_false_iff_not, Bool.not_eq_true', Bool.not_eq_false', ne_eq, beq_true, beq_false, bne_self_eq_false, not_true_eq_false, not_false_eq_true, gt_iff_lt, ge_iff_le, Int.not_lt, Int.not_le, Bool.true_eq_false, Bool.false_eq_true] <;> omega)); conv => whnf)
            | (refine ⟨_, hc, ?_⟩; conv => whnf)
            | (refine ⟨le_rfl' ?_, ?_⟩; rfl; conv => whnf)
            | (refine ⟨⟨?_, ?_⟩, ?_⟩; omega; omega; conv => whnf)
            | (refine ⟨⟨?_, ?_, ?_⟩, ?_⟩; rfl; omega; omega; conv => whnf)
            | (refine ⟨rfl, ?_, ?_⟩; decide; conv => whnf))
          try exact rfl
          exact ⟨rfl⟩
    · rw [propB_no (fun h => by have := h.1; unfold PlainV at this; obtain ⟨_, h2, h3⟩ := this; omega)]
      repeat (first
        | (refine sel_yes ?_ ?_; (first | assumption | (simp only [beq_iff_eq, bne_iff_ne, beq_eq_false_iff_ne, bne_eq_false_iff_eq, decide_eq_true_eq, decide_eq_false_iff_not, Bool.not_eq_true', Bool.not_eq_false', ne_eq, beq_true, beq_false, bne_self_eq_false, not_true_eq_false, not_false_eq_true, gt_iff_lt, ge_iff_le, Int.not_lt, Int.not_le, Bool.true_eq_false, Bool.false_eq_true] <;> omega)); conv => whnf)
        | (refine sel_no ?_ ?_; (first | assumption | (simp only [beq_iff_eq, bne_iff_ne, beq_eq_false_iff_ne, bne_eq_false_iff_eq, decide_eq_true_eq, decide_eq_false_iff_not, Bool.not_eq_true', Bool.not_eq_false', ne_eq, beq_true, beq_false, bne_self_eq_false, not_true_eq_false, not_false_eq_true, gt_iff_lt, ge_iff_le, Int.not_lt, Int.not_le, Bool.true_eq_false, Bool.false_eq_true] <;> omega)); conv => whnf)
        | (refine ⟨le_rfl' ?_, ?_⟩; rfl; conv => whnf)
        | (refine ⟨⟨?_, ?_⟩, ?_⟩; omega; omega; conv => whnf)
        | (refine ⟨⟨?_, ?_, ?_⟩, ?_⟩; rfl; omega; omega; conv => whnf)
        | (refine ⟨rfl, ?_, ?_⟩; decide; conv => whnf))
      try exact rfl
      exact ⟨rfl⟩
theorem rownT (hn : Non ext) (k n : Int) (t : ByteArray) (l : List T) (hw : WfV ⟨k, n, t, l⟩) (hl : l.length ≤ 1024) (t0 : t ≠ ⟨#[]⟩) (k3 : k ≠ 3) (h : ¬ (k < 0 ∨ k > 6)) :
    ∃ r, (cfg ext).Ev 81 [A ⟨k, n, t, l⟩] r ∧ r = .bool (propB (PlainV k n t ∧ FormV k l)) := by
  have hw' := hw
  simp only [WfV] at hw'
  have E : ∀ a ∈ l, ∀ b ∈ l, (cfg ext).Ev 107 [A a, A b] (.int .i64 (cmpV a b)) := fun a ha b _ => rcmpL hn l hw'.2.2.2.2 a ha b
  refine Ev.ofF (hn 81 (by decide) (by decide)) Tryd.func81 rfl rfl ?_
  conv => whnf
  have hte : (!(t.toList == (⟨#[]⟩ : ByteArray).toList)) = true := by
    rw [Bool.not_eq_true', beq_eq_false_iff_ne]
    intro h
    exact t0 (Go.WideShapes.bytes_inj (by rw [ByteArray.toList_eq, ByteArray.toList_eq] at h; exact h))
  have hteF : ((!(t.toList == (⟨#[]⟩ : ByteArray).toList)) == false) = false := by rw [hte]; rfl
  rw [propB_no (fun h => by have := h.1; unfold PlainV at this; obtain ⟨h1, _, _⟩ := this; rcases h1 with h1 | h1; exact k3 h1; exact t0 h1)]
  by_cases k2 : k = 2
  · repeat (first
      | (refine sel_yes ?_ ?_; (first | assumption | (simp only [beq_iff_eq, bne_iff_ne, beq_eq_false_iff_ne, bne_eq_false_iff_eq, decide_eq_true_eq, decide_eq_false_iff_not, Bool.not_eq_true', Bool.not_eq_false', ne_eq, beq_true, beq_false, bne_self_eq_false, not_true_eq_false, not_false_eq_true, gt_iff_lt, ge_iff_le, Int.not_lt, Int.not_le, Bool.true_eq_false, Bool.false_eq_true] <;> omega)); conv => whnf)
      | (refine sel_no ?_ ?_; (first | assumption | (simp only [beq_iff_eq, bne_iff_ne, beq_eq_false_iff_ne, bne_eq_false_iff_eq, decide_eq_true_eq, decide_eq_false_iff_not, Bool.not_eq_true', Bool.not_eq_false', ne_eq, beq_true, beq_false, bne_self_eq_false, not_true_eq_false, not_false_eq_true, gt_iff_lt, ge_iff_le, Int.not_lt, Int.not_le, Bool.true_eq_false, Bool.false_eq_true] <;> omega)); conv => whnf)
      | (refine ⟨le_rfl' ?_, ?_⟩; rfl; conv => whnf)
      | (refine ⟨⟨?_, ?_⟩, ?_⟩; omega; omega; conv => whnf)
      | (refine ⟨⟨?_, ?_, ?_⟩, ?_⟩; rfl; omega; omega; conv => whnf)
      | (refine ⟨rfl, ?_, ?_⟩; decide; conv => whnf))
    try exact rfl
    exact ⟨rfl⟩
  by_cases n0 : n = 0
  · repeat (first
      | (refine sel_yes ?_ ?_; (first | assumption | (simp only [beq_iff_eq, bne_iff_ne, beq_eq_false_iff_ne, bne_eq_false_iff_eq, decide_eq_true_eq, decide_eq_false_iff_not, Bool.not_eq_true', Bool.not_eq_false', ne_eq, beq_true, beq_false, bne_self_eq_false, not_true_eq_false, not_false_eq_true, gt_iff_lt, ge_iff_le, Int.not_lt, Int.not_le, Bool.true_eq_false, Bool.false_eq_true] <;> omega)); conv => whnf)
      | (refine sel_no ?_ ?_; (first | assumption | (simp only [beq_iff_eq, bne_iff_ne, beq_eq_false_iff_ne, bne_eq_false_iff_eq, decide_eq_true_eq, decide_eq_false_iff_not, Bool.not_eq_true', Bool.not_eq_false', ne_eq, beq_true, beq_false, bne_self_eq_false, not_true_eq_false, not_false_eq_true, gt_iff_lt, ge_iff_le, Int.not_lt, Int.not_le, Bool.true_eq_false, Bool.false_eq_true] <;> omega)); conv => whnf)
      | (refine ⟨le_rfl' ?_, ?_⟩; rfl; conv => whnf)
      | (refine ⟨⟨?_, ?_⟩, ?_⟩; omega; omega; conv => whnf)
      | (refine ⟨⟨?_, ?_, ?_⟩, ?_⟩; rfl; omega; omega; conv => whnf)
      | (refine ⟨rfl, ?_, ?_⟩; decide; conv => whnf))
    try exact rfl
    exact ⟨rfl⟩
  by_cases hk1 : k = 1
  · by_cases n1 : n = 1
    · repeat (first
        | (refine sel_yes ?_ ?_; (first | assumption | (simp only [beq_iff_eq, bne_iff_ne, beq_eq_false_iff_ne, bne_eq_false_iff_eq, decide_eq_true_eq, decide_eq_false_iff_not, Bool.not_eq_true', Bool.not_eq_false', ne_eq, beq_true, beq_false, bne_self_eq_false, not_true_eq_false, not_false_eq_true, gt_iff_lt, ge_iff_le, Int.not_lt, Int.not_le, Bool.true_eq_false, Bool.false_eq_true] <;> omega)); conv => whnf)
        | (refine sel_no ?_ ?_; (first | assumption | (simp only [beq_iff_eq, bne_iff_ne, beq_eq_false_iff_ne, bne_eq_false_iff_eq, decide_eq_true_eq, decide_eq_false_iff_not, Bool.not_eq_true', Bool.not_eq_false', ne_eq, beq_true, beq_false, bne_self_eq_false, not_true_eq_false, not_false_eq_true, gt_iff_lt, ge_iff_le, Int.not_lt, Int.not_le, Bool.true_eq_false, Bool.false_eq_true] <;> omega)); conv => whnf)
        | (refine ⟨le_rfl' ?_, ?_⟩; rfl; conv => whnf)
        | (refine ⟨⟨?_, ?_⟩, ?_⟩; omega; omega; conv => whnf)
        | (refine ⟨⟨?_, ?_, ?_⟩, ?_⟩; rfl; omega; omega; conv => whnf)
        | (refine ⟨rfl, ?_, ?_⟩; decide; conv => whnf))
      try exact rfl
      exact ⟨rfl⟩
    · repeat (first
        | (refine sel_yes ?_ ?_; (first | assumption | (simp only [beq_iff_eq, bne_iff_ne, beq_eq_false_iff_ne, bne_eq_false_iff_eq, decide_eq_true_eq, decide_eq_false_iff_not, Bool.not_eq_true', Bool.not_eq_false', ne_eq, beq_true, beq_false, bne_self_eq_false, not_true_eq_false, not_false_eq_true, gt_iff_lt, ge_iff_le, Int.not_lt, Int.not_le, Bool.true_eq_false, Bool.false_eq_true] <;> omega)); conv => whnf)
        | (refine sel_no ?_ ?_; (first | assumption | (simp only [beq_iff_eq, bne_iff_ne, beq_eq_false_iff_ne, bne_eq_false_iff_eq, decide_eq_true_eq, decide_eq_false_iff_not, Bool.not_eq_true', Bool.not_eq_false', ne_eq, beq_true, beq_false, bne_self_eq_false, not_true_eq_false, not_false_eq_true, gt_iff_lt, ge_iff_le, Int.not_lt, Int.not_le, Bool.true_eq_false, Bool.false_eq_true] <;> omega)); conv => whnf)
        | (refine ⟨le_rfl' ?_, ?_⟩; rfl; conv => whnf)
        | (refine ⟨⟨?_, ?_⟩, ?_⟩; omega; omega; conv => whnf)
        | (refine ⟨⟨?_, ?_, ?_⟩, ?_⟩; rfl; omega; omega; conv => whnf)
        | (refine ⟨rfl, ?_, ?_⟩; decide; conv => whnf))
      try exact rfl
      exact ⟨rfl⟩
  · repeat (first
      | (refine sel_yes ?_ ?_; (first | assumption | (simp only [beq_iff_eq, bne_iff_ne, beq_eq_false_iff_ne, bne_eq_false_iff_eq, decide_eq_true_eq, decide_eq_false_iff_not, Bool.not_eq_true', Bool.not_eq_false', ne_eq, beq_true, beq_false, bne_self_eq_false, not_true_eq_false, not_false_eq_true, gt_iff_lt, ge_iff_le, Int.not_lt, Int.not_le, Bool.true_eq_false, Bool.false_eq_true] <;> omega)); conv => whnf)
      | (refine sel_no ?_ ?_; (first | assumption | (simp only [beq_iff_eq, bne_iff_ne, beq_eq_false_iff_ne, bne_eq_false_iff_eq, decide_eq_true_eq, decide_eq_false_iff_not, Bool.not_eq_true', Bool.not_eq_false', ne_eq, beq_true, beq_false, bne_self_eq_false, not_true_eq_false, not_false_eq_true, gt_iff_lt, ge_iff_le, Int.not_lt, Int.not_le, Bool.true_eq_false, Bool.false_eq_true] <;> omega)); conv => whnf)
      | (refine ⟨le_rfl' ?_, ?_⟩; rfl; conv => whnf)
      | (refine ⟨⟨?_, ?_⟩, ?_⟩; omega; omega; conv => whnf)
      | (refine ⟨⟨?_, ?_, ?_⟩, ?_⟩; rfl; omega; omega; conv => whnf)
      | (refine ⟨rfl, ?_, ?_⟩; decide; conv => whnf))
    try exact rfl
    exact ⟨rfl⟩
theorem rown (hn : Non ext) (k n : Int) (t : ByteArray) (l : List T) (hw : WfV ⟨k, n, t, l⟩) (hl : l.length ≤ 1024) :
    (cfg ext).Ev 81 [A ⟨k, n, t, l⟩] (.bool (propB (PlainV k n t ∧ FormV k l))) := by
  have key : ∃ r, (cfg ext).Ev 81 [A ⟨k, n, t, l⟩] r ∧ r = .bool (propB (PlainV k n t ∧ FormV k l)) := by
    by_cases h : k < 0 ∨ k > 6
    · exact rownR hn k n t l hw hl h
    by_cases k3 : k = 3
    · exact rown3 hn k n t l hw hl k3
    by_cases t0 : t = ⟨#[]⟩
    · by_cases low : k = 0 ∨ k = 1 ∨ k = 2
      · exact rownL hn k n t l hw hl t0 low
      · exact rownC hn k n t l hw hl t0 (by omega)
    · exact rownT hn k n t l hw hl t0 k3 h
  obtain ⟨r, h, rfl⟩ := key
  exact h
end
end Go.Proofs.YtjfjagnnefmepaaDoor.AB
end

section
set_option linter.unusedVariables false
set_option linter.unusedSimpArgs false
open Go Go.Ab Go.Proofs Go.Vl
namespace Go.Proofs.YtjfjagnnefmepaaDoor.AB
set_option maxRecDepth 100000
set_option maxHeartbeats 16000000
set_option linter.unusedSimpArgs false
section
variable {ext : Exts}
open Classical in
/-- how many parts a value has that is right below some depth, with at most so many; below 0: it is not -/
noncomputable def fitZ (v : T) (d m : Int) : Int := if OkV v ∧ (deepV v : Int) ≤ d ∧ (partsV v : Int) ≤ m then (partsV v : Int) else -1
def FitE (ext : Exts) (a : T) : Prop := ∀ d m : Int, 0 ≤ d → d ≤ 16 → m ≤ 1024 → -1024 ≤ m → (cfg ext).Ev 59 [A a, .int .i64 d, .int .i64 m] (.int .i64 (fitZ a d m))
theorem fitZ_yes {v : T} {d m : Int} (h : OkV v ∧ (deepV v : Int) ≤ d ∧ (partsV v : Int) ≤ m) : fitZ v d m = partsV v := if_pos h
theorem fitZ_no {v : T} {d m : Int} (h : ¬ (OkV v ∧ (deepV v : Int) ≤ d ∧ (partsV v : Int) ≤ m)) : fitZ v d m = -1 := if_neg h
theorem lfits (k n : Int) (t : ByteArray) (l : List T) (hl : l.length ≤ 1024) (E : ∀ a ∈ l, FitE ext a) (d m : Int) (hd0 : l = [] ∨ 1 ≤ d) (hdp : 0 ≤ d) (hd : d ≤ 16) (hm : m ≤ 1024) (Q : Ex → St → Prop) (f : Nat) :
    ∀ (i : Nat) (c : Nat) (z : St), l.length - i = f → i ≤ l.length → (c : Int) ≤ m → Has z.t [(33, .int .i64 i), (32, .int .i64 l.length), (31, .sl false (encL l) l.length), (7, .int .i64 c), (1, .int .i64 d), (2, .int .i64 m), (3, .ref 0 0)] → Has z.hp.h [(0, some (.cells (encX' k n t l) false))] → z.hp.n = 26 →
      (∀ z' : St, z'.t 6 = .int .i64 (-1) → ¬ (OkL (l.drop i) ∧ (deepL (l.drop i) : Int) ≤ d ∧ (c : Int) + partsL (l.drop i) ≤ m) → Q .ret z') →
      (∀ z' : St, Has z'.t [(7, .int .i64 ((c : Int) + partsL (l.drop i))), (3, .ref 0 0)] → Has z'.hp.h [(0, some (.cells (encX' k n t l) false))] → (OkL (l.drop i) ∧ (deepL (l.drop i) : Int) ≤ d ∧ (c : Int) + partsL (l.drop i) ≤ m) → Q (.exit 0) z') →
      Go.Ab.Loop (cfg ext) (lpOf Tryd.f59) 26 z Q := by
  induction f with
  | zero =>
    intro i c z hf hi hc ht hh hz hr hq
    obtain rfl : i = l.length := by omega
    have g : decide ((l.length : Int) < (l.length : Int)) = false := decide_eq_false (by omega)
    have e : l.drop l.length = [] := List.drop_length
    rw [e] at hq
    rw [St.knows _ _ ht hz _ hh]
    refine Loop.round ?_
    conv => whnf
    repeat (first
      | (refine sel_yes ?_ ?_; (first | assumption | (simp only [beq_iff_eq, bne_iff_ne, beq_eq_false_iff_ne, bne_eq_false_iff_eq, decide_eq_true_eq, decide_eq_false_iff_not, Bool.not_eq_true', Bool.not_eq_false', ne_eq, beq_true, beq_false, bne_self_eq_false, not_true_eq_false, not_false_eq_true, gt_iff_lt, ge_iff_le, Int.not_lt, Int.not_le, Bool.true_eq_false, Bool.false_eq_true] <;> omega)); conv => whnf)
      | (refine sel_no ?_ ?_; (first | assumption | (simp only [beq_iff_eq, bne_iff_ne, beq_eq_false_iff_ne, bne_eq_false_iff_eq, decide_eq_true_eq, decide_eq_false_iff_not, Bool.not_eq_true', Bool.not_eq_false', ne_eq, beq_true, beq_false, bne_self_eq_false, not_true_eq_false, not_false_eq_true, gt_iff_lt, ge_iff_le, Int.not_lt, Int.not_le, Bool.true_eq_false, Bool.false_eq_true] <;> omega)); conv => whnf)
      | (refine ⟨le_rfl' ?_, ?_⟩; rfl; conv => whnf)
      | (refine ⟨⟨?_, ?_⟩, ?_⟩; omega; omega; conv => whnf)
      | (refine ⟨⟨?_, ?_, ?_⟩, ?_⟩; rfl; omega; omega; conv => whnf)
      | (refine ⟨rfl, ?_, ?_⟩; decide; conv => whnf))
    try exact rfl
    refine hq _ ⟨?_, rfl, trivial⟩ ⟨rfl, trivial⟩ ⟨by simp only [OkL], ?_, by simpa [partsL] using hc⟩
    · simp only [partsL]; exact vi (by simp)
    · simp only [deepL]; omega
  | succ f ih =>
    intro i c z hf hi hc ht hh hz hr hq
    have h1 : i < l.length := by omega
    have hd1 : 1 ≤ d := by rcases hd0 with rfl | h; simp at h1; exact h
    have g : decide ((i : Int) < (l.length : Int)) = true := decide_eq_true (by omega)
    have eD := List.drop_eq_getElem_cons h1
    have hw1 : IntKind.i64.wrap (d - 1) = d - 1 := by rw [IntKind.wrap_i64]; omega
    have hw2 : IntKind.i64.wrap (m - (c : Int)) = m - (c : Int) := by rw [IntKind.wrap_i64]; omega
    have hE := E _ (List.getElem_mem h1) (d - 1) (m - (c : Int)) (by omega) (by omega) (by omega) (by omega)
    rw [← hw1, ← hw2] at hE
    rw [eD] at hr hq
    simp only [OkL, deepL, partsL] at hr hq
    by_cases hok : OkV l[i] ∧ (deepV l[i] : Int) ≤ d - 1 ∧ (partsV l[i] : Int) ≤ m - c
    · rw [hw1, hw2, fitZ_yes hok] at hE
      rw [← hw1, ← hw2] at hE
      have hpp := partsV_pos l[i]
      have g2 : decide ((partsV l[i] : Int) < 0) = false := decide_eq_false (by omega)
      have hw3 : IntKind.i64.wrap ((c : Int) + (partsV l[i] : Int)) = ((c + partsV l[i] : Nat) : Int) := by rw [IntKind.wrap_i64]; omega
      rw [St.knows _ _ ht hz _ hh]
      refine Loop.round ?_
      conv => whnf
      repeat (first
        | (refine sel_yes ?_ ?_; (first | assumption | (simp only [beq_iff_eq, bne_iff_ne, beq_eq_false_iff_ne, bne_eq_false_iff_eq, decide_eq_true_eq, decide_eq_false_iff_not, Bool.not_eq_true', Bool.not_eq_false', ne_eq, beq_true, beq_false, bne_self_eq_false, not_true_eq_false, not_false_eq_true, gt_iff_lt, ge_iff_le, Int.not_lt, Int.not_le, Bool.true_eq_false, Bool.false_eq_true] <;> omega)); conv => whnf)
        | (refine sel_no ?_ ?_; (first | assumption | (simp only [beq_iff_eq, bne_iff_ne, beq_eq_false_iff_ne, bne_eq_false_iff_eq, decide_eq_true_eq, decide_eq_false_iff_not, Bool.not_eq_true', Bool.not_eq_false', ne_eq, beq_true, beq_false, bne_self_eq_false, not_true_eq_false, not_false_eq_true, gt_iff_lt, ge_iff_le, Int.not_lt, Int.not_le, Bool.true_eq_false, Bool.false_eq_true] <;> omega)); conv => whnf)
        | (refine ⟨le_rfl' ?_, ?_⟩; rfl; conv => whnf)
        | (refine ⟨⟨?_, ?_⟩, ?_⟩; omega; omega; conv => whnf)
        | (refine ⟨⟨?_, ?_, ?_⟩, ?_⟩; rfl; omega; omega; conv => whnf)
        | (refine ⟨rfl, ?_, ?_⟩; decide; conv => whnf))
      try exact rfl
      refine ldA (i := i) h1 ?_
      conv => whnf
      refine ⟨_, hE, ?_⟩
      conv => whnf
      repeat (first
        | (refine sel_yes ?_ ?_; (first | assumption | (simp only [beq_iff_eq, bne_iff_ne, beq_eq_false_iff_ne, bne_eq_false_iff_eq, decide_eq_true_eq, decide_eq_false_iff_not, Bool.not_eq_true', Bool.not_eq_false', ne_eq, beq_true, beq_false, bne_self_eq_false, not_true_eq_false, not_false_eq_true, gt_iff_lt, ge_iff_le, Int.not_lt, Int.not_le, Bool.true_eq_false, Bool.false_eq_true] <;> omega)); conv => whnf)
        | (refine sel_no ?_ ?_; (first | assumption | (simp only [beq_iff_eq, bne_iff_ne, beq_eq_false_iff_ne, bne_eq_false_iff_eq, decide_eq_true_eq, decide_eq_false_iff_not, Bool.not_eq_true', Bool.not_eq_false', ne_eq, beq_true, beq_false, bne_self_eq_false, not_true_eq_false, not_false_eq_true, gt_iff_lt, ge_iff_le, Int.not_lt, Int.not_le, Bool.true_eq_false, Bool.false_eq_true] <;> omega)); conv => whnf)
        | (refine ⟨le_rfl' ?_, ?_⟩; rfl; conv => whnf)
        | (refine ⟨⟨?_, ?_⟩, ?_⟩; omega; omega; conv => whnf)
        | (refine ⟨⟨?_, ?_, ?_⟩, ?_⟩; rfl; omega; omega; conv => whnf)
        | (refine ⟨rfl, ?_, ?_⟩; decide; conv => whnf))
      try exact rfl
      refine ih (i + 1) (c + partsV l[i]) _ (by omega) (by omega) (by omega) ⟨?_, rfl, rfl, ?_, rfl, rfl, rfl, trivial⟩ ⟨rfl, trivial⟩ rfl (fun z' a b => hr z' a (fun g => b ⟨g.1.2, by omega, by omega⟩)) (fun z' a b c' => hq z' ⟨?_, a.2⟩ b ⟨⟨hok.1, c'.1⟩, by omega, by omega⟩)
      · conv => lhs; whnf
        exact wrapN1 (by omega)
      · conv => lhs; whnf
        exact vi hw3
      · rw [a.1]; exact vi (by omega)
    · rw [hw1, hw2, fitZ_no hok] at hE
      rw [← hw1, ← hw2] at hE
      rw [St.knows _ _ ht hz _ hh]
      refine Loop.round ?_
      conv => whnf
      repeat (first
        | (refine sel_yes ?_ ?_; (first | assumption | (simp only [beq_iff_eq, bne_iff_ne, beq_eq_false_iff_ne, bne_eq_false_iff_eq, decide_eq_true_eq, decide_eq_false_iff_not, Bool.not_eq_true', Bool.not_eq_false', ne_eq, beq_true, beq_false, bne_self_eq_false, not_true_eq_false, not_false_eq_true, gt_iff_lt, ge_iff_le, Int.not_lt, Int.not_le, Bool.true_eq_false, Bool.false_eq_true] <;> omega)); conv => whnf)
        | (refine sel_no ?_ ?_; (first | assumption | (simp only [beq_iff_eq, bne_iff_ne, beq_eq_false_iff_ne, bne_eq_false_iff_eq, decide_eq_true_eq, decide_eq_false_iff_not, Bool.not_eq_true', Bool.not_eq_false', ne_eq, beq_true, beq_false, bne_self_eq_false, not_true_eq_false, not_false_eq_true, gt_iff_lt, ge_iff_le, Int.not_lt, Int.not_le, Bool.true_eq_false, Bool.false_eq_true] <;> omega)); conv => whnf)
        | (refine ⟨le_rfl' ?_, ?_⟩; rfl; conv => whnf)
        | (refine ⟨⟨?_, ?_⟩, ?_⟩; omega; omega; conv => whnf)
        | (refine ⟨⟨?_, ?_, ?_⟩, ?_⟩; rfl; omega; omega; conv => whnf)
        | (refine ⟨rfl, ?_, ?_⟩; decide; conv => whnf))
      try exact rfl
      refine ldA (i := i) h1 ?_
      conv => whnf
      refine ⟨_, hE, ?_⟩
      conv => whnf
      exact hr _ rfl (fun g => hok ⟨g.1.1, by omega, by omega⟩)
theorem deepV_pos {a : T} {l : List T} : 1 ≤ deepL (a :: l) := by simp only [deepL]; omega
theorem fits_one (hn : Non ext) (k n : Int) (t : ByteArray) (l : List T) (hw : WfV ⟨k, n, t, l⟩) (E : ∀ a ∈ l, FitE ext a) : FitE ext ⟨k, n, t, l⟩ := by
  intro d m hd0 hd hm hm0
  have hlp := partsL_len l
  have eO : OkV ⟨k, n, t, l⟩ ↔ PlainV k n t ∧ FormV k l ∧ OkL l := by simp only [OkV]
  have eDp : deepV ⟨k, n, t, l⟩ = deepL l := by simp only [deepV]
  have eP : partsV ⟨k, n, t, l⟩ = 1 + partsL l := by simp only [partsV]
  have key : ∃ r, (cfg ext).Ev 59 [A ⟨k, n, t, l⟩, .int .i64 d, .int .i64 m] r ∧ r = .int .i64 (fitZ ⟨k, n, t, l⟩ d m) := by
    refine Ev.ofF (hn 59 (by decide) (by decide)) Tryd.func59 rfl rfl ?_
    conv => whnf
    by_cases m1 : m < 1
    · rw [fitZ_no (fun h => by rw [eP] at h; omega)]
      repeat (first
        | (refine sel_yes ?_ ?_; (first | assumption | (simp only [beq_iff_eq, bne_iff_ne, beq_eq_false_iff_ne, bne_eq_false_iff_eq, decide_eq_true_eq, decide_eq_false_iff_not, Bool.not_eq_true', Bool.not_eq_false', ne_eq, beq_true, beq_false, bne_self_eq_false, not_true_eq_false, not_false_eq_true, gt_iff_lt, ge_iff_le, Int.not_lt, Int.not_le, Bool.true_eq_false, Bool.false_eq_true] <;> omega)); conv => whnf)
        | (refine sel_no ?_ ?_; (first | assumption | (simp only [beq_iff_eq, bne_iff_ne, beq_eq_false_iff_ne, bne_eq_false_iff_eq, decide_eq_true_eq, decide_eq_false_iff_not, Bool.not_eq_true', Bool.not_eq_false', ne_eq, beq_true, beq_false, bne_self_eq_false, not_true_eq_false, not_false_eq_true, gt_iff_lt, ge_iff_le, Int.not_lt, Int.not_le, Bool.true_eq_false, Bool.false_eq_true] <;> omega)); conv => whnf)
        | (refine ⟨le_rfl' ?_, ?_⟩; rfl; conv => whnf)
        | (refine ⟨⟨?_, ?_⟩, ?_⟩; omega; omega; conv => whnf)
        | (refine ⟨⟨?_, ?_, ?_⟩, ?_⟩; rfl; omega; omega; conv => whnf)
        | (refine ⟨rfl, ?_, ?_⟩; decide; conv => whnf))
      try exact rfl
      exact ⟨rfl⟩
    rcases l with _ | ⟨a, l⟩
    · have ho := rown hn k n t [] hw (by decide)
      have g : decide (((([] : List T).length : Nat) : Int) > m) = false := decide_eq_false (by simp; omega)
      repeat (first
        | (refine sel_yes ?_ ?_; (first | assumption | (simp only [beq_iff_eq, bne_iff_ne, beq_eq_false_iff_ne, bne_eq_false_iff_eq, decide_eq_true_eq, decide_eq_false_iff_not, Bool.not_eq_true', Bool.not_eq_false', ne_eq, beq_true, beq_false, bne_self_eq_false, not_true_eq_false, not_false_eq_true, gt_iff_lt, ge_iff_le, Int.not_lt, Int.not_le, Bool.true_eq_false, Bool.false_eq_true] <;> omega)); conv => whnf)
        | (refine sel_no ?_ ?_; (first | assumption | (simp only [beq_iff_eq, bne_iff_ne, beq_eq_false_iff_ne, bne_eq_false_iff_eq, decide_eq_true_eq, decide_eq_false_iff_not, Bool.not_eq_true', Bool.not_eq_false', ne_eq, beq_true, beq_false, bne_self_eq_false, not_true_eq_false, not_false_eq_true, gt_iff_lt, ge_iff_le, Int.not_lt, Int.not_le, Bool.true_eq_false, Bool.false_eq_true] <;> omega)); conv => whnf)
        | (refine ⟨le_rfl' ?_, ?_⟩; rfl; conv => whnf)
        | (refine ⟨⟨?_, ?_⟩, ?_⟩; omega; omega; conv => whnf)
        | (refine ⟨⟨?_, ?_, ?_⟩, ?_⟩; rfl; omega; omega; conv => whnf)
        | (refine ⟨rfl, ?_, ?_⟩; decide; conv => whnf))
      try exact rfl
      have hE0 : ∀ a ∈ ([] : List T), FitE ext a := fun a ha => by cases ha
      refine lfits k n t [] (Nat.zero_le _) hE0 d m (.inl rfl) hd0 hd hm _ 0 0 1 _ rfl (Nat.le_refl _) (by omega) ⟨rfl, rfl, rfl, rfl, rfl, rfl, rfl, trivial⟩ ⟨rfl, trivial⟩ (by rfl) (fun z a b => ?_) (fun z a b c => ?_)
      · exact absurd ⟨by simp only [List.drop_nil, OkL], by simp only [List.drop_nil, deepL]; omega, by simp only [List.drop_nil, partsL]; omega⟩ b
      · rw [St.knows _ z.hp.n a rfl _ b]
        conv => whnf
        refine ⟨_, ho, ?_⟩
        by_cases hp : PlainV k n t ∧ FormV k []
        · rw [propB_yes hp] at *
          rw [fitZ_yes ⟨eO.2 ⟨hp.1, hp.2, by simp only [OkL]⟩, by rw [eDp]; simp only [deepL]; omega, by rw [eP]; simp only [partsL]; omega⟩, eP]
          conv => whnf
          exact ⟨vi (by simp [partsL])⟩
        · rw [propB_no hp] at *
          rw [fitZ_no (fun h => hp ⟨(eO.1 h.1).1, (eO.1 h.1).2.1⟩)]
          conv => whnf
          exact ⟨rfl⟩
    · have hpos : (((a :: l).length : Nat) : Int) > 0 := by simp
      by_cases d0 : d = 0
      · rw [fitZ_no (fun h => by rw [eDp] at h; have := @deepV_pos a l; omega)]
        repeat (first
          | (refine sel_yes ?_ ?_; (first | assumption | (simp only [beq_iff_eq, bne_iff_ne, beq_eq_false_iff_ne, bne_eq_false_iff_eq, decide_eq_true_eq, decide_eq_false_iff_not, Bool.not_eq_true', Bool.not_eq_false', ne_eq, beq_true, beq_false, bne_self_eq_false, not_true_eq_false, not_false_eq_true, gt_iff_lt, ge_iff_le, Int.not_lt, Int.not_le, Bool.true_eq_false, Bool.false_eq_true] <;> omega)); conv => whnf)
          | (refine sel_no ?_ ?_; (first | assumption | (simp only [beq_iff_eq, bne_iff_ne, beq_eq_false_iff_ne, bne_eq_false_iff_eq, decide_eq_true_eq, decide_eq_false_iff_not, Bool.not_eq_true', Bool.not_eq_false', ne_eq, beq_true, beq_false, bne_self_eq_false, not_true_eq_false, not_false_eq_true, gt_iff_lt, ge_iff_le, Int.not_lt, Int.not_le, Bool.true_eq_false, Bool.false_eq_true] <;> omega)); conv => whnf)
          | (refine ⟨le_rfl' ?_, ?_⟩; rfl; conv => whnf)
          | (refine ⟨⟨?_, ?_⟩, ?_⟩; omega; omega; conv => whnf)
          | (refine ⟨⟨?_, ?_, ?_⟩, ?_⟩; rfl; omega; omega; conv => whnf)
          | (refine ⟨rfl, ?_, ?_⟩; decide; conv => whnf))
        try exact rfl
        exact ⟨rfl⟩
      by_cases hlm : (((a :: l).length : Nat) : Int) > m
      · rw [fitZ_no (fun h => by rw [eP] at h; omega)]
        repeat (first
          | (refine sel_yes ?_ ?_; (first | assumption | (simp only [beq_iff_eq, bne_iff_ne, beq_eq_false_iff_ne, bne_eq_false_iff_eq, decide_eq_true_eq, decide_eq_false_iff_not, Bool.not_eq_true', Bool.not_eq_false', ne_eq, beq_true, beq_false, bne_self_eq_false, not_true_eq_false, not_false_eq_true, gt_iff_lt, ge_iff_le, Int.not_lt, Int.not_le, Bool.true_eq_false, Bool.false_eq_true] <;> omega)); conv => whnf)
          | (refine sel_no ?_ ?_; (first | assumption | (simp only [beq_iff_eq, bne_iff_ne, beq_eq_false_iff_ne, bne_eq_false_iff_eq, decide_eq_true_eq, decide_eq_false_iff_not, Bool.not_eq_true', Bool.not_eq_false', ne_eq, beq_true, beq_false, bne_self_eq_false, not_true_eq_false, not_false_eq_true, gt_iff_lt, ge_iff_le, Int.not_lt, Int.not_le, Bool.true_eq_false, Bool.false_eq_true] <;> omega)); conv => whnf)
          | (refine ⟨le_rfl' ?_, ?_⟩; rfl; conv => whnf)
          | (refine ⟨⟨?_, ?_⟩, ?_⟩; omega; omega; conv => whnf)
          | (refine ⟨⟨?_, ?_, ?_⟩, ?_⟩; rfl; omega; omega; conv => whnf)
          | (refine ⟨rfl, ?_, ?_⟩; decide; conv => whnf))
        try exact rfl
        exact ⟨rfl⟩
      have ho := rown hn k n t (a :: l) hw (by omega)
      repeat (first
        | (refine sel_yes ?_ ?_; (first | assumption | (simp only [beq_iff_eq, bne_iff_ne, beq_eq_false_iff_ne, bne_eq_false_iff_eq, decide_eq_true_eq, decide_eq_false_iff_not, Bool.not_eq_true', Bool.not_eq_false', ne_eq, beq_true, beq_false, bne_self_eq_false, not_true_eq_false, not_false_eq_true, gt_iff_lt, ge_iff_le, Int.not_lt, Int.not_le, Bool.true_eq_false, Bool.false_eq_true] <;> omega)); conv => whnf)
        | (refine sel_no ?_ ?_; (first | assumption | (simp only [beq_iff_eq, bne_iff_ne, beq_eq_false_iff_ne, bne_eq_false_iff_eq, decide_eq_true_eq, decide_eq_false_iff_not, Bool.not_eq_true', Bool.not_eq_false', ne_eq, beq_true, beq_false, bne_self_eq_false, not_true_eq_false, not_false_eq_true, gt_iff_lt, ge_iff_le, Int.not_lt, Int.not_le, Bool.true_eq_false, Bool.false_eq_true] <;> omega)); conv => whnf)
        | (refine ⟨le_rfl' ?_, ?_⟩; rfl; conv => whnf)
        | (refine ⟨⟨?_, ?_⟩, ?_⟩; omega; omega; conv => whnf)
        | (refine ⟨⟨?_, ?_, ?_⟩, ?_⟩; rfl; omega; omega; conv => whnf)
        | (refine ⟨rfl, ?_, ?_⟩; decide; conv => whnf))
      try exact rfl
      refine lfits k n t (a :: l) (by omega) E d m (.inr (by omega)) hd0 hd hm _ (a :: l).length 0 1 _ rfl (Nat.zero_le _) (by omega) ⟨rfl, rfl, rfl, rfl, rfl, rfl, rfl, trivial⟩ ⟨rfl, trivial⟩ rfl (fun z b c => ?_) (fun z b c e => ?_)
      · refine Fin.tmp (i := 6) rfl b (vi ?_)
        rw [fitZ_no (fun h => c ?_)]
        rw [List.drop_zero]
        exact ⟨(eO.1 h.1).2.2, by rw [← eDp]; exact h.2.1, by have := h.2.2; rw [eP] at this; omega⟩
      · rw [List.drop_zero] at b e
        rw [St.knows _ z.hp.n b rfl _ c]
        conv => whnf
        refine ⟨_, ho, ?_⟩
        by_cases hp : PlainV k n t ∧ FormV k (a :: l)
        · rw [propB_yes hp] at *
          rw [fitZ_yes ⟨eO.2 ⟨hp.1, hp.2, e.1⟩, by rw [eDp]; exact e.2.1, by rw [eP]; have := e.2.2; omega⟩, eP]
          conv => whnf
          exact ⟨vi (by omega)⟩
        · rw [propB_no hp] at *
          rw [fitZ_no (fun h => hp ⟨(eO.1 h.1).1, (eO.1 h.1).2.1⟩)]
          conv => whnf
          exact ⟨rfl⟩
  obtain ⟨r, h, rfl⟩ := key
  exact h
mutual
theorem rfits (hn : Non ext) : (v : T) → WfV v → FitE ext v
  | ⟨k, n, t, l⟩, hw => by
    have hw' := hw
    simp only [WfV] at hw'
    exact fits_one hn k n t l hw (rfitsL hn l hw'.2.2.2.2)
theorem rfitsL (hn : Non ext) : (l : List T) → WfL l → ∀ a ∈ l, FitE ext a
  | [], _, a, ha => by cases ha
  | v :: l, hw, a, ha => by
    simp only [WfL] at hw
    rcases List.mem_cons.1 ha with e | h
    · rw [e]; exact rfits hn v hw.1
    · exact rfitsL hn l hw.2 a h
end
theorem rright (hn : Non ext) (v : T) (hw : WfV v) : (cfg ext).Ev 30 [A v] (.bool (okB v)) := by
  have h := rfits hn v hw 16 1024 (by decide) (by decide) (by decide) (by decide)
  cases ho : okB v with
  | true =>
    have hO := okB_iff.1 ho
    rw [fitZ_yes ⟨hO.1, by have := hO.2.1; omega, by have := hO.2.2; omega⟩] at h
    refine Ev.of (hn 30 (by decide) (by decide)) Tryd.func30 rfl rfl ?_
    conv => whnf
    refine ⟨_, h, ?_⟩
    conv => whnf
    try exact rfl
  | false =>
    have hO : ¬ OK v := fun h => by rw [okB_iff.2 h] at ho; cases ho
    rw [fitZ_no (fun g => hO ⟨g.1, by have := g.2.1; omega, by have := g.2.2; omega⟩)] at h
    refine Ev.of (hn 30 (by decide) (by decide)) Tryd.func30 rfl rfl ?_
    conv => whnf
    refine ⟨_, h, ?_⟩
    conv => whnf
    try exact rfl
end
end Go.Proofs.YtjfjagnnefmepaaDoor.AB
end

section
set_option linter.unusedVariables false
set_option linter.unusedSimpArgs false
open Go Go.Ab Go.Proofs Go.Vl
namespace Go.Proofs.YtjfjagnnefmepaaDoor.AB
set_option maxRecDepth 100000
set_option maxHeartbeats 8000000
set_option linter.unusedSimpArgs false
set_option linter.unusedVariables false
theorem Good.shp {v : T} (h : Good v) : Shp v := shp_of v (okB_iff.1 h.ok).1
theorem Good.rise {v : T} (h : Good v) (h6 : v.f0 = 6) : Rise 2 v.f3 := by
  have h1 := (okB_iff.1 h.ok).1
  rw [okV_eq] at h1
  have hf := h1.2.1
  unfold FormV at hf
  rw [h6] at hf
  simp at hf
  exact hf.2
def numV (o : Option Nat) : V := match o with | some i => .tup [.int .i64 i, .bool true] | none => .tup [.int .i64 0, .bool false]
section
variable {ext : Exts}
theorem rsame (hn : Non ext) (a b : T) (ha : WfV a) : (cfg ext).Ev 86 [A a, A b] (.bool (decide (cmpV a b = 0))) := by
  have h1 := rcmp hn a ha b
  refine Ev.of (hn 86 (by decide) (by decide)) Tryd.func86 rfl rfl ?_
  conv => whnf
  refine ⟨_, h1, ?_⟩
  conv => whnf
  exact vb (by by_cases h : cmpV a b = 0 <;> simp [h])
/-- a step's place in a list, by the reference -/
theorem rindex (hn : Non ext) (v s : T) : (cfg ext).Ev 61 [A v, A s] (numV (if v.f0 = 4 then idxF v.f3.length s else none)) := by
  have key : ∃ r, (cfg ext).Ev 61 [A v, A s] r ∧ r = numV (if v.f0 = 4 then idxF v.f3.length s else none) := by
    refine Ev.ofE (hn 61 (by decide) (by decide)) Tryd.func61 rfl rfl ?_
    conv => whnf
    by_cases h0 : v.f0 = 4
    · have g0 : (v.f0 != 4) = false := by simp [h0]
      rw [if_pos h0]
      by_cases h1 : s.f0 = 2
      · have g1 : (s.f0 != 2) = false := by simp [h1]
        by_cases h2 : s.f1 < 0
        · have g2 : decide (s.f1 < 0) = true := decide_eq_true h2
          have e : idxF v.f3.length s = none := if_neg (by omega)
          repeat (first
            | (refine sel_yes ?_ ?_; (first | assumption | (simp only [beq_iff_eq, bne_iff_ne, beq_eq_false_iff_ne, bne_eq_false_iff_eq, decide_eq_true_eq, decide_eq_false_iff_not, Bool.not_eq_true', Bool.not_eq_false', ne_eq, beq_true, beq_false, bne_self_eq_false, not_true_eq_false, not_false_eq_true, gt_iff_lt, ge_iff_le, Int.not_lt, Int.not_le, Bool.true_eq_false, Bool.false_eq_true] <;> omega)); conv => whnf)
            | (refine sel_no ?_ ?_; (first | assumption | (simp only [beq_iff_eq, bne_iff_ne, beq_eq_false_iff_ne, bne_eq_false_iff_eq, decide_eq_true_eq, decide_eq_false_iff_not, Bool.not_eq_true', Bool.not_eq_false', ne_eq, beq_true, beq_false, bne_self_eq_false, not_true_eq_false, not_false_eq_true, gt_iff_lt, ge_iff_le, Int.not_lt, Int.not_le, Bool.true_eq_false, Bool.false_eq_true] <;> omega)); conv => whnf)
            | (refine ⟨le_rfl' ?_, ?_⟩; rfl; conv => whnf)
            | (refine ⟨⟨?_, ?_⟩, ?_⟩; omega; omega; conv => whnf)
            | (refine ⟨⟨?_, ?_, ?_⟩, ?_⟩; rfl; omega; omega; conv => whnf)
            | (refine ⟨rfl, ?_, ?_⟩; decide; conv => whnf))
          try exact rfl
          rw [e]; rfl
        · have g2 : decide (s.f1 < 0) = false := decide_eq_false h2
          by_cases h3 : s.f1 ≥ (v.f3.length : Int)
          · have g3 : decide (s.f1 ≥ (v.f3.length : Int)) = true := decide_eq_true h3
            have e : idxF v.f3.length s = none := if_neg (by omega)
            repeat (first
              | (refine sel_yes ?_ ?_; (first | assumption | (simp only [beq_iff_eq, bne_iff_ne, beq_eq_false_iff_ne, bne_eq_false_iff_eq, decide_eq_true_eq, decide_eq_false_iff_not, Bool.not_eq_true', Bool.not_eq_false', ne_eq, beq_true, beq_false, bne_self_eq_false, not_true_eq_false, not_false_eq_true, gt_iff_lt, ge_iff_le, Int.not_lt, Int.not_le, Bool.true_eq_false, Bool.false_eq_true] <;> omega)); conv => whnf)
              | (refine sel_no ?_ ?_; (first | assumption | (simp only [beq_iff_eq, bne_iff_ne, beq_eq_false_iff_ne, bne_eq_false_iff_eq, decide_eq_true_eq, decide_eq_false_iff_not, Bool.not_eq_true', Bool.not_eq_false', ne_eq, beq_true, beq_false, bne_self_eq_false, not_true_eq_false, not_false_eq_true, gt_iff_lt, ge_iff_le, Int.not_lt, Int.not_le, Bool.true_eq_false, Bool.false_eq_true] <;> omega)); conv => whnf)
              | (refine ⟨le_rfl' ?_, ?_⟩; rfl; conv => whnf)
              | (refine ⟨⟨?_, ?_⟩, ?_⟩; omega; omega; conv => whnf)
              | (refine ⟨⟨?_, ?_, ?_⟩, ?_⟩; rfl; omega; omega; conv => whnf)
              | (refine ⟨rfl, ?_, ?_⟩; decide; conv => whnf))
            try exact rfl
            rw [e]; rfl
          · have g3 : decide (s.f1 ≥ (v.f3.length : Int)) = false := decide_eq_false h3
            have e : idxF v.f3.length s = some s.f1.toNat := if_pos (by omega)
            repeat (first
              | (refine sel_yes ?_ ?_; (first | assumption | (simp only [beq_iff_eq, bne_iff_ne, beq_eq_false_iff_ne, bne_eq_false_iff_eq, decide_eq_true_eq, decide_eq_false_iff_not, Bool.not_eq_true', Bool.not_eq_false', ne_eq, beq_true, beq_false, bne_self_eq_false, not_true_eq_false, not_false_eq_true, gt_iff_lt, ge_iff_le, Int.not_lt, Int.not_le, Bool.true_eq_false, Bool.false_eq_true] <;> omega)); conv => whnf)
              | (refine sel_no ?_ ?_; (first | assumption | (simp only [beq_iff_eq, bne_iff_ne, beq_eq_false_iff_ne, bne_eq_false_iff_eq, decide_eq_true_eq, decide_eq_false_iff_not, Bool.not_eq_true', Bool.not_eq_false', ne_eq, beq_true, beq_false, bne_self_eq_false, not_true_eq_false, not_false_eq_true, gt_iff_lt, ge_iff_le, Int.not_lt, Int.not_le, Bool.true_eq_false, Bool.false_eq_true] <;> omega)); conv => whnf)
              | (refine ⟨le_rfl' ?_, ?_⟩; rfl; conv => whnf)
              | (refine ⟨⟨?_, ?_⟩, ?_⟩; omega; omega; conv => whnf)
              | (refine ⟨⟨?_, ?_, ?_⟩, ?_⟩; rfl; omega; omega; conv => whnf)
              | (refine ⟨rfl, ?_, ?_⟩; decide; conv => whnf))
            try exact rfl
            rw [e]
            show V.tup [.int .i64 s.f1, .bool true] = V.tup [.int .i64 (s.f1.toNat : Int), .bool true]
            rw [Int.toNat_of_nonneg (by omega)]
      · have g1 : (s.f0 != 2) = true := by simp [h1]
        have e : idxF v.f3.length s = none := if_neg (by omega)
        repeat (first
          | (refine sel_yes ?_ ?_; (first | assumption | (simp only [beq_iff_eq, bne_iff_ne, beq_eq_false_iff_ne, bne_eq_false_iff_eq, decide_eq_true_eq, decide_eq_false_iff_not, Bool.not_eq_true', Bool.not_eq_false', ne_eq, beq_true, beq_false, bne_self_eq_false, not_true_eq_false, not_false_eq_true, gt_iff_lt, ge_iff_le, Int.not_lt, Int.not_le, Bool.true_eq_false, Bool.false_eq_true] <;> omega)); conv => whnf)
          | (refine sel_no ?_ ?_; (first | assumption | (simp only [beq_iff_eq, bne_iff_ne, beq_eq_false_iff_ne, bne_eq_false_iff_eq, decide_eq_true_eq, decide_eq_false_iff_not, Bool.not_eq_true', Bool.not_eq_false', ne_eq, beq_true, beq_false, bne_self_eq_false, not_true_eq_false, not_false_eq_true, gt_iff_lt, ge_iff_le, Int.not_lt, Int.not_le, Bool.true_eq_false, Bool.false_eq_true] <;> omega)); conv => whnf)
          | (refine ⟨le_rfl' ?_, ?_⟩; rfl; conv => whnf)
          | (refine ⟨⟨?_, ?_⟩, ?_⟩; omega; omega; conv => whnf)
          | (refine ⟨⟨?_, ?_, ?_⟩, ?_⟩; rfl; omega; omega; conv => whnf)
          | (refine ⟨rfl, ?_, ?_⟩; decide; conv => whnf))
        try exact rfl
        rw [e]; rfl
    · have g0 : (v.f0 != 4) = true := by simp [h0]
      rw [if_neg h0]
      repeat (first
        | (refine sel_yes ?_ ?_; (first | assumption | (simp only [beq_iff_eq, bne_iff_ne, beq_eq_false_iff_ne, bne_eq_false_iff_eq, decide_eq_true_eq, decide_eq_false_iff_not, Bool.not_eq_true', Bool.not_eq_false', ne_eq, beq_true, beq_false, bne_self_eq_false, not_true_eq_false, not_false_eq_true, gt_iff_lt, ge_iff_le, Int.not_lt, Int.not_le, Bool.true_eq_false, Bool.false_eq_true] <;> omega)); conv => whnf)
        | (refine sel_no ?_ ?_; (first | assumption | (simp only [beq_iff_eq, bne_iff_ne, beq_eq_false_iff_ne, bne_eq_false_iff_eq, decide_eq_true_eq, decide_eq_false_iff_not, Bool.not_eq_true', Bool.not_eq_false', ne_eq, beq_true, beq_false, bne_self_eq_false, not_true_eq_false, not_false_eq_true, gt_iff_lt, ge_iff_le, Int.not_lt, Int.not_le, Bool.true_eq_false, Bool.false_eq_true] <;> omega)); conv => whnf)
        | (refine ⟨le_rfl' ?_, ?_⟩; rfl; conv => whnf)
        | (refine ⟨⟨?_, ?_⟩, ?_⟩; omega; omega; conv => whnf)
        | (refine ⟨⟨?_, ?_, ?_⟩, ?_⟩; rfl; omega; omega; conv => whnf)
        | (refine ⟨rfl, ?_, ?_⟩; decide; conv => whnf))
      try exact rfl
  obtain ⟨r, h, rfl⟩ := key
  exact h
/-- a key's place, by the reference -/
theorem lrkey (hn : Non ext) (v s : T) (hl : v.f3.length ≤ 1048576) (hw : ∀ a ∈ v.f3, WfV a) (h6 : v.f0 = 6) (h2 : v.f3.length % 2 = 0) (Q : Ex → St → Prop) (d : Nat) :
    ∀ (i : Nat) (z : St), v.f3.length - i = d → i ≤ v.f3.length → i % 2 = 0 → Has z.t [(2, .ref 0 0), (3, .ref 1 0), (6, .int .i64 i)] → z.hp.n = 5 → Has z.hp.h [(0, some (.cells (cellsV v) false)), (1, some (.cells (cellsV s) false))] →
      (∀ (z' : St) (j : Nat), Has z'.t [(4, .int .i64 (j : Int)), (5, .bool true)] → linK (v.f3.drop i) s i = some j → Q .ret z') →
      (∀ z' : St, linK (v.f3.drop i) s i = none → Q (.exit 0) z') →
      Go.Ab.Loop (cfg ext) (lpOf Tryd.f71) 5 z Q := by
  induction d using Nat.strongRecOn with
  | ind d ih =>
    intro i z hd hi h2i ht hz hb hr hq
    have g0 : (v.f0 == 6) = true := by simp [h6]
    have e1 : IntKind.i64.wrap ((i : Int) + 1) = ((i + 1 : Nat) : Int) := wrapN (by omega) (by omega)
    rw [St.knows _ _ ht hz _ hb]
    by_cases hlt : i < v.f3.length
    · have hlt1 : i + 1 < v.f3.length := by omega
      have g : decide (IntKind.i64.wrap ((i : Int) + 1) < (v.f3.length : Int)) = true := decide_eq_true (by rw [e1]; omega)
      have eD : v.f3.drop i = v.f3[i] :: v.f3[i + 1] :: v.f3.drop (i + 2) := by rw [List.drop_eq_getElem_cons hlt, List.drop_eq_getElem_cons hlt1]
      have e2 : IntKind.i64.wrap ((i : Int) + 2) = ((i + 2 : Nat) : Int) := wrapN (by omega) (by omega)
      have hE := rsame hn v.f3[i] s (hw _ (List.getElem_mem hlt))
      refine Loop.round ?_
      conv => whnf
      repeat (first
        | (refine sel_yes ?_ ?_; (first | assumption | (simp only [beq_iff_eq, bne_iff_ne, beq_eq_false_iff_ne, bne_eq_false_iff_eq, decide_eq_true_eq, decide_eq_false_iff_not, Bool.not_eq_true', Bool.not_eq_false', ne_eq, beq_true, beq_false, bne_self_eq_false, not_true_eq_false, not_false_eq_true, gt_iff_lt, ge_iff_le, Int.not_lt, Int.not_le, Bool.true_eq_false, Bool.false_eq_true] <;> omega)); conv => whnf)
        | (refine sel_no ?_ ?_; (first | assumption | (simp only [beq_iff_eq, bne_iff_ne, beq_eq_false_iff_ne, bne_eq_false_iff_eq, decide_eq_true_eq, decide_eq_false_iff_not, Bool.not_eq_true', Bool.not_eq_false', ne_eq, beq_true, beq_false, bne_self_eq_false, not_true_eq_false, not_false_eq_true, gt_iff_lt, ge_iff_le, Int.not_lt, Int.not_le, Bool.true_eq_false, Bool.false_eq_true] <;> omega)); conv => whnf)
        | (refine ⟨le_rfl' ?_, ?_⟩; rfl; conv => whnf)
        | (refine ⟨⟨?_, ?_⟩, ?_⟩; omega; omega; conv => whnf)
        | (refine ⟨⟨?_, ?_, ?_⟩, ?_⟩; rfl; omega; omega; conv => whnf)
        | (refine ⟨rfl, ?_, ?_⟩; decide; conv => whnf))
      try exact rfl
      refine ldA (i := i) hlt ?_
      conv => whnf
      refine ⟨_, hE, ?_⟩
      conv => whnf
      by_cases hc : cmpV v.f3[i] s = 0
      · refine sel_yes (decide_eq_true hc) ?_
        conv => whnf
        refine hr _ i ⟨rfl, rfl, trivial⟩ ?_
        rw [eD]; unfold linK; rw [if_pos hc]
      · refine sel_no (decide_eq_false hc) ?_
        conv => whnf
        have eK : linK (v.f3.drop i) s i = linK (v.f3.drop (i + 2)) s (i + 2) := by
          conv => lhs; rw [eD]; unfold linK
          rw [if_neg hc]
        refine ih (v.f3.length - (i + 2)) (by omega) (i + 2) _ rfl (by omega) (by omega) ⟨rfl, rfl, ?_, trivial⟩ rfl ⟨rfl, rfl, trivial⟩ (fun z' j a b => hr z' j a (by rw [eK]; exact b)) (fun z' a => hq z' (by rw [eK]; exact a))
        conv => lhs; whnf
        exact vi e2
    · have g : decide (IntKind.i64.wrap ((i : Int) + 1) < (v.f3.length : Int)) = false := decide_eq_false (by rw [e1]; omega)
      have eN : v.f3.drop i = [] := List.drop_eq_nil_of_le (by omega)
      refine Loop.round ?_
      conv => whnf
      repeat (first
        | (refine sel_yes ?_ ?_; (first | assumption | (simp only [beq_iff_eq, bne_iff_ne, beq_eq_false_iff_ne, bne_eq_false_iff_eq, decide_eq_true_eq, decide_eq_false_iff_not, Bool.not_eq_true', Bool.not_eq_false', ne_eq, beq_true, beq_false, bne_self_eq_false, not_true_eq_false, not_false_eq_true, gt_iff_lt, ge_iff_le, Int.not_lt, Int.not_le, Bool.true_eq_false, Bool.false_eq_true] <;> omega)); conv => whnf)
        | (refine sel_no ?_ ?_; (first | assumption | (simp only [beq_iff_eq, bne_iff_ne, beq_eq_false_iff_ne, bne_eq_false_iff_eq, decide_eq_true_eq, decide_eq_false_iff_not, Bool.not_eq_true', Bool.not_eq_false', ne_eq, beq_true, beq_false, bne_self_eq_false, not_true_eq_false, not_false_eq_true, gt_iff_lt, ge_iff_le, Int.not_lt, Int.not_le, Bool.true_eq_false, Bool.false_eq_true] <;> omega)); conv => whnf)
        | (refine ⟨le_rfl' ?_, ?_⟩; rfl; conv => whnf)
        | (refine ⟨⟨?_, ?_⟩, ?_⟩; omega; omega; conv => whnf)
        | (refine ⟨⟨?_, ?_, ?_⟩, ?_⟩; rfl; omega; omega; conv => whnf)
        | (refine ⟨rfl, ?_, ?_⟩; decide; conv => whnf))
      try exact rfl
      exact hq _ (by rw [eN]; rfl)
theorem rkey6 (hn : Non ext) (v s : T) (hl : v.f3.length ≤ 1048576) (hw : ∀ a ∈ v.f3, WfV a) (h6 : v.f0 = 6) (h2 : v.f3.length % 2 = 0) : (cfg ext).Ev 71 [A v, A s] (numV (linK v.f3 s 0)) := by
  have key : ∃ r, (cfg ext).Ev 71 [A v, A s] r ∧ r = numV (linK v.f3 s 0) := by
    refine Ev.ofE (hn 71 (by decide) (by decide)) Tryd.func71 rfl rfl ?_
    conv => whnf
    refine lrkey hn v s hl hw h6 h2 _ v.f3.length 0 _ (by omega) (by omega) rfl ⟨rfl, rfl, rfl, trivial⟩ rfl ⟨rfl, rfl, trivial⟩ (fun z j a b => ?_) (fun z a => ?_)
    · simp only [List.drop_zero] at b
      obtain ⟨a1, a2, _⟩ := a
      obtain ⟨t, h⟩ := z
      simp only at a1 a2
      rw [St.knowsT0 (s := ⟨t, h⟩) [(4, _), (5, _)] ⟨a1, a2, trivial⟩]
      conv => whnf
      rw [b]; rfl
    · simp only [List.drop_zero] at a
      conv => whnf
      rw [a]; rfl
  obtain ⟨r, h, rfl⟩ := key
  exact h
theorem rkeyN (hn : Non ext) (v s : T) (h6 : v.f0 ≠ 6) : (cfg ext).Ev 71 [A v, A s] (numV none) := by
  have key : ∃ r, (cfg ext).Ev 71 [A v, A s] r ∧ r = numV none := by
    have g0 : (v.f0 == 6) = false := by simp [h6]
    refine Ev.ofE (hn 71 (by decide) (by decide)) Tryd.func71 rfl rfl ?_
    conv => whnf
    refine Loop.round ?_
    conv => whnf
    repeat (first
      | (refine sel_yes ?_ ?_; (first | assumption | (simp only [beq_iff_eq, bne_iff_ne, beq_eq_false_iff_ne, bne_eq_false_iff_eq, decide_eq_true_eq, decide_eq_false_iff_not, Bool.not_eq_true', Bool.not_eq_false', ne_eq, beq_true, beq_false, bne_self_eq_false, not_true_eq_false, not_false_eq_true, gt_iff_lt, ge_iff_le, Int.not_lt, Int.not_le, Bool.true_eq_false, Bool.false_eq_true] <;> omega)); conv => whnf)
      | (refine sel_no ?_ ?_; (first | assumption | (simp only [beq_iff_eq, bne_iff_ne, beq_eq_false_iff_ne, bne_eq_false_iff_eq, decide_eq_true_eq, decide_eq_false_iff_not, Bool.not_eq_true', Bool.not_eq_false', ne_eq, beq_true, beq_false, bne_self_eq_false, not_true_eq_false, not_false_eq_true, gt_iff_lt, ge_iff_le, Int.not_lt, Int.not_le, Bool.true_eq_false, Bool.false_eq_true] <;> omega)); conv => whnf)
      | (refine ⟨le_rfl' ?_, ?_⟩; rfl; conv => whnf)
      | (refine ⟨⟨?_, ?_⟩, ?_⟩; omega; omega; conv => whnf)
      | (refine ⟨⟨?_, ?_, ?_⟩, ?_⟩; rfl; omega; omega; conv => whnf)
      | (refine ⟨rfl, ?_, ?_⟩; decide; conv => whnf))
    try exact rfl
  obtain ⟨r, h, rfl⟩ := key
  exact h
/-- a member's place, by the reference -/
theorem lrmem (hn : Non ext) (v s : T) (hl : v.f3.length ≤ 1048576) (hw : ∀ a ∈ v.f3, WfV a) (h5 : v.f0 = 5) (Q : Ex → St → Prop) (d : Nat) :
    ∀ (i : Nat) (z : St), v.f3.length - i = d → i ≤ v.f3.length → Has z.t [(2, .ref 0 0), (3, .ref 1 0), (6, .int .i64 i)] → z.hp.n = 5 → Has z.hp.h [(0, some (.cells (cellsV v) false)), (1, some (.cells (cellsV s) false))] →
      (∀ (z' : St) (j : Nat), Has z'.t [(4, .int .i64 (j : Int)), (5, .bool true)] → linM (v.f3.drop i) s i = some j → Q .ret z') →
      (∀ z' : St, linM (v.f3.drop i) s i = none → Q (.exit 0) z') →
      Go.Ab.Loop (cfg ext) (lpOf Tryd.f72) 5 z Q := by
  induction d with
  | zero =>
    intro i z hd hi ht hz hb hr hq
    have g0 : (v.f0 == 5) = true := by simp [h5]
    have g : decide ((i : Int) < (v.f3.length : Int)) = false := decide_eq_false (by omega)
    have eN : v.f3.drop i = [] := List.drop_eq_nil_of_le (by omega)
    rw [St.knows _ _ ht hz _ hb]
    refine Loop.round ?_
    conv => whnf
    repeat (first
      | (refine sel_yes ?_ ?_; (first | assumption | (simp only [beq_iff_eq, bne_iff_ne, beq_eq_false_iff_ne, bne_eq_false_iff_eq, decide_eq_true_eq, decide_eq_false_iff_not, Bool.not_eq_true', Bool.not_eq_false', ne_eq, beq_true, beq_false, bne_self_eq_false, not_true_eq_false, not_false_eq_true, gt_iff_lt, ge_iff_le, Int.not_lt, Int.not_le, Bool.true_eq_false, Bool.false_eq_true] <;> omega)); conv => whnf)
      | (refine sel_no ?_ ?_; (first | assumption | (simp only [beq_iff_eq, bne_iff_ne, beq_eq_false_iff_ne, bne_eq_false_iff_eq, decide_eq_true_eq, decide_eq_false_iff_not, Bool.not_eq_true', Bool.not_eq_false', ne_eq, beq_true, beq_false, bne_self_eq_false, not_true_eq_false, not_false_eq_true, gt_iff_lt, ge_iff_le, Int.not_lt, Int.not_le, Bool.true_eq_false, Bool.false_eq_true] <;> omega)); conv => whnf)
      | (refine ⟨le_rfl' ?_, ?_⟩; rfl; conv => whnf)
      | (refine ⟨⟨?_, ?_⟩, ?_⟩; omega; omega; conv => whnf)
      | (refine ⟨⟨?_, ?_, ?_⟩, ?_⟩; rfl; omega; omega; conv => whnf)
      | (refine ⟨rfl, ?_, ?_⟩; decide; conv => whnf))
    try exact rfl
    exact hq _ (by rw [eN]; rfl)
  | succ d ih =>
    intro i z hd hi ht hz hb hr hq
    have g0 : (v.f0 == 5) = true := by simp [h5]
    have hlt : i < v.f3.length := by omega
    have g : decide ((i : Int) < (v.f3.length : Int)) = true := decide_eq_true (by omega)
    have eD := List.drop_eq_getElem_cons hlt
    have e2 : IntKind.i64.wrap ((i : Int) + 1) = ((i + 1 : Nat) : Int) := wrapN (by omega) (by omega)
    have hE := rsame hn v.f3[i] s (hw _ (List.getElem_mem hlt))
    rw [St.knows _ _ ht hz _ hb]
    refine Loop.round ?_
    conv => whnf
    repeat (first
      | (refine sel_yes ?_ ?_; (first | assumption | (simp only [beq_iff_eq, bne_iff_ne, beq_eq_false_iff_ne, bne_eq_false_iff_eq, decide_eq_true_eq, decide_eq_false_iff_not, Bool.not_eq_true', Bool.not_eq_false', ne_eq, beq_true, beq_false, bne_self_eq_false, not_true_eq_false, not_false_eq_true, gt_iff_lt, ge_iff_le, Int.not_lt, Int.not_le, Bool.true_eq_false, Bool.false_eq_true] <;> omega)); conv => whnf)
      | (refine sel_no ?_ ?_; (first | assumption | (simp only [beq_iff_eq, bne_iff_ne, beq_eq_false_iff_ne, bne_eq_false_iff_eq, decide_eq_true_eq, decide_eq_false_iff_not, Bool.not_eq_true', Bool.not_eq_false', ne_eq, beq_true, beq_false, bne_self_eq_false, not_true_eq_false, not_false_eq_true, gt_iff_lt, ge_iff_le, Int.not_lt, Int.not_le, Bool.true_eq_false, Bool.false_eq_true] <;> omega)); conv => whnf)
      | (refine ⟨le_rfl' ?_, ?_⟩; rfl; conv => whnf)
      | (refine ⟨⟨?_, ?_⟩, ?_⟩; omega; omega; conv => whnf)
      | (refine ⟨⟨?_, ?_, ?_⟩, ?_⟩; rfl; omega; omega; conv => whnf)
      | (refine ⟨rfl, ?_, ?_⟩; decide; conv => whnf))
    try exact rfl
    refine ldA (i := i) hlt ?_
    conv => whnf
    refine ⟨_, hE, ?_⟩
    conv => whnf
    by_cases hc : cmpV v.f3[i] s = 0
    · refine sel_yes (decide_eq_true hc) ?_
      conv => whnf
      refine hr _ i ⟨rfl, rfl, trivial⟩ ?_
      rw [eD]; unfold linM; rw [if_pos hc]
    · refine sel_no (decide_eq_false hc) ?_
      conv => whnf
      have eK : linM (v.f3.drop i) s i = linM (v.f3.drop (i + 1)) s (i + 1) := by
        conv => lhs; rw [eD]; unfold linM
        rw [if_neg hc]
      refine ih (i + 1) _ (by omega) (by omega) ⟨rfl, rfl, ?_, trivial⟩ rfl ⟨rfl, rfl, trivial⟩ (fun z' j a b => hr z' j a (by rw [eK]; exact b)) (fun z' a => hq z' (by rw [eK]; exact a))
      conv => lhs; whnf
      exact vi e2
theorem rmem5 (hn : Non ext) (v s : T) (hl : v.f3.length ≤ 1048576) (hw : ∀ a ∈ v.f3, WfV a) (h5 : v.f0 = 5) : (cfg ext).Ev 72 [A v, A s] (numV (linM v.f3 s 0)) := by
  have key : ∃ r, (cfg ext).Ev 72 [A v, A s] r ∧ r = numV (linM v.f3 s 0) := by
    refine Ev.ofE (hn 72 (by decide) (by decide)) Tryd.func72 rfl rfl ?_
    conv => whnf
    refine lrmem hn v s hl hw h5 _ v.f3.length 0 _ (by omega) (by omega) ⟨rfl, rfl, rfl, trivial⟩ rfl ⟨rfl, rfl, trivial⟩ (fun z j a b => ?_) (fun z a => ?_)
    · simp only [List.drop_zero] at b
      obtain ⟨a1, a2, _⟩ := a
      obtain ⟨t, h⟩ := z
      simp only at a1 a2
      rw [St.knowsT0 (s := ⟨t, h⟩) [(4, _), (5, _)] ⟨a1, a2, trivial⟩]
      conv => whnf
      rw [b]; rfl
    · simp only [List.drop_zero] at a
      conv => whnf
      rw [a]; rfl
  obtain ⟨r, h, rfl⟩ := key
  exact h
theorem rmemN (hn : Non ext) (v s : T) (h5 : v.f0 ≠ 5) : (cfg ext).Ev 72 [A v, A s] (numV none) := by
  have key : ∃ r, (cfg ext).Ev 72 [A v, A s] r ∧ r = numV none := by
    have g0 : (v.f0 == 5) = false := by simp [h5]
    refine Ev.ofE (hn 72 (by decide) (by decide)) Tryd.func72 rfl rfl ?_
    conv => whnf
    refine Loop.round ?_
    conv => whnf
    repeat (first
      | (refine sel_yes ?_ ?_; (first | assumption | (simp only [beq_iff_eq, bne_iff_ne, beq_eq_false_iff_ne, bne_eq_false_iff_eq, decide_eq_true_eq, decide_eq_false_iff_not, Bool.not_eq_true', Bool.not_eq_false', ne_eq, beq_true, beq_false, bne_self_eq_false, not_true_eq_false, not_false_eq_true, gt_iff_lt, ge_iff_le, Int.not_lt, Int.not_le, Bool.true_eq_false, Bool.false_eq_true] <;> omega)); conv => whnf)
      | (refine sel_no ?_ ?_; (first | assumption | (simp only [beq_iff_eq, bne_iff_ne, beq_eq_false_iff_ne, bne_eq_false_iff_eq, decide_eq_true_eq, decide_eq_false_iff_not, Bool.not_eq_true', Bool.not_eq_false', ne_eq, beq_true, beq_false, bne_self_eq_false, not_true_eq_false, not_false_eq_true, gt_iff_lt, ge_iff_le, Int.not_lt, Int.not_le, Bool.true_eq_false, Bool.false_eq_true] <;> omega)); conv => whnf)
      | (refine ⟨le_rfl' ?_, ?_⟩; rfl; conv => whnf)
      | (refine ⟨⟨?_, ?_⟩, ?_⟩; omega; omega; conv => whnf)
      | (refine ⟨⟨?_, ?_, ?_⟩, ?_⟩; rfl; omega; omega; conv => whnf)
      | (refine ⟨rfl, ?_, ?_⟩; decide; conv => whnf))
    try exact rfl
  obtain ⟨r, h, rfl⟩ := key
  exact h
end
end Go.Proofs.YtjfjagnnefmepaaDoor.AB
end

section
set_option linter.unusedVariables false
set_option linter.unusedSimpArgs false
open Go Go.Ab Go.Proofs Go.Vl
namespace Go.Proofs.YtjfjagnnefmepaaDoor.AB
set_option maxRecDepth 100000
set_option maxHeartbeats 8000000
set_option linter.unusedSimpArgs false
set_option linter.unusedVariables false
section
variable {ext : Exts}
theorem slTail {P : Program} {t e : Nat} {s : T} {p : List T} (ht : tslice P t = some e) (h4 : tsize P e = 4) : sliceV P t (.sl false (encL (s :: p)) (s :: p).length) (some (.int .i64 1)) (some (.int .i64 (s :: p).length)) (some (.int .i64 (s :: p).length)) = some (.sl true (encL p) p.length) := by
  have hb : (0 : Int) ≤ ((s :: p).length : Int) ∧ ((s :: p).length : Int) ≤ ((s :: p).length : Int) := by omega
  have hb1 : (0 : Int) ≤ 1 ∧ (1 : Int) ≤ (((s :: p).length : Nat) : Int) := by simp only [List.length_cons]; omega
  have hb2 : ((s :: p).length : Int).toNat = (s :: p).length := by simp
  simp only [sliceV, ht, bounds, boundO, bound, if_pos hb, Option.bind_some, Int.toNat_natCast, if_pos hb1, h4, clip]
  have e1 : sub (encL (s :: p)) ((1 : Int).toNat * 4) (((s :: p).length - (1 : Int).toNat) * 4) = encL p := by
    have : (1 : Int).toNat = 1 := rfl
    rw [this]
    unfold sub
    rw [encL_drop, List.drop_succ_cons, List.drop_zero, List.take_of_length_le]
    rw [encL_len, List.length_cons]; omega
  rw [e1]
  simp
theorem tsV : tslice Tryd.prog 22 = some 24 := by kernel_rfl
theorem szV : tsize Tryd.prog 24 = 4 := by kernel_rfl
theorem ld0 {s : T} {p : List T} {Q : V → Prop} (hq : Q (A s)) : (0 : Int).toNat * 4 + 4 ≤ (encL (s :: p)).length ∧ opt (one (some true) (sub (encL (s :: p)) ((0 : Int).toNat * 4) 4)) fun v => fv v Q := ldA (l := s :: p) (i := 0) (by simp) hq
theorem bnd0 {s : T} {p : List T} : (0 : Int) ≤ 0 ∧ (0 : Int) < ((s :: p).length : Int) := by simp <;> omega
theorem nil_good : Good nilT := by
  refine ⟨?_, okB_iff.2 ⟨?_, by decide, by decide⟩⟩
  · unfold nilT; simp [WfV, WfL, In64]
    exact Nat.zero_le _
  · rw [okV_eq]
    refine ⟨?_, ?_, trivial⟩
    · unfold PlainV; simp [nilT]
    · unfold FormV; simp [nilT]
theorem EvR.extR {C : Cfg} {f : Nat} {g : List V → Hp → Option (V × Hp)} {xs : List V} {hp hp' : Hp} {r : V} (h1 : C.okF f = false) (h2 : C.extR f = some g) (h3 : g xs hp = some (r, hp')) : C.EvR f xs hp r hp' := by
  refine ⟨1, fun k hk => ?_⟩
  obtain ⟨k, rfl⟩ : ∃ m, k = m + 1 := ⟨k - 1, by omega⟩
  simp only [Cfg.R, evalR, h1, if_true, h2, h3]
/-! ### an array of values, read and written -/
theorem encL_take : ∀ (l : List T) (i : Nat), (encL l).take (i * 4) = encL (l.take i)
  | l, 0 => by simp [encL]
  | [], i + 1 => by simp [encL]
  | v :: l, i + 1 => by
    have : (i + 1) * 4 = 4 + i * 4 := by omega
    rw [this, List.take_succ_cons]
    simp only [encL, enc_eq]
    rw [← encL_take l i]
    simp [List.take_add]
theorem encL_app : ∀ (l m : List T), encL (l ++ m) = encL l ++ encL m
  | [], m => by simp [encL]
  | v :: l, m => by simp only [List.cons_append, encL, encL_app l m, List.append_assoc]
theorem fill_set {l : List T} {k : Nat} (x : T) (h : k < l.length) : fillL (encL l) (k * 4) (enc x) = encL (l.set k x) := by
  have e4 : (enc x).length = 4 := by rw [enc_eq]; rfl
  unfold fillL
  rw [e4, show k * 4 + 4 = (k + 1) * 4 by omega, encL_take, encL_drop, List.set_eq_take_append_cons_drop, if_pos h, encL_app]
  simp only [encL, List.append_assoc]
theorem ldR {hp : Hp} {lim : Option (Nat × Nat)} {b v ro : Nat} {l : List T} {cap : Option Nat} {e : Int} {k : Nat} {x : T} {Q : V → Prop} (h : hp.a b = some ⟨v, 4, encL l, cap, ro⟩) (hl : ∀ m, lim = some m → b < m.2) (he : e = (k : Int)) (hx : l[k]? = some x) (hq : Q (A x)) :
    opt (Go.Ab.look lim hp (.aref b v (0 + e.toNat * 4)) 4) fun cs => opt (one (some true) cs) fun v => fv v Q := by
  subst he
  have hk : k < l.length := (List.getElem?_eq_some_iff.1 hx).1
  have e0 : l[k] = x := (List.getElem?_eq_some_iff.1 hx).2
  refine opt_look h hl (by rw [encL_len]; simp; omega) ?_
  rw [show 0 + (k : Int).toNat * 4 = k * 4 by simp, subL hk, oneA, e0]
  exact (fv_eq _ _).2 hq
theorem stR {hp : Hp} {b v : Nat} {l : List T} {cap : Option Nat} {e : Int} {k : Nat} {x : T} {Q : V × Hp → Prop} (h : hp.a b = some ⟨v, 4, encL l, cap, 0⟩) (he : e = (k : Int)) (hk : k < l.length)
    (q : ∀ a', a' b = some ⟨v, 4, encL (l.set k x), cap, 0⟩ → Q (.tup [], ⟨hp.h, hp.n, a', hp.m⟩)) :
    opt ((storeV hp (.aref b v (0 + e.toNat * 4)) [.int .i64 x.f0, .int .i64 x.f1, .str x.f2, .sl false (encL x.f3) x.f3.length]).bind fun hp' => some (.tup [], hp')) Q := by
  subst he
  refine opt_store h (Nat.zero_le _) (by rw [encL_len]; simp; omega) (fun a' h1 _ => q a' ?_)
  rw [h1, show 0 + (k : Int).toNat * 4 = k * 4 by simp, ← enc_eq, fill_set x hk]
theorem map_encL (n : Nat) : ∀ l : List T, (encL l).map (cleanV n) = encL l
  | [] => by simp [encL]
  | v :: l => by simp only [encL, List.map_append, map_encL n l, enc_eq, List.map_cons, List.map_nil]; rfl
theorem encC : ∀ (l : List T), ∀ c ∈ encL l, cold c = true
  | [], c, h => by simp [encL] at h
  | v :: l, c, h => by
    simp only [encL, enc_eq, List.mem_append] at h
    rcases h with h | h
    · simp at h; rcases h with rfl | rfl | rfl | rfl <;> rfl
    · exact encC l c h
theorem clone_use {l : List T} {c : Bool} {hp : Hp} {Q : V → Hp → Prop} (hl : l.length ≤ 1000000) (q0 : l = [] → Q (.sl true [] 0) ⟨hp.h, hp.n + 7, hp.a, hp.m + 7⟩) (q1 : 0 < l.length → ∀ a', a' (hp.m + 5) = some ⟨0, 4, encL l, none, 0⟩ → Q (.rsl false (hp.m + 5) 0 0 l.length) ⟨hp.h, hp.n + 7, a', hp.m + 7⟩) :
    ∃ r hp', (cfg ext).EvR 56 [.sl c (encL l) l.length] hp r hp' ∧ Q r hp' := by
  cases l with
  | nil =>
    refine ⟨_, _, EvR.extR (g := cloneR 4 56) rfl rfl ?_, q0 rfl⟩
    rfl
  | cons v l =>
    have hlen := encL_len (v :: l)
    refine ⟨.rsl false (hp.m + 5) 0 0 (v :: l).length, ⟨hp.h, hp.n + 7, upd hp.a (hp.m + 5) (some ⟨0, 4, encL (v :: l), none, 0⟩), hp.m + 7⟩, EvR.extR (g := cloneR 4 56) rfl rfl ?_, q1 (by simp) _ (upd_is _ _ _)⟩
    have hc : content none hp 4 (.sl c (encL (v :: l)) (v :: l).length) = some (encL (v :: l), l.length + 1) := by
      simp only [content]
      rw [if_pos hlen]; rfl
    show (match content none hp 4 (.sl c (encL (v :: l)) (v :: l).length) with
      | some (_, 0) => some (V.sl true [] 0, (⟨hp.h, hp.n + 7, hp.a, hp.m + 7⟩ : Hp))
      | some (cs, n + 1) => if (n + 1) * 56 ≤ maxRoom ∧ n + 1 ≤ maxRoom then some (V.rsl false (hp.m + 5) 0 0 (n + 1), (⟨hp.h, hp.n + 7, upd hp.a (hp.m + 5) (some ⟨0, 4, cs, none, 0⟩), hp.m + 7⟩ : Hp)) else none
      | none => none) = _
    rw [hc]
    simp only [List.length_cons] at hl ⊢
    rw [if_pos (by unfold maxRoom; omega)]
/-- put: nothing to put under -/
theorem tput0 (hn : Non ext) (v x : T) : (cfg ext).Ev 29 [A v, .sl false [] 0, A x] (A x) := by
  refine Ev.of (hn 29 (by decide) (by decide)) Tryd.func29 rfl rfl ?_
  conv => whnf
  repeat (first
    | (refine sel_yes ?_ ?_; (first | assumption | (simp only [beq_iff_eq, bne_iff_ne, beq_eq_false_iff_ne, bne_eq_false_iff_eq, decide_eq_true_eq, decide_eq_false_iff_not, Bool.not_eq_true', Bool.not_eq_false', ne_eq, beq_true, beq_false, bne_self_eq_false, not_true_eq_false, not_false_eq_true, gt_iff_lt, ge_iff_le, Int.not_lt, Int.not_le, Bool.true_eq_false, Bool.false_eq_true] <;> omega)); conv => whnf)
    | (refine sel_no ?_ ?_; (first | assumption | (simp only [beq_iff_eq, bne_iff_ne, beq_eq_false_iff_ne, bne_eq_false_iff_eq, decide_eq_true_eq, decide_eq_false_iff_not, Bool.not_eq_true', Bool.not_eq_false', ne_eq, beq_true, beq_false, bne_self_eq_false, not_true_eq_false, not_false_eq_true, gt_iff_lt, ge_iff_le, Int.not_lt, Int.not_le, Bool.true_eq_false, Bool.false_eq_true] <;> omega)); conv => whnf)
    | (refine ⟨le_rfl' ?_, ?_⟩; rfl; conv => whnf)
    | (refine ⟨⟨?_, ?_⟩, ?_⟩; omega; omega; conv => whnf)
    | (refine ⟨⟨?_, ?_, ?_⟩, ?_⟩; rfl; omega; omega; conv => whnf)
    | (refine ⟨rfl, ?_, ?_⟩; decide; conv => whnf))
  try exact rfl
end
end Go.Proofs.YtjfjagnnefmepaaDoor.AB
end

section
set_option linter.unusedVariables false
set_option linter.unusedSimpArgs false
open Go Go.Ab Go.Proofs Go.Vl
namespace Go.Proofs.YtjfjagnnefmepaaDoor.AB
set_option maxRecDepth 100000
set_option maxHeartbeats 8000000
set_option linter.unusedSimpArgs false
set_option linter.unusedVariables false
section
variable {ext : Exts}
/-- the reference's part of a value -/
theorem rpart (hn : Non ext) (v s : T) (hv : Good v) (hs : Good s) : (cfg ext).Ev 62 [A v, A s] (optV (partF v s)) := by
  have hI := rindex (ext := ext) hn v s
  have hl := hv.row.len
  have key : ∃ r, (cfg ext).Ev 62 [A v, A s] r ∧ r = optV (partF v s) := by
    refine Ev.ofE (hn 62 (by decide) (by decide)) Tryd.func62 rfl rfl ?_
    by_cases h4 : v.f0 = 4
    · have hk := rkeyN (ext := ext) hn v s (by omega)
      have hm := rmemN (ext := ext) hn v s (by omega)
      rw [if_pos h4] at hI
      have e0 : partF v s = match idxF v.f3.length s with | some i => v.f3[i]? | none => none := by unfold partF; rw [if_neg (by omega), if_pos h4]; rfl
      cases hx : idxF v.f3.length s with
      | none =>
        rw [hx] at hI e0
        conv => whnf
        repeat (first
          | (refine sel_yes ?_ ?_; (first | assumption | (simp only [beq_iff_eq, bne_iff_ne, beq_eq_false_iff_ne, bne_eq_false_iff_eq, decide_eq_true_eq, decide_eq_false_iff_not, Bool.not_eq_true', Bool.not_eq_false', ne_eq, beq_true, beq_false, bne_self_eq_false, not_true_eq_false, not_false_eq_true, gt_iff_lt, ge_iff_le, Int.not_lt, Int.not_le, Bool.true_eq_false, Bool.false_eq_true] <;> omega)); conv => whnf)
          | (refine sel_no ?_ ?_; (first | assumption | (simp only [beq_iff_eq, bne_iff_ne, beq_eq_false_iff_ne, bne_eq_false_iff_eq, decide_eq_true_eq, decide_eq_false_iff_not, Bool.not_eq_true', Bool.not_eq_false', ne_eq, beq_true, beq_false, bne_self_eq_false, not_true_eq_false, not_false_eq_true, gt_iff_lt, ge_iff_le, Int.not_lt, Int.not_le, Bool.true_eq_false, Bool.false_eq_true] <;> omega)); conv => whnf)
          | (refine ⟨_, hI, ?_⟩; conv => whnf)
          | (refine ⟨_, hk, ?_⟩; conv => whnf)
          | (refine ⟨_, hm, ?_⟩; conv => whnf)
          | (refine ⟨le_rfl' ?_, ?_⟩; rfl; conv => whnf)
          | (refine ⟨⟨?_, ?_⟩, ?_⟩; omega; omega; conv => whnf)
          | (refine ⟨⟨?_, ?_, ?_⟩, ?_⟩; rfl; omega; omega; conv => whnf)
          | (refine ⟨rfl, ?_, ?_⟩; decide; conv => whnf))
        try exact rfl
        exact congrArg optV e0.symm
      | some i =>
        rw [hx] at hI e0
        have hb : i < v.f3.length := by
          unfold idxF at hx
          split at hx <;> cases hx
          omega
        have e : partF v s = some v.f3[i] := e0.trans (List.getElem?_eq_getElem hb)
        conv => whnf
        repeat (first
          | (refine sel_yes ?_ ?_; (first | assumption | (simp only [beq_iff_eq, bne_iff_ne, beq_eq_false_iff_ne, bne_eq_false_iff_eq, decide_eq_true_eq, decide_eq_false_iff_not, Bool.not_eq_true', Bool.not_eq_false', ne_eq, beq_true, beq_false, bne_self_eq_false, not_true_eq_false, not_false_eq_true, gt_iff_lt, ge_iff_le, Int.not_lt, Int.not_le, Bool.true_eq_false, Bool.false_eq_true] <;> omega)); conv => whnf)
          | (refine sel_no ?_ ?_; (first | assumption | (simp only [beq_iff_eq, bne_iff_ne, beq_eq_false_iff_ne, bne_eq_false_iff_eq, decide_eq_true_eq, decide_eq_false_iff_not, Bool.not_eq_true', Bool.not_eq_false', ne_eq, beq_true, beq_false, bne_self_eq_false, not_true_eq_false, not_false_eq_true, gt_iff_lt, ge_iff_le, Int.not_lt, Int.not_le, Bool.true_eq_false, Bool.false_eq_true] <;> omega)); conv => whnf)
          | (refine ⟨_, hI, ?_⟩; conv => whnf)
          | (refine ⟨le_rfl' ?_, ?_⟩; rfl; conv => whnf)
          | (refine ⟨⟨?_, ?_⟩, ?_⟩; omega; omega; conv => whnf)
          | (refine ⟨⟨?_, ?_, ?_⟩, ?_⟩; rfl; omega; omega; conv => whnf)
          | (refine ⟨rfl, ?_, ?_⟩; decide; conv => whnf))
        try exact rfl
        refine ldAx rfl hb ?_
        conv => whnf
        exact congrArg optV e.symm
    · rw [if_neg h4] at hI
      by_cases h6 : v.f0 = 6
      · have h2 := hv.row.even h6
        have hm := rmemN (ext := ext) hn v s (by omega)
        have hk := rkey6 hn v s hl hv.row.wfl h6 h2
        rw [linK_key s hs.shp v.f3 0 (fun a ha => (hv.item ha).shp) h2 (rise_inc _ (fun a ha => (hv.item ha).shp) (hv.rise h6))] at hk
        cases hx : (keyF v.f3 s).2 with
        | false =>
          rw [hx] at hk
          have e : partF v s = none := by unfold partF; rw [if_pos h6, hx]; rfl
          conv => whnf
          repeat (first
            | (refine sel_yes ?_ ?_; (first | assumption | (simp only [beq_iff_eq, bne_iff_ne, beq_eq_false_iff_ne, bne_eq_false_iff_eq, decide_eq_true_eq, decide_eq_false_iff_not, Bool.not_eq_true', Bool.not_eq_false', ne_eq, beq_true, beq_false, bne_self_eq_false, not_true_eq_false, not_false_eq_true, gt_iff_lt, ge_iff_le, Int.not_lt, Int.not_le, Bool.true_eq_false, Bool.false_eq_true] <;> omega)); conv => whnf)
            | (refine sel_no ?_ ?_; (first | assumption | (simp only [beq_iff_eq, bne_iff_ne, beq_eq_false_iff_ne, bne_eq_false_iff_eq, decide_eq_true_eq, decide_eq_false_iff_not, Bool.not_eq_true', Bool.not_eq_false', ne_eq, beq_true, beq_false, bne_self_eq_false, not_true_eq_false, not_false_eq_true, gt_iff_lt, ge_iff_le, Int.not_lt, Int.not_le, Bool.true_eq_false, Bool.false_eq_true] <;> omega)); conv => whnf)
            | (refine ⟨_, hI, ?_⟩; conv => whnf)
            | (refine ⟨_, hk, ?_⟩; conv => whnf)
            | (refine ⟨_, hm, ?_⟩; conv => whnf)
            | (refine ⟨le_rfl' ?_, ?_⟩; rfl; conv => whnf)
            | (refine ⟨⟨?_, ?_⟩, ?_⟩; omega; omega; conv => whnf)
            | (refine ⟨⟨?_, ?_, ?_⟩, ?_⟩; rfl; omega; omega; conv => whnf)
            | (refine ⟨rfl, ?_, ?_⟩; decide; conv => whnf))
          try exact rfl
          exact congrArg optV e.symm
        | true =>
          rw [hx, if_pos rfl] at hk
          have hb : (keyF v.f3 s).1 + 1 < v.f3.length := keyF_lt v.f3 s hx
          have e : partF v s = some (v.f3[(keyF v.f3 s).1 + 1]) := by
            unfold partF; rw [if_pos h6, hx, if_pos rfl, List.getElem?_eq_getElem hb]
          rw [Nat.zero_add] at hk
          have e1 : IntKind.i64.wrap ((((keyF v.f3 s).1 : Nat) : Int) + 1) = (((keyF v.f3 s).1 + 1 : Nat) : Int) := wrapN (by omega) (by omega)
          conv => whnf
          repeat (first
            | (refine sel_yes ?_ ?_; (first | assumption | (simp only [beq_iff_eq, bne_iff_ne, beq_eq_false_iff_ne, bne_eq_false_iff_eq, decide_eq_true_eq, decide_eq_false_iff_not, Bool.not_eq_true', Bool.not_eq_false', ne_eq, beq_true, beq_false, bne_self_eq_false, not_true_eq_false, not_false_eq_true, gt_iff_lt, ge_iff_le, Int.not_lt, Int.not_le, Bool.true_eq_false, Bool.false_eq_true] <;> omega)); conv => whnf)
            | (refine sel_no ?_ ?_; (first | assumption | (simp only [beq_iff_eq, bne_iff_ne, beq_eq_false_iff_ne, bne_eq_false_iff_eq, decide_eq_true_eq, decide_eq_false_iff_not, Bool.not_eq_true', Bool.not_eq_false', ne_eq, beq_true, beq_false, bne_self_eq_false, not_true_eq_false, not_false_eq_true, gt_iff_lt, ge_iff_le, Int.not_lt, Int.not_le, Bool.true_eq_false, Bool.false_eq_true] <;> omega)); conv => whnf)
            | (refine ⟨_, hI, ?_⟩; conv => whnf)
            | (refine ⟨_, hk, ?_⟩; conv => whnf)
            | (refine ⟨le_rfl' ?_, ?_⟩; rfl; conv => whnf)
            | (refine ⟨⟨?_, ?_⟩, ?_⟩; omega; omega; conv => whnf)
            | (refine ⟨⟨?_, ?_, ?_⟩, ?_⟩; rfl; omega; omega; conv => whnf)
            | (refine ⟨rfl, ?_, ?_⟩; decide; conv => whnf))
          try exact rfl
          refine ldAx e1 hb ?_
          conv => whnf
          exact congrArg optV e.symm
      · have hk := rkeyN (ext := ext) hn v s h6
        by_cases h5 : v.f0 = 5
        · have hm := rmem5 hn v s hl hv.row.wfl h5
          have ha := linM_any s v.f3 0
          have e0 : partF v s = if (v.f3.any fun x => decide (cmpV x s = 0)) = true then some s else none := by unfold partF; rw [if_neg h6, if_neg h4, if_pos h5]
          rw [← ha] at e0
          cases hx : linM v.f3 s 0 with
          | none =>
            rw [hx] at hm e0
            conv => whnf
            repeat (first
              | (refine sel_yes ?_ ?_; (first | assumption | (simp only [beq_iff_eq, bne_iff_ne, beq_eq_false_iff_ne, bne_eq_false_iff_eq, decide_eq_true_eq, decide_eq_false_iff_not, Bool.not_eq_true', Bool.not_eq_false', ne_eq, beq_true, beq_false, bne_self_eq_false, not_true_eq_false, not_false_eq_true, gt_iff_lt, ge_iff_le, Int.not_lt, Int.not_le, Bool.true_eq_false, Bool.false_eq_true] <;> omega)); conv => whnf)
              | (refine sel_no ?_ ?_; (first | assumption | (simp only [beq_iff_eq, bne_iff_ne, beq_eq_false_iff_ne, bne_eq_false_iff_eq, decide_eq_true_eq, decide_eq_false_iff_not, Bool.not_eq_true', Bool.not_eq_false', ne_eq, beq_true, beq_false, bne_self_eq_false, not_true_eq_false, not_false_eq_true, gt_iff_lt, ge_iff_le, Int.not_lt, Int.not_le, Bool.true_eq_false, Bool.false_eq_true] <;> omega)); conv => whnf)
              | (refine ⟨_, hI, ?_⟩; conv => whnf)
              | (refine ⟨_, hk, ?_⟩; conv => whnf)
              | (refine ⟨_, hm, ?_⟩; conv => whnf)
              | (refine ⟨le_rfl' ?_, ?_⟩; rfl; conv => whnf)
              | (refine ⟨⟨?_, ?_⟩, ?_⟩; omega; omega; conv => whnf)
              | (refine ⟨⟨?_, ?_, ?_⟩, ?_⟩; rfl; omega; omega; conv => whnf)
              | (refine ⟨rfl, ?_, ?_⟩; decide; conv => whnf))
            try exact rfl
            exact congrArg optV e0.symm
          | some j =>
            obtain ⟨_, x, hj, h0⟩ := linM_some s v.f3 0 j hx
            rw [Nat.sub_zero] at hj
            have hb : j < v.f3.length := (List.getElem?_eq_some_iff.1 hj).1
            have ex : v.f3[j] = x := (List.getElem?_eq_some_iff.1 hj).2
            have es : v.f3[j] = s := by
              rw [ex]
              exact cmpV_zero _ _ ((hv.item (List.mem_of_getElem? hj)).shp) hs.shp h0
            rw [hx] at hm e0
            have e : partF v s = some v.f3[j] := by rw [es]; exact e0
            conv => whnf
            repeat (first
              | (refine sel_yes ?_ ?_; (first | assumption | (simp only [beq_iff_eq, bne_iff_ne, beq_eq_false_iff_ne, bne_eq_false_iff_eq, decide_eq_true_eq, decide_eq_false_iff_not, Bool.not_eq_true', Bool.not_eq_false', ne_eq, beq_true, beq_false, bne_self_eq_false, not_true_eq_false, not_false_eq_true, gt_iff_lt, ge_iff_le, Int.not_lt, Int.not_le, Bool.true_eq_false, Bool.false_eq_true] <;> omega)); conv => whnf)
              | (refine sel_no ?_ ?_; (first | assumption | (simp only [beq_iff_eq, bne_iff_ne, beq_eq_false_iff_ne, bne_eq_false_iff_eq, decide_eq_true_eq, decide_eq_false_iff_not, Bool.not_eq_true', Bool.not_eq_false', ne_eq, beq_true, beq_false, bne_self_eq_false, not_true_eq_false, not_false_eq_true, gt_iff_lt, ge_iff_le, Int.not_lt, Int.not_le, Bool.true_eq_false, Bool.false_eq_true] <;> omega)); conv => whnf)
              | (refine ⟨_, hI, ?_⟩; conv => whnf)
              | (refine ⟨_, hk, ?_⟩; conv => whnf)
              | (refine ⟨_, hm, ?_⟩; conv => whnf)
              | (refine ⟨le_rfl' ?_, ?_⟩; rfl; conv => whnf)
              | (refine ⟨⟨?_, ?_⟩, ?_⟩; omega; omega; conv => whnf)
              | (refine ⟨⟨?_, ?_, ?_⟩, ?_⟩; rfl; omega; omega; conv => whnf)
              | (refine ⟨rfl, ?_, ?_⟩; decide; conv => whnf))
            try exact rfl
            refine ldAx rfl hb ?_
            conv => whnf
            exact congrArg optV e.symm
        · have hm := rmemN (ext := ext) hn v s h5
          have e : partF v s = none := by unfold partF; rw [if_neg h6, if_neg h4, if_neg h5]
          conv => whnf
          repeat (first
            | (refine sel_yes ?_ ?_; (first | assumption | (simp only [beq_iff_eq, bne_iff_ne, beq_eq_false_iff_ne, bne_eq_false_iff_eq, decide_eq_true_eq, decide_eq_false_iff_not, Bool.not_eq_true', Bool.not_eq_false', ne_eq, beq_true, beq_false, bne_self_eq_false, not_true_eq_false, not_false_eq_true, gt_iff_lt, ge_iff_le, Int.not_lt, Int.not_le, Bool.true_eq_false, Bool.false_eq_true] <;> omega)); conv => whnf)
            | (refine sel_no ?_ ?_; (first | assumption | (simp only [beq_iff_eq, bne_iff_ne, beq_eq_false_iff_ne, bne_eq_false_iff_eq, decide_eq_true_eq, decide_eq_false_iff_not, Bool.not_eq_true', Bool.not_eq_false', ne_eq, beq_true, beq_false, bne_self_eq_false, not_true_eq_false, not_false_eq_true, gt_iff_lt, ge_iff_le, Int.not_lt, Int.not_le, Bool.true_eq_false, Bool.false_eq_true] <;> omega)); conv => whnf)
            | (refine ⟨_, hI, ?_⟩; conv => whnf)
            | (refine ⟨_, hk, ?_⟩; conv => whnf)
            | (refine ⟨_, hm, ?_⟩; conv => whnf)
            | (refine ⟨le_rfl' ?_, ?_⟩; rfl; conv => whnf)
            | (refine ⟨⟨?_, ?_⟩, ?_⟩; omega; omega; conv => whnf)
            | (refine ⟨⟨?_, ?_, ?_⟩, ?_⟩; rfl; omega; omega; conv => whnf)
            | (refine ⟨rfl, ?_, ?_⟩; decide; conv => whnf))
          try exact rfl
          exact congrArg optV e.symm
  obtain ⟨r, h, rfl⟩ := key
  exact h
theorem two_cold (x y : T) : ∀ c ∈ [V.int .i64 x.f0, .int .i64 x.f1, .str x.f2, .sl false (encL x.f3) x.f3.length, .int .i64 y.f0, .int .i64 y.f1, .str y.f2, .sl false (encL y.f3) y.f3.length], cold c = true := fun c hc => encC [x, y] c (by simp only [encL, enc_eq, List.append_nil]; exact hc)
theorem two_one (D : List T) (x y : T) : encL D ++ [V.int .i64 x.f0, .int .i64 x.f1, .str x.f2, .sl false (encL x.f3) x.f3.length, .int .i64 y.f0, .int .i64 y.f1, .str y.f2, .sl false (encL y.f3) y.f3.length] = encL (D ++ [x, y]) := by
  rw [encL_app]
  simp only [encL, enc_eq, List.append_nil]; rfl
theorem appP {hp : Hp} {ida m n : Nat} {S : V} {D : List T} {x y : T} {c : Bool} {Q : V × Hp → Prop} (h : Gro 8 hp.a m S (encL D) n) (hm : m ≤ hp.m) (hi : ida < hp.m) (hb : n ≤ 1048576)
    (q : ∀ b v a', Gro 8 a' hp.m (.rsl false b v 0 (n + 1)) (encL (D ++ [x, y])) (n + 1) → Q (.rsl false b v 0 (n + 1), ⟨hp.h, hp.n, a', hp.m⟩)) :
    opt (appendV 8 112 hp ida S (.sl c [V.int .i64 x.f0, .int .i64 x.f1, .str x.f2, .sl false (encL x.f3) x.f3.length, .int .i64 y.f0, .int .i64 y.f1, .str y.f2, .sl false (encL y.f3) y.f3.length] 1)) Q :=
  Gro.app h (xs := [V.int .i64 x.f0, .int .i64 x.f1, .str x.f2, .sl false (encL x.f3) x.f3.length, .int .i64 y.f0, .int .i64 y.f1, .str y.f2, .sl false (encL y.f3) y.f3.length]) (k := 1) rfl (by decide) rfl (two_cold x y) ⟨by unfold maxRoom; omega, by unfold maxRoom; omega⟩ hi hm
    fun b v a' h1 _ _ => q b v a' (h1.to (two_one D x y) rfl)
/-- a map's pairs -/
theorem lprs (v : T) (hl : v.f3.length ≤ 1048576) (h2 : v.f3.length % 2 = 0) (Q : Ex → St → Prop) (d : Nat) :
    ∀ (j : Nat) (S : V) (z : St), v.f3.length - 2 * j = d → 2 * j ≤ v.f3.length → Has z.t [(1, .ref 0 0), (3, S), (4, .int .i64 ((2 * j : Nat) : Int))] → z.hp.n = 4 → Has z.hp.h [(0, some (.cells (cellsV v) false))] → Gro 8 z.hp.a z.hp.m S (encL (v.f3.take (2 * j))) j →
      (∀ (S' : V) (z' : St), Has z'.t [(3, S')] → Gro 8 z'.hp.a z'.hp.m S' (encL v.f3) (v.f3.length / 2) → Q (.exit 0) z') →
      Go.Ab.Loop (cfg ext) (lpOf Tryd.f65) 4 z Q := by
  induction d using Nat.strongRecOn with
  | ind d ih =>
    intro j S z hd hj ht hz hb hg hq
    have e1 : IntKind.i64.wrap (((2 * j : Nat) : Int) + 1) = ((2 * j + 1 : Nat) : Int) := wrapN (by omega) (by omega)
    by_cases hlt : 2 * j < v.f3.length
    · have hlt1 : 2 * j + 1 < v.f3.length := by omega
      have g : decide (IntKind.i64.wrap (((2 * j : Nat) : Int) + 1) < (v.f3.length : Int)) = true := decide_eq_true (by rw [e1]; omega)
      have e2 : IntKind.i64.wrap (((2 * j : Nat) : Int) + 2) = ((2 * (j + 1) : Nat) : Int) := by rw [IntKind.wrap_i64]; omega
      obtain ⟨x, hx⟩ : ∃ x, v.f3[2 * j] = x := ⟨_, rfl⟩
      obtain ⟨y, hy⟩ : ∃ y, v.f3[2 * j + 1] = y := ⟨_, rfl⟩
      have eT : v.f3.take (2 * j) ++ [x, y] = v.f3.take (2 * (j + 1)) := by
        rw [show 2 * (j + 1) = 2 * j + 1 + 1 by omega, List.take_add_one, List.take_add_one, List.getElem?_eq_getElem hlt, List.getElem?_eq_getElem hlt1, hx, hy]
        simp
      have hlx : ∀ {Q : V → Prop}, Q (A x) → (2 * j) * 4 + 4 ≤ (encL v.f3).length ∧ opt (one (some true) (sub (encL v.f3) ((2 * j) * 4) 4)) fun v => fv v Q := fun h => ldA hlt (by rw [hx]; exact h)
      have hly : ∀ {Q : V → Prop}, Q (A y) → (IntKind.i64.wrap (((2 * j : Nat) : Int) + 1)).toNat * 4 + 4 ≤ (encL v.f3).length ∧ opt (one (some true) (sub (encL v.f3) ((IntKind.i64.wrap (((2 * j : Nat) : Int) + 1)).toNat * 4) 4)) fun v => fv v Q := fun h => ldAx e1 hlt1 (by rw [hy]; exact h)
      rcases hg.form with ⟨eS, _⟩ | ⟨bS, vS, eS⟩ <;> subst eS
      all_goals
        rw [St.knows _ _ ht hz _ hb]
        refine Loop.round ?_
        conv => whnf
        refine sel_yes g ?_
        conv => whnf
        refine ⟨⟨by omega, by omega⟩, ?_⟩
        conv => whnf
        refine hlx ?_
        conv => whnf
        refine ⟨bnd e1 hlt1, ?_⟩
        conv => whnf
        refine hly ?_
        conv => whnf
        refine ⟨rfl, ?_⟩
        conv => whnf
        refine ⟨⟨rfl, (show (8 : Nat) ≠ 0 by decide)⟩, ?_⟩
        refine appP hg (by (conv => lhs; whnf); (repeat ((conv => rhs; whnf); first | with_reducible exact Nat.le_refl _ | refine Nat.le_trans ?_ (Nat.le_add_right _ _) | refine Nat.le_succ_of_le ?_ | exact Nat.le_refl _))) (Nat.add_lt_add_left (by decide) _) (by omega) (fun b1 v1 a1 h1 => ?_)
        rw [eT] at h1
        conv => whnf
        refine ih (v.f3.length - 2 * (j + 1)) (by omega) (j + 1) (.rsl false b1 v1 0 (j + 1)) _ rfl (by omega) ⟨rfl, rfl, ?_, trivial⟩ rfl ⟨rfl, trivial⟩ ?_ hq
        · conv => lhs; whnf
          exact vi e2
        · refine Gro.truncR h1 ?_
          (conv => lhs; whnf); (repeat ((conv => rhs; whnf); first | with_reducible exact Nat.le_refl _ | refine Nat.le_trans ?_ (Nat.le_add_right _ _) | refine Nat.le_succ_of_le ?_ | exact Nat.le_refl _))
    · have g : decide (IntKind.i64.wrap (((2 * j : Nat) : Int) + 1) < (v.f3.length : Int)) = false := decide_eq_false (by rw [e1]; omega)
      rcases hg.form with ⟨eS, _⟩ | ⟨bS, vS, eS⟩ <;> subst eS
      all_goals
        rw [St.knows _ _ ht hz _ hb]
        refine Loop.round ?_
        conv => whnf
        refine sel_no g ?_
        conv => whnf
        refine hq _ _ ⟨rfl, trivial⟩ ?_
        refine Gro.to (Gro.mono hg (fun _ _ => rfl) ?_) (by rw [List.take_of_length_le (by omega)]) (by omega)
        (conv => lhs; whnf); (repeat ((conv => rhs; whnf); first | with_reducible exact Nat.le_refl _ | refine Nat.le_trans ?_ (Nat.le_add_right _ _) | refine Nat.le_succ_of_le ?_ | exact Nat.le_refl _))
theorem rprs (hn : Non ext) (v : T) (hl : v.f3.length ≤ 1048576) (h2 : v.f3.length % 2 = 0) : (cfg ext).Ev 65 [A v] (.sl false (encL v.f3) (v.f3.length / 2)) := by
  have key : ∃ r, (cfg ext).Ev 65 [A v] r ∧ r = .sl false (encL v.f3) (v.f3.length / 2) := by
    refine Ev.ofF (hn 65 (by decide) (by decide)) Tryd.func65 rfl rfl ?_
    conv => whnf
    refine lprs v hl h2 _ _ 0 (.sl true [] 0) _ rfl (by omega) ⟨rfl, rfl, rfl, trivial⟩ rfl ⟨rfl, trivial⟩ (by simp only [Nat.mul_zero, List.take_zero, encL]; exact Gro.nil _ _ _) (fun S z q1 c => ?_)
    rcases c.form with ⟨eS, e0⟩ | ⟨bS, vS, eS⟩
    · subst eS
      rw [St.knows (s := z) _ z.hp.n q1 rfl]
      conv => whnf
      exact Fin.gro rfl c rfl
    · subst eS
      rw [St.knows (s := z) _ z.hp.n q1 rfl]
      conv => whnf
      exact Fin.gro rfl c rfl
  obtain ⟨r, h, rfl⟩ := key
  exact h
end
end Go.Proofs.YtjfjagnnefmepaaDoor.AB
end

section
set_option linter.unusedVariables false
set_option linter.unusedSimpArgs false
open Go Go.Ab Go.Proofs Go.Vl
namespace Go.Proofs.YtjfjagnnefmepaaDoor.AB
set_option maxRecDepth 100000
set_option maxHeartbeats 16000000
set_option linter.unusedSimpArgs false
set_option linter.unusedVariables false
theorem encK_cons (p : T × T) (a : List (T × T)) : encL (flatK (p :: a)) = [V.int .i64 p.1.f0, .int .i64 p.1.f1, .str p.1.f2, .sl false (encL p.1.f3) p.1.f3.length, .int .i64 p.2.f0, .int .i64 p.2.f1, .str p.2.f2, .sl false (encL p.2.f3) p.2.f3.length] ++ encL (flatK a) := by
  simp only [flatK, encL, enc_eq, List.cons_append, List.nil_append]
theorem encK_len (a : List (T × T)) : (encL (flatK a)).length = a.length * 8 := by rw [encL_len, flat_len]; omega
theorem ldKey {p : T × T} {a : List (T × T)} {ca : List V} (hc : ca = encL (flatK (p :: a))) {Q : V → Prop} (hq : Q (A p.1)) : (0 : Int).toNat * 8 + 0 + 4 ≤ ca.length ∧ opt (one (some true) (sub ca ((0 : Int).toNat * 8 + 0) 4)) fun v => fv v Q := by
  subst hc
  rw [encK_cons]
  exact ⟨by simp only [List.length_append, List.length_cons, List.length_nil]; show 4 ≤ _; omega, hq⟩
theorem ldPair {p : T × T} {a : List (T × T)} {ca : List V} (hc : ca = encL (flatK (p :: a))) {Q : V → Prop} (hq : Q (.agg [V.int .i64 p.1.f0, .int .i64 p.1.f1, .str p.1.f2, .sl false (encL p.1.f3) p.1.f3.length, .int .i64 p.2.f0, .int .i64 p.2.f1, .str p.2.f2, .sl false (encL p.2.f3) p.2.f3.length])) : (0 : Int).toNat * 8 + 8 ≤ ca.length ∧ opt (one (some true) (sub ca ((0 : Int).toNat * 8) 8)) fun v => fv v Q := by
  subst hc
  rw [encK_cons]
  exact ⟨by simp only [List.length_append, List.length_cons, List.length_nil]; show 8 ≤ _; omega, hq⟩
theorem slK {P : Program} {t e : Nat} {p : T × T} {a : List (T × T)} {ca : List V} {n : Nat} (hc : ca = encL (flatK (p :: a))) (hn : n = a.length + 1) (ht : tslice P t = some e) (h8 : tsize P e = 8) : sliceV P t (.sl false ca n) (some (.int .i64 1)) none none = some (.sl false (encL (flatK a)) a.length) := by
  subst hc hn
  have hb : (0 : Int) ≤ 1 ∧ (1 : Int) ≤ ((a.length + 1 : Nat) : Int) := by omega
  simp only [sliceV, ht, bounds, boundO, bound, if_pos hb, Option.bind_some, h8, clip, Bool.false_and]
  have e1 : sub (encL (flatK (p :: a))) ((1 : Int).toNat * 8) ((a.length + 1 - (1 : Int).toNat) * 8) = encL (flatK a) := by
    have : (1 : Int).toNat = 1 := rfl
    rw [this, encK_cons]
    unfold sub
    rw [show 1 * 8 = 8 from rfl]
    show ((encL (flatK a)).take _) = _
    rw [List.take_of_length_le]
    rw [encK_len]; omega
  rw [e1]
  simp
section
variable {ext : Exts}
theorem lmrg (hn : Non ext) (Q : Ex → St → Prop) (d : Nat) :
    ∀ (a b : List (T × T)) (ca cb : List V) (na nb n : Nat) (D : List T) (S : V) (z : St), a.length + b.length = d → ca = encL (flatK a) → na = a.length → cb = encL (flatK b) → nb = b.length → D.length = 2 * n → n + d ≤ 1048576 → (∀ p ∈ a, WfV p.1) →
      Has z.t [(4, .sl false ca na), (5, .sl false cb nb), (6, S)] → z.hp.n = 19 → Gro 8 z.hp.a z.hp.m S (encL D) n →
      (∀ (a' b' : List (T × T)) (n' : Nat) (D' : List T) (S' : V) (z' : St), Has z'.t [(4, .sl false (encL (flatK a')) a'.length), (5, .sl false (encL (flatK b')) b'.length), (6, S')] → z'.hp.n = 27 → Gro 8 z'.hp.a z'.hp.m S' (encL D') n' → D'.length = 2 * n' → (a' = [] ∨ b' = []) → n' + a'.length + b'.length ≤ 1048576 → D' ++ flatK (a' ++ b') = D ++ flatK (mrgK a b) → Q (.exit 0) z') →
      Go.Ab.Loop (cfg ext) (lpOf Tryd.f108) 19 z Q := by
  induction d using Nat.strongRecOn with
  | ind d ih =>
    intro a b ca cb na nb n D S z hd hca hna hcb hnb hD hlim hw ht hz hg hq
    cases a with
    | nil =>
      have hna' : na = 0 := hna
      have hq' := hq [] b n D
      rw [show mrgK [] b = b from by simp [mrgK], ← hca, ← hcb, ← hna, ← hnb] at hq'
      rcases hg.form with ⟨eS, _⟩ | ⟨bS, vS, eS⟩ <;> subst eS
      all_goals
        rw [St.knows _ _ ht hz]
        refine Loop.round ?_
        conv => whnf
        repeat (first
          | (refine sel_yes ?_ ?_; (first | assumption | (simp only [beq_iff_eq, bne_iff_ne, beq_eq_false_iff_ne, bne_eq_false_iff_eq, decide_eq_true_eq, decide_eq_false_iff_not, Bool.not_eq_true', Bool.not_eq_false', ne_eq, beq_true, beq_false, bne_self_eq_false, not_true_eq_false, not_false_eq_true, gt_iff_lt, ge_iff_le, Int.not_lt, Int.not_le, Bool.true_eq_false, Bool.false_eq_true] <;> omega)); conv => whnf)
          | (refine sel_no ?_ ?_; (first | assumption | (simp only [beq_iff_eq, bne_iff_ne, beq_eq_false_iff_ne, bne_eq_false_iff_eq, decide_eq_true_eq, decide_eq_false_iff_not, Bool.not_eq_true', Bool.not_eq_false', ne_eq, beq_true, beq_false, bne_self_eq_false, not_true_eq_false, not_false_eq_true, gt_iff_lt, ge_iff_le, Int.not_lt, Int.not_le, Bool.true_eq_false, Bool.false_eq_true] <;> omega)); conv => whnf)
          | (refine ⟨le_rfl' ?_, ?_⟩; rfl; conv => whnf)
          | (refine ⟨⟨?_, ?_⟩, ?_⟩; omega; omega; conv => whnf)
          | (refine ⟨⟨?_, ?_, ?_⟩, ?_⟩; rfl; omega; omega; conv => whnf)
          | (refine ⟨rfl, ?_, ?_⟩; decide; conv => whnf))
        try exact rfl
        refine hq' _ _ ⟨rfl, rfl, rfl, trivial⟩ ?_ ?_ hD (.inl rfl) (by simp at hd hna; omega) rfl
        · rfl
        refine Gro.mono hg (fun _ _ => rfl) ?_
        (conv => lhs; whnf); (repeat ((conv => rhs; whnf); first | with_reducible exact Nat.le_refl _ | refine Nat.le_trans ?_ (Nat.le_add_right _ _) | refine Nat.le_succ_of_le ?_ | exact Nat.le_refl _))
    | cons p a =>
      have hna' : na = a.length + 1 := hna
      cases b with
      | nil =>
        have hnb' : nb = 0 := hnb
        have hq' := hq (p :: a) [] n D
        rw [mrgK_nil, ← hca, ← hcb, ← hna, ← hnb] at hq'
        rcases hg.form with ⟨eS, _⟩ | ⟨bS, vS, eS⟩ <;> subst eS
        all_goals
          rw [St.knows _ _ ht hz]
          refine Loop.round ?_
          conv => whnf
          repeat (first
            | (refine sel_yes ?_ ?_; (first | assumption | (simp only [beq_iff_eq, bne_iff_ne, beq_eq_false_iff_ne, bne_eq_false_iff_eq, decide_eq_true_eq, decide_eq_false_iff_not, Bool.not_eq_true', Bool.not_eq_false', ne_eq, beq_true, beq_false, bne_self_eq_false, not_true_eq_false, not_false_eq_true, gt_iff_lt, ge_iff_le, Int.not_lt, Int.not_le, Bool.true_eq_false, Bool.false_eq_true] <;> omega)); conv => whnf)
            | (refine sel_no ?_ ?_; (first | assumption | (simp only [beq_iff_eq, bne_iff_ne, beq_eq_false_iff_ne, bne_eq_false_iff_eq, decide_eq_true_eq, decide_eq_false_iff_not, Bool.not_eq_true', Bool.not_eq_false', ne_eq, beq_true, beq_false, bne_self_eq_false, not_true_eq_false, not_false_eq_true, gt_iff_lt, ge_iff_le, Int.not_lt, Int.not_le, Bool.true_eq_false, Bool.false_eq_true] <;> omega)); conv => whnf)
            | (refine ⟨le_rfl' ?_, ?_⟩; rfl; conv => whnf)
            | (refine ⟨⟨?_, ?_⟩, ?_⟩; omega; omega; conv => whnf)
            | (refine ⟨⟨?_, ?_, ?_⟩, ?_⟩; rfl; omega; omega; conv => whnf)
            | (refine ⟨rfl, ?_, ?_⟩; decide; conv => whnf))
          try exact rfl
          refine hq' _ _ ⟨rfl, rfl, rfl, trivial⟩ ?_ ?_ hD (.inr rfl) (by simp at hd hna hnb; omega) (by rw [List.append_nil])
          · rfl
          refine Gro.mono hg (fun _ _ => rfl) ?_
          (conv => lhs; whnf); (repeat ((conv => rhs; whnf); first | with_reducible exact Nat.le_refl _ | refine Nat.le_trans ?_ (Nat.le_add_right _ _) | refine Nat.le_succ_of_le ?_ | exact Nat.le_refl _))
      | cons q b =>
        have hE := rcmp hn p.1 (hw p (by simp)) q.1
        have w1 : mrgK (p :: a) (q :: b) = if cmpV p.1 q.1 < 0 then p :: mrgK a (q :: b) else if cmpV p.1 q.1 = 0 then q :: mrgK a b else q :: mrgK (p :: a) b := by rw [mrgK]
        rw [w1] at hq
        clear w1
        have hwa : ∀ r ∈ a, WfV r.1 := fun r hr => hw r (by simp [hr])
        simp only [List.length_cons] at hd hna hnb
        have s1 := slK (P := Tryd.prog) (t := 84) (e := 87) hca hna (by kernel_rfl) (by kernel_rfl)
        have s2 := slK (P := Tryd.prog) (t := 84) (e := 87) hcb hnb (by kernel_rfl) (by kernel_rfl)
        have eD1 : ∀ m : List (T × T), D ++ flatK (p :: m) = (D ++ [p.1, p.2]) ++ flatK m := fun m => by simp [flatK]
        have eD2 : ∀ m : List (T × T), D ++ flatK (q :: m) = (D ++ [q.1, q.2]) ++ flatK m := fun m => by simp [flatK]
        have two1 := two_one D p.1 p.2
        have two2 := two_one D q.1 q.2
        have bn1 : (0 : Int) ≤ 0 ∧ (0 : Int) < (na : Int) := ⟨by omega, by omega⟩
        have bn2 : (0 : Int) ≤ 0 ∧ (0 : Int) < (nb : Int) := ⟨by omega, by omega⟩
        generalize cmpV p.1 q.1 = c at hE hq
        rcases hg.form with ⟨eS, _⟩ | ⟨bS, vS, eS⟩ <;> subst eS
        all_goals
          rw [St.knows _ _ ht hz]
          refine Loop.round ?_
          conv => whnf
          repeat (first
            | (refine sel_yes ?_ ?_; (first | assumption | (simp only [beq_iff_eq, bne_iff_ne, beq_eq_false_iff_ne, bne_eq_false_iff_eq, decide_eq_true_eq, decide_eq_false_iff_not, Bool.not_eq_true', Bool.not_eq_false', ne_eq, beq_true, beq_false, bne_self_eq_false, not_true_eq_false, not_false_eq_true, gt_iff_lt, ge_iff_le, Int.not_lt, Int.not_le, Bool.true_eq_false, Bool.false_eq_true] <;> omega)); conv => whnf)
            | (refine sel_no ?_ ?_; (first | assumption | (simp only [beq_iff_eq, bne_iff_ne, beq_eq_false_iff_ne, bne_eq_false_iff_eq, decide_eq_true_eq, decide_eq_false_iff_not, Bool.not_eq_true', Bool.not_eq_false', ne_eq, beq_true, beq_false, bne_self_eq_false, not_true_eq_false, not_false_eq_true, gt_iff_lt, ge_iff_le, Int.not_lt, Int.not_le, Bool.true_eq_false, Bool.false_eq_true] <;> omega)); conv => whnf)
            | (refine ⟨le_rfl' ?_, ?_⟩; rfl; conv => whnf)
            | (refine ⟨⟨?_, ?_⟩, ?_⟩; omega; omega; conv => whnf)
            | (refine ⟨⟨?_, ?_, ?_⟩, ?_⟩; rfl; omega; omega; conv => whnf)
            | (refine ⟨rfl, ?_, ?_⟩; decide; conv => whnf))
          try exact rfl
          refine ldKey hca ?_
          conv => whnf
          repeat (first
            | (refine sel_yes ?_ ?_; (first | assumption | (simp only [beq_iff_eq, bne_iff_ne, beq_eq_false_iff_ne, bne_eq_false_iff_eq, decide_eq_true_eq, decide_eq_false_iff_not, Bool.not_eq_true', Bool.not_eq_false', ne_eq, beq_true, beq_false, bne_self_eq_false, not_true_eq_false, not_false_eq_true, gt_iff_lt, ge_iff_le, Int.not_lt, Int.not_le, Bool.true_eq_false, Bool.false_eq_true] <;> omega)); conv => whnf)
            | (refine sel_no ?_ ?_; (first | assumption | (simp only [beq_iff_eq, bne_iff_ne, beq_eq_false_iff_ne, bne_eq_false_iff_eq, decide_eq_true_eq, decide_eq_false_iff_not, Bool.not_eq_true', Bool.not_eq_false', ne_eq, beq_true, beq_false, bne_self_eq_false, not_true_eq_false, not_false_eq_true, gt_iff_lt, ge_iff_le, Int.not_lt, Int.not_le, Bool.true_eq_false, Bool.false_eq_true] <;> omega)); conv => whnf)
            | (refine ⟨le_rfl' ?_, ?_⟩; rfl; conv => whnf)
            | (refine ⟨⟨?_, ?_⟩, ?_⟩; omega; omega; conv => whnf)
            | (refine ⟨⟨?_, ?_, ?_⟩, ?_⟩; rfl; omega; omega; conv => whnf)
            | (refine ⟨rfl, ?_, ?_⟩; decide; conv => whnf))
          try exact rfl
          refine ldKey hcb ?_
          conv => whnf
          refine ⟨_, hE, ?_⟩
          conv => whnf
          by_cases h1 : c < 0
          · rw [if_pos h1] at hq
            refine sel_yes (decide_eq_true h1) ?_
            conv => whnf
            refine ⟨bn1, ?_⟩
            conv => whnf
            refine ldPair hca ?_
            conv => whnf
            refine ⟨rfl, ?_⟩
            conv => whnf
            refine ⟨⟨rfl, (show (8 : Nat) ≠ 0 by decide)⟩, ?_⟩
            refine Gro.one hg ⟨_, _, _, _, rfl, upd_is _ _ _⟩ ?_ ?_ ?_ ?_ ?_ ?_ (fun b1 v1 a1 k1 => ?_)
            · intro b0 hb0
              exact upd_lt (Nat.lt_of_lt_of_le hb0 (by ((conv => lhs; whnf); (repeat ((conv => rhs; whnf); first | with_reducible exact Nat.le_refl _ | refine Nat.le_trans ?_ (Nat.le_add_right _ _) | refine Nat.le_succ_of_le ?_)))))
            · rfl
            · exact (two_cold p.1 p.2)
            · exact ⟨by show (_ + 1) * 112 ≤ 140737488355328; (try simp only [List.length_append, List.length_cons, List.length_nil]); omega, by show _ + 1 ≤ 140737488355328; (try simp only [List.length_append, List.length_cons, List.length_nil]); omega⟩
            · exact Nat.add_lt_add_left (by decide) _
            · ((conv => lhs; whnf); (repeat ((conv => rhs; whnf); first | with_reducible exact Nat.le_refl _ | refine Nat.le_trans ?_ (Nat.le_add_right _ _) | refine Nat.le_succ_of_le ?_)))
            conv => whnf
            refine ⟨_, s1, ?_⟩
            conv => whnf
            refine ih (a.length + (b.length + 1)) (by omega) a (q :: b) _ _ _ _ (n + 1) (D ++ [p.1, p.2]) (.rsl false b1 v1 0 (n + 1)) _ (by simp) rfl rfl hcb hnb (by simp; omega) (by omega) hwa ⟨rfl, rfl, rfl, trivial⟩ rfl ?_ ?_
            · refine Gro.to (Gro.truncR k1 ?_) two1 rfl
              (conv => lhs; whnf); (repeat ((conv => rhs; whnf); first | with_reducible exact Nat.le_refl _ | refine Nat.le_trans ?_ (Nat.le_add_right _ _) | refine Nat.le_succ_of_le ?_ | exact Nat.le_refl _))
            · rw [eD1] at hq; exact hq
          · rw [if_neg h1] at hq
            refine sel_no (decide_eq_false h1) ?_
            conv => whnf
            refine ⟨bn2, ?_⟩
            conv => whnf
            refine ldPair hcb ?_
            conv => whnf
            refine ⟨rfl, ?_⟩
            conv => whnf
            refine ⟨⟨rfl, (show (8 : Nat) ≠ 0 by decide)⟩, ?_⟩
            refine Gro.one hg ⟨_, _, _, _, rfl, upd_is _ _ _⟩ ?_ ?_ ?_ ?_ ?_ ?_ (fun b1 v1 a1 k1 => ?_)
            · intro b0 hb0
              exact upd_lt (Nat.lt_of_lt_of_le hb0 (by ((conv => lhs; whnf); (repeat ((conv => rhs; whnf); first | with_reducible exact Nat.le_refl _ | refine Nat.le_trans ?_ (Nat.le_add_right _ _) | refine Nat.le_succ_of_le ?_)))))
            · rfl
            · exact (two_cold q.1 q.2)
            · exact ⟨by show (_ + 1) * 112 ≤ 140737488355328; (try simp only [List.length_append, List.length_cons, List.length_nil]); omega, by show _ + 1 ≤ 140737488355328; (try simp only [List.length_append, List.length_cons, List.length_nil]); omega⟩
            · exact Nat.add_lt_add_left (by decide) _
            · ((conv => lhs; whnf); (repeat ((conv => rhs; whnf); first | with_reducible exact Nat.le_refl _ | refine Nat.le_trans ?_ (Nat.le_add_right _ _) | refine Nat.le_succ_of_le ?_)))
            conv => whnf
            refine ⟨_, s2, ?_⟩
            conv => whnf
            by_cases h0 : c = 0
            · rw [if_pos h0] at hq
              have g0 : (c == 0) = true := by simp [h0]
              refine sel_yes g0 ?_
              conv => whnf
              refine ⟨_, s1, ?_⟩
              conv => whnf
              refine ih (a.length + b.length) (by omega) a b _ _ _ _ (n + 1) (D ++ [q.1, q.2]) (.rsl false b1 v1 0 (n + 1)) _ rfl rfl rfl rfl rfl (by simp; omega) (by omega) hwa ⟨rfl, rfl, rfl, trivial⟩ rfl ?_ ?_
              · refine Gro.to (Gro.truncR k1 ?_) two2 rfl
                (conv => lhs; whnf); (repeat ((conv => rhs; whnf); first | with_reducible exact Nat.le_refl _ | refine Nat.le_trans ?_ (Nat.le_add_right _ _) | refine Nat.le_succ_of_le ?_ | exact Nat.le_refl _))
              · rw [eD2] at hq; exact hq
            · rw [if_neg h0] at hq
              have g0 : (c == 0) = false := by simp [h0]
              refine sel_no g0 ?_
              conv => whnf
              refine ih (a.length + 1 + b.length) (by omega) (p :: a) b _ _ _ _ (n + 1) (D ++ [q.1, q.2]) (.rsl false b1 v1 0 (n + 1)) _ (by simp only [List.length_cons]) hca hna rfl rfl (by simp; omega) (by omega) hw ⟨rfl, rfl, rfl, trivial⟩ rfl ?_ ?_
              · refine Gro.to (Gro.truncR k1 ?_) two2 rfl
                (conv => lhs; whnf); (repeat ((conv => rhs; whnf); first | with_reducible exact Nat.le_refl _ | refine Nat.le_trans ?_ (Nat.le_add_right _ _) | refine Nat.le_succ_of_le ?_ | exact Nat.le_refl _))
              · rw [eD2] at hq; exact hq
end
end Go.Proofs.YtjfjagnnefmepaaDoor.AB
end

section
set_option linter.unusedVariables false
set_option linter.unusedSimpArgs false
open Go Go.Ab Go.Proofs Go.Vl
namespace Go.Proofs.YtjfjagnnefmepaaDoor.AB
set_option maxRecDepth 100000
set_option maxHeartbeats 16000000
set_option linter.unusedSimpArgs false
set_option linter.unusedVariables false
theorem slKLo {P : Program} {t e : Nat} {l : List (T × T)} {x : Int} {i : Nat} (ht : tslice P t = some e) (h8 : tsize P e = 8) (hx : x = (i : Int)) (h : i ≤ l.length) : sliceV P t (.sl false (encL (flatK l)) l.length) none (some (.int .i64 x)) none = some (.sl false (encL (flatK (l.take i))) (l.take i).length) := by
  subst hx
  have hb : (0 : Int) ≤ (i : Int) ∧ (i : Int) ≤ (l.length : Int) := ⟨by omega, by omega⟩
  simp only [sliceV, ht, bounds, boundO, bound, if_pos hb, Option.bind_some, Int.toNat_natCast, h8, clip, Bool.false_and, Nat.sub_zero, Nat.zero_mul]
  have e1 : sub (encL (flatK l)) 0 (i * 8) = encL (flatK (l.take i)) := by
    unfold sub
    rw [List.drop_zero, show i * 8 = 2 * i * 4 by omega, encL_take, flat_take]
  have e2 : (l.take i).length = i := by rw [List.length_take]; omega
  rw [e1, e2]
theorem slKHi {P : Program} {t e : Nat} {l : List (T × T)} {x : Int} {i : Nat} (ht : tslice P t = some e) (h8 : tsize P e = 8) (hx : x = (i : Int)) (h : i ≤ l.length) : sliceV P t (.sl false (encL (flatK l)) l.length) (some (.int .i64 x)) none none = some (.sl false (encL (flatK (l.drop i))) (l.drop i).length) := by
  subst hx
  have hb : (0 : Int) ≤ (i : Int) ∧ (i : Int) ≤ (l.length : Int) := ⟨by omega, by omega⟩
  simp only [sliceV, ht, bounds, boundO, bound, if_pos hb, Option.bind_some, Int.toNat_natCast, h8, clip, Bool.false_and]
  have e2 : (l.drop i).length = l.length - i := by rw [List.length_drop]
  have e1 : sub (encL (flatK l)) (i * 8) ((l.length - i) * 8) = encL (flatK (l.drop i)) := by
    unfold sub; rw [show i * 8 = 2 * i * 4 by omega, encL_drop, flat_drop, ← e2, List.take_of_length_le]; rw [encK_len]; exact Nat.le_refl _
  rw [e1, e2]
/-- append of a row of pairs -/
theorem appKs {a : List (T × T)} {D : List T} {hp : Hp} {ida m n : Nat} {S : V} {Q : V × Hp → Prop} (h : Gro 8 hp.a m S (encL D) n) (hm : m ≤ hp.m) (hi : ida < hp.m) (hb : n + a.length ≤ 1048576)
    (q : ∀ S' a', Gro 8 a' hp.m S' (encL (D ++ flatK a)) (n + a.length) → Q (S', ⟨hp.h, hp.n, a', hp.m⟩)) : opt (appendV 8 112 hp ida S (.sl false (encL (flatK a)) a.length)) Q := by
  have hc : content none hp 8 (.sl false (encL (flatK a)) a.length) = some (encL (flatK a), a.length) := by
    simp only [content]; rw [if_pos (encK_len a)]
  cases a with
  | nil =>
    refine Gro.app0 h (by rw [hc]; rfl) ?_
    exact q S hp.a ((h.mono (fun _ _ => rfl) hm).to (by simp [flatK]) (by simp))
  | cons x l =>
    refine Gro.app h hc (by simp) (encK_len _) (encC _) (by unfold maxRoom; omega) hi hm (fun b v a' h1 _ _ => ?_)
    exact q _ a' (h1.to (by rw [encL_app]) rfl)
theorem tsK : tslice Tryd.prog 84 = some 87 := by kernel_rfl
theorem szK : tsize Tryd.prog 87 = 8 := by kernel_rfl
theorem mrg_mem : ∀ (n : Nat) (a b : List (T × T)), a.length + b.length ≤ n → ∀ p ∈ mrgK a b, p ∈ a ∨ p ∈ b
  | _, [], b, _, p, h => by simp [mrgK] at h; exact .inr h
  | _, p0 :: a, [], _, p, h => by rw [mrgK_nil] at h; exact .inl h
  | 0, p0 :: a, q :: b, hn, p, h => by simp at hn
  | n + 1, p0 :: a, q :: b, hn, p, h => by
    simp only [List.length_cons] at hn
    rw [mrgK] at h
    split at h
    · rcases List.mem_cons.1 h with rfl | h
      · exact .inl (by simp)
      · rcases mrg_mem n a (q :: b) (by simp only [List.length_cons]; omega) p h with h | h
        · exact .inl (by simp [h])
        · exact .inr h
    · split at h
      · rcases List.mem_cons.1 h with rfl | h
        · exact .inr (by simp)
        · rcases mrg_mem n a b (by omega) p h with h | h
          · exact .inl (by simp [h])
          · exact .inr (by simp [h])
      · rcases List.mem_cons.1 h with rfl | h
        · exact .inr (by simp)
        · rcases mrg_mem n (p0 :: a) b (by simp only [List.length_cons]; omega) p h with h | h
          · exact .inl h
          · exact .inr (by simp [h])
theorem mrg_len : ∀ (n : Nat) (a b : List (T × T)), a.length + b.length ≤ n → (mrgK a b).length ≤ a.length + b.length
  | _, [], b, _ => by simp [mrgK]
  | _, p0 :: a, [], _ => by rw [mrgK_nil]; simp
  | 0, p0 :: a, q :: b, hn => by simp at hn
  | n + 1, p0 :: a, q :: b, hn => by
    simp only [List.length_cons] at hn
    rw [mrgK]
    split
    · have := mrg_len n a (q :: b) (by simp only [List.length_cons]; omega)
      simp only [List.length_cons] at this ⊢; omega
    · split
      · have := mrg_len n a b (by omega)
        simp only [List.length_cons]; omega
      · have := mrg_len n (p0 :: a) b (by simp only [List.length_cons]; omega)
        simp only [List.length_cons] at this ⊢; omega
theorem keyed_all : ∀ (n : Nat) (l : List (T × T)), (∀ p ∈ keyedK n l, p ∈ l) ∧ (keyedK n l).length ≤ l.length
  | 0, l => ⟨fun p h => h, Nat.le_refl _⟩
  | n + 1, l => by
    unfold keyedK
    split
    · exact ⟨fun p h => h, Nat.le_refl _⟩
    · obtain ⟨a1, a2⟩ := keyed_all n (l.take (l.length / 2))
      obtain ⟨b1, b2⟩ := keyed_all n (l.drop (l.length / 2))
      refine ⟨fun p h => ?_, ?_⟩
      · rcases mrg_mem _ _ _ (Nat.le_refl _) p h with h | h
        · exact List.mem_of_mem_take (a1 p h)
        · exact List.mem_of_mem_drop (b1 p h)
      · have := mrg_len _ (keyedK n (l.take (l.length / 2))) (keyedK n (l.drop (l.length / 2))) (Nat.le_refl _)
        rw [List.length_take] at a2
        rw [List.length_drop] at b2
        omega
section
variable {ext : Exts}
theorem rkeyed (hn : Non ext) : ∀ (n : Nat) (l : List (T × T)), l.length ≤ n + 1 → l.length ≤ 100000 → (∀ p ∈ l, WfV p.1) →
    (cfg ext).Ev 108 [.sl false (encL (flatK l)) l.length] (.sl false (encL (flatK (keyedK n l))) (keyedK n l).length) := by
  have base : ∀ l : List (T × T), l.length < 2 → (cfg ext).Ev 108 [.sl false (encL (flatK l)) l.length] (.sl false (encL (flatK l)) l.length) := by
    intro l h2
    match l, h2 with
    | [], _ =>
      have key : ∃ r, (cfg ext).Ev 108 [.sl false (encL (flatK [])) ([] : List (T × T)).length] r ∧ r = .sl false [] 0 := by
        refine Ev.ofF (hn 108 (by decide) (by decide)) Tryd.func108 rfl rfl ?_
        simp only [flatK, encL]
        conv => whnf
        refine ⟨rfl, ?_⟩
        conv => whnf
        refine ⟨⟨rfl, (show (8 : Nat) ≠ 0 by decide)⟩, ?_⟩
        conv => whnf
        exact Fin.of_eq (v := .sl false [] 0) rfl rfl
      obtain ⟨r, h, rfl⟩ := key
      simp only [flatK, encL] at h ⊢
      exact h
    | [p], _ =>
      have key : ∃ r, (cfg ext).Ev 108 [.sl false (encL (flatK [p])) [p].length] r ∧ r = .sl false (encL (flatK [p])) [p].length := by
        refine Ev.ofF (hn 108 (by decide) (by decide)) Tryd.func108 rfl rfl ?_
        simp only [flatK, encL, enc_eq, List.append_nil, List.cons_append, List.nil_append]
        conv => whnf
        refine ⟨rfl, ?_⟩
        conv => whnf
        refine ⟨⟨rfl, (show (8 : Nat) ≠ 0 by decide)⟩, ?_⟩
        conv => whnf
        exact Fin.of_eq (v := .sl false [.int .i64 p.1.f0, .int .i64 p.1.f1, .str p.1.f2, .sl false (encL p.1.f3) p.1.f3.length, .int .i64 p.2.f0, .int .i64 p.2.f1, .str p.2.f2, .sl false (encL p.2.f3) p.2.f3.length] 1) rfl rfl
      obtain ⟨r, h, rfl⟩ := key
      exact h
    | x :: y :: l, h2 => exfalso; simp only [List.length_cons] at h2; omega
  intro n
  induction n with
  | zero => intro l hn0 hl hw; exact base l (by omega)
  | succ n ih =>
    intro l hnl hl hw
    unfold keyedK
    by_cases h2 : l.length < 2
    · rw [if_pos h2]; exact base l h2
    · rw [if_neg h2]
      have hk : l.length / 2 ≤ l.length := by omega
      have e1 := ih (l.take (l.length / 2)) (by rw [List.length_take]; omega) (by rw [List.length_take]; omega) (fun x hx => hw x (List.mem_of_mem_take hx))
      have e2 := ih (l.drop (l.length / 2)) (by rw [List.length_drop]; omega) (by rw [List.length_drop]; omega) (fun x hx => hw x (List.mem_of_mem_drop hx))
      obtain ⟨a1, a2⟩ := keyed_all n (l.take (l.length / 2))
      obtain ⟨b1, b2⟩ := keyed_all n (l.drop (l.length / 2))
      rw [List.length_take] at a2
      rw [List.length_drop] at b2
      have hwa : ∀ p ∈ keyedK n (l.take (l.length / 2)), WfV p.1 := fun p hp => hw p (List.mem_of_mem_take (a1 p hp))
      have g : decide ((l.length : Int) < 2) = false := decide_eq_false (by omega)
      have w : IntKind.i64.wrap ((l.length : Int).tdiv 2) = ((l.length / 2 : Nat) : Int) := by
        rw [show ((l.length : Int).tdiv 2) = ((l.length / 2 : Nat) : Int) from rfl, IntKind.wrap_i64]; omega
      have s1 := slKLo (l := l) (i := l.length / 2) tsK szK w hk
      have s2 := slKHi (l := l) (i := l.length / 2) tsK szK w hk
      generalize keyedK n (l.take (l.length / 2)) = LA at *
      generalize keyedK n (l.drop (l.length / 2)) = LB at *
      have key : ∃ r, (cfg ext).Ev 108 [.sl false (encL (flatK l)) l.length] r ∧ r = .sl false (encL (flatK (mrgK LA LB))) (mrgK LA LB).length := by
        refine Ev.ofF (hn 108 (by decide) (by decide)) Tryd.func108 rfl rfl ?_
        conv => whnf
        refine sel_no g ?_
        conv => whnf
        refine ⟨rfl, by decide, ?_⟩
        conv => whnf
        refine ⟨_, s1, ?_⟩
        conv => whnf
        refine ⟨_, e1, ?_⟩
        conv => whnf
        refine ⟨_, s2, ?_⟩
        conv => whnf
        refine ⟨_, e2, ?_⟩
        conv => whnf
        refine lmrg hn _ _ LA LB _ _ _ _ 0 [] (.sl true [] 0) _ rfl rfl rfl rfl rfl rfl (by omega) hwa ⟨rfl, rfl, rfl, trivial⟩ rfl (by simp only [encL]; exact Gro.nil _ _ _) (fun a' b' n' D' S z ht hz hg hD he hlim heq => ?_)
        rw [List.nil_append] at heq
        have hlen : n' + a'.length + b'.length = (mrgK LA LB).length := by
          have := congrArg List.length heq
          rw [List.length_append, flat_len, flat_len, List.length_append, hD] at this
          omega
        rcases hg.form with ⟨eS, _⟩ | ⟨bS, vS, eS⟩ <;> subst eS
        all_goals
          rw [St.knows _ _ ht hz]
          conv => whnf
          refine ⟨rfl, ?_⟩
          conv => whnf
          refine ⟨⟨rfl, (show (8 : Nat) ≠ 0 by decide)⟩, ?_⟩
          refine appKs hg (by (conv => lhs; whnf); (repeat ((conv => rhs; whnf); first | with_reducible exact Nat.le_refl _ | refine Nat.le_trans ?_ (Nat.le_add_right _ _) | refine Nat.le_succ_of_le ?_ | exact Nat.le_refl _))) (Nat.add_lt_add_left (by decide) _) (by omega) (fun S1 a1 h1 => ?_)
          rcases h1.form with ⟨eS, _⟩ | ⟨bS1, vS1, eS⟩ <;> subst eS
        all_goals
          conv => whnf
          refine ⟨rfl, ?_⟩
          conv => whnf
          refine ⟨⟨rfl, (show (8 : Nat) ≠ 0 by decide)⟩, ?_⟩
          refine appKs h1 (by (conv => lhs; whnf); (repeat ((conv => rhs; whnf); first | with_reducible exact Nat.le_refl _ | refine Nat.le_trans ?_ (Nat.le_add_right _ _) | refine Nat.le_succ_of_le ?_ | exact Nat.le_refl _))) (Nat.add_lt_add_left (by decide) _) (by omega) (fun S2 a2 k2 => ?_)
          have k3 := k2.to (cs' := encL (flatK (mrgK LA LB))) (n' := (mrgK LA LB).length) (by rw [List.append_assoc, ← flat_app, heq]) hlen
          rcases k3.form with ⟨eS, _⟩ | ⟨bS2, vS2, eS⟩ <;> subst eS
        all_goals
          conv => whnf
          exact Fin.gro rfl k3 rfl
      obtain ⟨r, h, rfl⟩ := key
      exact h
end
end Go.Proofs.YtjfjagnnefmepaaDoor.AB
end
