/- What PairingSteps is proved with: what the program's functions make of their arguments, by the evaluator. -/
import Derived.Test.YtbekoaalaofloaaGreatDoorZPairingStepsV1
import Derived.Test.YtbekoaalaofloaaGreatDoorZPairingStepsL0
import Derived.Test.YtbekoaalaofloaaGreatDoorZPairingStepsV0
import Derived.Test.YtbekoaalaofloaaGreatDoorZPairingStepsA1
section
set_option linter.unusedVariables false
set_option linter.unusedSimpArgs false
open Go Go.Ab Go.Proofs Go.Vl
namespace Go.Proofs.YtbekoaalaofloaaGreatDoor.AB
set_option maxRecDepth 100000
set_option maxHeartbeats 16000000
set_option linter.unusedSimpArgs false
section
variable {ext : Exts}
open Classical in
/-- how many parts a value has that is right below some depth, with at most so many; below 0: it is not -/
noncomputable def fitZ (v : T) (d m : Int) : Int := if OkV v ∧ (deepV v : Int) ≤ d ∧ (partsV v : Int) ≤ m then (partsV v : Int) else -1
def FitE (ext : Exts) (a : T) : Prop := ∀ d m : Int, 0 ≤ d → d ≤ 16 → m ≤ 1024 → -1024 ≤ m → (cfg ext).Ev 33 [A a, .int .i64 d, .int .i64 m] (.int .i64 (fitZ a d m))
theorem fitZ_yes {v : T} {d m : Int} (h : OkV v ∧ (deepV v : Int) ≤ d ∧ (partsV v : Int) ≤ m) : fitZ v d m = partsV v := if_pos h
theorem fitZ_no {v : T} {d m : Int} (h : ¬ (OkV v ∧ (deepV v : Int) ≤ d ∧ (partsV v : Int) ≤ m)) : fitZ v d m = -1 := if_neg h
theorem lfits (k n : Int) (t : ByteArray) (l : List T) (hl : l.length ≤ 1024) (E : ∀ a ∈ l, FitE ext a) (d m : Int) (hd0 : l = [] ∨ 1 ≤ d) (hdp : 0 ≤ d) (hd : d ≤ 16) (hm : m ≤ 1024) (Q : Ex → St → Prop) (f : Nat) :
    ∀ (i : Nat) (c : Nat) (z : St), l.length - i = f → i ≤ l.length → (c : Int) ≤ m → Has z.t [(33, .int .i64 i), (32, .int .i64 l.length), (31, .sl false (encL l) l.length), (7, .int .i64 c), (1, .int .i64 d), (2, .int .i64 m), (3, .ref 0 0)] → Has z.hp.h [(0, some (.cells (encX' k n t l) false))] → z.hp.n = 26 →
      (∀ z' : St, z'.t 6 = .int .i64 (-1) → ¬ (OkL (l.drop i) ∧ (deepL (l.drop i) : Int) ≤ d ∧ (c : Int) + partsL (l.drop i) ≤ m) → Q .ret z') →
      (∀ z' : St, Has z'.t [(7, .int .i64 ((c : Int) + partsL (l.drop i))), (3, .ref 0 0)] → Has z'.hp.h [(0, some (.cells (encX' k n t l) false))] → (OkL (l.drop i) ∧ (deepL (l.drop i) : Int) ≤ d ∧ (c : Int) + partsL (l.drop i) ≤ m) → Q (.exit 0) z') →
      Go.Ab.Loop (cfg ext) (lpOf Tryz.f33) 26 z Q := by
  induction f with
  | zero =>
    intro i c z hf hi hc ht hh hz hr hq
    obtain rfl : i = l.length := by omega
    have g : decide ((l.length : Int) < (l.length : Int)) = false := decide_eq_false (by omega)
    have e : l.drop l.length = [] := List.drop_length
    rw [e] at hq
    rw [St.knows _ _ ht hz _ hh]
    refine Loop.round ?_
    conv => whnf
    repeat (first
      | (refine sel_yes ?_ ?_; (first | assumption | (simp only [beq_iff_eq, bne_iff_ne, beq_eq_false_iff_ne, bne_eq_false_iff_eq, decide_eq_true_eq, decide_eq_false_iff_not, Bool.not_eq_true', Bool.not_eq_false', ne_eq, beq_true, beq_false, bne_self_eq_false, not_true_eq_false, not_false_eq_true, gt_iff_lt, ge_iff_le, Int.not_lt, Int.not_le, Bool.true_eq_false, Bool.false_eq_true] <;> omega)); conv => whnf)
      | (refine sel_no ?_ ?_; (first | assumption | (simp only [beq_iff_eq, bne_iff_ne, beq_eq_false_iff_ne, bne_eq_false_iff_eq, decide_eq_true_eq, decide_eq_false_iff_not, Bool.not_eq_true', Bool.not_eq_false', ne_eq, beq_true, beq_false, bne_self_eq_false, not_true_eq_false, not_false_eq_true, gt_iff_lt, ge_iff_le, Int.not_lt, Int.not_le, Bool.true_eq_false, Bool.false_eq_true] <;> omega)); conv => whnf)
      | (refine ⟨le_rfl' ?_, ?_⟩; rfl; conv => whnf)
      | (refine ⟨⟨?_, ?_⟩, ?_⟩; omega; omega; conv => whnf)
      | (refine ⟨⟨?_, ?_, ?_⟩, ?_⟩; rfl; omega; omega; conv => whnf)
      | (refine ⟨rfl, ?_, ?_⟩; decide; conv => whnf))
    try exact rfl
    refine hq _ ⟨?_, rfl, trivial⟩ ⟨rfl, trivial⟩ ⟨by simp only [OkL], ?_, by simpa [partsL] using hc⟩
    · simp only [partsL]; exact vi (by simp)
    · simp only [deepL]; omega
  | succ f ih =>
    intro i c z hf hi hc ht hh hz hr hq
    have h1 : i < l.length := by omega
    have hd1 : 1 ≤ d := by rcases hd0 with rfl | h; simp at h1; exact h
    have g : decide ((i : Int) < (l.length : Int)) = true := decide_eq_true (by omega)
    have eD := List.drop_eq_getElem_cons h1
    have hw1 : IntKind.i64.wrap (d - 1) = d - 1 := by rw [IntKind.wrap_i64]; omega
    have hw2 : IntKind.i64.wrap (m - (c : Int)) = m - (c : Int) := by rw [IntKind.wrap_i64]; omega
    have hE := E _ (List.getElem_mem h1) (d - 1) (m - (c : Int)) (by omega) (by omega) (by omega) (by omega)
    rw [← hw1, ← hw2] at hE
    rw [eD] at hr hq
    simp only [OkL, deepL, partsL] at hr hq
    by_cases hok : OkV l[i] ∧ (deepV l[i] : Int) ≤ d - 1 ∧ (partsV l[i] : Int) ≤ m - c
    · rw [hw1, hw2, fitZ_yes hok] at hE
      rw [← hw1, ← hw2] at hE
      have hpp := partsV_pos l[i]
      have g2 : decide ((partsV l[i] : Int) < 0) = false := decide_eq_false (by omega)
      have hw3 : IntKind.i64.wrap ((c : Int) + (partsV l[i] : Int)) = ((c + partsV l[i] : Nat) : Int) := by rw [IntKind.wrap_i64]; omega
      rw [St.knows _ _ ht hz _ hh]
      refine Loop.round ?_
      conv => whnf
      repeat (first
        | (refine sel_yes ?_ ?_; (first | assumption | (simp only [beq_iff_eq, bne_iff_ne, beq_eq_false_iff_ne, bne_eq_false_iff_eq, decide_eq_true_eq, decide_eq_false_iff_not, Bool.not_eq_true', Bool.not_eq_false', ne_eq, beq_true, beq_false, bne_self_eq_false, not_true_eq_false, not_false_eq_true, gt_iff_lt, ge_iff_le, Int.not_lt, Int.not_le, Bool.true_eq_false, Bool.false_eq_true] <;> omega)); conv => whnf)
        | (refine sel_no ?_ ?_; (first | assumption | (simp only [beq_iff_eq, bne_iff_ne, beq_eq_false_iff_ne, bne_eq_false_iff_eq, decide_eq_true_eq, decide_eq_false_iff_not, Bool.not_eq_true', Bool.not_eq_false', ne_eq, beq_true, beq_false, bne_self_eq_false, not_true_eq_false, not_false_eq_true, gt_iff_lt, ge_iff_le, Int.not_lt, Int.not_le, Bool.true_eq_false, Bool.false_eq_true] <;> omega)); conv => whnf)
        | (refine ⟨le_rfl' ?_, ?_⟩; rfl; conv => whnf)
        | (refine ⟨⟨?_, ?_⟩, ?_⟩; omega; omega; conv => whnf)
        | (refine ⟨⟨?_, ?_, ?_⟩, ?_⟩; rfl; omega; omega; conv => whnf)
        | (refine ⟨rfl, ?_, ?_⟩; decide; conv => whnf))
      try exact rfl
      refine ldA (i := i) h1 ?_
      conv => whnf
      refine ⟨_, hE, ?_⟩
      conv => whnf
      repeat (first
        | (refine sel_yes ?_ ?_; (first | assumption | (simp only [beq_iff_eq, bne_iff_ne, beq_eq_false_iff_ne, bne_eq_false_iff_eq, decide_eq_true_eq, decide_eq_false_iff_not, Bool.not_eq_true', Bool.not_eq_false', ne_eq, beq_true, beq_false, bne_self_eq_false, not_true_eq_false, not_false_eq_true, gt_iff_lt, ge_iff_le, Int.not_lt, Int.not_le, Bool.true_eq_false, Bool.false_eq_true] <;> omega)); conv => whnf)
        | (refine sel_no ?_ ?_; (first | assumption | (simp only [beq_iff_eq, bne_iff_ne, beq_eq_false_iff_ne, bne_eq_false_iff_eq, decide_eq_true_eq, decide_eq_false_iff_not, Bool.not_eq_true', Bool.not_eq_false', ne_eq, beq_true, beq_false, bne_self_eq_false, not_true_eq_false, not_false_eq_true, gt_iff_lt, ge_iff_le, Int.not_lt, Int.not_le, Bool.true_eq_false, Bool.false_eq_true] <;> omega)); conv => whnf)
        | (refine ⟨le_rfl' ?_, ?_⟩; rfl; conv => whnf)
        | (refine ⟨⟨?_, ?_⟩, ?_⟩; omega; omega; conv => whnf)
        | (refine ⟨⟨?_, ?_, ?_⟩, ?_⟩; rfl; omega; omega; conv => whnf)
        | (refine ⟨rfl, ?_, ?_⟩; decide; conv => whnf))
      try exact rfl
      refine ih (i + 1) (c + partsV l[i]) _ (by omega) (by omega) (by omega) ⟨?_, rfl, rfl, ?_, rfl, rfl, rfl, trivial⟩ ⟨rfl, trivial⟩ rfl (fun z' a b => hr z' a (fun g => b ⟨g.1.2, by omega, by omega⟩)) (fun z' a b c' => hq z' ⟨?_, a.2⟩ b ⟨⟨hok.1, c'.1⟩, by omega, by omega⟩)
      · conv => lhs; whnf
        exact wrapN1 (by omega)
      · conv => lhs; whnf
        exact vi hw3
      · rw [a.1]; exact vi (by omega)
    · rw [hw1, hw2, fitZ_no hok] at hE
      rw [← hw1, ← hw2] at hE
      rw [St.knows _ _ ht hz _ hh]
      refine Loop.round ?_
      conv => whnf
      repeat (first
        | (refine sel_yes ?_ ?_; (first | assumption | (simp only [beq_iff_eq, bne_iff_ne, beq_eq_false_iff_ne, bne_eq_false_iff_eq, decide_eq_true_eq, decide_eq_false_iff_not, Bool.not_eq_true', Bool.not_eq_false', ne_eq, beq_true, beq_false, bne_self_eq_false, not_true_eq_false, not_false_eq_true, gt_iff_lt, ge_iff_le, Int.not_lt, Int.not_le, Bool.true_eq_false, Bool.false_eq_true] <;> omega)); conv => whnf)
        | (refine sel_no ?_ ?_; (first | assumption | (simp only [beq_iff_eq, bne_iff_ne, beq_eq_false_iff_ne, bne_eq_false_iff_eq, decide_eq_true_eq, decide_eq_false_iff_not, Bool.not_eq_true', Bool.not_eq_false', ne_eq, beq_true, beq_false, bne_self_eq_false, not_true_eq_false, not_false_eq_true, gt_iff_lt, ge_iff_le, Int.not_lt, Int.not_le, Bool.true_eq_false, Bool.false_eq_true] <;> omega)); conv => whnf)
        | (refine ⟨le_rfl' ?_, ?_⟩; rfl; conv => whnf)
        | (refine ⟨⟨?_, ?_⟩, ?_⟩; omega; omega; conv => whnf)
        | (refine ⟨⟨?_, ?_, ?_⟩, ?_⟩; rfl; omega; omega; conv => whnf)
        | (refine ⟨rfl, ?_, ?_⟩; decide; conv => whnf))
      try exact rfl
      refine ldA (i := i) h1 ?_
      conv => whnf
      refine ⟨_, hE, ?_⟩
      conv => whnf
      exact hr _ rfl (fun g => hok ⟨g.1.1, by omega, by omega⟩)
theorem deepV_pos {a : T} {l : List T} : 1 ≤ deepL (a :: l) := by simp only [deepL]; omega
theorem fits_one (hn : Non ext) (k n : Int) (t : ByteArray) (l : List T) (hw : WfV ⟨k, n, t, l⟩) (E : ∀ a ∈ l, FitE ext a) : FitE ext ⟨k, n, t, l⟩ := by
  intro d m hd0 hd hm hm0
  have hlp := partsL_len l
  have eO : OkV ⟨k, n, t, l⟩ ↔ PlainV k n t ∧ FormV k l ∧ OkL l := by simp only [OkV]
  have eDp : deepV ⟨k, n, t, l⟩ = deepL l := by simp only [deepV]
  have eP : partsV ⟨k, n, t, l⟩ = 1 + partsL l := by simp only [partsV]
  have key : ∃ r, (cfg ext).Ev 33 [A ⟨k, n, t, l⟩, .int .i64 d, .int .i64 m] r ∧ r = .int .i64 (fitZ ⟨k, n, t, l⟩ d m) := by
    refine Ev.ofF (hn 33 (by decide) (by decide)) Tryz.func33 rfl rfl ?_
    conv => whnf
    by_cases m1 : m < 1
    · rw [fitZ_no (fun h => by rw [eP] at h; omega)]
      repeat (first
        | (refine sel_yes ?_ ?_; (first | assumption | (simp only [beq_iff_eq, bne_iff_ne, beq_eq_false_iff_ne, bne_eq_false_iff_eq, decide_eq_true_eq, decide_eq_false_iff_not, Bool.not_eq_true', Bool.not_eq_false', ne_eq, beq_true, beq_false, bne_self_eq_false, not_true_eq_false, not_false_eq_true, gt_iff_lt, ge_iff_le, Int.not_lt, Int.not_le, Bool.true_eq_false, Bool.false_eq_true] <;> omega)); conv => whnf)
        | (refine sel_no ?_ ?_; (first | assumption | (simp only [beq_iff_eq, bne_iff_ne, beq_eq_false_iff_ne, bne_eq_false_iff_eq, decide_eq_true_eq, decide_eq_false_iff_not, Bool.not_eq_true', Bool.not_eq_false', ne_eq, beq_true, beq_false, bne_self_eq_false, not_true_eq_false, not_false_eq_true, gt_iff_lt, ge_iff_le, Int.not_lt, Int.not_le, Bool.true_eq_false, Bool.false_eq_true] <;> omega)); conv => whnf)
        | (refine ⟨le_rfl' ?_, ?_⟩; rfl; conv => whnf)
        | (refine ⟨⟨?_, ?_⟩, ?_⟩; omega; omega; conv => whnf)
        | (refine ⟨⟨?_, ?_, ?_⟩, ?_⟩; rfl; omega; omega; conv => whnf)
        | (refine ⟨rfl, ?_, ?_⟩; decide; conv => whnf))
      try exact rfl
      exact ⟨rfl⟩
    rcases l with _ | ⟨a, l⟩
    · have ho := rown hn k n t [] hw (by decide)
      have g : decide (((([] : List T).length : Nat) : Int) > m) = false := decide_eq_false (by simp; omega)
      repeat (first
        | (refine sel_yes ?_ ?_; (first | assumption | (simp only [beq_iff_eq, bne_iff_ne, beq_eq_false_iff_ne, bne_eq_false_iff_eq, decide_eq_true_eq, decide_eq_false_iff_not, Bool.not_eq_true', Bool.not_eq_false', ne_eq, beq_true, beq_false, bne_self_eq_false, not_true_eq_false, not_false_eq_true, gt_iff_lt, ge_iff_le, Int.not_lt, Int.not_le, Bool.true_eq_false, Bool.false_eq_true] <;> omega)); conv => whnf)
        | (refine sel_no ?_ ?_; (first | assumption | (simp only [beq_iff_eq, bne_iff_ne, beq_eq_false_iff_ne, bne_eq_false_iff_eq, decide_eq_true_eq, decide_eq_false_iff_not, Bool.not_eq_true', Bool.not_eq_false', ne_eq, beq_true, beq_false, bne_self_eq_false, not_true_eq_false, not_false_eq_true, gt_iff_lt, ge_iff_le, Int.not_lt, Int.not_le, Bool.true_eq_false, Bool.false_eq_true] <;> omega)); conv => whnf)
        | (refine ⟨le_rfl' ?_, ?_⟩; rfl; conv => whnf)
        | (refine ⟨⟨?_, ?_⟩, ?_⟩; omega; omega; conv => whnf)
        | (refine ⟨⟨?_, ?_, ?_⟩, ?_⟩; rfl; omega; omega; conv => whnf)
        | (refine ⟨rfl, ?_, ?_⟩; decide; conv => whnf))
      try exact rfl
      have hE0 : ∀ a ∈ ([] : List T), FitE ext a := fun a ha => by cases ha
      refine lfits k n t [] (Nat.zero_le _) hE0 d m (.inl rfl) hd0 hd hm _ 0 0 1 _ rfl (Nat.le_refl _) (by omega) ⟨rfl, rfl, rfl, rfl, rfl, rfl, rfl, trivial⟩ ⟨rfl, trivial⟩ (by rfl) (fun z a b => ?_) (fun z a b c => ?_)
      · exact absurd ⟨by simp only [List.drop_nil, OkL], by simp only [List.drop_nil, deepL]; omega, by simp only [List.drop_nil, partsL]; omega⟩ b
      · rw [St.knows _ z.hp.n a rfl _ b]
        conv => whnf
        refine ⟨_, ho, ?_⟩
        by_cases hp : PlainV k n t ∧ FormV k []
        · rw [propB_yes hp] at *
          rw [fitZ_yes ⟨eO.2 ⟨hp.1, hp.2, by simp only [OkL]⟩, by rw [eDp]; simp only [deepL]; omega, by rw [eP]; simp only [partsL]; omega⟩, eP]
          conv => whnf
          exact ⟨vi (by simp [partsL])⟩
        · rw [propB_no hp] at *
          rw [fitZ_no (fun h => hp ⟨(eO.1 h.1).1, (eO.1 h.1).2.1⟩)]
          conv => whnf
          exact ⟨rfl⟩
    · have hpos : (((a :: l).length : Nat) : Int) > 0 := by simp
      by_cases d0 : d = 0
      · rw [fitZ_no (fun h => by rw [eDp] at h; have := @deepV_pos a l; omega)]
        repeat (first
          | (refine sel_yes ?_ ?_; (first | assumption | (simp only [beq_iff_eq, bne_iff_ne, beq_eq_false_iff_ne, bne_eq_false_iff_eq, decide_eq_true_eq, decide_eq_false_iff_not, Bool.not_eq_true', Bool.not_eq_false', ne_eq, beq_true, beq_false, bne_self_eq_false, not_true_eq_false, not_false_eq_true, gt_iff_lt, ge_iff_le, Int.not_lt, Int.not_le, Bool.true_eq_false, Bool.false_eq_true] <;> omega)); conv => whnf)
          | (refine sel_no ?_ ?_; (first | assumption | (simp only [beq_iff_eq, bne_iff_ne, beq_eq_false_iff_ne, bne_eq_false_iff_eq, decide_eq_true_eq, decide_eq_false_iff_not, Bool.not_eq_true', Bool.not_eq_false', ne_eq, beq_true, beq_false, bne_self_eq_false, not_true_eq_false, not_false_eq_true, gt_iff_lt, ge_iff_le, Int.not_lt, Int.not_le, Bool.true_eq_false, Bool.false_eq_true] <;> omega)); conv => whnf)
          | (refine ⟨le_rfl' ?_, ?_⟩; rfl; conv => whnf)
          | (refine ⟨⟨?_, ?_⟩, ?_⟩; omega; omega; conv => whnf)
          | (refine ⟨⟨?_, ?_, ?_⟩, ?_⟩; rfl; omega; omega; conv => whnf)
          | (refine ⟨rfl, ?_, ?_⟩; decide; conv => whnf))
        try exact rfl
        exact ⟨rfl⟩
      by_cases hlm : (((a :: l).length : Nat) : Int) > m
      · rw [fitZ_no (fun h => by rw [eP] at h; omega)]
        repeat (first
          | (refine sel_yes ?_ ?_; (first | assumption | (simp only [beq_iff_eq, bne_iff_ne, beq_eq_false_iff_ne, bne_eq_false_iff_eq, decide_eq_true_eq, decide_eq_false_iff_not, Bool.not_eq_true', Bool.not_eq_false', ne_eq, beq_true, beq_false, bne_self_eq_false, not_true_eq_false, not_false_eq_true, gt_iff_lt, ge_iff_le, Int.not_lt, Int.not_le, Bool.true_eq_false, Bool.false_eq_true] <;> omega)); conv => whnf)
          | (refine sel_no ?_ ?_; (first | assumption | (simp only [beq_iff_eq, bne_iff_ne, beq_eq_false_iff_ne, bne_eq_false_iff_eq, decide_eq_true_eq, decide_eq_false_iff_not, Bool.not_eq_true', Bool.not_eq_false', ne_eq, beq_true, beq_false, bne_self_eq_false, not_true_eq_false, not_false_eq_true, gt_iff_lt, ge_iff_le, Int.not_lt, Int.not_le, Bool.true_eq_false, Bool.false_eq_true] <;> omega)); conv => whnf)
          | (refine ⟨le_rfl' ?_, ?_⟩; rfl; conv => whnf)
          | (refine ⟨⟨?_, ?_⟩, ?_⟩; omega; omega; conv => whnf)
          | (refine ⟨⟨?_, ?_, ?_⟩, ?_⟩; rfl; omega; omega; conv => whnf)
          | (refine ⟨rfl, ?_, ?_⟩; decide; conv => whnf))
        try exact rfl
        exact ⟨rfl⟩
      have ho := rown hn k n t (a :: l) hw (by omega)
      repeat (first
        | (refine sel_yes ?_ ?_; (first | assumption | (simp only [beq_iff_eq, bne_iff_ne, beq_eq_false_iff_ne, bne_eq_false_iff_eq, decide_eq_true_eq, decide_eq_false_iff_not, Bool.not_eq_true', Bool.not_eq_false', ne_eq, beq_true, beq_false, bne_self_eq_false, not_true_eq_false, not_false_eq_true, gt_iff_lt, ge_iff_le, Int.not_lt, Int.not_le, Bool.true_eq_false, Bool.false_eq_true] <;> omega)); conv => whnf)
        | (refine sel_no ?_ ?_; (first | assumption | (simp only [beq_iff_eq, bne_iff_ne, beq_eq_false_iff_ne, bne_eq_false_iff_eq, decide_eq_true_eq, decide_eq_false_iff_not, Bool.not_eq_true', Bool.not_eq_false', ne_eq, beq_true, beq_false, bne_self_eq_false, not_true_eq_false, not_false_eq_true, gt_iff_lt, ge_iff_le, Int.not_lt, Int.not_le, Bool.true_eq_false, Bool.false_eq_true] <;> omega)); conv => whnf)
        | (refine ⟨le_rfl' ?_, ?_⟩; rfl; conv => whnf)
        | (refine ⟨⟨?_, ?_⟩, ?_⟩; omega; omega; conv => whnf)
        | (refine ⟨⟨?_, ?_, ?_⟩, ?_⟩; rfl; omega; omega; conv => whnf)
        | (refine ⟨rfl, ?_, ?_⟩; decide; conv => whnf))
      try exact rfl
      refine lfits k n t (a :: l) (by omega) E d m (.inr (by omega)) hd0 hd hm _ (a :: l).length 0 1 _ rfl (Nat.zero_le _) (by omega) ⟨rfl, rfl, rfl, rfl, rfl, rfl, rfl, trivial⟩ ⟨rfl, trivial⟩ rfl (fun z b c => ?_) (fun z b c e => ?_)
      · refine Fin.tmp (i := 6) rfl b (vi ?_)
        rw [fitZ_no (fun h => c ?_)]
        rw [List.drop_zero]
        exact ⟨(eO.1 h.1).2.2, by rw [← eDp]; exact h.2.1, by have := h.2.2; rw [eP] at this; omega⟩
      · rw [List.drop_zero] at b e
        rw [St.knows _ z.hp.n b rfl _ c]
        conv => whnf
        refine ⟨_, ho, ?_⟩
        by_cases hp : PlainV k n t ∧ FormV k (a :: l)
        · rw [propB_yes hp] at *
          rw [fitZ_yes ⟨eO.2 ⟨hp.1, hp.2, e.1⟩, by rw [eDp]; exact e.2.1, by rw [eP]; have := e.2.2; omega⟩, eP]
          conv => whnf
          exact ⟨vi (by omega)⟩
        · rw [propB_no hp] at *
          rw [fitZ_no (fun h => hp ⟨(eO.1 h.1).1, (eO.1 h.1).2.1⟩)]
          conv => whnf
          exact ⟨rfl⟩
  obtain ⟨r, h, rfl⟩ := key
  exact h
mutual
theorem rfits (hn : Non ext) : (v : T) → WfV v → FitE ext v
  | ⟨k, n, t, l⟩, hw => by
    have hw' := hw
    simp only [WfV] at hw'
    exact fits_one hn k n t l hw (rfitsL hn l hw'.2.2.2.2)
theorem rfitsL (hn : Non ext) : (l : List T) → WfL l → ∀ a ∈ l, FitE ext a
  | [], _, a, ha => by cases ha
  | v :: l, hw, a, ha => by
    simp only [WfL] at hw
    rcases List.mem_cons.1 ha with e | h
    · rw [e]; exact rfits hn v hw.1
    · exact rfitsL hn l hw.2 a h
end
theorem rright (hn : Non ext) (v : T) (hw : WfV v) : (cfg ext).Ev 25 [A v] (.bool (okB v)) := by
  have h := rfits hn v hw 16 1024 (by decide) (by decide) (by decide) (by decide)
  cases ho : okB v with
  | true =>
    have hO := okB_iff.1 ho
    rw [fitZ_yes ⟨hO.1, by have := hO.2.1; omega, by have := hO.2.2; omega⟩] at h
    refine Ev.of (hn 25 (by decide) (by decide)) Tryz.func25 rfl rfl ?_
    conv => whnf
    refine ⟨_, h, ?_⟩
    conv => whnf
    try exact rfl
  | false =>
    have hO : ¬ OK v := fun h => by rw [okB_iff.2 h] at ho; cases ho
    rw [fitZ_no (fun g => hO ⟨g.1, by have := g.2.1; omega, by have := g.2.2; omega⟩)] at h
    refine Ev.of (hn 25 (by decide) (by decide)) Tryz.func25 rfl rfl ?_
    conv => whnf
    refine ⟨_, h, ?_⟩
    conv => whnf
    try exact rfl
end
end Go.Proofs.YtbekoaalaofloaaGreatDoor.AB
end

section
set_option linter.unusedVariables false
set_option linter.unusedSimpArgs false
open Go Go.Ab Go.Proofs Go.Vl
namespace Go.Proofs.YtbekoaalaofloaaGreatDoor.AB
set_option maxRecDepth 100000
set_option maxHeartbeats 8000000
set_option linter.unusedSimpArgs false
section
variable {ext : Exts}
def signI (a b : Int) : Int := if a < b then -1 else if b < a then 1 else 0
theorem rless (hn : Non ext) (a b : Int) : (cfg ext).Ev 45 [.int .u64 a, .int .u64 b] (.int .i64 (signI a b)) := by
  have key : ∃ r, (cfg ext).Ev 45 [.int .u64 a, .int .u64 b] r ∧ r = .int .i64 (signI a b) := by
    refine Ev.ofE (hn 45 (by decide) (by decide)) Tryz.func45 rfl rfl ?_
    conv => whnf
    by_cases h1 : a < b
    · repeat (first
        | (refine sel_yes ?_ ?_; (first | assumption | (simp only [beq_iff_eq, bne_iff_ne, beq_eq_false_iff_ne, bne_eq_false_iff_eq, decide_eq_true_eq, decide_eq_false_iff_not, Bool.not_eq_true', Bool.not_eq_false', ne_eq, beq_true, beq_false, bne_self_eq_false, not_true_eq_false, not_false_eq_true, gt_iff_lt, ge_iff_le, Int.not_lt, Int.not_le, Bool.true_eq_false, Bool.false_eq_true] <;> omega)); conv => whnf)
        | (refine sel_no ?_ ?_; (first | assumption | (simp only [beq_iff_eq, bne_iff_ne, beq_eq_false_iff_ne, bne_eq_false_iff_eq, decide_eq_true_eq, decide_eq_false_iff_not, Bool.not_eq_true', Bool.not_eq_false', ne_eq, beq_true, beq_false, bne_self_eq_false, not_true_eq_false, not_false_eq_true, gt_iff_lt, ge_iff_le, Int.not_lt, Int.not_le, Bool.true_eq_false, Bool.false_eq_true] <;> omega)); conv => whnf)
        | (refine ⟨le_rfl' ?_, ?_⟩; rfl; conv => whnf)
        | (refine ⟨⟨?_, ?_⟩, ?_⟩; omega; omega; conv => whnf)
        | (refine ⟨⟨?_, ?_, ?_⟩, ?_⟩; rfl; omega; omega; conv => whnf)
        | (refine ⟨rfl, ?_, ?_⟩; decide; conv => whnf))
      try exact rfl
      exact vi (by unfold signI; rw [if_pos h1])
    · by_cases h2 : b < a
      · repeat (first
          | (refine sel_yes ?_ ?_; (first | assumption | (simp only [beq_iff_eq, bne_iff_ne, beq_eq_false_iff_ne, bne_eq_false_iff_eq, decide_eq_true_eq, decide_eq_false_iff_not, Bool.not_eq_true', Bool.not_eq_false', ne_eq, beq_true, beq_false, bne_self_eq_false, not_true_eq_false, not_false_eq_true, gt_iff_lt, ge_iff_le, Int.not_lt, Int.not_le, Bool.true_eq_false, Bool.false_eq_true] <;> omega)); conv => whnf)
          | (refine sel_no ?_ ?_; (first | assumption | (simp only [beq_iff_eq, bne_iff_ne, beq_eq_false_iff_ne, bne_eq_false_iff_eq, decide_eq_true_eq, decide_eq_false_iff_not, Bool.not_eq_true', Bool.not_eq_false', ne_eq, beq_true, beq_false, bne_self_eq_false, not_true_eq_false, not_false_eq_true, gt_iff_lt, ge_iff_le, Int.not_lt, Int.not_le, Bool.true_eq_false, Bool.false_eq_true] <;> omega)); conv => whnf)
          | (refine ⟨le_rfl' ?_, ?_⟩; rfl; conv => whnf)
          | (refine ⟨⟨?_, ?_⟩, ?_⟩; omega; omega; conv => whnf)
          | (refine ⟨⟨?_, ?_, ?_⟩, ?_⟩; rfl; omega; omega; conv => whnf)
          | (refine ⟨rfl, ?_, ?_⟩; decide; conv => whnf))
        try exact rfl
        exact vi (by unfold signI; rw [if_neg h1, if_pos h2])
      · repeat (first
          | (refine sel_yes ?_ ?_; (first | assumption | (simp only [beq_iff_eq, bne_iff_ne, beq_eq_false_iff_ne, bne_eq_false_iff_eq, decide_eq_true_eq, decide_eq_false_iff_not, Bool.not_eq_true', Bool.not_eq_false', ne_eq, beq_true, beq_false, bne_self_eq_false, not_true_eq_false, not_false_eq_true, gt_iff_lt, ge_iff_le, Int.not_lt, Int.not_le, Bool.true_eq_false, Bool.false_eq_true] <;> omega)); conv => whnf)
          | (refine sel_no ?_ ?_; (first | assumption | (simp only [beq_iff_eq, bne_iff_ne, beq_eq_false_iff_ne, bne_eq_false_iff_eq, decide_eq_true_eq, decide_eq_false_iff_not, Bool.not_eq_true', Bool.not_eq_false', ne_eq, beq_true, beq_false, bne_self_eq_false, not_true_eq_false, not_false_eq_true, gt_iff_lt, ge_iff_le, Int.not_lt, Int.not_le, Bool.true_eq_false, Bool.false_eq_true] <;> omega)); conv => whnf)
          | (refine ⟨le_rfl' ?_, ?_⟩; rfl; conv => whnf)
          | (refine ⟨⟨?_, ?_⟩, ?_⟩; omega; omega; conv => whnf)
          | (refine ⟨⟨?_, ?_, ?_⟩, ?_⟩; rfl; omega; omega; conv => whnf)
          | (refine ⟨rfl, ?_, ?_⟩; decide; conv => whnf))
        try exact rfl
        exact vi (by unfold signI; rw [if_neg h1, if_neg h2])
  obtain ⟨r, h, rfl⟩ := key
  exact h
end
end Go.Proofs.YtbekoaalaofloaaGreatDoor.AB
end

section
set_option linter.unusedVariables false
set_option linter.unusedSimpArgs false
open Go Go.Ab Go.Proofs Go.Vl
namespace Go.Proofs.YtbekoaalaofloaaGreatDoor.AB
set_option maxRecDepth 100000
set_option maxHeartbeats 8000000
set_option linter.unusedSimpArgs false
section
variable {ext : Exts}
/-- how many parts a right value has -/
theorem rparts (hn : Non ext) (v : T) (hw : WfV v) (ho : okB v = true) : (cfg ext).Ev 47 [A v] (.tup [.int .i64 (partsV v), .int .i64 0]) := by
  have h := rfits hn v hw 16 1024 (by decide) (by decide) (by decide) (by decide)
  have hO := okB_iff.1 ho
  rw [fitZ_yes ⟨hO.1, by have := hO.2.1; omega, by have := hO.2.2; omega⟩] at h
  have key : ∃ r, (cfg ext).Ev 47 [A v] r ∧ r = (.tup [.int .i64 (partsV v), .int .i64 0]) := by
    refine Ev.ofE (hn 47 (by decide) (by decide)) Tryz.func47 rfl rfl ?_
    conv => whnf
    repeat (first
      | (refine sel_yes ?_ ?_; (first | assumption | (simp only [beq_iff_eq, bne_iff_ne, beq_eq_false_iff_ne, bne_eq_false_iff_eq, decide_eq_true_eq, decide_eq_false_iff_not, Bool.not_eq_true', Bool.not_eq_false', ne_eq, beq_true, beq_false, bne_self_eq_false, not_true_eq_false, not_false_eq_true, gt_iff_lt, ge_iff_le, Int.not_lt, Int.not_le, Bool.true_eq_false, Bool.false_eq_true] <;> omega)); conv => whnf)
      | (refine sel_no ?_ ?_; (first | assumption | (simp only [beq_iff_eq, bne_iff_ne, beq_eq_false_iff_ne, bne_eq_false_iff_eq, decide_eq_true_eq, decide_eq_false_iff_not, Bool.not_eq_true', Bool.not_eq_false', ne_eq, beq_true, beq_false, bne_self_eq_false, not_true_eq_false, not_false_eq_true, gt_iff_lt, ge_iff_le, Int.not_lt, Int.not_le, Bool.true_eq_false, Bool.false_eq_true] <;> omega)); conv => whnf)
      | (refine ⟨_, h, ?_⟩; conv => whnf)
      | (refine ⟨le_rfl' ?_, ?_⟩; rfl; conv => whnf)
      | (refine ⟨⟨?_, ?_⟩, ?_⟩; omega; omega; conv => whnf)
      | (refine ⟨⟨?_, ?_, ?_⟩, ?_⟩; rfl; omega; omega; conv => whnf)
      | (refine ⟨rfl, ?_, ?_⟩; decide; conv => whnf))
    try exact rfl
  obtain ⟨r, h, rfl⟩ := key
  exact h
theorem u64s {x : Int} (h0 : 0 ≤ x) (h1 : x < 18446744073709551616) : IntKind.u64.wrap x = x := by rw [IntKind.wrap_u64]; omega
/-- what an order asks ahead of natural order -/
noncomputable def firstZ (ext : Exts) (o : Int) (a b : T) : Int :=
  if o = 2 then cmpI (hZ ext a) (hZ ext b) else if o = 3 then cmpI (partsV a) (partsV b)
  else if o = 4 then (if a.f0 = 3 ∧ b.f0 = 3 then cmpI (lettersZ a.f2) (lettersZ b.f2) else 0)
  else 0
theorem rfirst2 (hn : Non ext) (a b : T) (ha : WfV a) (hb : WfV b) (oa : okB a = true) (ob : okB b = true) : (cfg ext).Ev 38 [.int .i64 2, A a, A b] (.int .i64 (firstZ ext 2 a b)) := by
  have h1 := whole hn a (okB_iff.1 oa).1 (okB_iff.1 oa).2.2
  have h2 := whole hn b (okB_iff.1 ob).1 (okB_iff.1 ob).2.2
  have g1 := h1.2.1
  have g2 := h2.2.1
  have u1 := h1.2.2
  have u2 := h2.2.2
  unfold U32 at u1 u2
  have l := rless hn (IntKind.u64.wrap (hZ ext a)) (IntKind.u64.wrap (hZ ext b))
  have es : signI (IntKind.u64.wrap (hZ ext a)) (IntKind.u64.wrap (hZ ext b)) = signI (hZ ext a) (hZ ext b) := by rw [u64s u1.1 (by omega), u64s u2.1 (by omega)]
  rw [es] at l
  have e : firstZ ext 2 a b = signI (hZ ext a) (hZ ext b) := by unfold firstZ; rw [if_pos rfl]; rfl
  rw [e]
  have key : ∃ r, (cfg ext).Ev 38 [.int .i64 2, A a, A b] r ∧ r = .int .i64 (signI (hZ ext a) (hZ ext b)) := by
    refine Ev.ofE (hn 38 (by decide) (by decide)) Tryz.func38 rfl rfl ?_
    conv => whnf
    refine ⟨_, g1, ?_⟩
    conv => whnf
    refine ⟨_, g2, ?_⟩
    conv => whnf
    refine ⟨_, l, ?_⟩
    conv => whnf
    try exact rfl
  obtain ⟨r, h, rfl⟩ := key
  exact h
theorem rfirst3 (hn : Non ext) (a b : T) (ha : WfV a) (hb : WfV b) (oa : okB a = true) (ob : okB b = true) : (cfg ext).Ev 38 [.int .i64 3, A a, A b] (.int .i64 (firstZ ext 3 a b)) := by
  have g1 := rparts hn a ha oa
  have g2 := rparts hn b hb ob
  have p1 := (okB_iff.1 oa).2.2
  have p2 := (okB_iff.1 ob).2.2
  have l := rless hn (IntKind.u64.wrap (partsV a)) (IntKind.u64.wrap (partsV b))
  have es : signI (IntKind.u64.wrap (partsV a)) (IntKind.u64.wrap (partsV b)) = signI (partsV a) (partsV b) := by rw [u64s (x := (partsV a : Int)) (by omega) (by omega), u64s (x := (partsV b : Int)) (by omega) (by omega)]
  rw [es] at l
  have e : firstZ ext 3 a b = signI (partsV a) (partsV b) := by unfold firstZ; rw [if_neg (by decide), if_pos rfl]; rfl
  rw [e]
  have key : ∃ r, (cfg ext).Ev 38 [.int .i64 3, A a, A b] r ∧ r = .int .i64 (signI (partsV a) (partsV b)) := by
    refine Ev.ofE (hn 38 (by decide) (by decide)) Tryz.func38 rfl rfl ?_
    conv => whnf
    refine ⟨_, g1, ?_⟩
    conv => whnf
    refine ⟨_, g2, ?_⟩
    conv => whnf
    refine ⟨_, l, ?_⟩
    conv => whnf
    try exact rfl
  obtain ⟨r, h, rfl⟩ := key
  exact h
end
end Go.Proofs.YtbekoaalaofloaaGreatDoor.AB
end

section
set_option linter.unusedVariables false
set_option linter.unusedSimpArgs false
open Go Go.Ab Go.Proofs Go.Vl
namespace Go.Proofs.YtbekoaalaofloaaGreatDoor.AB
set_option maxRecDepth 100000
set_option maxHeartbeats 8000000
set_option linter.unusedSimpArgs false
section
variable {ext : Exts}
theorem runesF_le (s : ByteArray) : ∀ (f p : Nat), runesF s f p ≤ f
  | 0, _ => Nat.le_refl _
  | f + 1, p => by
    simp only [runesF]
    split
    · have := runesF_le s f (p + (Utf8.decode s p).2); omega
    · omega
theorem rfirst0 (hn : Non ext) (o : Int) (a b : T) (ho : o = 0 ∨ o = 1) : (cfg ext).Ev 38 [.int .i64 o, A a, A b] (.int .i64 0) := by
  have key : ∃ r, (cfg ext).Ev 38 [.int .i64 o, A a, A b] r ∧ r = .int .i64 0 := by
    refine Ev.ofE (hn 38 (by decide) (by decide)) Tryz.func38 rfl rfl ?_
    conv => whnf
    repeat (first
      | (refine sel_yes ?_ ?_; (first | assumption | (simp only [beq_iff_eq, bne_iff_ne, beq_eq_false_iff_ne, bne_eq_false_iff_eq, decide_eq_true_eq, decide_eq_false_iff_not, Bool.not_eq_true', Bool.not_eq_false', ne_eq, beq_true, beq_false, bne_self_eq_false, not_true_eq_false, not_false_eq_true, gt_iff_lt, ge_iff_le, Int.not_lt, Int.not_le, Bool.true_eq_false, Bool.false_eq_true] <;> omega)); conv => whnf)
      | (refine sel_no ?_ ?_; (first | assumption | (simp only [beq_iff_eq, bne_iff_ne, beq_eq_false_iff_ne, bne_eq_false_iff_eq, decide_eq_true_eq, decide_eq_false_iff_not, Bool.not_eq_true', Bool.not_eq_false', ne_eq, beq_true, beq_false, bne_self_eq_false, not_true_eq_false, not_false_eq_true, gt_iff_lt, ge_iff_le, Int.not_lt, Int.not_le, Bool.true_eq_false, Bool.false_eq_true] <;> omega)); conv => whnf)
      | (refine ⟨le_rfl' ?_, ?_⟩; rfl; conv => whnf)
      | (refine ⟨⟨?_, ?_⟩, ?_⟩; omega; omega; conv => whnf)
      | (refine ⟨⟨?_, ?_, ?_⟩, ?_⟩; rfl; omega; omega; conv => whnf)
      | (refine ⟨rfl, ?_, ?_⟩; decide; conv => whnf))
    try exact rfl
  obtain ⟨r, h, rfl⟩ := key
  exact h
theorem rfirst4 (hn : Non ext) (a b : T) (h3 : a.f0 = 3) (g3 : b.f0 = 3) (pa : utfB a.f2 = true) (pb : utfB b.f2 = true) (za : a.f2.size ≤ 256) (zb : b.f2.size ≤ 256) : (cfg ext).Ev 38 [.int .i64 4, A a, A b] (.int .i64 (cmpI (runesF a.f2 a.f2.size 0 : Nat) (runesF b.f2 b.f2.size 0 : Nat))) := by
  have g1 := rletters hn a.f2 (by omega)
  have g2 := rletters hn b.f2 (by omega)
  have ba := runesF_le a.f2 a.f2.size 0
  have bb := runesF_le b.f2 b.f2.size 0
  rw [letters_runes _ pa] at g1
  rw [letters_runes _ pb] at g2
  generalize runesF a.f2 a.f2.size 0 = x at g1 ba
  generalize runesF b.f2 b.f2.size 0 = y at g2 bb
  have l := rless hn (IntKind.u64.wrap x) (IntKind.u64.wrap y)
  have es : signI (IntKind.u64.wrap x) (IntKind.u64.wrap y) = cmpI x y := by rw [u64s (x := (x : Int)) (by omega) (by omega), u64s (x := (y : Int)) (by omega) (by omega)]; rfl
  rw [es] at l
  have t1 : (a.f0 == 3) = true := by rw [h3]; rfl
  have t2 : (b.f0 == 3) = true := by rw [g3]; rfl
  have key : ∃ r, (cfg ext).Ev 38 [.int .i64 4, A a, A b] r ∧ r = .int .i64 (cmpI x y) := by
    refine Ev.ofE (hn 38 (by decide) (by decide)) Tryz.func38 rfl rfl ?_
    conv => whnf
    repeat (first
      | (refine sel_yes ?_ ?_; (first | assumption | (simp only [beq_iff_eq, bne_iff_ne, beq_eq_false_iff_ne, bne_eq_false_iff_eq, decide_eq_true_eq, decide_eq_false_iff_not, Bool.not_eq_true', Bool.not_eq_false', ne_eq, beq_true, beq_false, bne_self_eq_false, not_true_eq_false, not_false_eq_true, gt_iff_lt, ge_iff_le, Int.not_lt, Int.not_le, Bool.true_eq_false, Bool.false_eq_true] <;> omega)); conv => whnf)
      | (refine sel_no ?_ ?_; (first | assumption | (simp only [beq_iff_eq, bne_iff_ne, beq_eq_false_iff_ne, bne_eq_false_iff_eq, decide_eq_true_eq, decide_eq_false_iff_not, Bool.not_eq_true', Bool.not_eq_false', ne_eq, beq_true, beq_false, bne_self_eq_false, not_true_eq_false, not_false_eq_true, gt_iff_lt, ge_iff_le, Int.not_lt, Int.not_le, Bool.true_eq_false, Bool.false_eq_true] <;> omega)); conv => whnf)
      | (refine ⟨_, g1, ?_⟩; conv => whnf)
      | (refine ⟨_, g2, ?_⟩; conv => whnf)
      | (refine ⟨_, l, ?_⟩; conv => whnf)
      | (refine ⟨le_rfl' ?_, ?_⟩; rfl; conv => whnf)
      | (refine ⟨⟨?_, ?_⟩, ?_⟩; omega; omega; conv => whnf)
      | (refine ⟨⟨?_, ?_, ?_⟩, ?_⟩; rfl; omega; omega; conv => whnf)
      | (refine ⟨rfl, ?_, ?_⟩; decide; conv => whnf))
    try exact rfl
  obtain ⟨r, h, rfl⟩ := key
  exact h
theorem rfirst4n (hn : Non ext) (a b : T) (h3 : ¬ (a.f0 = 3 ∧ b.f0 = 3)) : (cfg ext).Ev 38 [.int .i64 4, A a, A b] (.int .i64 0) := by
  have key : ∃ r, (cfg ext).Ev 38 [.int .i64 4, A a, A b] r ∧ r = .int .i64 0 := by
    refine Ev.ofE (hn 38 (by decide) (by decide)) Tryz.func38 rfl rfl ?_
    conv => whnf
    by_cases h1 : a.f0 = 3
    · have h2 : b.f0 ≠ 3 := fun h => h3 ⟨h1, h⟩
      repeat (first
        | (refine sel_yes ?_ ?_; (first | assumption | (simp only [beq_iff_eq, bne_iff_ne, beq_eq_false_iff_ne, bne_eq_false_iff_eq, decide_eq_true_eq, decide_eq_false_iff_not, Bool.not_eq_true', Bool.not_eq_false', ne_eq, beq_true, beq_false, bne_self_eq_false, not_true_eq_false, not_false_eq_true, gt_iff_lt, ge_iff_le, Int.not_lt, Int.not_le, Bool.true_eq_false, Bool.false_eq_true] <;> omega)); conv => whnf)
        | (refine sel_no ?_ ?_; (first | assumption | (simp only [beq_iff_eq, bne_iff_ne, beq_eq_false_iff_ne, bne_eq_false_iff_eq, decide_eq_true_eq, decide_eq_false_iff_not, Bool.not_eq_true', Bool.not_eq_false', ne_eq, beq_true, beq_false, bne_self_eq_false, not_true_eq_false, not_false_eq_true, gt_iff_lt, ge_iff_le, Int.not_lt, Int.not_le, Bool.true_eq_false, Bool.false_eq_true] <;> omega)); conv => whnf)
        | (refine ⟨le_rfl' ?_, ?_⟩; rfl; conv => whnf)
        | (refine ⟨⟨?_, ?_⟩, ?_⟩; omega; omega; conv => whnf)
        | (refine ⟨⟨?_, ?_, ?_⟩, ?_⟩; rfl; omega; omega; conv => whnf)
        | (refine ⟨rfl, ?_, ?_⟩; decide; conv => whnf))
      try exact rfl
    · repeat (first
        | (refine sel_yes ?_ ?_; (first | assumption | (simp only [beq_iff_eq, bne_iff_ne, beq_eq_false_iff_ne, bne_eq_false_iff_eq, decide_eq_true_eq, decide_eq_false_iff_not, Bool.not_eq_true', Bool.not_eq_false', ne_eq, beq_true, beq_false, bne_self_eq_false, not_true_eq_false, not_false_eq_true, gt_iff_lt, ge_iff_le, Int.not_lt, Int.not_le, Bool.true_eq_false, Bool.false_eq_true] <;> omega)); conv => whnf)
        | (refine sel_no ?_ ?_; (first | assumption | (simp only [beq_iff_eq, bne_iff_ne, beq_eq_false_iff_ne, bne_eq_false_iff_eq, decide_eq_true_eq, decide_eq_false_iff_not, Bool.not_eq_true', Bool.not_eq_false', ne_eq, beq_true, beq_false, bne_self_eq_false, not_true_eq_false, not_false_eq_true, gt_iff_lt, ge_iff_le, Int.not_lt, Int.not_le, Bool.true_eq_false, Bool.false_eq_true] <;> omega)); conv => whnf)
        | (refine ⟨le_rfl' ?_, ?_⟩; rfl; conv => whnf)
        | (refine ⟨⟨?_, ?_⟩, ?_⟩; omega; omega; conv => whnf)
        | (refine ⟨⟨?_, ?_, ?_⟩, ?_⟩; rfl; omega; omega; conv => whnf)
        | (refine ⟨rfl, ?_, ?_⟩; decide; conv => whnf))
      try exact rfl
  obtain ⟨r, h, rfl⟩ := key
  exact h
end
end Go.Proofs.YtbekoaalaofloaaGreatDoor.AB
end

section
set_option linter.unusedVariables false
set_option linter.unusedSimpArgs false
open Go Go.Ab Go.Proofs Go.Vl
namespace Go.Proofs.YtbekoaalaofloaaGreatDoor.AB
set_option maxRecDepth 100000
set_option maxHeartbeats 8000000
set_option linter.unusedSimpArgs false
section
variable {ext : Exts}
theorem rfar (hn : Non ext) (n : Int) : (cfg ext).Ev 48 [.int .i64 n] (.int .u64 (awy n)) := by
  have key : ∃ r, (cfg ext).Ev 48 [.int .i64 n] r ∧ r = .int .u64 (awy n) := by
    refine Ev.ofE (hn 48 (by decide) (by decide)) Tryz.func48 rfl rfl ?_
    conv => whnf
    by_cases h : n < 0
    · repeat (first
        | (refine sel_yes ?_ ?_; (first | assumption | (simp only [beq_iff_eq, bne_iff_ne, beq_eq_false_iff_ne, bne_eq_false_iff_eq, decide_eq_true_eq, decide_eq_false_iff_not, Bool.not_eq_true', Bool.not_eq_false', ne_eq, beq_true, beq_false, bne_self_eq_false, not_true_eq_false, not_false_eq_true, gt_iff_lt, ge_iff_le, Int.not_lt, Int.not_le, Bool.true_eq_false, Bool.false_eq_true] <;> omega)); conv => whnf)
        | (refine sel_no ?_ ?_; (first | assumption | (simp only [beq_iff_eq, bne_iff_ne, beq_eq_false_iff_ne, bne_eq_false_iff_eq, decide_eq_true_eq, decide_eq_false_iff_not, Bool.not_eq_true', Bool.not_eq_false', ne_eq, beq_true, beq_false, bne_self_eq_false, not_true_eq_false, not_false_eq_true, gt_iff_lt, ge_iff_le, Int.not_lt, Int.not_le, Bool.true_eq_false, Bool.false_eq_true] <;> omega)); conv => whnf)
        | (refine ⟨le_rfl' ?_, ?_⟩; rfl; conv => whnf)
        | (refine ⟨⟨?_, ?_⟩, ?_⟩; omega; omega; conv => whnf)
        | (refine ⟨⟨?_, ?_, ?_⟩, ?_⟩; rfl; omega; omega; conv => whnf)
        | (refine ⟨rfl, ?_, ?_⟩; decide; conv => whnf))
      try exact rfl
      try exact vi (by unfold awy; rw [if_pos h])
    · repeat (first
        | (refine sel_yes ?_ ?_; (first | assumption | (simp only [beq_iff_eq, bne_iff_ne, beq_eq_false_iff_ne, bne_eq_false_iff_eq, decide_eq_true_eq, decide_eq_false_iff_not, Bool.not_eq_true', Bool.not_eq_false', ne_eq, beq_true, beq_false, bne_self_eq_false, not_true_eq_false, not_false_eq_true, gt_iff_lt, ge_iff_le, Int.not_lt, Int.not_le, Bool.true_eq_false, Bool.false_eq_true] <;> omega)); conv => whnf)
        | (refine sel_no ?_ ?_; (first | assumption | (simp only [beq_iff_eq, bne_iff_ne, beq_eq_false_iff_ne, bne_eq_false_iff_eq, decide_eq_true_eq, decide_eq_false_iff_not, Bool.not_eq_true', Bool.not_eq_false', ne_eq, beq_true, beq_false, bne_self_eq_false, not_true_eq_false, not_false_eq_true, gt_iff_lt, ge_iff_le, Int.not_lt, Int.not_le, Bool.true_eq_false, Bool.false_eq_true] <;> omega)); conv => whnf)
        | (refine ⟨le_rfl' ?_, ?_⟩; rfl; conv => whnf)
        | (refine ⟨⟨?_, ?_⟩, ?_⟩; omega; omega; conv => whnf)
        | (refine ⟨⟨?_, ?_, ?_⟩, ?_⟩; rfl; omega; omega; conv => whnf)
        | (refine ⟨rfl, ?_, ?_⟩; decide; conv => whnf))
      try exact rfl
      try exact vi (by unfold awy; rw [if_neg h])
  obtain ⟨r, h, rfl⟩ := key
  exact h
theorem rfirst5 (hn : Non ext) (a b : T) (h3 : a.f0 = 2) (g3 : b.f0 = 2) : (cfg ext).Ev 38 [.int .i64 5, A a, A b] (.int .i64 (cmpI (awy a.f1) (awy b.f1))) := by
  have g1 := rfar hn a.f1
  have g2 := rfar hn b.f1
  have l := rless hn (awy a.f1) (awy b.f1)
  have t1 : (a.f0 == 2) = true := by rw [h3]; rfl
  have t2 : (b.f0 == 2) = true := by rw [g3]; rfl
  have key : ∃ r, (cfg ext).Ev 38 [.int .i64 5, A a, A b] r ∧ r = .int .i64 (cmpI (awy a.f1) (awy b.f1)) := by
    refine Ev.ofE (hn 38 (by decide) (by decide)) Tryz.func38 rfl rfl ?_
    conv => whnf
    repeat (first
      | (refine sel_yes ?_ ?_; (first | assumption | (simp only [beq_iff_eq, bne_iff_ne, beq_eq_false_iff_ne, bne_eq_false_iff_eq, decide_eq_true_eq, decide_eq_false_iff_not, Bool.not_eq_true', Bool.not_eq_false', ne_eq, beq_true, beq_false, bne_self_eq_false, not_true_eq_false, not_false_eq_true, gt_iff_lt, ge_iff_le, Int.not_lt, Int.not_le, Bool.true_eq_false, Bool.false_eq_true] <;> omega)); conv => whnf)
      | (refine sel_no ?_ ?_; (first | assumption | (simp only [beq_iff_eq, bne_iff_ne, beq_eq_false_iff_ne, bne_eq_false_iff_eq, decide_eq_true_eq, decide_eq_false_iff_not, Bool.not_eq_true', Bool.not_eq_false', ne_eq, beq_true, beq_false, bne_self_eq_false, not_true_eq_false, not_false_eq_true, gt_iff_lt, ge_iff_le, Int.not_lt, Int.not_le, Bool.true_eq_false, Bool.false_eq_true] <;> omega)); conv => whnf)
      | (refine ⟨_, g1, ?_⟩; conv => whnf)
      | (refine ⟨_, g2, ?_⟩; conv => whnf)
      | (refine ⟨_, l, ?_⟩; conv => whnf)
      | (refine ⟨le_rfl' ?_, ?_⟩; rfl; conv => whnf)
      | (refine ⟨⟨?_, ?_⟩, ?_⟩; omega; omega; conv => whnf)
      | (refine ⟨⟨?_, ?_, ?_⟩, ?_⟩; rfl; omega; omega; conv => whnf)
      | (refine ⟨rfl, ?_, ?_⟩; decide; conv => whnf))
    try exact rfl
  obtain ⟨r, h, rfl⟩ := key
  exact h
theorem rfirst5n (hn : Non ext) (a b : T) (h3 : ¬ (a.f0 = 2 ∧ b.f0 = 2)) : (cfg ext).Ev 38 [.int .i64 5, A a, A b] (.int .i64 0) := by
  have key : ∃ r, (cfg ext).Ev 38 [.int .i64 5, A a, A b] r ∧ r = .int .i64 0 := by
    refine Ev.ofE (hn 38 (by decide) (by decide)) Tryz.func38 rfl rfl ?_
    conv => whnf
    by_cases h1 : a.f0 = 2
    · have h2 : b.f0 ≠ 2 := fun h => h3 ⟨h1, h⟩
      repeat (first
        | (refine sel_yes ?_ ?_; (first | assumption | (simp only [beq_iff_eq, bne_iff_ne, beq_eq_false_iff_ne, bne_eq_false_iff_eq, decide_eq_true_eq, decide_eq_false_iff_not, Bool.not_eq_true', Bool.not_eq_false', ne_eq, beq_true, beq_false, bne_self_eq_false, not_true_eq_false, not_false_eq_true, gt_iff_lt, ge_iff_le, Int.not_lt, Int.not_le, Bool.true_eq_false, Bool.false_eq_true] <;> omega)); conv => whnf)
        | (refine sel_no ?_ ?_; (first | assumption | (simp only [beq_iff_eq, bne_iff_ne, beq_eq_false_iff_ne, bne_eq_false_iff_eq, decide_eq_true_eq, decide_eq_false_iff_not, Bool.not_eq_true', Bool.not_eq_false', ne_eq, beq_true, beq_false, bne_self_eq_false, not_true_eq_false, not_false_eq_true, gt_iff_lt, ge_iff_le, Int.not_lt, Int.not_le, Bool.true_eq_false, Bool.false_eq_true] <;> omega)); conv => whnf)
        | (refine ⟨le_rfl' ?_, ?_⟩; rfl; conv => whnf)
        | (refine ⟨⟨?_, ?_⟩, ?_⟩; omega; omega; conv => whnf)
        | (refine ⟨⟨?_, ?_, ?_⟩, ?_⟩; rfl; omega; omega; conv => whnf)
        | (refine ⟨rfl, ?_, ?_⟩; decide; conv => whnf))
      try exact rfl
    · repeat (first
        | (refine sel_yes ?_ ?_; (first | assumption | (simp only [beq_iff_eq, bne_iff_ne, beq_eq_false_iff_ne, bne_eq_false_iff_eq, decide_eq_true_eq, decide_eq_false_iff_not, Bool.not_eq_true', Bool.not_eq_false', ne_eq, beq_true, beq_false, bne_self_eq_false, not_true_eq_false, not_false_eq_true, gt_iff_lt, ge_iff_le, Int.not_lt, Int.not_le, Bool.true_eq_false, Bool.false_eq_true] <;> omega)); conv => whnf)
        | (refine sel_no ?_ ?_; (first | assumption | (simp only [beq_iff_eq, bne_iff_ne, beq_eq_false_iff_ne, bne_eq_false_iff_eq, decide_eq_true_eq, decide_eq_false_iff_not, Bool.not_eq_true', Bool.not_eq_false', ne_eq, beq_true, beq_false, bne_self_eq_false, not_true_eq_false, not_false_eq_true, gt_iff_lt, ge_iff_le, Int.not_lt, Int.not_le, Bool.true_eq_false, Bool.false_eq_true] <;> omega)); conv => whnf)
        | (refine ⟨le_rfl' ?_, ?_⟩; rfl; conv => whnf)
        | (refine ⟨⟨?_, ?_⟩, ?_⟩; omega; omega; conv => whnf)
        | (refine ⟨⟨?_, ?_, ?_⟩, ?_⟩; rfl; omega; omega; conv => whnf)
        | (refine ⟨rfl, ?_, ?_⟩; decide; conv => whnf))
      try exact rfl
  obtain ⟨r, h, rfl⟩ := key
  exact h
/-- what the reference says of two values by an order, when it says c ahead of natural order -/
theorem rordered (hn : Non ext) (o : Int) (a b : T) (ha : WfV a) (hb : WfV b) (c : Int) (hc : (cfg ext).Ev 38 [.int .i64 o, A a, A b] (.int .i64 c)) (h1 : c = -1 ∨ c = 0 ∨ c = 1) :
    (cfg ext).Ev 34 [.int .i64 o, A a, A b] (.int .i64 (if o = 1 then -(if c = 0 then cmpV a b else c) else if c = 0 then cmpV a b else c)) := by
  have g := rcmp hn a ha b
  have one := cmpV_one a b
  have key : ∃ r, (cfg ext).Ev 34 [.int .i64 o, A a, A b] r ∧ r = .int .i64 (if o = 1 then -(if c = 0 then cmpV a b else c) else if c = 0 then cmpV a b else c) := by
    refine Ev.ofE (hn 34 (by decide) (by decide)) Tryz.func34 rfl rfl ?_
    conv => whnf
    refine ⟨_, hc, ?_⟩
    conv => whnf
    by_cases c0 : c = 0
    · by_cases o1 : o = 1
      · repeat (first
          | (refine sel_yes ?_ ?_; (first | assumption | (simp only [beq_iff_eq, bne_iff_ne, beq_eq_false_iff_ne, bne_eq_false_iff_eq, decide_eq_true_eq, decide_eq_false_iff_not, Bool.not_eq_true', Bool.not_eq_false', ne_eq, beq_true, beq_false, bne_self_eq_false, not_true_eq_false, not_false_eq_true, gt_iff_lt, ge_iff_le, Int.not_lt, Int.not_le, Bool.true_eq_false, Bool.false_eq_true] <;> omega)); conv => whnf)
          | (refine sel_no ?_ ?_; (first | assumption | (simp only [beq_iff_eq, bne_iff_ne, beq_eq_false_iff_ne, bne_eq_false_iff_eq, decide_eq_true_eq, decide_eq_false_iff_not, Bool.not_eq_true', Bool.not_eq_false', ne_eq, beq_true, beq_false, bne_self_eq_false, not_true_eq_false, not_false_eq_true, gt_iff_lt, ge_iff_le, Int.not_lt, Int.not_le, Bool.true_eq_false, Bool.false_eq_true] <;> omega)); conv => whnf)
          | (refine ⟨_, g, ?_⟩; conv => whnf)
          | (refine ⟨le_rfl' ?_, ?_⟩; rfl; conv => whnf)
          | (refine ⟨⟨?_, ?_⟩, ?_⟩; omega; omega; conv => whnf)
          | (refine ⟨⟨?_, ?_, ?_⟩, ?_⟩; rfl; omega; omega; conv => whnf)
          | (refine ⟨rfl, ?_, ?_⟩; decide; conv => whnf))
        try exact rfl
        exact vi (by rw [if_pos o1, if_pos c0]; show IntKind.i64.wrap _ = _; rw [IntKind.wrap_i64]; unfold Go.Vl.One at one; omega)
      · repeat (first
          | (refine sel_yes ?_ ?_; (first | assumption | (simp only [beq_iff_eq, bne_iff_ne, beq_eq_false_iff_ne, bne_eq_false_iff_eq, decide_eq_true_eq, decide_eq_false_iff_not, Bool.not_eq_true', Bool.not_eq_false', ne_eq, beq_true, beq_false, bne_self_eq_false, not_true_eq_false, not_false_eq_true, gt_iff_lt, ge_iff_le, Int.not_lt, Int.not_le, Bool.true_eq_false, Bool.false_eq_true] <;> omega)); conv => whnf)
          | (refine sel_no ?_ ?_; (first | assumption | (simp only [beq_iff_eq, bne_iff_ne, beq_eq_false_iff_ne, bne_eq_false_iff_eq, decide_eq_true_eq, decide_eq_false_iff_not, Bool.not_eq_true', Bool.not_eq_false', ne_eq, beq_true, beq_false, bne_self_eq_false, not_true_eq_false, not_false_eq_true, gt_iff_lt, ge_iff_le, Int.not_lt, Int.not_le, Bool.true_eq_false, Bool.false_eq_true] <;> omega)); conv => whnf)
          | (refine ⟨_, g, ?_⟩; conv => whnf)
          | (refine ⟨le_rfl' ?_, ?_⟩; rfl; conv => whnf)
          | (refine ⟨⟨?_, ?_⟩, ?_⟩; omega; omega; conv => whnf)
          | (refine ⟨⟨?_, ?_, ?_⟩, ?_⟩; rfl; omega; omega; conv => whnf)
          | (refine ⟨rfl, ?_, ?_⟩; decide; conv => whnf))
        try exact rfl
        exact vi (by rw [if_neg o1, if_pos c0])
    · by_cases o1 : o = 1
      · repeat (first
          | (refine sel_yes ?_ ?_; (first | assumption | (simp only [beq_iff_eq, bne_iff_ne, beq_eq_false_iff_ne, bne_eq_false_iff_eq, decide_eq_true_eq, decide_eq_false_iff_not, Bool.not_eq_true', Bool.not_eq_false', ne_eq, beq_true, beq_false, bne_self_eq_false, not_true_eq_false, not_false_eq_true, gt_iff_lt, ge_iff_le, Int.not_lt, Int.not_le, Bool.true_eq_false, Bool.false_eq_true] <;> omega)); conv => whnf)
          | (refine sel_no ?_ ?_; (first | assumption | (simp only [beq_iff_eq, bne_iff_ne, beq_eq_false_iff_ne, bne_eq_false_iff_eq, decide_eq_true_eq, decide_eq_false_iff_not, Bool.not_eq_true', Bool.not_eq_false', ne_eq, beq_true, beq_false, bne_self_eq_false, not_true_eq_false, not_false_eq_true, gt_iff_lt, ge_iff_le, Int.not_lt, Int.not_le, Bool.true_eq_false, Bool.false_eq_true] <;> omega)); conv => whnf)
          | (refine ⟨_, g, ?_⟩; conv => whnf)
          | (refine ⟨le_rfl' ?_, ?_⟩; rfl; conv => whnf)
          | (refine ⟨⟨?_, ?_⟩, ?_⟩; omega; omega; conv => whnf)
          | (refine ⟨⟨?_, ?_, ?_⟩, ?_⟩; rfl; omega; omega; conv => whnf)
          | (refine ⟨rfl, ?_, ?_⟩; decide; conv => whnf))
        try exact rfl
        exact vi (by rw [if_pos o1, if_neg c0]; show IntKind.i64.wrap _ = _; rw [IntKind.wrap_i64]; omega)
      · repeat (first
          | (refine sel_yes ?_ ?_; (first | assumption | (simp only [beq_iff_eq, bne_iff_ne, beq_eq_false_iff_ne, bne_eq_false_iff_eq, decide_eq_true_eq, decide_eq_false_iff_not, Bool.not_eq_true', Bool.not_eq_false', ne_eq, beq_true, beq_false, bne_self_eq_false, not_true_eq_false, not_false_eq_true, gt_iff_lt, ge_iff_le, Int.not_lt, Int.not_le, Bool.true_eq_false, Bool.false_eq_true] <;> omega)); conv => whnf)
          | (refine sel_no ?_ ?_; (first | assumption | (simp only [beq_iff_eq, bne_iff_ne, beq_eq_false_iff_ne, bne_eq_false_iff_eq, decide_eq_true_eq, decide_eq_false_iff_not, Bool.not_eq_true', Bool.not_eq_false', ne_eq, beq_true, beq_false, bne_self_eq_false, not_true_eq_false, not_false_eq_true, gt_iff_lt, ge_iff_le, Int.not_lt, Int.not_le, Bool.true_eq_false, Bool.false_eq_true] <;> omega)); conv => whnf)
          | (refine ⟨_, g, ?_⟩; conv => whnf)
          | (refine ⟨le_rfl' ?_, ?_⟩; rfl; conv => whnf)
          | (refine ⟨⟨?_, ?_⟩, ?_⟩; omega; omega; conv => whnf)
          | (refine ⟨⟨?_, ?_, ?_⟩, ?_⟩; rfl; omega; omega; conv => whnf)
          | (refine ⟨rfl, ?_, ?_⟩; decide; conv => whnf))
        try exact rfl
        exact vi (by rw [if_neg o1, if_neg c0])
  obtain ⟨r, h, rfl⟩ := key
  exact h
end
end Go.Proofs.YtbekoaalaofloaaGreatDoor.AB
end

section
set_option linter.unusedVariables false
set_option linter.unusedSimpArgs false
open Go Go.Ab Go.Proofs Go.Vl
namespace Go.Proofs.YtbekoaalaofloaaGreatDoor.AB
set_option maxRecDepth 100000
set_option maxHeartbeats 8000000
set_option linter.unusedSimpArgs false
section
variable {ext : Exts}
end
end Go.Proofs.YtbekoaalaofloaaGreatDoor.AB
end

section
set_option linter.unusedVariables false
set_option linter.unusedSimpArgs false
open Go Go.Ab Go.Proofs Go.Vl
namespace Go.Proofs.YtbekoaalaofloaaGreatDoor.AB
set_option maxRecDepth 100000
set_option maxHeartbeats 8000000
set_option linter.unusedSimpArgs false
section
variable {ext : Exts}
/-- how an order sets two values -/
noncomputable def ordF (ext : Exts) (o : Int) (a b : T) : Int :=
  if o = 0 then cmpV a b else if o = 1 then cmpV b a else if o = 2 then lexC (hZ ext) a b else if o = 3 then lexC (fun v => (partsV v : Nat)) a b
  else if o = 4 then kindC 3 (fun v => (runesF v.f2 v.f2.size 0 : Nat)) a b else kindC 2 (fun v => awy v.f1) a b
theorem ordF0 (a b : T) : ordF ext 0 a b = cmpV a b := by unfold ordF; rw [if_pos rfl]
theorem ordF1 (a b : T) : ordF ext 1 a b = cmpV b a := by unfold ordF; rw [if_neg (by decide), if_pos rfl]
theorem ordF2 (a b : T) : ordF ext 2 a b = lexC (hZ ext) a b := by unfold ordF; rw [if_neg (by decide), if_neg (by decide), if_pos rfl]
theorem ordF3 (a b : T) : ordF ext 3 a b = lexC (fun v => (partsV v : Nat)) a b := by unfold ordF; rw [if_neg (by decide), if_neg (by decide), if_neg (by decide), if_pos rfl]
theorem ordF4 (a b : T) : ordF ext 4 a b = kindC 3 (fun v => (runesF v.f2 v.f2.size 0 : Nat)) a b := by unfold ordF; rw [if_neg (by decide), if_neg (by decide), if_neg (by decide), if_neg (by decide), if_pos rfl]
theorem ordF5 (a b : T) : ordF ext 5 a b = kindC 2 (fun v => awy v.f1) a b := by unfold ordF; rw [if_neg (by decide), if_neg (by decide), if_neg (by decide), if_neg (by decide), if_neg (by decide)]
theorem cmpI_or (x y : Int) : cmpI x y = -1 ∨ cmpI x y = 0 ∨ cmpI x y = 1 := by
  unfold cmpI
  split
  · exact .inl rfl
  · split
    · exact .inr (.inr rfl)
    · exact .inr (.inl rfl)
theorem text_ok {v : T} (h : okB v = true) (h3 : v.f0 = 3) : utfB v.f2 = true ∧ v.f2.size ≤ 256 := by
  have := (okB_iff.1 h).1
  cases v with | mk k n t l =>
  simp only [OkV] at this
  have p := this.1
  unfold PlainV at p
  obtain ⟨_, _, p⟩ := p
  have h3 : k = 3 := h3
  rw [if_neg (by omega), if_pos h3] at p
  exact ⟨p.2, p.1⟩
theorem ev_int {f : Nat} {xs : List V} {x y : Int} (h : (cfg ext).Ev f xs (.int .i64 x)) (e : x = y) : (cfg ext).Ev f xs (.int .i64 y) := e ▸ h
theorem rord0 (hn : Non ext) (a b : T) (ha : WfV a) (hb : WfV b) : (cfg ext).Ev 34 [.int .i64 0, A a, A b] (.int .i64 (ordF ext 0 a b)) := by
  refine ev_int (rordered hn 0 a b ha hb 0 (rfirst0 hn 0 a b (.inl rfl)) (.inr (.inl rfl))) ?_
  rw [ordF0, if_neg (by decide), if_pos rfl]
theorem rord1 (hn : Non ext) (a b : T) (ha : WfV a) (hb : WfV b) : (cfg ext).Ev 34 [.int .i64 1, A a, A b] (.int .i64 (ordF ext 1 a b)) := by
  refine ev_int (rordered hn 1 a b ha hb 0 (rfirst0 hn 1 a b (.inr rfl)) (.inr (.inl rfl))) ?_
  rw [ordF1, if_pos rfl, if_pos rfl, ← cmpV_turn a b]
theorem rord2 (hn : Non ext) (a b : T) (ha : WfV a) (hb : WfV b) (oa : okB a = true) (ob : okB b = true) : (cfg ext).Ev 34 [.int .i64 2, A a, A b] (.int .i64 (ordF ext 2 a b)) := by
  have e : firstZ ext 2 a b = cmpI (hZ ext a) (hZ ext b) := by unfold firstZ; rw [if_pos rfl]
  have h := rfirst2 hn a b ha hb oa ob
  rw [e] at h
  refine ev_int (rordered hn 2 a b ha hb _ h (cmpI_or _ _)) ?_
  rw [ordF2, if_neg (by decide)]; rfl
theorem rord3 (hn : Non ext) (a b : T) (ha : WfV a) (hb : WfV b) (oa : okB a = true) (ob : okB b = true) : (cfg ext).Ev 34 [.int .i64 3, A a, A b] (.int .i64 (ordF ext 3 a b)) := by
  have e : firstZ ext 3 a b = cmpI (partsV a : Nat) (partsV b : Nat) := by unfold firstZ; rw [if_neg (by decide), if_pos rfl]
  have h := rfirst3 hn a b ha hb oa ob
  rw [e] at h
  refine ev_int (rordered hn 3 a b ha hb _ h (cmpI_or _ _)) ?_
  rw [ordF3, if_neg (by decide)]; rfl
theorem rord4 (hn : Non ext) (a b : T) (ha : WfV a) (hb : WfV b) (oa : okB a = true) (ob : okB b = true) : (cfg ext).Ev 34 [.int .i64 4, A a, A b] (.int .i64 (ordF ext 4 a b)) := by
  rw [ordF4]
  unfold kindC
  by_cases g : a.f0 = 3 ∧ b.f0 = 3
  · have ta := text_ok oa g.1
    have tb := text_ok ob g.2
    rw [if_pos g]
    refine ev_int (rordered hn 4 a b ha hb _ (rfirst4 hn a b g.1 g.2 ta.1 tb.1 ta.2 tb.2) (cmpI_or _ _)) ?_
    rw [if_neg (by decide)]; rfl
  · rw [if_neg g]
    refine ev_int (rordered hn 4 a b ha hb _ (rfirst4n hn a b g) (.inr (.inl rfl))) ?_
    rw [if_neg (by decide), if_pos rfl]
theorem rord5 (hn : Non ext) (a b : T) (ha : WfV a) (hb : WfV b) : (cfg ext).Ev 34 [.int .i64 5, A a, A b] (.int .i64 (ordF ext 5 a b)) := by
  rw [ordF5]
  unfold kindC
  by_cases g : a.f0 = 2 ∧ b.f0 = 2
  · rw [if_pos g]
    refine ev_int (rordered hn 5 a b ha hb _ (rfirst5 hn a b g.1 g.2) (cmpI_or _ _)) ?_
    rw [if_neg (by decide)]; rfl
  · rw [if_neg g]
    refine ev_int (rordered hn 5 a b ha hb _ (rfirst5n hn a b g) (.inr (.inl rfl))) ?_
    rw [if_neg (by decide), if_pos rfl]
theorem rord (hn : Non ext) (o : Int) (h0 : 0 ≤ o) (h5 : o ≤ 5) (a b : T) (ha : WfV a) (hb : WfV b) (oa : okB a = true) (ob : okB b = true) : (cfg ext).Ev 34 [.int .i64 o, A a, A b] (.int .i64 (ordF ext o a b)) := by
  rcases (show o = 0 ∨ o = 1 ∨ o = 2 ∨ o = 3 ∨ o = 4 ∨ o = 5 by omega) with rfl | rfl | rfl | rfl | rfl | rfl
  · exact rord0 hn a b ha hb
  · exact rord1 hn a b ha hb
  · exact rord2 hn a b ha hb oa ob
  · exact rord3 hn a b ha hb oa ob
  · exact rord4 hn a b ha hb oa ob
  · exact rord5 hn a b ha hb
end
end Go.Proofs.YtbekoaalaofloaaGreatDoor.AB
end

section
set_option linter.unusedVariables false
set_option linter.unusedSimpArgs false
open Go Go.Ab Go.Proofs Go.Vl
namespace Go.Proofs.YtbekoaalaofloaaGreatDoor.AB
set_option maxRecDepth 100000
set_option maxHeartbeats 8000000
set_option linter.unusedSimpArgs false
section
variable {ext : Exts}
theorem hFull (hn : Non ext) (h26 : E26 ext) (h73 : E73 ext) (v : T) (hw : WfV v) (ho : okB v = true) : (cfg ext).Ev 82 [A v] (.tup [.int .u32 (hZ ext v), .int .i64 0]) := by
  have c := t22 hn h26 h73 v hw
  rw [ho, if_pos rfl] at c
  have w := (whole hn v (okB_iff.1 ho).1 (okB_iff.1 ho).2.2).1
  have key : ∃ r, (cfg ext).Ev 82 [A v] r ∧ r = .tup [.int .u32 (hZ ext v), .int .i64 0] := by
    refine Ev.ofE (hn 82 (by decide) (by decide)) Tryz.func82 rfl rfl ?_
    conv => whnf
    refine ⟨_, c, ?_⟩
    conv => whnf
    refine ⟨_, w, ?_⟩
    conv => whnf
  obtain ⟨r, h, rfl⟩ := key
  exact h
/-- an order's row on right values -/
theorem rowOrd (hn : Non ext) (h26 : E26 ext) (h73 : E73 ext) (o : Nat) (h5 : o ≤ 5) (a b : T) (ha : WfV a) (hb : WfV b) (oa : okB a = true) (ob : okB b = true) : RowE ext o a b (ordF ext o a b) := by
  have e (f : Nat) (h : f ≠ 72) (h' : f ≠ 69) := hn f h h'
  have c6 : o = 0 ∨ o = 1 ∨ o = 2 ∨ o = 3 ∨ o = 4 ∨ o = 5 := by omega
  rcases c6 with rfl | rfl | rfl | rfl | rfl | rfl
  · rw [show ((0 : Nat) : Int) = 0 from rfl, ordF0]; exact t15 hn h26 a ha b
  · rw [show ((1 : Nat) : Int) = 1 from rfl, ordF1]; exact t37 (e 62 (by decide) (by decide)) a b _ (t15 hn h26 b hb a)
  · rw [show ((2 : Nat) : Int) = 2 from rfl, ordF2]
    exact t48 (e 79 (by decide) (by decide)) (e 81 (by decide) (by decide)) (e 93 (by decide) (by decide)) (e 80 (by decide) (by decide)) a b _ _ _ (t39 (e 64 (by decide) (by decide)) a _ _ (hFull hn h26 h73 a ha oa)) (t39 (e 64 (by decide) (by decide)) b _ _ (hFull hn h26 h73 b hb ob)) (t15 hn h26 a ha b)
  · rw [show ((3 : Nat) : Int) = 3 from rfl, ordF3]
    obtain ⟨ea, ga⟩ := t53 hn h26 h73 a ha
    obtain ⟨eb, gb⟩ := t53 hn h26 h73 b hb
    have ca : cntZ a 16 1024 = (partsV a : Nat) := by have h := okB_iff.1 oa; unfold cntZ; rw [if_pos ⟨h.1, by have := h.2.1; omega, by have := h.2.2; omega⟩]
    have cb : cntZ b 16 1024 = (partsV b : Nat) := by have h := okB_iff.1 ob; unfold cntZ; rw [if_pos ⟨h.1, by have := h.2.1; omega, by have := h.2.2; omega⟩]
    rw [ca] at ga
    rw [cb] at gb
    exact t52 (e 83 (by decide) (by decide)) (e 70 (by decide) (by decide)) (e 89 (by decide) (by decide)) (e 80 (by decide) (by decide)) a b _ _ _ (t41 (e 66 (by decide) (by decide)) a _ _ ga) (t41 (e 66 (by decide) (by decide)) b _ _ gb) (t15 hn h26 a ha b)
  · rw [show ((4 : Nat) : Int) = 4 from rfl, ordF4]
    by_cases g : a.f0 = 3 ∧ b.f0 = 3
    · have ta := text_ok oa g.1
      have tb := text_ok ob g.2
      exact t42 (e 67 (by decide) (by decide)) (e 70 (by decide) (by decide)) (e 89 (by decide) (by decide)) (e 80 (by decide) (by decide)) a b _ _ _ (trunes hn a.f2 (by omega)) (trunes hn b.f2 (by omega)) (t15 hn h26 a ha b)
    · have h0 := t42 (ext := ext) (e 67 (by decide) (by decide)) (e 70 (by decide) (by decide)) (e 89 (by decide) (by decide)) (e 80 (by decide) (by decide)) a b _ _ _ (Classical.choose_spec (t54 hn a.f2)) (Classical.choose_spec (t54 hn b.f2)) (t15 hn h26 a ha b)
      rw [if_neg g] at h0
      unfold kindC
      rw [if_neg g]
      exact h0
  · rw [show ((5 : Nat) : Int) = 5 from rfl, ordF5, ← near_is]
    exact t43 hn a b (t15 hn h26 a ha b)
/-- two right values: one line -/
theorem ord_line (o : Int) : Line (ordF ext o) := by
  have lex (m : T → Int) : Line (lexC m) := ⟨lexC_turn m, fun _ _ => lexC_eq m, fun _ _ _ => lexC_trans m, lexC_one m⟩
  have kin (q : Int) (m : T → Int) : Line (kindC q m) := ⟨kindC_turn q m, fun _ _ => kindC_eq q m, fun _ _ _ => kindC_trans q m, kindC_one q m⟩
  by_cases h0 : o = 0
  · subst h0; rw [show ordF ext 0 = cmpV from funext fun a => funext fun b => ordF0 a b]; exact ⟨cmpV_turn, fun _ _ => cmpV_eq, fun _ _ _ => cmpV_le, Go.Vl.cmpV_one⟩
  by_cases h1 : o = 1
  · subst h1; rw [show ordF ext 1 = fun a b => cmpV b a from funext fun a => funext fun b => ordF1 a b]
    exact ⟨fun a b => cmpV_turn b a, fun a b ha hb => (cmpV_eq hb ha).trans ⟨Eq.symm, Eq.symm⟩, fun a b c ha hb hc h1 h2 => cmpV_le hc hb ha h2 h1, fun a b => Go.Vl.cmpV_one b a⟩
  by_cases h2 : o = 2
  · subst h2; rw [show ordF ext 2 = lexC (hZ ext) from funext fun a => funext fun b => ordF2 a b]; exact lex _
  by_cases h3 : o = 3
  · subst h3; rw [show ordF ext 3 = lexC (fun v => (partsV v : Nat)) from funext fun a => funext fun b => ordF3 a b]; exact lex _
  by_cases h4 : o = 4
  · subst h4; rw [show ordF ext 4 = kindC 3 (fun v => (runesF v.f2 v.f2.size 0 : Nat)) from funext fun a => funext fun b => ordF4 a b]; exact kin 3 _
  rw [show ordF ext o = kindC 2 (fun v => awy v.f1) from funext fun a => funext fun b => by unfold ordF; rw [if_neg h0, if_neg h1, if_neg h2, if_neg h3, if_neg h4]]; exact kin 2 _
theorem pcompare (hn : Non ext) (h26 : E26 ext) (h73 : E73 ext) (o : Nat) (h5 : o ≤ 5) (a b : T) (ha : WfV a) (hb : WfV b) :
    (cfg ext).Ev 31 [.int .i64 o, A a, A b] (if okB a = true ∧ okB b = true then .tup [.int .i64 (ordF ext o a b), .int .i64 0] else .tup [.int .i64 0, .int .i64 3]) := by
  have E : ∀ v ∈ [a, b], (cfg ext).Ev 21 [A v] (.int .i64 (if okB v = true then 0 else 3)) := by
    intro v hv
    rcases List.mem_cons.1 hv with rfl | hv
    · exact t22 hn h26 h73 _ ha
    · rcases List.mem_cons.1 hv with rfl | hv
      · exact t22 hn h26 h73 _ hb
      · cases hv
  have h11 := t11e hn o h5 [a, b] (by simp) E
  have eL : encL [a, b] = enc a ++ enc b := by simp only [encL, List.append_nil]
  rw [eL, enc_eq, enc_eq] at h11
  have ea : [a, b].all okB = (okB a && okB b) := by simp
  rw [ea] at h11
  by_cases g : okB a = true ∧ okB b = true
  · rw [if_pos g]
    rw [g.1, g.2, if_pos (show (true && true) = true from rfl)] at h11
    have hr := rowOrd hn h26 h73 o h5 a b ha hb g.1 g.2
    refine Ev.of (hn 31 (by decide) (by decide)) Tryz.func31 rfl rfl ?_
    conv => whnf
    refine ⟨_, h11, ?_⟩
    have c6 : o = 0 ∨ o = 1 ∨ o = 2 ∨ o = 3 ∨ o = 4 ∨ o = 5 := by omega
    rcases c6 with rfl | rfl | rfl | rfl | rfl | rfl
    all_goals
      conv => whnf
      refine ⟨_, hr, ?_⟩
      conv => whnf
  · rw [if_neg g]
    have e0 : (okB a && okB b) = false := by
      cases h1 : okB a
      · rfl
      · cases h2 : okB b
        · rfl
        · exact absurd ⟨h1, h2⟩ g
    rw [e0, if_neg (by decide)] at h11
    refine Ev.of (hn 31 (by decide) (by decide)) Tryz.func31 rfl rfl ?_
    conv => whnf
    refine ⟨_, h11, ?_⟩
    conv => whnf
end
end Go.Proofs.YtbekoaalaofloaaGreatDoor.AB
end

section
set_option linter.unusedVariables false
set_option linter.unusedSimpArgs false
open Go Go.Ab Go.Proofs Go.Vl
namespace Go.Proofs.YtbekoaalaofloaaGreatDoor.AB
set_option maxRecDepth 100000
set_option maxHeartbeats 1600000
set_option linter.unusedSimpArgs false
section
variable {ext : Exts}
mutual
def heapV : H → V
  | .mk x k => .ptr (enc x ++ [kidsV k]) 0
def kidsV : List H → V
  | [] => .nilp
  | h :: t => .ptr [heapV h, kidsV t] 0
end
def topV : Option H → V
  | none => .nilp
  | some h => heapV h
theorem heapV_eq (h : H) : heapV h = .ptr [.int .i64 h.x.f0, .int .i64 h.x.f1, .str h.x.f2, .sl false (encL h.x.f3) h.x.f3.length, kidsV h.kids] 0 := by
  cases h; simp only [heapV, enc_eq, H.x, H.kids, List.cons_append, List.nil_append]
/-- a queue -/
def QV (o n : Int) (h : Option H) : V := .ptr [.int .i64 o, .int .i64 n, topV h] 0
/-- how a queue compares -/
def byV (q : V) : V := .fn 30 [.ptr [q] 0]
theorem cmp_ex (o : Int) (a b : T) : ∃ c : Int, Non ext → E26 ext → E73 ext → WfV a → WfV b → ∃ e : Int, (cfg ext).Ev 31 [.int .i64 o, A a, A b] (.tup [.int .i64 c, .int .i64 e]) := by
  by_cases hn : Non ext
  · by_cases h26 : E26 ext
    · by_cases h73 : E73 ext
      · by_cases ho : o < 0 ∨ o > 5
        · exact ⟨0, fun _ _ _ _ _ => ⟨4, t5x hn o ho a b⟩⟩
        · obtain ⟨k, rfl⟩ : ∃ k : Nat, o = k := ⟨o.toNat, by omega⟩
          have hk : k ≤ 5 := by omega
          obtain ⟨f, _, hf⟩ := row_line hn h26 h73 k hk
          by_cases ha : WfV a
          · by_cases hb : WfV b
            · have two : ∀ v ∈ [a, b], (cfg ext).Ev 21 [A v] (.int .i64 (if okB v = true then 0 else 3)) := by
                intro v hv
                rcases List.mem_cons.1 hv with rfl | hv
                · exact t22 hn h26 h73 v ha
                · rcases List.mem_cons.1 hv with rfl | hv
                  · exact t22 hn h26 h73 v hb
                  · cases hv
              obtain ⟨c, e, h, _⟩ := t5 hn k hk a b two (f a b) (hf a b ha hb)
              exact ⟨c, fun _ _ _ _ _ => ⟨e, h⟩⟩
            · exact ⟨0, fun _ _ _ _ h => absurd h hb⟩
          · exact ⟨0, fun _ _ _ h _ => absurd h ha⟩
      · exact ⟨0, fun _ _ h _ _ => absurd h h73⟩
    · exact ⟨0, fun _ h _ _ _ => absurd h h26⟩
  · exact ⟨0, fun h _ _ _ _ => absurd h hn⟩
/-- what a queue's order says of two values -/
noncomputable def cO (ext : Exts) (o : Int) (a b : T) : Int := Classical.choose (cmp_ex (ext := ext) o a b)
theorem tby1 (hn : Non ext) (h26 : E26 ext) (h73 : E73 ext) (o n : Int) (h : Option H) (a b : T) (ha : WfV a) (hb : WfV b) : (cfg ext).Ev 30 [A a, A b, .ptr [QV o n h] 0] (.int .i64 (cO ext o a b)) := by
  obtain ⟨e, he⟩ := Classical.choose_spec (cmp_ex (ext := ext) o a b) hn h26 h73 ha hb
  refine Ev.of (hn 30 (by decide) (by decide)) Tryz.func30 rfl rfl ?_
  conv => whnf
  repeat (first
    | (refine sel_yes ?_ ?_; (first | assumption | (simp only [beq_iff_eq, bne_iff_ne, beq_eq_false_iff_ne, bne_eq_false_iff_eq, decide_eq_true_eq, decide_eq_false_iff_not, Bool.not_eq_true', Bool.not_eq_false', ne_eq, beq_true, beq_false, bne_self_eq_false, not_true_eq_false, not_false_eq_true, gt_iff_lt, ge_iff_le, Int.not_lt, Int.not_le, Bool.true_eq_false, Bool.false_eq_true] <;> omega)); conv => whnf)
    | (refine sel_no ?_ ?_; (first | assumption | (simp only [beq_iff_eq, bne_iff_ne, beq_eq_false_iff_ne, bne_eq_false_iff_eq, decide_eq_true_eq, decide_eq_false_iff_not, Bool.not_eq_true', Bool.not_eq_false', ne_eq, beq_true, beq_false, bne_self_eq_false, not_true_eq_false, not_false_eq_true, gt_iff_lt, ge_iff_le, Int.not_lt, Int.not_le, Bool.true_eq_false, Bool.false_eq_true] <;> omega)); conv => whnf)
    | (refine ⟨_, he, ?_⟩; conv => whnf)
    | (refine ⟨le_rfl' ?_, ?_⟩; rfl; conv => whnf)
    | (refine ⟨⟨?_, ?_⟩, ?_⟩; omega; omega; conv => whnf)
    | (refine ⟨⟨?_, ?_, ?_⟩, ?_⟩; rfl; omega; omega; conv => whnf)
    | (refine ⟨rfl, ?_, ?_⟩; decide; conv => whnf))
  try exact rfl
theorem tby (hn : Non ext) (q : V) (o n : Int) (h : Option H) (hq : q = QV o n h) : (cfg ext).Ev 20 [q] (byV q) := by
  subst hq
  refine Ev.of (hn 20 (by decide) (by decide)) Tryz.func20 rfl rfl ?_
  cases h with
  | none =>
    conv => whnf
    exact rfl
  | some h =>
    conv => whnf
    exact rfl
theorem tsome (hn : Non ext) (o n : Int) (h : Option H) : (cfg ext).Ev 22 [QV o n h] (QV o n h) := by
  refine Ev.of (hn 22 (by decide) (by decide)) Tryz.func22 rfl rfl ?_
  conv => whnf
  try exact rfl
theorem tsome0 (hn : Non ext) : (cfg ext).Ev 22 [.nilp] (QV 0 0 none) := by
  refine Ev.of (hn 22 (by decide) (by decide)) Tryz.func22 rfl rfl ?_
  conv => whnf
  try exact rfl
theorem tLen (hn : Non ext) (o n : Int) (h : Option H) : (cfg ext).Ev 12 [QV o n h] (.int .i64 n) := by
  refine Ev.of (hn 12 (by decide) (by decide)) Tryz.func12 rfl rfl ?_
  conv => whnf
  repeat (first
    | (refine sel_yes ?_ ?_; (first | assumption | (simp only [beq_iff_eq, bne_iff_ne, beq_eq_false_iff_ne, bne_eq_false_iff_eq, decide_eq_true_eq, decide_eq_false_iff_not, Bool.not_eq_true', Bool.not_eq_false', ne_eq, beq_true, beq_false, bne_self_eq_false, not_true_eq_false, not_false_eq_true, gt_iff_lt, ge_iff_le, Int.not_lt, Int.not_le, Bool.true_eq_false, Bool.false_eq_true] <;> omega)); conv => whnf)
    | (refine sel_no ?_ ?_; (first | assumption | (simp only [beq_iff_eq, bne_iff_ne, beq_eq_false_iff_ne, bne_eq_false_iff_eq, decide_eq_true_eq, decide_eq_false_iff_not, Bool.not_eq_true', Bool.not_eq_false', ne_eq, beq_true, beq_false, bne_self_eq_false, not_true_eq_false, not_false_eq_true, gt_iff_lt, ge_iff_le, Int.not_lt, Int.not_le, Bool.true_eq_false, Bool.false_eq_true] <;> omega)); conv => whnf)
    | (refine ⟨_, tsome hn o n h, ?_⟩; conv => whnf)
    | (refine ⟨le_rfl' ?_, ?_⟩; rfl; conv => whnf)
    | (refine ⟨⟨?_, ?_⟩, ?_⟩; omega; omega; conv => whnf)
    | (refine ⟨⟨?_, ?_, ?_⟩, ?_⟩; rfl; omega; omega; conv => whnf)
    | (refine ⟨rfl, ?_, ?_⟩; decide; conv => whnf))
  try exact rfl
theorem tLen0 (hn : Non ext) : (cfg ext).Ev 12 [.nilp] (.int .i64 0) := by
  refine Ev.of (hn 12 (by decide) (by decide)) Tryz.func12 rfl rfl ?_
  conv => whnf
  repeat (first
    | (refine sel_yes ?_ ?_; (first | assumption | (simp only [beq_iff_eq, bne_iff_ne, beq_eq_false_iff_ne, bne_eq_false_iff_eq, decide_eq_true_eq, decide_eq_false_iff_not, Bool.not_eq_true', Bool.not_eq_false', ne_eq, beq_true, beq_false, bne_self_eq_false, not_true_eq_false, not_false_eq_true, gt_iff_lt, ge_iff_le, Int.not_lt, Int.not_le, Bool.true_eq_false, Bool.false_eq_true] <;> omega)); conv => whnf)
    | (refine sel_no ?_ ?_; (first | assumption | (simp only [beq_iff_eq, bne_iff_ne, beq_eq_false_iff_ne, bne_eq_false_iff_eq, decide_eq_true_eq, decide_eq_false_iff_not, Bool.not_eq_true', Bool.not_eq_false', ne_eq, beq_true, beq_false, bne_self_eq_false, not_true_eq_false, not_false_eq_true, gt_iff_lt, ge_iff_le, Int.not_lt, Int.not_le, Bool.true_eq_false, Bool.false_eq_true] <;> omega)); conv => whnf)
    | (refine ⟨_, tsome0 hn, ?_⟩; conv => whnf)
    | (refine ⟨le_rfl' ?_, ?_⟩; rfl; conv => whnf)
    | (refine ⟨⟨?_, ?_⟩, ?_⟩; omega; omega; conv => whnf)
    | (refine ⟨⟨?_, ?_, ?_⟩, ?_⟩; rfl; omega; omega; conv => whnf)
    | (refine ⟨rfl, ?_, ?_⟩; decide; conv => whnf))
  try exact rfl
theorem tNew (hn : Non ext) (o : Int) (h0 : 0 ≤ o) (h5 : o ≤ 5) : (cfg ext).Ev 4 [.int .i64 o] (.tup [QV o 0 none, .int .i64 0]) := by
  refine Ev.of (hn 4 (by decide) (by decide)) Tryz.func4 rfl rfl ?_
  conv => whnf
  repeat (first
    | (refine sel_yes ?_ ?_; (first | assumption | (simp only [beq_iff_eq, bne_iff_ne, beq_eq_false_iff_ne, bne_eq_false_iff_eq, decide_eq_true_eq, decide_eq_false_iff_not, Bool.not_eq_true', Bool.not_eq_false', ne_eq, beq_true, beq_false, bne_self_eq_false, not_true_eq_false, not_false_eq_true, gt_iff_lt, ge_iff_le, Int.not_lt, Int.not_le, Bool.true_eq_false, Bool.false_eq_true] <;> omega)); conv => whnf)
    | (refine sel_no ?_ ?_; (first | assumption | (simp only [beq_iff_eq, bne_iff_ne, beq_eq_false_iff_ne, bne_eq_false_iff_eq, decide_eq_true_eq, decide_eq_false_iff_not, Bool.not_eq_true', Bool.not_eq_false', ne_eq, beq_true, beq_false, bne_self_eq_false, not_true_eq_false, not_false_eq_true, gt_iff_lt, ge_iff_le, Int.not_lt, Int.not_le, Bool.true_eq_false, Bool.false_eq_true] <;> omega)); conv => whnf)
    | (refine ⟨le_rfl' ?_, ?_⟩; rfl; conv => whnf)
    | (refine ⟨⟨?_, ?_⟩, ?_⟩; omega; omega; conv => whnf)
    | (refine ⟨⟨?_, ?_, ?_⟩, ?_⟩; rfl; omega; omega; conv => whnf)
    | (refine ⟨rfl, ?_, ?_⟩; decide; conv => whnf))
  try exact rfl
theorem tNewx (hn : Non ext) (o : Int) (h : o < 0 ∨ o > 5) : (cfg ext).Ev 4 [.int .i64 o] (.tup [.nilp, .int .i64 4]) := by
  refine Ev.of (hn 4 (by decide) (by decide)) Tryz.func4 rfl rfl ?_
  conv => whnf
  by_cases h0 : o < 0
  · repeat (first
      | (refine sel_yes ?_ ?_; (first | assumption | (simp only [beq_iff_eq, bne_iff_ne, beq_eq_false_iff_ne, bne_eq_false_iff_eq, decide_eq_true_eq, decide_eq_false_iff_not, Bool.not_eq_true', Bool.not_eq_false', ne_eq, beq_true, beq_false, bne_self_eq_false, not_true_eq_false, not_false_eq_true, gt_iff_lt, ge_iff_le, Int.not_lt, Int.not_le, Bool.true_eq_false, Bool.false_eq_true] <;> omega)); conv => whnf)
      | (refine sel_no ?_ ?_; (first | assumption | (simp only [beq_iff_eq, bne_iff_ne, beq_eq_false_iff_ne, bne_eq_false_iff_eq, decide_eq_true_eq, decide_eq_false_iff_not, Bool.not_eq_true', Bool.not_eq_false', ne_eq, beq_true, beq_false, bne_self_eq_false, not_true_eq_false, not_false_eq_true, gt_iff_lt, ge_iff_le, Int.not_lt, Int.not_le, Bool.true_eq_false, Bool.false_eq_true] <;> omega)); conv => whnf)
      | (refine ⟨le_rfl' ?_, ?_⟩; rfl; conv => whnf)
      | (refine ⟨⟨?_, ?_⟩, ?_⟩; omega; omega; conv => whnf)
      | (refine ⟨⟨?_, ?_, ?_⟩, ?_⟩; rfl; omega; omega; conv => whnf)
      | (refine ⟨rfl, ?_, ?_⟩; decide; conv => whnf))
    try exact rfl
  · repeat (first
      | (refine sel_yes ?_ ?_; (first | assumption | (simp only [beq_iff_eq, bne_iff_ne, beq_eq_false_iff_ne, bne_eq_false_iff_eq, decide_eq_true_eq, decide_eq_false_iff_not, Bool.not_eq_true', Bool.not_eq_false', ne_eq, beq_true, beq_false, bne_self_eq_false, not_true_eq_false, not_false_eq_true, gt_iff_lt, ge_iff_le, Int.not_lt, Int.not_le, Bool.true_eq_false, Bool.false_eq_true] <;> omega)); conv => whnf)
      | (refine sel_no ?_ ?_; (first | assumption | (simp only [beq_iff_eq, bne_iff_ne, beq_eq_false_iff_ne, bne_eq_false_iff_eq, decide_eq_true_eq, decide_eq_false_iff_not, Bool.not_eq_true', Bool.not_eq_false', ne_eq, beq_true, beq_false, bne_self_eq_false, not_true_eq_false, not_false_eq_true, gt_iff_lt, ge_iff_le, Int.not_lt, Int.not_le, Bool.true_eq_false, Bool.false_eq_true] <;> omega)); conv => whnf)
      | (refine ⟨le_rfl' ?_, ?_⟩; rfl; conv => whnf)
      | (refine ⟨⟨?_, ?_⟩, ?_⟩; omega; omega; conv => whnf)
      | (refine ⟨⟨?_, ?_, ?_⟩, ?_⟩; rfl; omega; omega; conv => whnf)
      | (refine ⟨rfl, ?_, ?_⟩; decide; conv => whnf))
    try exact rfl
end
end Go.Proofs.YtbekoaalaofloaaGreatDoor.AB
end

section
set_option linter.unusedVariables false
set_option linter.unusedSimpArgs false
open Go Go.Ab Go.Proofs Go.Vl
namespace Go.Proofs.YtbekoaalaofloaaGreatDoor.AB
set_option maxRecDepth 100000
set_option maxHeartbeats 1600000
set_option linter.unusedSimpArgs false
section
variable {ext : Exts}
abbrev encX (v : T) : List V := [.int .i64 v.f0, .int .i64 v.f1, .str v.f2, .sl false (encL v.f3) v.f3.length]
theorem enc_flat (v : T) : ∀ c ∈ enc v, flatV c = true := by
  intro c hc
  rw [enc_eq] at hc
  simp only [List.mem_cons, List.not_mem_nil, or_false] at hc
  rcases hc with rfl | rfl | rfl | rfl <;> rfl
theorem encL_cold : ∀ (l : List T), ∀ c ∈ encL l, cold c = true
  | [], c, hc => by simp only [encL] at hc; cases hc
  | v :: l, c, hc => by
    simp only [encL, enc_eq] at hc
    rcases List.mem_append.1 hc with hc | hc
    · simp only [List.mem_cons, List.not_mem_nil, or_false] at hc
      rcases hc with rfl | rfl | rfl | rfl <;> rfl
    · exact encL_cold l c hc
theorem encL_app : ∀ (l m : List T), encL (l ++ m) = encL l ++ encL m
  | [], m => by simp only [List.nil_append, encL]
  | v :: l, m => by simp only [List.cons_append, encL, encL_app l m, List.append_assoc]
theorem lown (l : List T) (hl : l.length ≤ 1024) (k n : Int) (t : ByteArray) (E : ∀ a ∈ l, (cfg ext).Ev 24 [A a] (A a)) (Q : Ex → St → Prop) (d : Nat) :
    ∀ (i : Nat) (z : St) (cs : List V), l.length - i = d → i ≤ l.length → cs.length = l.length * 4 → cs.take (i * 4) = encL (l.take i) → (∀ c ∈ cs, flatV c = true) →
      Has z.t [(19, .int .i64 i), (18, .int .i64 l.length), (17, .sl false (encL l) l.length), (3, .rsl false 9 0 0 l.length), (1, .ref 0 0), (2, .ref 1 0)] →
      Has z.hp.h [(0, some (.cells [.int .i64 k, .int .i64 n, .str t, .sl false (encL l) l.length] false)), (1, some (.cells [.int .i64 0, .int .i64 0, .str ⟨#[]⟩, .sl true [] 0] false))] → z.hp.n = 15 → Has z.hp.a [(9, some ⟨0, 4, cs, some l.length, 0⟩)] →
      (∀ (z' : St), Has z'.t [(3, .rsl false 9 0 0 l.length), (1, .ref 0 0), (2, .ref 1 0)] → Has z'.hp.h [(0, some (.cells [.int .i64 k, .int .i64 n, .str t, .sl false (encL l) l.length] false)), (1, some (.cells [.int .i64 0, .int .i64 0, .str ⟨#[]⟩, .sl true [] 0] false))] → z'.hp.n = 16 → Has z'.hp.a [(9, some ⟨0, 4, encL l, some l.length, 0⟩)] → Q (.exit 0) z') →
      Go.Ab.Loop (cfg ext) (lpOf Tryz.f24) 15 z Q := by
  induction d with
  | zero =>
    intro i z cs hd hi hcs hp hf ht hh hn ha hq
    obtain rfl : i = l.length := by omega
    have hcs' : cs = encL l := by
      rw [List.take_of_length_le (by omega), List.take_length] at hp
      exact hp
    subst hcs'
    rw [St.knowsA _ _ ht hn _ hh _ ha]
    refine Loop.round ?_
    conv => whnf
    refine sel_no (by simp) ?_
    conv => whnf
    exact hq _ ⟨rfl, rfl, rfl, trivial⟩ ⟨rfl, rfl, trivial⟩ rfl ⟨rfl, trivial⟩
  | succ d ih =>
    intro i z cs hd hi hcs hp hf ht hh hn ha hq
    have h1 : i < l.length := by omega
    have hE := E _ (List.getElem_mem h1)
    rw [St.knowsA _ _ ht hn _ hh _ ha]
    refine Loop.round ?_
    conv => whnf
    refine sel_yes (by simp; omega) ?_
    conv => whnf
    refine ⟨⟨by omega, by omega⟩, ?_⟩
    conv => whnf
    refine ldA (i := i) h1 ?_
    conv => whnf
    refine ⟨_, hE, ?_⟩
    conv => whnf
    refine ⟨⟨by omega, by omega⟩, ?_⟩
    conv => whnf
    have hx : (encX l[i]).length = 4 := rfl
    have hle : 0 + i * 4 + (encX l[i]).length ≤ cs.length := by rw [hx, hcs]; omega
    refine opt_store (b := 9) (v := 0) (sz := 4) (ro := 0) (cs := cs) (cap := some l.length) (o := 0 + i * 4) (vs := encX l[i]) rfl (Nat.zero_le _) hle fun a' b1 b2 => ?_
    conv => whnf
    have e0 : 0 + i * 4 = i * 4 := Nat.zero_add _
    rw [e0] at b1 hle
    refine ih (i + 1) _ (fillL cs (i * 4) (encX l[i])) (by omega) (by omega) (by rw [fill_len hle, hcs]) ?_ ?_ ⟨?_, rfl, rfl, rfl, rfl, rfl, trivial⟩ ⟨rfl, rfl, trivial⟩ rfl ⟨?_, trivial⟩ hq
    · have := fill_take hle
      rw [hx] at this
      rw [show (i + 1) * 4 = i * 4 + 4 by omega, this, hp, List.take_succ_eq_append_getElem h1, encL_app]
      simp only [encL, List.append_nil]
      rw [enc_eq]
    · intro c hc
      rcases fill_mem hc with hc | hc
      · exact hf c hc
      · exact enc_flat l[i] c (by rw [enc_eq]; exact hc)
    · conv => lhs; whnf
      exact wrapN1 (by omega)
    · show (match a' 9 with | some A => some { A with cs := A.cs.map (cleanV 15) } | none => none) = _
      rw [b1]
      have : ∀ c ∈ fillL cs (i * 4) (encX l[i]), flatV c = true := by
        intro c hc
        rcases fill_mem hc with hc | hc
        · exact hf c hc
        · exact enc_flat l[i] c (by rw [enc_eq]; exact hc)
      simp only [cleans_flat 15 this]
mutual
theorem town (hn : Non ext) : (v : T) → partsV v ≤ 1024 → (cfg ext).Ev 24 [A v] (A v)
  | ⟨k, n, t, l⟩, hp => by
    simp only [partsV] at hp
    have hl := partsL_len l
    have E := townL hn l (by omega)
    have key : ∃ r, (cfg ext).Ev 24 [A ⟨k, n, t, l⟩] r ∧ r = A ⟨k, n, t, l⟩ := by
      refine Ev.ofF (hn 24 (by decide) (by decide)) Tryz.func24 rfl rfl ?_
      conv => whnf
      by_cases h0 : l = []
      · subst h0
        conv => whnf
        exact ⟨rfl⟩
      · have h0' : ((l.length : Int) == 0) = false := by
          rw [beq_eq_false_iff_ne]
          intro h
          exact h0 (List.eq_nil_of_length_eq_zero (by omega))
        refine sel_no h0' ?_
        conv => whnf
        refine opt_make (n := l.length) (k := .i64) (k' := .i64) (t := 22) (e := 33) (l := .tmp 14) (c := .tmp 14) (z := [V.int .i64 0, V.int .i64 0, V.str ⟨#[]⟩, V.sl true [] 0]) ?_ ?_ ?_ ?_ ?_ ?_ ?_ ?_
        · rfl
        · rfl
        · rfl
        · rfl
        · rfl
        · rfl
        · exact ⟨by show l.length * 56 ≤ 140737488355328; omega, by show l.length ≤ 140737488355328; omega⟩
        conv => whnf
        refine lown l (by omega) k n t E _ _ 0 _ ((List.replicate l.length [V.int .i64 0, V.int .i64 0, V.str ⟨#[]⟩, V.sl true [] 0]).flatten) rfl (by omega) (by rw [len_zero]; rfl) (by simp only [Nat.zero_mul, List.take_zero]; simp only [encL]) (flat_zero (fun c hc => ?_) _) ⟨rfl, rfl, rfl, rfl, rfl, rfl, trivial⟩ ⟨rfl, rfl, trivial⟩ rfl ⟨rfl, trivial⟩ (fun z a b c d => ?_)
        · simp only [List.mem_cons, List.not_mem_nil, or_false] at hc
          rcases hc with rfl | rfl | rfl | rfl <;> rfl
        · rw [St.knowsA _ _ a c _ b _ d]
          conv => whnf
          exact Fin.row (k1 := .i64) (k2 := .i64) rfl (by rfl) (encL_len l) (encL_cold l) rfl
    obtain ⟨r, h, rfl⟩ := key
    exact h
theorem townL (hn : Non ext) : (l : List T) → partsL l ≤ 1024 → ∀ a ∈ l, (cfg ext).Ev 24 [A a] (A a)
  | [], _, a, ha => by cases ha
  | v :: l, hp, a, ha => by
    simp only [partsL] at hp
    rcases List.mem_cons.1 ha with e | ha
    · rw [e]; exact town hn v (by omega)
    · exact townL hn l (by omega) a ha
end
end
end Go.Proofs.YtbekoaalaofloaaGreatDoor.AB
end

section
set_option linter.unusedVariables false
set_option linter.unusedSimpArgs false
open Go Go.Ab Go.Proofs Go.Vl
namespace Go.Proofs.YtbekoaalaofloaaGreatDoor.AB
set_option maxRecDepth 100000
set_option maxHeartbeats 1600000
set_option linter.unusedSimpArgs false
section
variable {ext : Exts}
theorem heapV_form (h : H) : ∃ cs, heapV h = .ptr cs 0 := ⟨_, heapV_eq h⟩
theorem kidsV_form (l : List H) : (kidsV l = .nilp ∧ l = []) ∨ ∃ cs, kidsV l = .ptr cs 0 := by
  cases l with
  | nil => exact .inl ⟨by simp only [kidsV], rfl⟩
  | cons h t => exact .inr ⟨[heapV h, kidsV t], by simp only [kidsV]⟩
theorem topV_form (o : Option H) : (topV o = .nilp ∧ o = none) ∨ ∃ cs, topV o = .ptr cs 0 := by
  cases o with
  | none => exact .inl ⟨rfl, rfl⟩
  | some h => exact .inr (heapV_form h)
theorem topV_cold (o : Option H) : cold (topV o) = true := by
  rcases topV_form o with ⟨h, _⟩ | ⟨cs, h⟩ <;> rw [h] <;> rfl
theorem tmeld (hn : Non ext) (h26 : E26 ext) (h73 : E73 ext) (o n : Int) (q : Option H) (a b : Option H) (ha : AllO WfV a) (hb : AllO WfV b) :
    (cfg ext).Ev 23 [topV a, topV b, byV (QV o n q)] (topV (meldH (cO ext o) a b)) := by
  cases a with
  | none =>
    show (cfg ext).Ev 23 [.nilp, topV b, byV (QV o n q)] (topV b)
    rcases topV_form b with ⟨h, _⟩ | ⟨cs, h⟩ <;> rw [h]
    · refine Ev.of (hn 23 (by decide) (by decide)) Tryz.func23 rfl rfl ?_
      conv => whnf
      try exact rfl
    · refine Ev.of (hn 23 (by decide) (by decide)) Tryz.func23 rfl rfl ?_
      conv => whnf
      try exact rfl
  | some a =>
    cases b with
    | none =>
      show (cfg ext).Ev 23 [heapV a, .nilp, byV (QV o n q)] (heapV a)
      obtain ⟨cs, h⟩ := heapV_form a
      rw [h]
      refine Ev.of (hn 23 (by decide) (by decide)) Tryz.func23 rfl rfl ?_
      conv => whnf
      try exact rfl
    | some b =>
      have wa : WfV a.x := by cases a; simp only [AllO, AllH] at ha; exact ha.1
      have wb : WfV b.x := by cases b; simp only [AllO, AllH] at hb; exact hb.1
      have hc := tby1 hn h26 h73 o n q b.x a.x wb wa
      by_cases hlt : cO ext o b.x a.x < 0
      · have e : topV (meldH (cO ext o) (some a) (some b)) = .ptr [.int .i64 b.x.f0, .int .i64 b.x.f1, .str b.x.f2, .sl false (encL b.x.f3) b.x.f3.length, .ptr [heapV a, kidsV b.kids] 0] 0 := by
          rw [show meldH (cO ext o) (some a) (some b) = some (.mk b.x (a :: b.kids)) from if_pos hlt]
          show heapV _ = _
          rw [heapV_eq]
          exact rfl
        rw [e]
        show (cfg ext).Ev 23 [heapV a, heapV b, byV (QV o n q)] _
        rw [heapV_eq a, heapV_eq b]
        rcases kidsV_form b.kids with ⟨hk, _⟩ | ⟨ck, hk⟩ <;> rw [hk]
        all_goals
          refine Ev.of (hn 23 (by decide) (by decide)) Tryz.func23 rfl rfl ?_
          conv => whnf
          repeat (first
            | (refine sel_yes ?_ ?_; (first | assumption | (simp only [beq_iff_eq, bne_iff_ne, beq_eq_false_iff_ne, bne_eq_false_iff_eq, decide_eq_true_eq, decide_eq_false_iff_not, Bool.not_eq_true', Bool.not_eq_false', ne_eq, beq_true, beq_false, bne_self_eq_false, not_true_eq_false, not_false_eq_true, gt_iff_lt, ge_iff_le, Int.not_lt, Int.not_le, Bool.true_eq_false, Bool.false_eq_true] <;> omega)); conv => whnf)
            | (refine sel_no ?_ ?_; (first | assumption | (simp only [beq_iff_eq, bne_iff_ne, beq_eq_false_iff_ne, bne_eq_false_iff_eq, decide_eq_true_eq, decide_eq_false_iff_not, Bool.not_eq_true', Bool.not_eq_false', ne_eq, beq_true, beq_false, bne_self_eq_false, not_true_eq_false, not_false_eq_true, gt_iff_lt, ge_iff_le, Int.not_lt, Int.not_le, Bool.true_eq_false, Bool.false_eq_true] <;> omega)); conv => whnf)
            | (refine ⟨_, hc, ?_⟩; conv => whnf)
            | (refine ⟨le_rfl' ?_, ?_⟩; rfl; conv => whnf)
            | (refine ⟨⟨?_, ?_⟩, ?_⟩; omega; omega; conv => whnf)
            | (refine ⟨⟨?_, ?_, ?_⟩, ?_⟩; rfl; omega; omega; conv => whnf)
            | (refine ⟨rfl, ?_, ?_⟩; decide; conv => whnf))
          try exact rfl
      · have e : topV (meldH (cO ext o) (some a) (some b)) = .ptr [.int .i64 a.x.f0, .int .i64 a.x.f1, .str a.x.f2, .sl false (encL a.x.f3) a.x.f3.length, .ptr [heapV b, kidsV a.kids] 0] 0 := by
          rw [show meldH (cO ext o) (some a) (some b) = some (.mk a.x (b :: a.kids)) from if_neg hlt]
          show heapV _ = _
          rw [heapV_eq]
          exact rfl
        rw [e]
        show (cfg ext).Ev 23 [heapV a, heapV b, byV (QV o n q)] _
        rw [heapV_eq a, heapV_eq b]
        rcases kidsV_form a.kids with ⟨hk, _⟩ | ⟨ck, hk⟩ <;> rw [hk]
        all_goals
          refine Ev.of (hn 23 (by decide) (by decide)) Tryz.func23 rfl rfl ?_
          conv => whnf
          repeat (first
            | (refine sel_yes ?_ ?_; (first | assumption | (simp only [beq_iff_eq, bne_iff_ne, beq_eq_false_iff_ne, bne_eq_false_iff_eq, decide_eq_true_eq, decide_eq_false_iff_not, Bool.not_eq_true', Bool.not_eq_false', ne_eq, beq_true, beq_false, bne_self_eq_false, not_true_eq_false, not_false_eq_true, gt_iff_lt, ge_iff_le, Int.not_lt, Int.not_le, Bool.true_eq_false, Bool.false_eq_true] <;> omega)); conv => whnf)
            | (refine sel_no ?_ ?_; (first | assumption | (simp only [beq_iff_eq, bne_iff_ne, beq_eq_false_iff_ne, bne_eq_false_iff_eq, decide_eq_true_eq, decide_eq_false_iff_not, Bool.not_eq_true', Bool.not_eq_false', ne_eq, beq_true, beq_false, bne_self_eq_false, not_true_eq_false, not_false_eq_true, gt_iff_lt, ge_iff_le, Int.not_lt, Int.not_le, Bool.true_eq_false, Bool.false_eq_true] <;> omega)); conv => whnf)
            | (refine ⟨_, hc, ?_⟩; conv => whnf)
            | (refine ⟨le_rfl' ?_, ?_⟩; rfl; conv => whnf)
            | (refine ⟨⟨?_, ?_⟩, ?_⟩; omega; omega; conv => whnf)
            | (refine ⟨⟨?_, ?_, ?_⟩, ?_⟩; rfl; omega; omega; conv => whnf)
            | (refine ⟨rfl, ?_, ?_⟩; decide; conv => whnf))
          try exact rfl
end
end Go.Proofs.YtbekoaalaofloaaGreatDoor.AB
end

section
set_option linter.unusedVariables false
set_option linter.unusedSimpArgs false
open Go Go.Ab Go.Proofs Go.Vl
namespace Go.Proofs.YtbekoaalaofloaaGreatDoor.AB
set_option maxRecDepth 100000
set_option maxHeartbeats 16000000
set_option linter.unusedSimpArgs false
section
variable {ext : Exts}
theorem map_cold (l : List (Option H)) : ∀ c ∈ l.map topV, cold c = true := by
  intro c hc
  obtain ⟨o, _, rfl⟩ := List.mem_map.1 hc
  exact topV_cold o
theorem lpair (hn : Non ext) (h26 : E26 ext) (h73 : E73 ext) (o n : Int) (q : Option H) (Q : Ex → St → Prop) (d : Nat) :
    ∀ (l : List H) (D : List (Option H)) (S : V) (z : St), l.length ≤ d → D.length + d ≤ 100000 → AllK WfV l → Has z.t [(0, kidsV l), (1, byV (QV o n q)), (5, S)] → z.hp.n = 2 → Gro 1 z.hp.a z.hp.m S (D.map topV) D.length →
      (∀ (S' : V) (D' : List (Option H)) (z' : St), Has z'.t [(1, byV (QV o n q)), (5, S')] → z'.hp.n = 4 → D' = D ++ twoH (cO ext o) l → D'.length ≤ 100000 → Gro 1 z'.hp.a z'.hp.m S' (D'.map topV) D'.length → Q (.exit 0) z') →
      Go.Ab.Loop (cfg ext) (lpOf Tryz.f19) 2 z Q := by
  induction d with
  | zero =>
    intro l D S z hl hD hw ht hz hg hq
    obtain rfl : l = [] := List.eq_nil_of_length_eq_zero (by omega)
    simp only [kidsV] at ht
    rw [St.knows _ _ ht hz]
    refine Loop.round ?_
    conv => whnf
    exact hq S D _ ⟨rfl, rfl, trivial⟩ rfl (by simp [twoH]) (by omega) (hg.mono (fun _ _ => rfl) (by simp only [St.put, St.new, St.bump]; exact Nat.le_add_right _ _))
  | succ d ih =>
    intro l D S z hl hD hw ht hz hg hq
    cases l with
    | nil =>
      simp only [kidsV] at ht
      rw [St.knows _ _ ht hz]
      refine Loop.round ?_
      conv => whnf
      exact hq S D _ ⟨rfl, rfl, trivial⟩ rfl (by simp [twoH]) (by omega) (hg.mono (fun _ _ => rfl) (by simp only [St.put, St.new, St.bump]; exact Nat.le_add_right _ _))
    | cons h t =>
      cases t with
      | nil =>
        simp only [kidsV] at ht
        obtain ⟨ch, eh⟩ := heapV_form h
        rw [eh] at ht
        have eA : D.map topV ++ [.ptr ch 0] = (D ++ [some h]).map topV := by simp [topV, eh]
        have eB : D.length + 1 = (D ++ [some h]).length := by simp
        rcases hg.form with ⟨eS, _⟩ | ⟨bS, vS, eS⟩ <;> subst eS
        all_goals
          rw [St.knows _ _ ht hz]
          refine Loop.round ?_
          conv => whnf
          repeat (first
            | (refine sel_yes ?_ ?_; (first | assumption | (simp only [beq_iff_eq, bne_iff_ne, beq_eq_false_iff_ne, bne_eq_false_iff_eq, decide_eq_true_eq, decide_eq_false_iff_not, Bool.not_eq_true', Bool.not_eq_false', ne_eq, beq_true, beq_false, bne_self_eq_false, not_true_eq_false, not_false_eq_true, gt_iff_lt, ge_iff_le, Int.not_lt, Int.not_le, Bool.true_eq_false, Bool.false_eq_true] <;> omega)); conv => whnf)
            | (refine sel_no ?_ ?_; (first | assumption | (simp only [beq_iff_eq, bne_iff_ne, beq_eq_false_iff_ne, bne_eq_false_iff_eq, decide_eq_true_eq, decide_eq_false_iff_not, Bool.not_eq_true', Bool.not_eq_false', ne_eq, beq_true, beq_false, bne_self_eq_false, not_true_eq_false, not_false_eq_true, gt_iff_lt, ge_iff_le, Int.not_lt, Int.not_le, Bool.true_eq_false, Bool.false_eq_true] <;> omega)); conv => whnf)
            | (refine ⟨le_rfl' ?_, ?_⟩; rfl; conv => whnf)
            | (refine ⟨⟨?_, ?_⟩, ?_⟩; omega; omega; conv => whnf)
            | (refine ⟨⟨?_, ?_, ?_⟩, ?_⟩; rfl; omega; omega; conv => whnf)
            | (refine ⟨rfl, ?_, ?_⟩; decide; conv => whnf))
          try exact rfl
          refine ⟨rfl, ?_⟩
          conv => whnf
          refine ⟨⟨rfl, (show (1 : Nat) ≠ 0 by decide)⟩, ?_⟩
          refine Gro.one hg ⟨_, _, _, _, rfl, upd_is _ _ _⟩ ?_ ?_ ?_ ?_ ?_ ?_ (fun b1 v1 a1 h1 => ?_)
          · intro b0 hb0
            exact upd_lt (Nat.lt_of_lt_of_le hb0 (by ((conv => lhs; whnf); (repeat ((conv => rhs; whnf); first | with_reducible exact Nat.le_refl _ | refine Nat.le_trans ?_ (Nat.le_add_right _ _) | refine Nat.le_succ_of_le ?_)))))
          · rfl
          · exact (fun c hc => by rcases List.mem_singleton.1 hc with rfl; rfl)
          · exact ⟨by show (_ + 1) * 8 ≤ 140737488355328; (try simp only [List.length_append, List.length_cons, List.length_nil]); omega, by show _ + 1 ≤ 140737488355328; (try simp only [List.length_append, List.length_cons, List.length_nil]); omega⟩
          · exact Nat.add_lt_add_left (by decide) _
          · ((conv => lhs; whnf); (repeat ((conv => rhs; whnf); first | with_reducible exact Nat.le_refl _ | refine Nat.le_trans ?_ (Nat.le_add_right _ _) | refine Nat.le_succ_of_le ?_)))
          conv => whnf
          refine ih [] (D ++ [some h]) (.rsl false b1 v1 0 (D.length + 1)) _ (by simp) (by simp; omega) (by simp only [AllK]) ⟨rfl, rfl, rfl, trivial⟩ rfl ?_ (fun S' D' z' a b c => hq S' D' z' a b (by rw [c]; simp [twoH]))
          refine Gro.to (Gro.truncR h1 ?_) eA eB
          (conv => lhs; whnf); (repeat ((conv => rhs; whnf); first | with_reducible exact Nat.le_refl _ | refine Nat.le_trans ?_ (Nat.le_add_right _ _) | refine Nat.le_succ_of_le ?_))
      | cons g t =>
        simp only [AllK] at hw
        have hm : (cfg ext).Ev 23 [heapV h, heapV g, byV (QV o n q)] (topV (meldH (cO ext o) (some h) (some g))) := tmeld hn h26 h73 o n q (some h) (some g) hw.1 hw.2.1
        have et : twoH (cO ext o) (h :: g :: t) = meldH (cO ext o) (some h) (some g) :: twoH (cO ext o) t := rfl
        rw [et] at hq
        generalize meldH (cO ext o) (some h) (some g) = r at hm hq
        obtain ⟨ch, eh⟩ := heapV_form h
        obtain ⟨cg, eg⟩ := heapV_form g
        simp only [kidsV] at ht
        rw [eh, eg] at ht hm
        obtain ⟨er, hr⟩ : ∃ e, topV r = e := ⟨_, rfl⟩
        have hcr : cold er = true := by rw [← hr]; exact topV_cold r
        have hfr : er = .nilp ∨ ∃ cs, er = .ptr cs 0 := by rw [← hr]; rcases topV_form r with ⟨h, _⟩ | h; exact .inl h; exact .inr h
        obtain ⟨ek, hk⟩ : ∃ e, kidsV t = e := ⟨_, rfl⟩
        have hfk : ek = .nilp ∨ ∃ cs, ek = .ptr cs 0 := by rw [← hk]; rcases kidsV_form t with ⟨h, _⟩ | h; exact .inl h; exact .inr h
        rw [hk] at ht
        rw [hr] at hm
        have eA : D.map topV ++ [er] = (D ++ [r]).map topV := by simp [hr]
        have eB : D.length + 1 = (D ++ [r]).length := by simp
        rcases hg.form with ⟨eS, _⟩ | ⟨bS, vS, eS⟩ <;> subst eS <;> rcases hfr with rfl | ⟨cr, rfl⟩ <;> rcases hfk with rfl | ⟨ck, rfl⟩
        all_goals
          rw [St.knows _ _ ht hz]
          refine Loop.round ?_
          conv => whnf
          repeat (first
            | (refine sel_yes ?_ ?_; (first | assumption | (simp only [beq_iff_eq, bne_iff_ne, beq_eq_false_iff_ne, bne_eq_false_iff_eq, decide_eq_true_eq, decide_eq_false_iff_not, Bool.not_eq_true', Bool.not_eq_false', ne_eq, beq_true, beq_false, bne_self_eq_false, not_true_eq_false, not_false_eq_true, gt_iff_lt, ge_iff_le, Int.not_lt, Int.not_le, Bool.true_eq_false, Bool.false_eq_true] <;> omega)); conv => whnf)
            | (refine sel_no ?_ ?_; (first | assumption | (simp only [beq_iff_eq, bne_iff_ne, beq_eq_false_iff_ne, bne_eq_false_iff_eq, decide_eq_true_eq, decide_eq_false_iff_not, Bool.not_eq_true', Bool.not_eq_false', ne_eq, beq_true, beq_false, bne_self_eq_false, not_true_eq_false, not_false_eq_true, gt_iff_lt, ge_iff_le, Int.not_lt, Int.not_le, Bool.true_eq_false, Bool.false_eq_true] <;> omega)); conv => whnf)
            | (refine ⟨_, hm, ?_⟩; conv => whnf)
            | (refine ⟨le_rfl' ?_, ?_⟩; rfl; conv => whnf)
            | (refine ⟨⟨?_, ?_⟩, ?_⟩; omega; omega; conv => whnf)
            | (refine ⟨⟨?_, ?_, ?_⟩, ?_⟩; rfl; omega; omega; conv => whnf)
            | (refine ⟨rfl, ?_, ?_⟩; decide; conv => whnf))
          try exact rfl
          refine ⟨rfl, ?_⟩
          conv => whnf
          refine ⟨⟨rfl, (show (1 : Nat) ≠ 0 by decide)⟩, ?_⟩
          refine Gro.one hg ⟨_, _, _, _, rfl, upd_is _ _ _⟩ ?_ ?_ ?_ ?_ ?_ ?_ (fun b1 v1 a1 h1 => ?_)
          · intro b0 hb0
            exact upd_lt (Nat.lt_of_lt_of_le hb0 (by ((conv => lhs; whnf); (repeat ((conv => rhs; whnf); first | with_reducible exact Nat.le_refl _ | refine Nat.le_trans ?_ (Nat.le_add_right _ _) | refine Nat.le_succ_of_le ?_)))))
          · rfl
          · exact (fun c hc => by rcases List.mem_singleton.1 hc with rfl; rfl)
          · exact ⟨by show (_ + 1) * 8 ≤ 140737488355328; (try simp only [List.length_append, List.length_cons, List.length_nil]); omega, by show _ + 1 ≤ 140737488355328; (try simp only [List.length_append, List.length_cons, List.length_nil]); omega⟩
          · exact Nat.add_lt_add_left (by decide) _
          · ((conv => lhs; whnf); (repeat ((conv => rhs; whnf); first | with_reducible exact Nat.le_refl _ | refine Nat.le_trans ?_ (Nat.le_add_right _ _) | refine Nat.le_succ_of_le ?_)))
          conv => whnf
          refine ih t (D ++ [r]) (.rsl false b1 v1 0 (D.length + 1)) _ (by simp only [List.length_cons] at hl; omega) (by simp; omega) hw.2.2 ⟨hk.symm, rfl, rfl, trivial⟩ rfl ?_ (fun S' D' z' a b c => hq S' D' z' a b (by rw [c]; simp))
          refine Gro.to (Gro.truncR h1 ?_) eA eB
          (conv => lhs; whnf); (repeat ((conv => rhs; whnf); first | with_reducible exact Nat.le_refl _ | refine Nat.le_trans ?_ (Nat.le_add_right _ _) | refine Nat.le_succ_of_le ?_))
end
end Go.Proofs.YtbekoaalaofloaaGreatDoor.AB
end

section
set_option linter.unusedVariables false
set_option linter.unusedSimpArgs false
open Go Go.Ab Go.Proofs Go.Vl
namespace Go.Proofs.YtbekoaalaofloaaGreatDoor.AB
set_option maxRecDepth 100000
set_option maxHeartbeats 4000000
set_option linter.unusedSimpArgs false
section
variable {ext : Exts}
theorem allS_get {p : T → Prop} : ∀ {D : List (Option H)}, AllS p D → ∀ (i : Nat) (h : i < D.length), AllO p D[i]
  | d :: D, hw, 0, _ => hw.1
  | d :: D, hw, i + 1, h => allS_get hw.2 i (by simpa using h)
theorem allS_drop {p : T → Prop} : ∀ {D : List (Option H)}, AllS p D → ∀ i, AllS p (D.drop i)
  | D, hw, 0 => by simpa using hw
  | [], _, i + 1 => by simp [AllS]
  | d :: D, hw, i + 1 => by simpa using allS_drop hw.2 i
theorem lfold (hn : Non ext) (h26 : E26 ext) (h73 : E73 ext) (o n : Int) (q : Option H) (D : List (Option H)) (hD : D.length ≤ 100000) (hw : AllS WfV D) (b v : Nat) (Q : Ex → St → Prop) :
    ∀ (i : Nat) (z : St), i ≤ D.length → Has z.t [(1, byV (QV o n q)), (5, .rsl false b v 0 D.length), (7, topV (foldH (cO ext o) (D.drop i))), (8, .int .i64 ((i : Int) - 1))] → z.hp.n = 9 → z.hp.a b = some ⟨v, 1, D.map topV, none, 0⟩ →
      (∀ (z' : St), z'.t 7 = topV (foldH (cO ext o) D) → Q (.exit 2) z') → Go.Ab.Loop (cfg ext) (lpN Tryz.f19 1) 9 z Q := by
  intro i
  induction i with
  | zero =>
    intro z hi ht hz ha hq
    rw [St.knows _ _ ht hz]
    refine Loop.round ?_
    conv => whnf
    exact hq _ rfl
  | succ j ih =>
    intro z hi ht hz ha hq
    have e1 : ((j + 1 : Nat) : Int) - 1 = (j : Int) := by omega
    rw [e1] at ht
    have hj : j < D.length := by omega
    have hm := tmeld hn h26 h73 o n q D[j] (foldH (cO ext o) (D.drop (j + 1))) (allS_get hw j hj) (fold_all _ _ (allS_drop hw _))
    have ef : meldH (cO ext o) D[j] (foldH (cO ext o) (D.drop (j + 1))) = foldH (cO ext o) (D.drop j) := by rw [List.drop_eq_getElem_cons hj]; rfl
    rw [ef] at hm
    obtain ⟨er, hr⟩ : ∃ e, topV D[j] = e := ⟨_, rfl⟩
    have hfr : er = .nilp ∨ ∃ cs, er = .ptr cs 0 := by rw [← hr]; rcases topV_form D[j] with ⟨h, _⟩ | h; exact .inl h; exact .inr h
    obtain ⟨et, h7⟩ : ∃ e, topV (foldH (cO ext o) (D.drop (j + 1))) = e := ⟨_, rfl⟩
    have hft : et = .nilp ∨ ∃ cs, et = .ptr cs 0 := by rw [← h7]; rcases topV_form (foldH (cO ext o) (D.drop (j + 1))) with ⟨h, _⟩ | h; exact .inl h; exact .inr h
    obtain ⟨es, h8⟩ : ∃ e, topV (foldH (cO ext o) (D.drop j)) = e := ⟨_, rfl⟩
    have hfs : es = .nilp ∨ ∃ cs, es = .ptr cs 0 := by rw [← h8]; rcases topV_form (foldH (cO ext o) (D.drop j)) with ⟨h, _⟩ | h; exact .inl h; exact .inr h
    rw [h7] at ht
    rw [hr, h7, h8] at hm
    have hc : (D.map topV)[0 + j * 1]? = some er := by
      rw [Nat.zero_add, Nat.mul_one, List.getElem?_map, List.getElem?_eq_getElem hj, ← hr]; rfl
    have hb : (0 : Int) ≤ (j : Int) ∧ (j : Int) < (D.length : Int) := ⟨by omega, by omega⟩
    rcases hfr with rfl | ⟨cr, rfl⟩ <;> rcases hft with rfl | ⟨ct, rfl⟩ <;> rcases hfs with rfl | ⟨cs, rfl⟩
    all_goals
      rw [St.knows _ _ ht hz]
      refine Loop.round ?_
      conv => whnf
      refine ⟨hb, ?_⟩
      conv => whnf
      refine opt_look1 ha (fun l hl => by cases hl) hc ?_
      conv => whnf
      refine ⟨_, hm, ?_⟩
      conv => whnf
      refine ih _ (by omega) ⟨rfl, rfl, h8.symm, ?_, trivial⟩ rfl ?_ hq
      · conv => lhs; whnf
        exact vi (by rw [IntKind.wrap_i64]; omega)
      · show (match z.hp.a b with | some A => some { A with cs := A.cs.map (cleanV 9) } | none => none) = _
        rw [ha]
        simp only [cleans_cold 9 (map_cold D)]
theorem tpaired (hn : Non ext) (h26 : E26 ext) (h73 : E73 ext) (o n : Int) (q : Option H) (l : List H) (hl : l.length ≤ 100000) (hw : AllK WfV l) :
    (cfg ext).Ev 19 [kidsV l, byV (QV o n q)] (topV (pairedH (cO ext o) l)) := by
  have key : ∃ r, (cfg ext).Ev 19 [kidsV l, byV (QV o n q)] r ∧ r = topV (pairedH (cO ext o) l) := by
    refine Ev.ofF (hn 19 (by decide) (by decide)) Tryz.func19 rfl rfl ?_
    conv => whnf
    refine lpair hn h26 h73 o n q _ l.length l [] (.sl true [] 0) _ (Nat.le_refl _) (by simpa using hl) hw ⟨rfl, rfl, rfl, trivial⟩ rfl (Gro.nil _ _ _) (fun S D z a b c d e => ?_)
    rw [List.nil_append] at c
    subst c
    rcases e.is with ⟨rfl, e0⟩ | ⟨bS, vS, hb, rfl, ha⟩
    · have e1 : twoH (cO ext o) l = [] := List.eq_nil_of_length_eq_zero e0
      have e2 : pairedH (cO ext o) l = none := by unfold pairedH; rw [e1]; rfl
      rw [e2]
      rw [St.knows _ _ a b]
      conv => whnf
      refine Loop.round ?_
      conv => whnf
      exact ⟨rfl⟩
    · rw [St.knows _ _ a b]
      conv => whnf
      refine lfold hn h26 h73 o n q _ d (two_all _ _ hw) bS vS _ (twoH (cO ext o) l).length _ (Nat.le_refl _) ⟨rfl, rfl, ?_, ?_, trivial⟩ rfl ha (fun z e => ?_)
      · rw [List.drop_length]; rfl
      · conv => lhs; whnf
        exact vi (by rw [IntKind.wrap_i64]; omega)
      · obtain ⟨er, hr⟩ : ∃ x, topV (foldH (cO ext o) (twoH (cO ext o) l)) = x := ⟨_, rfl⟩
        have hfr : er = .nilp ∨ ∃ cs, er = .ptr cs 0 := by rw [← hr]; rcases topV_form (foldH (cO ext o) (twoH (cO ext o) l)) with ⟨h, _⟩ | h; exact .inl h; exact .inr h
        unfold pairedH
        rw [hr] at e ⊢
        rw [St.knows [(7, er)] _ ⟨e, trivial⟩ rfl]
        rcases hfr with rfl | ⟨cr, rfl⟩
        · conv => whnf
          exact ⟨rfl⟩
        · conv => whnf
          exact ⟨rfl⟩
  obtain ⟨r, h, rfl⟩ := key
  exact h
end
end Go.Proofs.YtbekoaalaofloaaGreatDoor.AB
end

section
set_option linter.unusedVariables false
set_option linter.unusedSimpArgs false
open Go Go.Ab Go.Proofs Go.Vl
namespace Go.Proofs.YtbekoaalaofloaaGreatDoor.AB
set_option maxRecDepth 100000
set_option maxHeartbeats 4000000
set_option linter.unusedSimpArgs false
section
variable {ext : Exts}
/-- nothing -/
def zT : T := ⟨0, 0, ⟨#[]⟩, []⟩
/-- a good item: right, its numbers ints' -/
def Gd (v : T) : Prop := WfV v ∧ partsV v ≤ 1024
theorem gd_of {v : T} (hw : WfV v) (h : okB v = true) : Gd v := ⟨hw, (okB_iff.1 h).2.2⟩
mutual
theorem allH_mono {p q : T → Prop} (h : ∀ v, p v → q v) : ∀ x : H, AllH p x → AllH q x
  | .mk x k, hx => by simp only [AllH] at hx ⊢; exact ⟨h x hx.1, allK_mono h k hx.2⟩
theorem allK_mono {p q : T → Prop} (h : ∀ v, p v → q v) : ∀ l : List H, AllK p l → AllK q l
  | [], _ => by simp only [AllK]
  | x :: l, hx => by simp only [AllK] at hx ⊢; exact ⟨allH_mono h x hx.1, allK_mono h l hx.2⟩
end
theorem allO_mono {p q : T → Prop} (h : ∀ v, p v → q v) {o : Option H} (ho : AllO p o) : AllO q o := by
  cases o with
  | none => trivial
  | some x => exact allH_mono h x ho
theorem tMin (hn : Non ext) (o n : Int) (h : H) (hx : Gd h.x) : (cfg ext).Ev 16 [QV o n (some h)] (.tup [A h.x, .int .i64 0]) := by
  have e : QV o n (some h) = .ptr [.int .i64 o, .int .i64 n, .ptr [.int .i64 h.x.f0, .int .i64 h.x.f1, .str h.x.f2, .sl false (encL h.x.f3) h.x.f3.length, kidsV h.kids] 0] 0 := by
    rw [← heapV_eq]; rfl
  have hs := tsome hn o n (some h)
  have ho := town hn h.x hx.2
  rw [e] at hs ⊢
  refine Ev.of (hn 16 (by decide) (by decide)) Tryz.func16 rfl rfl ?_
  conv => whnf
  repeat (first
    | (refine sel_yes ?_ ?_; (first | assumption | (simp only [beq_iff_eq, bne_iff_ne, beq_eq_false_iff_ne, bne_eq_false_iff_eq, decide_eq_true_eq, decide_eq_false_iff_not, Bool.not_eq_true', Bool.not_eq_false', ne_eq, beq_true, beq_false, bne_self_eq_false, not_true_eq_false, not_false_eq_true, gt_iff_lt, ge_iff_le, Int.not_lt, Int.not_le, Bool.true_eq_false, Bool.false_eq_true] <;> omega)); conv => whnf)
    | (refine sel_no ?_ ?_; (first | assumption | (simp only [beq_iff_eq, bne_iff_ne, beq_eq_false_iff_ne, bne_eq_false_iff_eq, decide_eq_true_eq, decide_eq_false_iff_not, Bool.not_eq_true', Bool.not_eq_false', ne_eq, beq_true, beq_false, bne_self_eq_false, not_true_eq_false, not_false_eq_true, gt_iff_lt, ge_iff_le, Int.not_lt, Int.not_le, Bool.true_eq_false, Bool.false_eq_true] <;> omega)); conv => whnf)
    | (refine ⟨_, hs, ?_⟩; conv => whnf)
    | (refine ⟨_, ho, ?_⟩; conv => whnf)
    | (refine ⟨le_rfl' ?_, ?_⟩; rfl; conv => whnf)
    | (refine ⟨⟨?_, ?_⟩, ?_⟩; omega; omega; conv => whnf)
    | (refine ⟨⟨?_, ?_, ?_⟩, ?_⟩; rfl; omega; omega; conv => whnf)
    | (refine ⟨rfl, ?_, ?_⟩; decide; conv => whnf))
  try exact rfl
theorem tMin0 (hn : Non ext) (o n : Int) : (cfg ext).Ev 16 [QV o n none] (.tup [A zT, .int .i64 6]) := by
  have hs := tsome hn o n none
  refine Ev.of (hn 16 (by decide) (by decide)) Tryz.func16 rfl rfl ?_
  conv => whnf
  repeat (first
    | (refine sel_yes ?_ ?_; (first | assumption | (simp only [beq_iff_eq, bne_iff_ne, beq_eq_false_iff_ne, bne_eq_false_iff_eq, decide_eq_true_eq, decide_eq_false_iff_not, Bool.not_eq_true', Bool.not_eq_false', ne_eq, beq_true, beq_false, bne_self_eq_false, not_true_eq_false, not_false_eq_true, gt_iff_lt, ge_iff_le, Int.not_lt, Int.not_le, Bool.true_eq_false, Bool.false_eq_true] <;> omega)); conv => whnf)
    | (refine sel_no ?_ ?_; (first | assumption | (simp only [beq_iff_eq, bne_iff_ne, beq_eq_false_iff_ne, bne_eq_false_iff_eq, decide_eq_true_eq, decide_eq_false_iff_not, Bool.not_eq_true', Bool.not_eq_false', ne_eq, beq_true, beq_false, bne_self_eq_false, not_true_eq_false, not_false_eq_true, gt_iff_lt, ge_iff_le, Int.not_lt, Int.not_le, Bool.true_eq_false, Bool.false_eq_true] <;> omega)); conv => whnf)
    | (refine ⟨_, hs, ?_⟩; conv => whnf)
    | (refine ⟨le_rfl' ?_, ?_⟩; rfl; conv => whnf)
    | (refine ⟨⟨?_, ?_⟩, ?_⟩; omega; omega; conv => whnf)
    | (refine ⟨⟨?_, ?_, ?_⟩, ?_⟩; rfl; omega; omega; conv => whnf)
    | (refine ⟨rfl, ?_, ?_⟩; decide; conv => whnf))
  try exact rfl
theorem tMinN (hn : Non ext) : (cfg ext).Ev 16 [.nilp] (.tup [A zT, .int .i64 6]) := by
  refine Ev.of (hn 16 (by decide) (by decide)) Tryz.func16 rfl rfl ?_
  conv => whnf
  repeat (first
    | (refine sel_yes ?_ ?_; (first | assumption | (simp only [beq_iff_eq, bne_iff_ne, beq_eq_false_iff_ne, bne_eq_false_iff_eq, decide_eq_true_eq, decide_eq_false_iff_not, Bool.not_eq_true', Bool.not_eq_false', ne_eq, beq_true, beq_false, bne_self_eq_false, not_true_eq_false, not_false_eq_true, gt_iff_lt, ge_iff_le, Int.not_lt, Int.not_le, Bool.true_eq_false, Bool.false_eq_true] <;> omega)); conv => whnf)
    | (refine sel_no ?_ ?_; (first | assumption | (simp only [beq_iff_eq, bne_iff_ne, beq_eq_false_iff_ne, bne_eq_false_iff_eq, decide_eq_true_eq, decide_eq_false_iff_not, Bool.not_eq_true', Bool.not_eq_false', ne_eq, beq_true, beq_false, bne_self_eq_false, not_true_eq_false, not_false_eq_true, gt_iff_lt, ge_iff_le, Int.not_lt, Int.not_le, Bool.true_eq_false, Bool.false_eq_true] <;> omega)); conv => whnf)
    | (refine ⟨_, tsome0 hn, ?_⟩; conv => whnf)
    | (refine ⟨le_rfl' ?_, ?_⟩; rfl; conv => whnf)
    | (refine ⟨⟨?_, ?_⟩, ?_⟩; omega; omega; conv => whnf)
    | (refine ⟨⟨?_, ?_, ?_⟩, ?_⟩; rfl; omega; omega; conv => whnf)
    | (refine ⟨rfl, ?_, ?_⟩; decide; conv => whnf))
  try exact rfl
theorem sizeK_len : ∀ l : List H, l.length ≤ sizeK l
  | [] => Nat.zero_le _
  | h :: t => by
    have := sizeK_len t
    have : 1 ≤ sizeH h := by cases h; simp only [sizeH]; omega
    simp only [List.length_cons, sizeK]; omega
theorem tPop (hn : Non ext) (h26 : E26 ext) (h73 : E73 ext) (o : Int) (n : Nat) (h : H) (hs : sizeH h = n) (h1 : n ≤ 65536) (hw : AllH Gd h) :
    (cfg ext).Ev 7 [QV o n (some h)] (.tup [QV o ((n : Int) - 1) (pairedH (cO ext o) h.kids), A h.x, .int .i64 0]) := by
  obtain ⟨x, k⟩ := h
  simp only [AllH] at hw
  simp only [sizeH] at hs
  have hk := sizeK_len k
  have hm := tMin hn o n (.mk x k) hw.1
  have hb := tby hn (QV o n (some (.mk x k))) o n (some (.mk x k)) rfl
  have hp := tpaired hn h26 h73 o n (some (.mk x k)) k (by omega) (allK_mono (fun v h => h.1) k hw.2)
  have hwr : IntKind.i64.wrap ((n : Int) - 1) = (n : Int) - 1 := by rw [IntKind.wrap_i64]; omega
  have e : QV o n (some (.mk x k)) = .ptr [.int .i64 o, .int .i64 n, .ptr [.int .i64 x.f0, .int .i64 x.f1, .str x.f2, .sl false (encL x.f3) x.f3.length, kidsV k] 0] 0 := by
    show V.ptr [_, _, heapV (.mk x k)] 0 = _
    rw [heapV_eq]; rfl
  rw [e] at hm hb hp ⊢
  simp only [H.kids, H.x] at hm ⊢
  rw [← hwr]
  unfold QV
  obtain ⟨er, hr⟩ : ∃ e, topV (pairedH (cO ext o) k) = e := ⟨_, rfl⟩
  have hfr : er = .nilp ∨ ∃ cs, er = .ptr cs 0 := by rw [← hr]; rcases topV_form (pairedH (cO ext o) k) with ⟨h, _⟩ | h; exact .inl h; exact .inr h
  rw [hr] at hp ⊢
  obtain ⟨ek, hk⟩ : ∃ e, kidsV k = e := ⟨_, rfl⟩
  have hfk : ek = .nilp ∨ ∃ cs, ek = .ptr cs 0 := by rw [← hk]; rcases kidsV_form k with ⟨h, _⟩ | h; exact .inl h; exact .inr h
  rw [hk] at hm hb hp ⊢
  rcases hfr with rfl | ⟨cr, rfl⟩ <;> rcases hfk with rfl | ⟨ck, rfl⟩
  all_goals
    refine Ev.of (hn 7 (by decide) (by decide)) Tryz.func7 rfl rfl ?_
    conv => whnf
    repeat (first
      | (refine sel_yes ?_ ?_; (first | assumption | (simp only [beq_iff_eq, bne_iff_ne, beq_eq_false_iff_ne, bne_eq_false_iff_eq, decide_eq_true_eq, decide_eq_false_iff_not, Bool.not_eq_true', Bool.not_eq_false', ne_eq, beq_true, beq_false, bne_self_eq_false, not_true_eq_false, not_false_eq_true, gt_iff_lt, ge_iff_le, Int.not_lt, Int.not_le, Bool.true_eq_false, Bool.false_eq_true] <;> omega)); conv => whnf)
      | (refine sel_no ?_ ?_; (first | assumption | (simp only [beq_iff_eq, bne_iff_ne, beq_eq_false_iff_ne, bne_eq_false_iff_eq, decide_eq_true_eq, decide_eq_false_iff_not, Bool.not_eq_true', Bool.not_eq_false', ne_eq, beq_true, beq_false, bne_self_eq_false, not_true_eq_false, not_false_eq_true, gt_iff_lt, ge_iff_le, Int.not_lt, Int.not_le, Bool.true_eq_false, Bool.false_eq_true] <;> omega)); conv => whnf)
      | (refine ⟨_, hm, ?_⟩; conv => whnf)
      | (refine ⟨_, hb, ?_⟩; conv => whnf)
      | (refine ⟨_, hp, ?_⟩; conv => whnf)
      | (refine ⟨le_rfl' ?_, ?_⟩; rfl; conv => whnf)
      | (refine ⟨⟨?_, ?_⟩, ?_⟩; omega; omega; conv => whnf)
      | (refine ⟨⟨?_, ?_, ?_⟩, ?_⟩; rfl; omega; omega; conv => whnf)
      | (refine ⟨rfl, ?_, ?_⟩; decide; conv => whnf))
    try exact rfl
end
end Go.Proofs.YtbekoaalaofloaaGreatDoor.AB
end

section
set_option linter.unusedVariables false
set_option linter.unusedSimpArgs false
open Go Go.Ab Go.Proofs Go.Vl
namespace Go.Proofs.YtbekoaalaofloaaGreatDoor.AB
set_option maxRecDepth 100000
set_option maxHeartbeats 4000000
set_option linter.unusedSimpArgs false
section
variable {ext : Exts}
theorem tPop0 (hn : Non ext) (o n : Int) : (cfg ext).Ev 7 [QV o n none] (.tup [.nilp, A zT, .int .i64 6]) := by
  have hm := tMin0 hn o n
  refine Ev.of (hn 7 (by decide) (by decide)) Tryz.func7 rfl rfl ?_
  conv => whnf
  repeat (first
    | (refine sel_yes ?_ ?_; (first | assumption | (simp only [beq_iff_eq, bne_iff_ne, beq_eq_false_iff_ne, bne_eq_false_iff_eq, decide_eq_true_eq, decide_eq_false_iff_not, Bool.not_eq_true', Bool.not_eq_false', ne_eq, beq_true, beq_false, bne_self_eq_false, not_true_eq_false, not_false_eq_true, gt_iff_lt, ge_iff_le, Int.not_lt, Int.not_le, Bool.true_eq_false, Bool.false_eq_true] <;> omega)); conv => whnf)
    | (refine sel_no ?_ ?_; (first | assumption | (simp only [beq_iff_eq, bne_iff_ne, beq_eq_false_iff_ne, bne_eq_false_iff_eq, decide_eq_true_eq, decide_eq_false_iff_not, Bool.not_eq_true', Bool.not_eq_false', ne_eq, beq_true, beq_false, bne_self_eq_false, not_true_eq_false, not_false_eq_true, gt_iff_lt, ge_iff_le, Int.not_lt, Int.not_le, Bool.true_eq_false, Bool.false_eq_true] <;> omega)); conv => whnf)
    | (refine ⟨_, hm, ?_⟩; conv => whnf)
    | (refine ⟨le_rfl' ?_, ?_⟩; rfl; conv => whnf)
    | (refine ⟨⟨?_, ?_⟩, ?_⟩; omega; omega; conv => whnf)
    | (refine ⟨⟨?_, ?_, ?_⟩, ?_⟩; rfl; omega; omega; conv => whnf)
    | (refine ⟨rfl, ?_, ?_⟩; decide; conv => whnf))
  try exact rfl
theorem tPush (hn : Non ext) (h26 : E26 ext) (h73 : E73 ext) (o : Int) (n : Nat) (h : Option H) (x : T) (h1 : n < 65536) (hx : WfV x) (ho : okB x = true) (hw : AllO Gd h) :
    (cfg ext).Ev 9 [QV o n h, A x] (.tup [QV o ((n : Int) + 1) (pushH (cO ext o) h x), .int .i64 0]) := by
  have hc := t22 hn h26 h73 x hx
  rw [if_pos ho] at hc
  have hs := tsome hn o n h
  have hb := tby hn (QV o n h) o n h rfl
  have hwn := town hn x (gd_of hx ho).2
  have hm : (cfg ext).Ev 23 [topV h, heapV (.mk x []), byV (QV o n h)] (topV (pushH (cO ext o) h x)) := tmeld hn h26 h73 o n h h (some (.mk x [])) (allO_mono (fun v h => h.1) hw) (by simp only [AllO, AllH, AllK]; exact ⟨hx, trivial⟩)
  rw [heapV_eq] at hm
  simp only [H.x, H.kids, kidsV] at hm
  have hwr : IntKind.i64.wrap ((n : Int) + 1) = (n : Int) + 1 := by rw [IntKind.wrap_i64]; omega
  rw [← hwr]
  have hne : ((n : Int) == 65536) = false := by rw [beq_eq_false_iff_ne]; omega
  unfold QV at hs hb hm ⊢
  obtain ⟨er, hr⟩ : ∃ e, topV (pushH (cO ext o) h x) = e := ⟨_, rfl⟩
  have hfr : er = .nilp ∨ ∃ cs, er = .ptr cs 0 := by rw [← hr]; rcases topV_form (pushH (cO ext o) h x) with ⟨h, _⟩ | h; exact .inl h; exact .inr h
  rw [hr] at hm ⊢
  obtain ⟨ek, hk⟩ : ∃ e, topV h = e := ⟨_, rfl⟩
  have hfk : ek = .nilp ∨ ∃ cs, ek = .ptr cs 0 := by rw [← hk]; rcases topV_form h with ⟨h, _⟩ | h; exact .inl h; exact .inr h
  rw [hk] at hm hb hs ⊢
  rcases hfr with rfl | ⟨cr, rfl⟩ <;> rcases hfk with rfl | ⟨ck, rfl⟩
  all_goals
    refine Ev.of (hn 9 (by decide) (by decide)) Tryz.func9 rfl rfl ?_
    conv => whnf
    repeat (first
      | (refine sel_yes ?_ ?_; (first | assumption | (simp only [beq_iff_eq, bne_iff_ne, beq_eq_false_iff_ne, bne_eq_false_iff_eq, decide_eq_true_eq, decide_eq_false_iff_not, Bool.not_eq_true', Bool.not_eq_false', ne_eq, beq_true, beq_false, bne_self_eq_false, not_true_eq_false, not_false_eq_true, gt_iff_lt, ge_iff_le, Int.not_lt, Int.not_le, Bool.true_eq_false, Bool.false_eq_true] <;> omega)); conv => whnf)
      | (refine sel_no ?_ ?_; (first | assumption | (simp only [beq_iff_eq, bne_iff_ne, beq_eq_false_iff_ne, bne_eq_false_iff_eq, decide_eq_true_eq, decide_eq_false_iff_not, Bool.not_eq_true', Bool.not_eq_false', ne_eq, beq_true, beq_false, bne_self_eq_false, not_true_eq_false, not_false_eq_true, gt_iff_lt, ge_iff_le, Int.not_lt, Int.not_le, Bool.true_eq_false, Bool.false_eq_true] <;> omega)); conv => whnf)
      | (refine ⟨_, hc, ?_⟩; conv => whnf)
      | (refine ⟨_, hs, ?_⟩; conv => whnf)
      | (refine ⟨_, hwn, ?_⟩; conv => whnf)
      | (refine ⟨_, hb, ?_⟩; conv => whnf)
      | (refine ⟨_, hm, ?_⟩; conv => whnf)
      | (refine ⟨le_rfl' ?_, ?_⟩; rfl; conv => whnf)
      | (refine ⟨⟨?_, ?_⟩, ?_⟩; omega; omega; conv => whnf)
      | (refine ⟨⟨?_, ?_, ?_⟩, ?_⟩; rfl; omega; omega; conv => whnf)
      | (refine ⟨rfl, ?_, ?_⟩; decide; conv => whnf))
    try exact rfl
theorem tPushx (hn : Non ext) (h26 : E26 ext) (h73 : E73 ext) (q : V) (hq : q = .nilp ∨ ∃ cs, q = .ptr cs 0) (x : T) (hx : WfV x) (ho : okB x = false) :
    (cfg ext).Ev 9 [q, A x] (.tup [.nilp, .int .i64 3]) := by
  have hc := t22 hn h26 h73 x hx
  rw [if_neg (by rw [ho]; exact Bool.false_ne_true)] at hc
  rcases hq with rfl | ⟨cs, rfl⟩
  all_goals
    refine Ev.of (hn 9 (by decide) (by decide)) Tryz.func9 rfl rfl ?_
    conv => whnf
    repeat (first
      | (refine sel_yes ?_ ?_; (first | assumption | (simp only [beq_iff_eq, bne_iff_ne, beq_eq_false_iff_ne, bne_eq_false_iff_eq, decide_eq_true_eq, decide_eq_false_iff_not, Bool.not_eq_true', Bool.not_eq_false', ne_eq, beq_true, beq_false, bne_self_eq_false, not_true_eq_false, not_false_eq_true, gt_iff_lt, ge_iff_le, Int.not_lt, Int.not_le, Bool.true_eq_false, Bool.false_eq_true] <;> omega)); conv => whnf)
      | (refine sel_no ?_ ?_; (first | assumption | (simp only [beq_iff_eq, bne_iff_ne, beq_eq_false_iff_ne, bne_eq_false_iff_eq, decide_eq_true_eq, decide_eq_false_iff_not, Bool.not_eq_true', Bool.not_eq_false', ne_eq, beq_true, beq_false, bne_self_eq_false, not_true_eq_false, not_false_eq_true, gt_iff_lt, ge_iff_le, Int.not_lt, Int.not_le, Bool.true_eq_false, Bool.false_eq_true] <;> omega)); conv => whnf)
      | (refine ⟨_, hc, ?_⟩; conv => whnf)
      | (refine ⟨le_rfl' ?_, ?_⟩; rfl; conv => whnf)
      | (refine ⟨⟨?_, ?_⟩, ?_⟩; omega; omega; conv => whnf)
      | (refine ⟨⟨?_, ?_, ?_⟩, ?_⟩; rfl; omega; omega; conv => whnf)
      | (refine ⟨rfl, ?_, ?_⟩; decide; conv => whnf))
    try exact rfl
/-- a nil queue is an empty one of order 0 -/
theorem tPushN (hn : Non ext) (h26 : E26 ext) (h73 : E73 ext) (x : T) (hx : WfV x) (ho : okB x = true) :
    (cfg ext).Ev 9 [.nilp, A x] (.tup [QV 0 1 (pushH (cO ext 0) none x), .int .i64 0]) := by
  have hc := t22 hn h26 h73 x hx
  rw [if_pos ho] at hc
  have hs := tsome0 hn
  have hb := tby hn (QV 0 0 none) 0 0 none rfl
  have hwn := town hn x (gd_of hx ho).2
  have hm : (cfg ext).Ev 23 [.nilp, heapV (.mk x []), byV (QV 0 0 none)] (topV (pushH (cO ext 0) none x)) := tmeld hn h26 h73 0 0 none none (some (.mk x [])) trivial (by simp only [AllO, AllH, AllK]; exact ⟨hx, trivial⟩)
  rw [heapV_eq] at hm
  simp only [H.x, H.kids, kidsV] at hm
  unfold QV at hs hb hm ⊢
  obtain ⟨er, hr⟩ : ∃ e, topV (pushH (cO ext 0) none x) = e := ⟨_, rfl⟩
  have hfr : er = .nilp ∨ ∃ cs, er = .ptr cs 0 := by rw [← hr]; rcases topV_form (pushH (cO ext 0) none x) with ⟨h, _⟩ | h; exact .inl h; exact .inr h
  rw [hr] at hm ⊢
  rcases hfr with rfl | ⟨cr, rfl⟩
  all_goals
    refine Ev.of (hn 9 (by decide) (by decide)) Tryz.func9 rfl rfl ?_
    conv => whnf
    repeat (first
      | (refine sel_yes ?_ ?_; (first | assumption | (simp only [beq_iff_eq, bne_iff_ne, beq_eq_false_iff_ne, bne_eq_false_iff_eq, decide_eq_true_eq, decide_eq_false_iff_not, Bool.not_eq_true', Bool.not_eq_false', ne_eq, beq_true, beq_false, bne_self_eq_false, not_true_eq_false, not_false_eq_true, gt_iff_lt, ge_iff_le, Int.not_lt, Int.not_le, Bool.true_eq_false, Bool.false_eq_true] <;> omega)); conv => whnf)
      | (refine sel_no ?_ ?_; (first | assumption | (simp only [beq_iff_eq, bne_iff_ne, beq_eq_false_iff_ne, bne_eq_false_iff_eq, decide_eq_true_eq, decide_eq_false_iff_not, Bool.not_eq_true', Bool.not_eq_false', ne_eq, beq_true, beq_false, bne_self_eq_false, not_true_eq_false, not_false_eq_true, gt_iff_lt, ge_iff_le, Int.not_lt, Int.not_le, Bool.true_eq_false, Bool.false_eq_true] <;> omega)); conv => whnf)
      | (refine ⟨_, hc, ?_⟩; conv => whnf)
      | (refine ⟨_, hs, ?_⟩; conv => whnf)
      | (refine ⟨_, hwn, ?_⟩; conv => whnf)
      | (refine ⟨_, hb, ?_⟩; conv => whnf)
      | (refine ⟨_, hm, ?_⟩; conv => whnf)
      | (refine ⟨le_rfl' ?_, ?_⟩; rfl; conv => whnf)
      | (refine ⟨⟨?_, ?_⟩, ?_⟩; omega; omega; conv => whnf)
      | (refine ⟨⟨?_, ?_, ?_⟩, ?_⟩; rfl; omega; omega; conv => whnf)
      | (refine ⟨rfl, ?_, ?_⟩; decide; conv => whnf))
    try exact rfl
theorem push_size (c : T → T → Int) (h : Option H) (x : T) : sizeO (pushH c h x) = sizeO h + 1 := by
  unfold pushH
  rw [meld_size]
  simp only [sizeO, sizeH, sizeK]
theorem push_all (c : T → T → Int) {p : T → Prop} {h : Option H} {x : T} (hh : AllO p h) (hx : p x) : AllO p (pushH c h x) := meld_all c hh (by simp only [AllO, AllH, AllK]; exact ⟨hx, trivial⟩)
theorem lOf (hn : Non ext) (h26 : E26 ext) (h73 : E73 ext) (o : Int) (l : List T) (hl : l.length ≤ 65536) (hw : ∀ v ∈ l, WfV v) (Q : Ex → St → Prop) (d : Nat) :
    ∀ (i : Nat) (h : Option H) (z : St), l.length - i = d → i ≤ l.length → AllO Gd h → Has z.t [(23, .int .i64 i), (22, .int .i64 l.length), (21, .sl false (encL l) l.length), (6, QV o i h)] → z.hp.n = 17 →
      (∀ z' : St, Has z'.t [(6, QV o l.length ((l.drop i).foldl (pushH (cO ext o)) h))] → z'.hp.n = 18 → (∀ v ∈ l.drop i, okB v = true) → Q (.exit 0) z') →
      (∀ z' : St, Has z'.t [(4, .nilp), (5, .int .i64 3)] → (¬ ∀ v ∈ l.drop i, okB v = true) → Q .ret z') →
      Go.Ab.Loop (cfg ext) (lpOf Tryz.f14) 17 z Q := by
  induction d with
  | zero =>
    intro i h z hd hi hg ht hz hq hr
    obtain rfl : i = l.length := by omega
    rw [St.knows _ _ ht hz]
    refine Loop.round ?_
    conv => whnf
    refine sel_no (by simp) ?_
    conv => whnf
    exact hq _ ⟨by rw [List.drop_length]; rfl, trivial⟩ rfl (by rw [List.drop_length]; intro v hv; cases hv)
  | succ d ih =>
    intro i h z hd hi hg ht hz hq hr
    have h1 : i < l.length := by omega
    have hwi := hw _ (List.getElem_mem h1)
    have eD := List.drop_eq_getElem_cons h1
    cases ho : okB l[i] with
    | false =>
      have hp := tPushx hn h26 h73 (QV o i h) (.inr ⟨_, rfl⟩) l[i] hwi ho
      rw [St.knows _ _ ht hz]
      refine Loop.round ?_
      conv => whnf
      refine sel_yes (by simp; omega) ?_
      conv => whnf
      refine ⟨⟨by omega, by omega⟩, ?_⟩
      conv => whnf
      refine ldA (i := i) h1 ?_
      conv => whnf
      refine ⟨_, hp, ?_⟩
      conv => whnf
      exact hr _ ⟨rfl, rfl, trivial⟩ (fun g => by have := g l[i] (by rw [eD]; exact List.mem_cons_self); rw [ho] at this; cases this)
    | true =>
      have hp := tPush hn h26 h73 o i h l[i] (by omega) hwi ho hg
      rw [St.knows _ _ ht hz]
      refine Loop.round ?_
      conv => whnf
      refine sel_yes (by simp; omega) ?_
      conv => whnf
      refine ⟨⟨by omega, by omega⟩, ?_⟩
      conv => whnf
      refine ldA (i := i) h1 ?_
      conv => whnf
      refine ⟨_, hp, ?_⟩
      conv => whnf
      refine ih (i + 1) (pushH (cO ext o) h l[i]) _ (by omega) (by omega) (push_all _ hg (gd_of hwi ho)) ⟨?_, rfl, rfl, rfl, trivial⟩ rfl (fun z' a b c => hq z' (by rw [eD]; exact a) b (fun v hv => by rw [eD] at hv; rcases List.mem_cons.1 hv with rfl | hv; exact ho; exact c v hv)) (fun z' a b => hr z' a (fun g => b (fun v hv => g v (by rw [eD]; exact List.mem_cons_of_mem _ hv))))
      conv => lhs; whnf
      exact wrapN1 (by omega)
theorem ofH_size (c : T → T → Int) : ∀ (l : List T) (h : Option H), sizeO (l.foldl (pushH c) h) = sizeO h + l.length
  | [], h => by simp
  | x :: l, h => by rw [List.foldl_cons, ofH_size c l, push_size, List.length_cons]; omega
theorem ofH_all (c : T → T → Int) {p : T → Prop} : ∀ (l : List T) (h : Option H), AllO p h → (∀ v ∈ l, p v) → AllO p (l.foldl (pushH c) h)
  | [], h, hh, _ => hh
  | x :: l, h, hh, hl => by rw [List.foldl_cons]; exact ofH_all c l _ (push_all c hh (hl x List.mem_cons_self)) (fun v hv => hl v (List.mem_cons_of_mem _ hv))
theorem tOf (hn : Non ext) (h26 : E26 ext) (h73 : E73 ext) (o : Int) (l : List T) (hll : l.length ≤ 9223372036854775807) (hw : ∀ v ∈ l, WfV v) :
    (∃ e : Int, e ≠ 0 ∧ (cfg ext).Ev 14 [.int .i64 o, .sl false (encL l) l.length] (.tup [.nilp, .int .i64 e])) ∨
    ((cfg ext).Ev 14 [.int .i64 o, .sl false (encL l) l.length] (.tup [QV o l.length (ofH (cO ext o) l), .int .i64 0]) ∧ l.length ≤ 65536 ∧ AllO Gd (ofH (cO ext o) l) ∧ sizeO (ofH (cO ext o) l) = l.length) := by
  by_cases ho : o < 0 ∨ o > 5
  · refine .inl ⟨4, by decide, ?_⟩
    refine Ev.of (hn 14 (by decide) (by decide)) Tryz.func14 rfl rfl ?_
    conv => whnf
    repeat (first
      | (refine sel_yes ?_ ?_; (first | assumption | (simp only [beq_iff_eq, bne_iff_ne, beq_eq_false_iff_ne, bne_eq_false_iff_eq, decide_eq_true_eq, decide_eq_false_iff_not, Bool.not_eq_true', Bool.not_eq_false', ne_eq, beq_true, beq_false, bne_self_eq_false, not_true_eq_false, not_false_eq_true, gt_iff_lt, ge_iff_le, Int.not_lt, Int.not_le, Bool.true_eq_false, Bool.false_eq_true] <;> omega)); conv => whnf)
      | (refine sel_no ?_ ?_; (first | assumption | (simp only [beq_iff_eq, bne_iff_ne, beq_eq_false_iff_ne, bne_eq_false_iff_eq, decide_eq_true_eq, decide_eq_false_iff_not, Bool.not_eq_true', Bool.not_eq_false', ne_eq, beq_true, beq_false, bne_self_eq_false, not_true_eq_false, not_false_eq_true, gt_iff_lt, ge_iff_le, Int.not_lt, Int.not_le, Bool.true_eq_false, Bool.false_eq_true] <;> omega)); conv => whnf)
      | (refine ⟨_, tNewx hn o ho, ?_⟩; conv => whnf)
      | (refine ⟨le_rfl' ?_, ?_⟩; rfl; conv => whnf)
      | (refine ⟨⟨?_, ?_⟩, ?_⟩; omega; omega; conv => whnf)
      | (refine ⟨⟨?_, ?_, ?_⟩, ?_⟩; rfl; omega; omega; conv => whnf)
      | (refine ⟨rfl, ?_, ?_⟩; decide; conv => whnf))
    try exact rfl
  · have hN := tNew hn o (by omega) (by omega)
    by_cases hl : l.length ≤ 65536
    · have h65 : decide ((l.length : Int) > 65536) = false := decide_eq_false (by omega)
      have key : ∃ r, (cfg ext).Ev 14 [.int .i64 o, .sl false (encL l) l.length] r ∧ ((r = .tup [.nilp, .int .i64 3]) ∨ (r = .tup [QV o l.length (ofH (cO ext o) l), .int .i64 0] ∧ ∀ v ∈ l, okB v = true)) := by
        refine Ev.ofF (hn 14 (by decide) (by decide)) Tryz.func14 rfl rfl ?_
        conv => whnf
        refine ⟨_, hN, ?_⟩
        conv => whnf
        refine sel_no h65 ?_
        conv => whnf
        refine lOf hn h26 h73 o l hl hw _ l.length 0 none _ rfl (by omega) trivial ⟨rfl, rfl, rfl, rfl, trivial⟩ rfl (fun z a b c => ?_) (fun z a b => ?_)
        · rw [St.knows _ _ a b]
          conv => whnf
          exact ⟨.inr ⟨rfl, c⟩⟩
        · rw [St.knows _ z.hp.n a rfl]
          conv => whnf
          exact ⟨.inl rfl⟩
      obtain ⟨r, h, rfl | ⟨rfl, hok⟩⟩ := key
      · exact .inl ⟨3, by decide, h⟩
      · exact .inr ⟨h, hl, ofH_all _ l none trivial (fun v hv => gd_of (hw v hv) (hok v hv)), by unfold ofH; rw [ofH_size]; simp [sizeO]⟩
    · have h65 : decide ((l.length : Int) > 65536) = true := decide_eq_true (by omega)
      refine .inl ⟨2, by decide, ?_⟩
      refine Ev.of (hn 14 (by decide) (by decide)) Tryz.func14 rfl rfl ?_
      conv => whnf
      repeat (first
        | (refine sel_yes ?_ ?_; (first | assumption | (simp only [beq_iff_eq, bne_iff_ne, beq_eq_false_iff_ne, bne_eq_false_iff_eq, decide_eq_true_eq, decide_eq_false_iff_not, Bool.not_eq_true', Bool.not_eq_false', ne_eq, beq_true, beq_false, bne_self_eq_false, not_true_eq_false, not_false_eq_true, gt_iff_lt, ge_iff_le, Int.not_lt, Int.not_le, Bool.true_eq_false, Bool.false_eq_true] <;> omega)); conv => whnf)
        | (refine sel_no ?_ ?_; (first | assumption | (simp only [beq_iff_eq, bne_iff_ne, beq_eq_false_iff_ne, bne_eq_false_iff_eq, decide_eq_true_eq, decide_eq_false_iff_not, Bool.not_eq_true', Bool.not_eq_false', ne_eq, beq_true, beq_false, bne_self_eq_false, not_true_eq_false, not_false_eq_true, gt_iff_lt, ge_iff_le, Int.not_lt, Int.not_le, Bool.true_eq_false, Bool.false_eq_true] <;> omega)); conv => whnf)
        | (refine ⟨_, hN, ?_⟩; conv => whnf)
        | (refine ⟨le_rfl' ?_, ?_⟩; rfl; conv => whnf)
        | (refine ⟨⟨?_, ?_⟩, ?_⟩; omega; omega; conv => whnf)
        | (refine ⟨⟨?_, ?_, ?_⟩, ?_⟩; rfl; omega; omega; conv => whnf)
        | (refine ⟨rfl, ?_, ?_⟩; decide; conv => whnf))
      try exact rfl
end
end Go.Proofs.YtbekoaalaofloaaGreatDoor.AB
end

section
set_option linter.unusedVariables false
set_option linter.unusedSimpArgs false
open Go Go.Ab Go.Proofs Go.Vl
namespace Go.Proofs.YtbekoaalaofloaaGreatDoor.AB
set_option maxRecDepth 100000
set_option maxHeartbeats 8000000
set_option linter.unusedSimpArgs false
section
variable {ext : Exts}
theorem encX_cold (v : T) : ∀ c ∈ encX v, cold c = true := fun c hc => encL_cold [v] c (by simp only [encL, enc_eq, List.append_nil]; exact hc)
theorem encL_one (D : List T) (v : T) : encL D ++ encX v = encL (D ++ [v]) := by
  rw [encL_app]
  simp only [encL, enc_eq, List.append_nil]
theorem sorted_len (c : T → T → Int) : ∀ (n : Nat) (h : Option H), sizeO h = n → (sortedH c n h).length = n
  | 0, h, _ => rfl
  | n + 1, none, hs => by simp [sizeO] at hs
  | n + 1, some (.mk x k), hs => by
    simp only [sizeO, sizeH] at hs
    simp only [sortedH, List.length_cons, H.kids]
    rw [sorted_len c n _ (by rw [paired_size]; omega)]
theorem lSorted (hn : Non ext) (h26 : E26 ext) (h73 : E73 ext) (o : Int) (Q : Ex → St → Prop) :
    ∀ (n : Nat) (h : Option H) (D : List T) (S : V) (z : St), sizeO h = n → D.length + n ≤ 65536 → AllO Gd h → Has z.t [(0, QV o n h), (3, S)] → z.hp.n = 2 → Gro 4 z.hp.a z.hp.m S (encL D) D.length →
      (∀ (S' : V) (z' : St), Has z'.t [(3, S')] → z'.hp.n = 5 → Gro 4 z'.hp.a z'.hp.m S' (encL (D ++ sortedH (cO ext o) n h)) (D ++ sortedH (cO ext o) n h).length → Q (.exit 0) z') →
      Go.Ab.Loop (cfg ext) (lpOf Tryz.f18) 2 z Q := by
  intro n
  induction n with
  | zero =>
    intro h D S z hs hD hw ht hz hg hq
    have hl := tLen hn o (0 : Nat) h
    rcases hg.form with ⟨eS, _⟩ | ⟨bS, vS, eS⟩ <;> subst eS
    all_goals
      rw [St.knows _ _ ht hz]
      refine Loop.round ?_
      conv => whnf
      refine ⟨_, hl, ?_⟩
      conv => whnf
      refine hq _ _ ⟨rfl, trivial⟩ rfl ?_
      refine Gro.to (Gro.mono hg (fun _ _ => rfl) ?_) (by simp [sortedH]) (by simp [sortedH])
      (conv => lhs; whnf); (repeat ((conv => rhs; whnf); first | with_reducible exact Nat.le_refl _ | refine Nat.le_trans ?_ (Nat.le_add_right _ _) | refine Nat.le_succ_of_le ?_))
  | succ n ih =>
    intro h D S z hs hD hw ht hz hg hq
    cases h with
    | none => simp [sizeO] at hs
    | some h =>
      have hl := tLen hn o ((n + 1 : Nat) : Int) (some h)
      have hp := tPop hn h26 h73 o (n + 1) h hs (by omega) hw
      have e1 : ((n + 1 : Nat) : Int) - 1 = (n : Int) := by omega
      rw [e1] at hp
      have hx : Gd h.x := by cases h; simp only [AllO, AllH] at hw; exact hw.1
      have hwk : AllO Gd (pairedH (cO ext o) h.kids) := by cases h; simp only [AllO, AllH] at hw; exact paired_all _ hw.2
      have hsk : sizeO (pairedH (cO ext o) h.kids) = n := by
        rw [paired_size]; cases h; simp only [sizeO, sizeH] at hs; simp only [H.kids]; omega
      have es : sortedH (cO ext o) (n + 1) (some h) = h.x :: sortedH (cO ext o) n (pairedH (cO ext o) h.kids) := rfl
      rw [es] at hq
      have eA := encL_one D h.x
      have eB : D.length + 1 = (D ++ [h.x]).length := by simp
      have eQ : D ++ h.x :: sortedH (cO ext o) n (pairedH (cO ext o) h.kids) = (D ++ [h.x]) ++ sortedH (cO ext o) n (pairedH (cO ext o) h.kids) := by simp
      rw [eQ] at hq
      rcases hg.form with ⟨eS, _⟩ | ⟨bS, vS, eS⟩ <;> subst eS
      all_goals
        rw [St.knows _ _ ht hz]
        refine Loop.round ?_
        conv => whnf
        refine ⟨_, hl, ?_⟩
        conv => whnf
        refine sel_yes (decide_eq_true (show ((n + 1 : Nat) : Int) > 0 by omega)) ?_
        conv => whnf
        refine ⟨_, hp, ?_⟩
        conv => whnf
        refine ⟨rfl, ?_⟩
        conv => whnf
        refine ⟨⟨rfl, (show (4 : Nat) ≠ 0 by decide)⟩, ?_⟩
        refine Gro.one hg ⟨_, _, _, _, rfl, upd_is _ _ _⟩ ?_ ?_ ?_ ?_ ?_ ?_ (fun b1 v1 a1 h1 => ?_)
        · intro b0 hb0
          exact upd_lt (Nat.lt_of_lt_of_le hb0 (by ((conv => lhs; whnf); (repeat ((conv => rhs; whnf); first | with_reducible exact Nat.le_refl _ | refine Nat.le_trans ?_ (Nat.le_add_right _ _) | refine Nat.le_succ_of_le ?_)))))
        · rfl
        · exact (encX_cold h.x)
        · exact ⟨by show (_ + 1) * 56 ≤ 140737488355328; (try simp only [List.length_append, List.length_cons, List.length_nil]); omega, by show _ + 1 ≤ 140737488355328; (try simp only [List.length_append, List.length_cons, List.length_nil]); omega⟩
        · exact Nat.add_lt_add_left (by decide) _
        · ((conv => lhs; whnf); (repeat ((conv => rhs; whnf); first | with_reducible exact Nat.le_refl _ | refine Nat.le_trans ?_ (Nat.le_add_right _ _) | refine Nat.le_succ_of_le ?_)))
        conv => whnf
        refine ih (pairedH (cO ext o) h.kids) (D ++ [h.x]) (.rsl false b1 v1 0 (D.length + 1)) _ hsk (by simp; omega) hwk ⟨rfl, rfl, trivial⟩ rfl ?_ hq
        refine Gro.to (Gro.truncR h1 ?_) eA eB
        (conv => lhs; whnf); (repeat ((conv => rhs; whnf); first | with_reducible exact Nat.le_refl _ | refine Nat.le_trans ?_ (Nat.le_add_right _ _) | refine Nat.le_succ_of_le ?_))
theorem tSorted (hn : Non ext) (h26 : E26 ext) (h73 : E73 ext) (o : Int) (n : Nat) (h : Option H) (hs : sizeO h = n) (h1 : n ≤ 65536) (hw : AllO Gd h) :
    (cfg ext).Ev 18 [QV o n h] (.sl false (encL (sortedH (cO ext o) n h)) n) := by
  have key : ∃ r, (cfg ext).Ev 18 [QV o n h] r ∧ r = .sl false (encL (sortedH (cO ext o) n h)) n := by
    refine Ev.ofF (hn 18 (by decide) (by decide)) Tryz.func18 rfl rfl ?_
    conv => whnf
    refine lSorted hn h26 h73 o _ n h [] (.sl true [] 0) _ hs (by simpa using h1) hw ⟨rfl, rfl, trivial⟩ rfl (by simp only [encL]; exact Gro.nil _ _ _) (fun S z a b c => ?_)
    rw [List.nil_append, sorted_len _ n h hs] at c
    rcases c.form with ⟨eS, e0⟩ | ⟨bS, vS, eS⟩
    · subst eS
      rw [St.knows _ _ a b]
      conv => whnf
      exact Fin.gro rfl c rfl
    · subst eS
      rw [St.knows _ _ a b]
      conv => whnf
      exact Fin.gro rfl c rfl
  obtain ⟨r, h, rfl⟩ := key
  exact h
end
end Go.Proofs.YtbekoaalaofloaaGreatDoor.AB
end

section
set_option linter.unusedVariables false
set_option linter.unusedSimpArgs false
open Go Go.Ab Go.Proofs Go.Vl
namespace Go.Proofs.YtbekoaalaofloaaGreatDoor.AB
set_option maxRecDepth 100000
set_option maxHeartbeats 16000000
set_option linter.unusedSimpArgs false
set_option linter.unusedVariables false
/-- the reference's queue -/
def WV (o : Int) (L : List T) : V := .ptr [.int .i64 o, .sl false (encL L) L.length] 0
def box4 (v : T) : Bx := .cells [.int .i64 v.f0, .int .i64 v.f1, .str v.f2, .sl false (encL v.f3) v.f3.length] false
def boxQ (o : Int) (S : V) : Bx := .cells [.int .i64 o, S] false
theorem encL_take : ∀ (l : List T) (i : Nat), (encL l).take (i * 4) = encL (l.take i)
  | l, 0 => by simp [encL]
  | [], i + 1 => by simp [encL]
  | v :: l, i + 1 => by
    have : (i + 1) * 4 = 4 + i * 4 := by omega
    rw [this, List.take_succ_cons]
    simp only [encL, enc_eq]
    rw [← encL_take l i]
    simp [List.take_add]
theorem slLo {P : Program} {t e : Nat} {l : List T} {k : IntKind} {x : Int} {i : Nat} (ht : tslice P t = some e) (h4 : tsize P e = 4) (hx : x = (i : Int)) (h : i ≤ l.length) : sliceV P t (.sl false (encL l) l.length) none (some (.int k x)) none = some (.sl false (encL (l.take i)) (l.take i).length) := by
  subst hx
  have hb : (0 : Int) ≤ (i : Int) ∧ (i : Int) ≤ (l.length : Int) := ⟨by omega, by omega⟩
  simp only [sliceV, ht, bounds, boundO, bound, if_pos hb, Option.bind_some, Int.toNat_natCast, h4, clip, Bool.false_and, Nat.sub_zero, Nat.zero_mul]
  have e1 : sub (encL l) 0 (i * 4) = encL (l.take i) := by unfold sub; rw [List.drop_zero, encL_take]
  have e2 : (l.take i).length = i := by rw [List.length_take]; omega
  rw [e1, e2]
theorem slHi {P : Program} {t e : Nat} {l : List T} {k : IntKind} {x : Int} {i : Nat} (ht : tslice P t = some e) (h4 : tsize P e = 4) (hx : x = (i : Int)) (h : i ≤ l.length) : sliceV P t (.sl false (encL l) l.length) (some (.int k x)) none none = some (.sl false (encL (l.drop i)) (l.drop i).length) := by
  subst hx
  have hb : (0 : Int) ≤ (i : Int) ∧ (i : Int) ≤ (l.length : Int) := ⟨by omega, by omega⟩
  simp only [sliceV, ht, bounds, boundO, bound, if_pos hb, Option.bind_some, Int.toNat_natCast, h4, clip, Bool.false_and]
  have e2 : (l.drop i).length = l.length - i := by rw [List.length_drop]
  have e1 : sub (encL l) (i * 4) ((l.length - i) * 4) = encL (l.drop i) := by
    unfold sub; rw [encL_drop, ← e2, List.take_of_length_le]; rw [encL_len]; exact Nat.le_refl _
  rw [e1, e2]
theorem appS {l D : List T} {hp : Hp} {ida m : Nat} {S : V} {Q : V × Hp → Prop} (h : Gro 4 hp.a m S (encL D) D.length) (hm : m ≤ hp.m) (hi : ida < hp.m) (hb : D.length + l.length ≤ 1000000)
    (q : ∀ S' a', Gro 4 a' hp.m S' (encL (D ++ l)) (D ++ l).length → Q (S', ⟨hp.h, hp.n, a', hp.m⟩)) : opt (appendV 4 56 hp ida S (.sl false (encL l) l.length)) Q := by
  have hc : content none hp 4 (.sl false (encL l) l.length) = some (encL l, l.length) := by
    simp only [content]; rw [if_pos (encL_len l)]
  cases l with
  | nil =>
    refine Gro.app0 h (by rw [hc]; rfl) ?_
    exact q S hp.a ((h.mono (fun _ _ => rfl) hm).to (by simp) (by simp))
  | cons x l =>
    refine Gro.app h hc (by simp) (encL_len _) (encL_cold _) (by unfold maxRoom; omega) hi hm (fun b v a' h1 _ _ => ?_)
    exact q _ a' (h1.to (by rw [encL_app]) (by simp))
theorem xseq {C : Cfg} {a b c : Code} {s : St} {Q : Ex → St → Prop} (e : c = .seq a b) (h : xCode C a s fun ex s' => match ex with | .normal => xCode C b s' Q | .exit i => Q (.exit i) s' | .ret => Q .ret s') : xCode C c s Q := by subst e; exact h
section
variable {ext : Exts}
theorem lput (hn : Non ext) (o : Int) (h0 : 0 ≤ o) (h5 : o ≤ 5) (L : List T) (x : T) (hl : L.length ≤ 65536) (hL : ∀ y ∈ L, WfV y ∧ okB y = true) (hx : WfV x) (ox : okB x = true) (Q : Ex → St → Prop) (d : Nat) :
    ∀ (i : Nat) (z : St), L.length - i = d → i ≤ L.length → Has z.t [(0, WV o L), (3, .ref 0 0), (5, .int .i64 i)] → Has z.hp.h [(0, some (box4 x))] → z.hp.n = 3 → (∀ y ∈ L.take i, ordF ext o y x ≤ 0) →
      (∀ (z' : St) (p : Nat), Has z'.t [(0, WV o L), (3, .ref 0 0), (5, .int .i64 p)] → Has z'.hp.h [(0, some (box4 x))] → z'.hp.n = 26 → p ≤ L.length → (∀ y ∈ L.take p, ordF ext o y x ≤ 0) → (∀ y, (L.drop p).head? = some y → ¬ ordF ext o y x ≤ 0) → Q (.exit 0) z') →
      Go.Ab.Loop (cfg ext) (lpOf Tryz.f26) 3 z Q := by
  induction d with
  | zero =>
    intro i z hd hi ht hh hz hk hq
    have g : decide ((i : Int) < (L.length : Int)) = false := decide_eq_false (by omega)
    have g' : (decide ((i : Int) < (L.length : Int)) == true) = false := by rw [g]; rfl
    rw [St.knows _ _ ht hz _ hh]
    refine Loop.round ?_
    conv => whnf
    repeat (first
      | (refine sel_yes ?_ ?_; (first | assumption | (simp only [beq_iff_eq, bne_iff_ne, beq_eq_false_iff_ne, bne_eq_false_iff_eq, decide_eq_true_eq, decide_eq_false_iff_not, Bool.not_eq_true', Bool.not_eq_false', ne_eq, beq_true, beq_false, bne_self_eq_false, not_true_eq_false, not_false_eq_true, gt_iff_lt, ge_iff_le, Int.not_lt, Int.not_le, Bool.true_eq_false, Bool.false_eq_true] <;> omega)); conv => whnf)
      | (refine sel_no ?_ ?_; (first | assumption | (simp only [beq_iff_eq, bne_iff_ne, beq_eq_false_iff_ne, bne_eq_false_iff_eq, decide_eq_true_eq, decide_eq_false_iff_not, Bool.not_eq_true', Bool.not_eq_false', ne_eq, beq_true, beq_false, bne_self_eq_false, not_true_eq_false, not_false_eq_true, gt_iff_lt, ge_iff_le, Int.not_lt, Int.not_le, Bool.true_eq_false, Bool.false_eq_true] <;> omega)); conv => whnf)
      | (refine ⟨le_rfl' ?_, ?_⟩; rfl; conv => whnf)
      | (refine ⟨⟨?_, ?_⟩, ?_⟩; omega; omega; conv => whnf)
      | (refine ⟨⟨?_, ?_, ?_⟩, ?_⟩; rfl; omega; omega; conv => whnf)
      | (refine ⟨rfl, ?_, ?_⟩; decide; conv => whnf))
    try exact rfl
    exact hq _ i ⟨rfl, rfl, rfl, trivial⟩ ⟨rfl, trivial⟩ rfl hi hk (by intro y hy; rw [List.drop_eq_nil_of_le (by omega)] at hy; cases hy)
  | succ d ih =>
    intro i z hd hi ht hh hz hk hq
    have hlt : i < L.length := by omega
    have g : decide ((i : Int) < (L.length : Int)) = true := decide_eq_true (by omega)
    have g' : (decide ((i : Int) < (L.length : Int)) == true) = true := by rw [g]; rfl
    have e1 : IntKind.i64.wrap ((i : Int) + 1) = ((i + 1 : Nat) : Int) := wrapN (by omega) (by omega)
    obtain ⟨y, hy⟩ : ∃ y, L[i] = y := ⟨_, rfl⟩
    have hym : y ∈ L := by rw [← hy]; exact List.getElem_mem hlt
    have hE := rord hn o h0 h5 y x (hL y hym).1 hx (hL y hym).2 ox
    have hld : ∀ {Q : V → Prop}, Q (A y) → i * 4 + 4 ≤ (encL L).length ∧ opt (one (some true) (sub (encL L) (i * 4) 4)) fun v => fv v Q := fun h => ldA hlt (by rw [hy]; exact h)
    have k1 : ordF ext o y x ≤ 0 → ∀ w ∈ L.take (i + 1), ordF ext o w x ≤ 0 := fun h w hw => by
      rw [List.take_succ_eq_append_getElem hlt, hy] at hw
      rcases List.mem_append.1 hw with hw | hw
      · exact hk w hw
      · simp at hw; subst hw; exact h
    have k2 : ¬ ordF ext o y x ≤ 0 → ∀ w, (L.drop i).head? = some w → ¬ ordF ext o w x ≤ 0 := fun h w hw => by
      rw [List.drop_eq_getElem_cons hlt, hy] at hw
      simp at hw; subst hw; exact h
    generalize ordF ext o y x = c at hE k1 k2
    rw [St.knows _ _ ht hz _ hh]
    refine Loop.round ?_
    conv => whnf
    repeat (first
      | (refine sel_yes ?_ ?_; (first | assumption | (simp only [beq_iff_eq, bne_iff_ne, beq_eq_false_iff_ne, bne_eq_false_iff_eq, decide_eq_true_eq, decide_eq_false_iff_not, Bool.not_eq_true', Bool.not_eq_false', ne_eq, beq_true, beq_false, bne_self_eq_false, not_true_eq_false, not_false_eq_true, gt_iff_lt, ge_iff_le, Int.not_lt, Int.not_le, Bool.true_eq_false, Bool.false_eq_true] <;> omega)); conv => whnf)
      | (refine sel_no ?_ ?_; (first | assumption | (simp only [beq_iff_eq, bne_iff_ne, beq_eq_false_iff_ne, bne_eq_false_iff_eq, decide_eq_true_eq, decide_eq_false_iff_not, Bool.not_eq_true', Bool.not_eq_false', ne_eq, beq_true, beq_false, bne_self_eq_false, not_true_eq_false, not_false_eq_true, gt_iff_lt, ge_iff_le, Int.not_lt, Int.not_le, Bool.true_eq_false, Bool.false_eq_true] <;> omega)); conv => whnf)
      | (refine ⟨le_rfl' ?_, ?_⟩; rfl; conv => whnf)
      | (refine ⟨⟨?_, ?_⟩, ?_⟩; omega; omega; conv => whnf)
      | (refine ⟨⟨?_, ?_, ?_⟩, ?_⟩; rfl; omega; omega; conv => whnf)
      | (refine ⟨rfl, ?_, ?_⟩; decide; conv => whnf))
    try exact rfl
    refine hld ?_
    conv => whnf
    repeat (first
      | (refine sel_yes ?_ ?_; (first | assumption | (simp only [beq_iff_eq, bne_iff_ne, beq_eq_false_iff_ne, bne_eq_false_iff_eq, decide_eq_true_eq, decide_eq_false_iff_not, Bool.not_eq_true', Bool.not_eq_false', ne_eq, beq_true, beq_false, bne_self_eq_false, not_true_eq_false, not_false_eq_true, gt_iff_lt, ge_iff_le, Int.not_lt, Int.not_le, Bool.true_eq_false, Bool.false_eq_true] <;> omega)); conv => whnf)
      | (refine sel_no ?_ ?_; (first | assumption | (simp only [beq_iff_eq, bne_iff_ne, beq_eq_false_iff_ne, bne_eq_false_iff_eq, decide_eq_true_eq, decide_eq_false_iff_not, Bool.not_eq_true', Bool.not_eq_false', ne_eq, beq_true, beq_false, bne_self_eq_false, not_true_eq_false, not_false_eq_true, gt_iff_lt, ge_iff_le, Int.not_lt, Int.not_le, Bool.true_eq_false, Bool.false_eq_true] <;> omega)); conv => whnf)
      | (refine ⟨_, hE, ?_⟩; conv => whnf)
      | (refine ⟨le_rfl' ?_, ?_⟩; rfl; conv => whnf)
      | (refine ⟨⟨?_, ?_⟩, ?_⟩; omega; omega; conv => whnf)
      | (refine ⟨⟨?_, ?_, ?_⟩, ?_⟩; rfl; omega; omega; conv => whnf)
      | (refine ⟨rfl, ?_, ?_⟩; decide; conv => whnf))
    try exact rfl
    refine sel_split (fun h => ?_) (fun h => ?_)
    · conv => whnf
      refine ih (i + 1) _ (by omega) (by omega) ⟨rfl, rfl, ?_, trivial⟩ ⟨rfl, trivial⟩ rfl (k1 (of_decide_eq_true h)) hq
      conv => lhs; whnf
      exact vi e1
    · conv => whnf
      exact hq _ i ⟨rfl, rfl, rfl, trivial⟩ ⟨rfl, trivial⟩ rfl hi hk (k2 (of_decide_eq_false h))
theorem putA (o : Int) (L : List T) (x : T) (p : Nat) (z : St) (K : Ex → St → Prop) (ht : Has z.t [(0, WV o L), (3, .ref 0 0), (5, .int .i64 p)]) (hh : Has z.hp.h [(0, some (box4 x))]) (hz : z.hp.n = 26)
    (hq : ∀ z', Has z'.t [(0, WV o L), (3, .ref 0 0), (5, .int .i64 p), (6, .ref 31 0)] → Has z'.hp.h [(0, some (box4 x)), (31, some (boxQ o (.sl true [] 0)))] → z'.hp.n = 33 → K .normal z') :
    xCode (cfg ext) (atP (bodyOf Tryz.f26) [true, true, true, false]) z K := by
  rw [St.knows _ _ ht hz _ hh]
  conv => whnf
  repeat (first
    | (refine sel_yes ?_ ?_; (first | assumption | (simp only [beq_iff_eq, bne_iff_ne, beq_eq_false_iff_ne, bne_eq_false_iff_eq, decide_eq_true_eq, decide_eq_false_iff_not, Bool.not_eq_true', Bool.not_eq_false', ne_eq, beq_true, beq_false, bne_self_eq_false, not_true_eq_false, not_false_eq_true, gt_iff_lt, ge_iff_le, Int.not_lt, Int.not_le, Bool.true_eq_false, Bool.false_eq_true] <;> omega)); conv => whnf)
    | (refine sel_no ?_ ?_; (first | assumption | (simp only [beq_iff_eq, bne_iff_ne, beq_eq_false_iff_ne, bne_eq_false_iff_eq, decide_eq_true_eq, decide_eq_false_iff_not, Bool.not_eq_true', Bool.not_eq_false', ne_eq, beq_true, beq_false, bne_self_eq_false, not_true_eq_false, not_false_eq_true, gt_iff_lt, ge_iff_le, Int.not_lt, Int.not_le, Bool.true_eq_false, Bool.false_eq_true] <;> omega)); conv => whnf)
    | (refine ⟨le_rfl' ?_, ?_⟩; rfl; conv => whnf)
    | (refine ⟨⟨?_, ?_⟩, ?_⟩; omega; omega; conv => whnf)
    | (refine ⟨⟨?_, ?_, ?_⟩, ?_⟩; rfl; omega; omega; conv => whnf)
    | (refine ⟨rfl, ?_, ?_⟩; decide; conv => whnf))
  try exact rfl
  exact hq _ ⟨rfl, rfl, rfl, rfl, trivial⟩ ⟨rfl, rfl, trivial⟩ rfl
theorem putB (o : Int) (L : List T) (x : T) (p : Nat) (hp : p ≤ L.length) (hl : L.length ≤ 65536) (z : St) (K : Ex → St → Prop) (ht : Has z.t [(0, WV o L), (3, .ref 0 0), (5, .int .i64 p), (6, .ref 31 0)]) (hh : Has z.hp.h [(0, some (box4 x)), (31, some (boxQ o (.sl true [] 0)))]) (hz : z.hp.n = 33)
    (hq : ∀ z' S, Has z'.t [(0, WV o L), (3, .ref 0 0), (5, .int .i64 p), (6, .ref 31 0)] → Has z'.hp.h [(0, some (box4 x)), (31, some (boxQ o S))] → z'.hp.n = 48 → Gro 4 z'.hp.a z'.hp.m S (encL (L.take p)) (L.take p).length → K .normal z') :
    xCode (cfg ext) (atP (bodyOf Tryz.f26) [true, true, true, true, false]) z K := by
  have hlen : ([] : List T).length + (L.take p).length ≤ 1000000 := by rw [List.length_take]; simp; omega
  rw [St.knows _ _ ht hz _ hh]
  conv => whnf
  repeat (first
    | (refine sel_yes ?_ ?_; (first | assumption | (simp only [beq_iff_eq, bne_iff_ne, beq_eq_false_iff_ne, bne_eq_false_iff_eq, decide_eq_true_eq, decide_eq_false_iff_not, Bool.not_eq_true', Bool.not_eq_false', ne_eq, beq_true, beq_false, bne_self_eq_false, not_true_eq_false, not_false_eq_true, gt_iff_lt, ge_iff_le, Int.not_lt, Int.not_le, Bool.true_eq_false, Bool.false_eq_true] <;> omega)); conv => whnf)
    | (refine sel_no ?_ ?_; (first | assumption | (simp only [beq_iff_eq, bne_iff_ne, beq_eq_false_iff_ne, bne_eq_false_iff_eq, decide_eq_true_eq, decide_eq_false_iff_not, Bool.not_eq_true', Bool.not_eq_false', ne_eq, beq_true, beq_false, bne_self_eq_false, not_true_eq_false, not_false_eq_true, gt_iff_lt, ge_iff_le, Int.not_lt, Int.not_le, Bool.true_eq_false, Bool.false_eq_true] <;> omega)); conv => whnf)
    | (refine ⟨le_rfl' ?_, ?_⟩; rfl; conv => whnf)
    | (refine ⟨⟨?_, ?_⟩, ?_⟩; omega; omega; conv => whnf)
    | (refine ⟨⟨?_, ?_, ?_⟩, ?_⟩; rfl; omega; omega; conv => whnf)
    | (refine ⟨rfl, ?_, ?_⟩; decide; conv => whnf))
  try exact rfl
  refine ⟨_, slLo (e := 33) rfl rfl rfl hp, ?_⟩
  conv => whnf
  refine ⟨rfl, ?_⟩
  conv => whnf
  refine ⟨⟨rfl, (show (4 : Nat) ≠ 0 by decide)⟩, ?_⟩
  refine appS (l := L.take p) (D := []) (m := 0) (Gro.to (Gro.nil _ _ _) (show ([] : List V) = encL [] by simp only [encL]) rfl) (Nat.zero_le _) (Nat.add_lt_add_left (by decide) _) hlen (fun S1 a1 h1 => ?_)
  have h1 : Gro 4 a1 _ S1 (encL (L.take p)) (L.take p).length := h1
  rcases h1.form with ⟨eS, _⟩ | ⟨b1, v1, eS⟩ <;> subst eS
  all_goals
    conv => whnf
    repeat (first
      | (refine sel_yes ?_ ?_; (first | assumption | (simp only [beq_iff_eq, bne_iff_ne, beq_eq_false_iff_ne, bne_eq_false_iff_eq, decide_eq_true_eq, decide_eq_false_iff_not, Bool.not_eq_true', Bool.not_eq_false', ne_eq, beq_true, beq_false, bne_self_eq_false, not_true_eq_false, not_false_eq_true, gt_iff_lt, ge_iff_le, Int.not_lt, Int.not_le, Bool.true_eq_false, Bool.false_eq_true] <;> omega)); conv => whnf)
      | (refine sel_no ?_ ?_; (first | assumption | (simp only [beq_iff_eq, bne_iff_ne, beq_eq_false_iff_ne, bne_eq_false_iff_eq, decide_eq_true_eq, decide_eq_false_iff_not, Bool.not_eq_true', Bool.not_eq_false', ne_eq, beq_true, beq_false, bne_self_eq_false, not_true_eq_false, not_false_eq_true, gt_iff_lt, ge_iff_le, Int.not_lt, Int.not_le, Bool.true_eq_false, Bool.false_eq_true] <;> omega)); conv => whnf)
      | (refine ⟨le_rfl' ?_, ?_⟩; rfl; conv => whnf)
      | (refine ⟨⟨?_, ?_⟩, ?_⟩; omega; omega; conv => whnf)
      | (refine ⟨⟨?_, ?_, ?_⟩, ?_⟩; rfl; omega; omega; conv => whnf)
      | (refine ⟨rfl, ?_, ?_⟩; decide; conv => whnf))
    try exact rfl
    exact hq _ _ ⟨rfl, rfl, rfl, rfl, trivial⟩ ⟨rfl, rfl, trivial⟩ rfl (Gro.mono h1 (fun _ _ => rfl) (by (conv => lhs; whnf); (repeat ((conv => rhs; whnf); first | with_reducible exact Nat.le_refl _ | refine Nat.le_trans ?_ (Nat.le_add_right _ _) | refine Nat.le_succ_of_le ?_ | exact Nat.le_refl _))))
end
end Go.Proofs.YtbekoaalaofloaaGreatDoor.AB
end

section
set_option linter.unusedVariables false
set_option linter.unusedSimpArgs false
open Go Go.Ab Go.Proofs Go.Vl
namespace Go.Proofs.YtbekoaalaofloaaGreatDoor.AB
set_option maxRecDepth 100000
set_option maxHeartbeats 16000000
set_option linter.unusedSimpArgs false
set_option linter.unusedVariables false
/-- append of one element of whatever cells -/
theorem appZ {D : List T} {hp : Hp} {ida m : Nat} {a0 : Nat → Option Arr} {S x : V} {zs : List V} {Q : V × Hp → Prop} (h : Gro 4 a0 m S (encL D) D.length) (hx : ∃ c bx cp ro, x = .rsl c bx 0 0 1 ∧ hp.a bx = some ⟨0, 4, zs, cp, ro⟩) (hold : ∀ b, b < m → hp.a b = a0 b) (hz : zs.length = 4) (hm : m ≤ hp.m) (hi : ida < hp.m) (hb : D.length ≤ 1000000)
    (q : ∀ b v a', b < hp.m → a' b = some ⟨v, 4, encL D ++ zs, none, 0⟩ → Q (.rsl false b v 0 (D.length + 1), ⟨hp.h, hp.n, a', hp.m⟩)) : opt (appendV 4 56 hp ida S x) Q := by
  obtain ⟨c, bx, cp, ro, rfl, ha⟩ := hx
  have hx' : content none hp 4 (.rsl c bx 0 0 1) = some (zs, 1) := by
    simp [content, ha, sub, hz, List.take_of_length_le]
  have h' := h.mono hold (Nat.le_refl m)
  have hroom : (D.length + 1) * 56 ≤ maxRoom ∧ D.length + 1 ≤ maxRoom := by unfold maxRoom; omega
  rcases h'.is with ⟨rfl, e0⟩ | ⟨b, v, hbm, rfl, hab⟩
  · have hD : D = [] := List.eq_nil_of_length_eq_zero e0
    subst hD
    have : appendV 4 56 hp ida (.sl true [] 0) (.rsl c bx 0 0 1) = some (.rsl false ida 0 0 (0 + 1), { hp with a := upd hp.a ida (some ⟨0, 4, [] ++ zs, none, 0⟩) }) := by
      unfold appendV
      rw [show content none hp 4 (.sl true [] 0) = some ([], 0) from rfl, hx']
      simp only
      rw [if_neg (by decide), if_pos (by unfold maxRoom; omega)]
    rw [this]
    exact q ida 0 _ hi (by simp only [encL]; exact upd_is _ _ _)
  · have : appendV 4 56 hp ida (.rsl false b v 0 D.length) (.rsl c bx 0 0 1) = some (.rsl false b (v + 1) 0 (D.length + 1), { hp with a := upd hp.a b (some ⟨v + 1, 4, encL D ++ zs, none, 0⟩) }) := by
      unfold appendV
      rw [h'.content, hx']
      simp only
      rw [if_neg (by decide), if_pos hroom, hab]
      simp only
      rw [if_pos ⟨trivial, h.len.symm⟩]
    rw [this]
    exact q b (v + 1) _ (by omega) (upd_is _ _ _)
theorem Fin.boxQ {P : Program} {fn : Func} {s : St} {R : V → Prop} {o : Int} {S : V} {D : List T} {bx m : Nat} (h : resOf P fn s = some (.ref bx 0)) (hb : s.hp.h bx = some (AB.boxQ o S)) (hg : Gro 4 s.hp.a m S (encL D) D.length) (hR : R (WV o D)) : Fin P fn s R := by
  refine ⟨?_⟩
  rw [h]
  obtain ⟨hp', e⟩ := Gro.fz (d := 3) (hp := { s.hp with h := upd s.hp.h bx (some (.cells [.int .i64 o, S] true)) }) hg
  have : fz 6 s.hp (.ref bx 0) = some (WV o D, hp') := by
    show (match s.hp.h bx with
      | some (.cells cs _) => match fzL (fz 5) { s.hp with h := upd s.hp.h bx (some (.cells cs true)) } cs with
        | some (cs', hp') => some (V.ptr cs' 0, hp')
        | none => none
      | _ => none) = _
    rw [hb]
    show (match fzL (fz 5) { s.hp with h := upd s.hp.h bx (some (.cells [.int .i64 o, S] true)) } [.int .i64 o, S] with
        | some (cs', hp') => some (V.ptr cs' 0, hp')
        | none => none) = _
    simp only [fzL]
    rw [show fz 5 { s.hp with h := upd s.hp.h bx (some (.cells [.int .i64 o, S] true)) } (.int .i64 o) = some (.int .i64 o, { s.hp with h := upd s.hp.h bx (some (.cells [.int .i64 o, S] true)) }) from rfl]
    simp only
    rw [show fz 5 _ S = _ from e]
    rfl
  show opt (fz 6 s.hp (.ref bx 0)) fun p => R p.1
  rw [this]
  exact hR
section
variable {ext : Exts}
theorem putC (o : Int) (L D : List T) (x : T) (p : Nat) (hD : D.length ≤ 65536) (S : V) (z : St) (K : Ex → St → Prop) (ht : Has z.t [(0, WV o L), (3, .ref 0 0), (5, .int .i64 p), (6, .ref 31 0)]) (hh : Has z.hp.h [(0, some (box4 x)), (31, some (boxQ o S))]) (hz : z.hp.n = 48) (hg : Gro 4 z.hp.a z.hp.m S (encL D) D.length)
    (hq : ∀ z' S', Has z'.t [(0, WV o L), (3, .ref 0 0), (5, .int .i64 p), (6, .ref 31 0)] → Has z'.hp.h [(0, some (box4 x)), (31, some (boxQ o S'))] → z'.hp.n = 61 → Gro 4 z'.hp.a z'.hp.m S' (encL (D ++ [x])) (D ++ [x]).length → K .normal z') :
    xCode (cfg ext) (atP (bodyOf Tryz.f26) [true, true, true, true, true, false]) z K := by
  have hlen := encL_len D
  have fin : ∀ (zs : List V), zs.length = 4 → fillL (encL D ++ zs) (0 + (D.length : Int).toNat * 4) [.int .i64 x.f0, .int .i64 x.f1, .str x.f2, .sl false (encL x.f3) x.f3.length] = encL (D ++ [x]) := by
    intro zs h4
    unfold fillL
    rw [show 0 + (D.length : Int).toNat * 4 = (encL D).length by rw [hlen]; simp, List.take_left, List.drop_of_length_le (by simp [h4])]
    rw [encL_app]
    simp only [encL, enc_eq, List.append_nil]
  rcases hg.form with ⟨eS, e0⟩ | ⟨bS, vS, eS⟩ <;> subst eS
  · have hD0 : D = [] := List.eq_nil_of_length_eq_zero e0
    subst hD0
    rw [St.knows _ _ ht hz _ hh]
    conv => whnf
    repeat (first
      | (refine sel_yes ?_ ?_; (first | assumption | (simp only [beq_iff_eq, bne_iff_ne, beq_eq_false_iff_ne, bne_eq_false_iff_eq, decide_eq_true_eq, decide_eq_false_iff_not, Bool.not_eq_true', Bool.not_eq_false', ne_eq, beq_true, beq_false, bne_self_eq_false, not_true_eq_false, not_false_eq_true, gt_iff_lt, ge_iff_le, Int.not_lt, Int.not_le, Bool.true_eq_false, Bool.false_eq_true] <;> omega)); conv => whnf)
      | (refine sel_no ?_ ?_; (first | assumption | (simp only [beq_iff_eq, bne_iff_ne, beq_eq_false_iff_ne, bne_eq_false_iff_eq, decide_eq_true_eq, decide_eq_false_iff_not, Bool.not_eq_true', Bool.not_eq_false', ne_eq, beq_true, beq_false, bne_self_eq_false, not_true_eq_false, not_false_eq_true, gt_iff_lt, ge_iff_le, Int.not_lt, Int.not_le, Bool.true_eq_false, Bool.false_eq_true] <;> omega)); conv => whnf)
      | (refine ⟨le_rfl' ?_, ?_⟩; rfl; conv => whnf)
      | (refine ⟨⟨?_, ?_⟩, ?_⟩; omega; omega; conv => whnf)
      | (refine ⟨⟨?_, ?_, ?_⟩, ?_⟩; rfl; omega; omega; conv => whnf)
      | (refine ⟨rfl, ?_, ?_⟩; decide; conv => whnf))
    try exact rfl
    refine ⟨rfl, ?_⟩
    conv => whnf
    refine ⟨⟨rfl, (show (4 : Nat) ≠ 0 by decide)⟩, ?_⟩
    refine appZ hg ⟨_, _, _, _, rfl, upd_is _ _ _⟩ (fun b0 hb0 => upd_lt (Nat.lt_of_lt_of_le hb0 (by (conv => lhs; whnf); (repeat ((conv => rhs; whnf); first | with_reducible exact Nat.le_refl _ | refine Nat.le_trans ?_ (Nat.le_add_right _ _) | refine Nat.le_succ_of_le ?_ | exact Nat.le_refl _))))) rfl (by (conv => lhs; whnf); (repeat ((conv => rhs; whnf); first | with_reducible exact Nat.le_refl _ | refine Nat.le_trans ?_ (Nat.le_add_right _ _) | refine Nat.le_succ_of_le ?_ | exact Nat.le_refl _))) (Nat.add_lt_add_left (by decide) _) (by simp) (fun b v a1 h1 h2 => ?_)
    conv => whnf
    repeat (first
      | (refine sel_yes ?_ ?_; (first | assumption | (simp only [beq_iff_eq, bne_iff_ne, beq_eq_false_iff_ne, bne_eq_false_iff_eq, decide_eq_true_eq, decide_eq_false_iff_not, Bool.not_eq_true', Bool.not_eq_false', ne_eq, beq_true, beq_false, bne_self_eq_false, not_true_eq_false, not_false_eq_true, gt_iff_lt, ge_iff_le, Int.not_lt, Int.not_le, Bool.true_eq_false, Bool.false_eq_true] <;> omega)); conv => whnf)
      | (refine sel_no ?_ ?_; (first | assumption | (simp only [beq_iff_eq, bne_iff_ne, beq_eq_false_iff_ne, bne_eq_false_iff_eq, decide_eq_true_eq, decide_eq_false_iff_not, Bool.not_eq_true', Bool.not_eq_false', ne_eq, beq_true, beq_false, bne_self_eq_false, not_true_eq_false, not_false_eq_true, gt_iff_lt, ge_iff_le, Int.not_lt, Int.not_le, Bool.true_eq_false, Bool.false_eq_true] <;> omega)); conv => whnf)
      | (refine ⟨le_rfl' ?_, ?_⟩; rfl; conv => whnf)
      | (refine ⟨⟨?_, ?_⟩, ?_⟩; omega; omega; conv => whnf)
      | (refine ⟨⟨?_, ?_, ?_⟩, ?_⟩; rfl; omega; omega; conv => whnf)
      | (refine ⟨rfl, ?_, ?_⟩; decide; conv => whnf))
    try exact rfl
    refine opt_store h2 (Nat.zero_le _) (Nat.le_refl 4) (fun a2 h3' _ => ?_)
    have h3 : a2 b = some ⟨v, 4, encL ([] ++ [x]), none, 0⟩ := by
      refine h3'.trans (congrArg (fun c => some (Arr.mk v 4 c none 0)) (fin _ ?_))
      rfl
    conv => whnf
    repeat (first
      | (refine sel_yes ?_ ?_; (first | assumption | (simp only [beq_iff_eq, bne_iff_ne, beq_eq_false_iff_ne, bne_eq_false_iff_eq, decide_eq_true_eq, decide_eq_false_iff_not, Bool.not_eq_true', Bool.not_eq_false', ne_eq, beq_true, beq_false, bne_self_eq_false, not_true_eq_false, not_false_eq_true, gt_iff_lt, ge_iff_le, Int.not_lt, Int.not_le, Bool.true_eq_false, Bool.false_eq_true] <;> omega)); conv => whnf)
      | (refine sel_no ?_ ?_; (first | assumption | (simp only [beq_iff_eq, bne_iff_ne, beq_eq_false_iff_ne, bne_eq_false_iff_eq, decide_eq_true_eq, decide_eq_false_iff_not, Bool.not_eq_true', Bool.not_eq_false', ne_eq, beq_true, beq_false, bne_self_eq_false, not_true_eq_false, not_false_eq_true, gt_iff_lt, ge_iff_le, Int.not_lt, Int.not_le, Bool.true_eq_false, Bool.false_eq_true] <;> omega)); conv => whnf)
      | (refine ⟨le_rfl' ?_, ?_⟩; rfl; conv => whnf)
      | (refine ⟨⟨?_, ?_⟩, ?_⟩; omega; omega; conv => whnf)
      | (refine ⟨⟨?_, ?_, ?_⟩, ?_⟩; rfl; omega; omega; conv => whnf)
      | (refine ⟨rfl, ?_, ?_⟩; decide; conv => whnf))
    try exact rfl
    exact hq _ _ ⟨rfl, rfl, rfl, rfl, trivial⟩ ⟨rfl, rfl, trivial⟩ rfl ⟨by rw [encL_len], encL_cold _, .inr ⟨b, v, Nat.lt_of_lt_of_le h1 (by (conv => lhs; whnf); (repeat ((conv => rhs; whnf); first | with_reducible exact Nat.le_refl _ | refine Nat.le_trans ?_ (Nat.le_add_right _ _) | refine Nat.le_succ_of_le ?_ | exact Nat.le_refl _))), rfl, h3⟩⟩
  · rw [St.knows _ _ ht hz _ hh]
    conv => whnf
    repeat (first
      | (refine sel_yes ?_ ?_; (first | assumption | (simp only [beq_iff_eq, bne_iff_ne, beq_eq_false_iff_ne, bne_eq_false_iff_eq, decide_eq_true_eq, decide_eq_false_iff_not, Bool.not_eq_true', Bool.not_eq_false', ne_eq, beq_true, beq_false, bne_self_eq_false, not_true_eq_false, not_false_eq_true, gt_iff_lt, ge_iff_le, Int.not_lt, Int.not_le, Bool.true_eq_false, Bool.false_eq_true] <;> omega)); conv => whnf)
      | (refine sel_no ?_ ?_; (first | assumption | (simp only [beq_iff_eq, bne_iff_ne, beq_eq_false_iff_ne, bne_eq_false_iff_eq, decide_eq_true_eq, decide_eq_false_iff_not, Bool.not_eq_true', Bool.not_eq_false', ne_eq, beq_true, beq_false, bne_self_eq_false, not_true_eq_false, not_false_eq_true, gt_iff_lt, ge_iff_le, Int.not_lt, Int.not_le, Bool.true_eq_false, Bool.false_eq_true] <;> omega)); conv => whnf)
      | (refine ⟨le_rfl' ?_, ?_⟩; rfl; conv => whnf)
      | (refine ⟨⟨?_, ?_⟩, ?_⟩; omega; omega; conv => whnf)
      | (refine ⟨⟨?_, ?_, ?_⟩, ?_⟩; rfl; omega; omega; conv => whnf)
      | (refine ⟨rfl, ?_, ?_⟩; decide; conv => whnf))
    try exact rfl
    refine ⟨rfl, ?_⟩
    conv => whnf
    refine ⟨⟨rfl, (show (4 : Nat) ≠ 0 by decide)⟩, ?_⟩
    refine appZ hg ⟨_, _, _, _, rfl, upd_is _ _ _⟩ (fun b0 hb0 => upd_lt (Nat.lt_of_lt_of_le hb0 (by (conv => lhs; whnf); (repeat ((conv => rhs; whnf); first | with_reducible exact Nat.le_refl _ | refine Nat.le_trans ?_ (Nat.le_add_right _ _) | refine Nat.le_succ_of_le ?_ | exact Nat.le_refl _))))) rfl (by (conv => lhs; whnf); (repeat ((conv => rhs; whnf); first | with_reducible exact Nat.le_refl _ | refine Nat.le_trans ?_ (Nat.le_add_right _ _) | refine Nat.le_succ_of_le ?_ | exact Nat.le_refl _))) (Nat.add_lt_add_left (by decide) _) (by omega) (fun b v a1 h1 h2 => ?_)
    conv => whnf
    refine ⟨⟨by omega, by omega⟩, ?_⟩
    conv => whnf
    have hle : 0 + (D.length : Int).toNat * 4 + 4 ≤ (encL D).length + 4 := by rw [hlen]; simp
    refine opt_store h2 (Nat.zero_le _) (by refine Nat.le_trans ?_ (Nat.le_of_eq (List.length_append).symm); exact hle) (fun a2 h3' _ => ?_)
    have h3 : a2 b = some ⟨v, 4, encL (D ++ [x]), none, 0⟩ := by
      refine h3'.trans (congrArg (fun c => some (Arr.mk v 4 c none 0)) (fin _ ?_))
      rfl
    conv => whnf
    repeat (first
      | (refine sel_yes ?_ ?_; (first | assumption | (simp only [beq_iff_eq, bne_iff_ne, beq_eq_false_iff_ne, bne_eq_false_iff_eq, decide_eq_true_eq, decide_eq_false_iff_not, Bool.not_eq_true', Bool.not_eq_false', ne_eq, beq_true, beq_false, bne_self_eq_false, not_true_eq_false, not_false_eq_true, gt_iff_lt, ge_iff_le, Int.not_lt, Int.not_le, Bool.true_eq_false, Bool.false_eq_true] <;> omega)); conv => whnf)
      | (refine sel_no ?_ ?_; (first | assumption | (simp only [beq_iff_eq, bne_iff_ne, beq_eq_false_iff_ne, bne_eq_false_iff_eq, decide_eq_true_eq, decide_eq_false_iff_not, Bool.not_eq_true', Bool.not_eq_false', ne_eq, beq_true, beq_false, bne_self_eq_false, not_true_eq_false, not_false_eq_true, gt_iff_lt, ge_iff_le, Int.not_lt, Int.not_le, Bool.true_eq_false, Bool.false_eq_true] <;> omega)); conv => whnf)
      | (refine ⟨le_rfl' ?_, ?_⟩; rfl; conv => whnf)
      | (refine ⟨⟨?_, ?_⟩, ?_⟩; omega; omega; conv => whnf)
      | (refine ⟨⟨?_, ?_, ?_⟩, ?_⟩; rfl; omega; omega; conv => whnf)
      | (refine ⟨rfl, ?_, ?_⟩; decide; conv => whnf))
    try exact rfl
    exact hq _ _ ⟨rfl, rfl, rfl, rfl, trivial⟩ ⟨rfl, rfl, trivial⟩ rfl ⟨by rw [encL_len], encL_cold _, .inr ⟨b, v, Nat.lt_of_lt_of_le h1 (by (conv => lhs; whnf); (repeat ((conv => rhs; whnf); first | with_reducible exact Nat.le_refl _ | refine Nat.le_trans ?_ (Nat.le_add_right _ _) | refine Nat.le_succ_of_le ?_ | exact Nat.le_refl _))), congrArg (fun n => V.rsl false b v 0 n) (show D.length + 1 = (D ++ [x]).length by rw [List.length_append]; rfl), h3⟩⟩
theorem putD (o : Int) (L D : List T) (x : T) (p : Nat) (hp : p ≤ L.length) (hl : L.length ≤ 65536) (hD : D.length ≤ 70000) (S : V) (z : St) (K : Ex → St → Prop) (ht : Has z.t [(0, WV o L), (3, .ref 0 0), (5, .int .i64 p), (6, .ref 31 0)]) (hh : Has z.hp.h [(0, some (box4 x)), (31, some (boxQ o S))]) (hz : z.hp.n = 61) (hg : Gro 4 z.hp.a z.hp.m S (encL D) D.length)
    (hq : ∀ z' S', Has z'.t [(6, .ref 31 0)] → Has z'.hp.h [(31, some (boxQ o S'))] → z'.hp.n = 76 → Gro 4 z'.hp.a z'.hp.m S' (encL (D ++ L.drop p)) (D ++ L.drop p).length → K .normal z') :
    xCode (cfg ext) (atP (bodyOf Tryz.f26) [true, true, true, true, true, true, false]) z K := by
  have hlen : D.length + (L.drop p).length ≤ 1000000 := by rw [List.length_drop]; omega
  rcases hg.form with ⟨eS, _⟩ | ⟨bS, vS, eS⟩ <;> subst eS
  all_goals
    rw [St.knows _ _ ht hz _ hh]
    conv => whnf
    repeat (first
      | (refine sel_yes ?_ ?_; (first | assumption | (simp only [beq_iff_eq, bne_iff_ne, beq_eq_false_iff_ne, bne_eq_false_iff_eq, decide_eq_true_eq, decide_eq_false_iff_not, Bool.not_eq_true', Bool.not_eq_false', ne_eq, beq_true, beq_false, bne_self_eq_false, not_true_eq_false, not_false_eq_true, gt_iff_lt, ge_iff_le, Int.not_lt, Int.not_le, Bool.true_eq_false, Bool.false_eq_true] <;> omega)); conv => whnf)
      | (refine sel_no ?_ ?_; (first | assumption | (simp only [beq_iff_eq, bne_iff_ne, beq_eq_false_iff_ne, bne_eq_false_iff_eq, decide_eq_true_eq, decide_eq_false_iff_not, Bool.not_eq_true', Bool.not_eq_false', ne_eq, beq_true, beq_false, bne_self_eq_false, not_true_eq_false, not_false_eq_true, gt_iff_lt, ge_iff_le, Int.not_lt, Int.not_le, Bool.true_eq_false, Bool.false_eq_true] <;> omega)); conv => whnf)
      | (refine ⟨le_rfl' ?_, ?_⟩; rfl; conv => whnf)
      | (refine ⟨⟨?_, ?_⟩, ?_⟩; omega; omega; conv => whnf)
      | (refine ⟨⟨?_, ?_, ?_⟩, ?_⟩; rfl; omega; omega; conv => whnf)
      | (refine ⟨rfl, ?_, ?_⟩; decide; conv => whnf))
    try exact rfl
    refine ⟨_, slHi (e := 33) rfl rfl rfl hp, ?_⟩
    conv => whnf
    refine ⟨rfl, ?_⟩
    conv => whnf
    refine ⟨⟨rfl, (show (4 : Nat) ≠ 0 by decide)⟩, ?_⟩
    refine appS (l := L.drop p) hg (by (conv => lhs; whnf); (repeat ((conv => rhs; whnf); first | with_reducible exact Nat.le_refl _ | refine Nat.le_trans ?_ (Nat.le_add_right _ _) | refine Nat.le_succ_of_le ?_ | exact Nat.le_refl _))) (Nat.add_lt_add_left (by decide) _) hlen (fun S1 a1 h1 => ?_)
    rcases h1.form with ⟨eS, _⟩ | ⟨b1, v1, eS⟩ <;> subst eS
    all_goals
      conv => whnf
      repeat (first
        | (refine sel_yes ?_ ?_; (first | assumption | (simp only [beq_iff_eq, bne_iff_ne, beq_eq_false_iff_ne, bne_eq_false_iff_eq, decide_eq_true_eq, decide_eq_false_iff_not, Bool.not_eq_true', Bool.not_eq_false', ne_eq, beq_true, beq_false, bne_self_eq_false, not_true_eq_false, not_false_eq_true, gt_iff_lt, ge_iff_le, Int.not_lt, Int.not_le, Bool.true_eq_false, Bool.false_eq_true] <;> omega)); conv => whnf)
        | (refine sel_no ?_ ?_; (first | assumption | (simp only [beq_iff_eq, bne_iff_ne, beq_eq_false_iff_ne, bne_eq_false_iff_eq, decide_eq_true_eq, decide_eq_false_iff_not, Bool.not_eq_true', Bool.not_eq_false', ne_eq, beq_true, beq_false, bne_self_eq_false, not_true_eq_false, not_false_eq_true, gt_iff_lt, ge_iff_le, Int.not_lt, Int.not_le, Bool.true_eq_false, Bool.false_eq_true] <;> omega)); conv => whnf)
        | (refine ⟨le_rfl' ?_, ?_⟩; rfl; conv => whnf)
        | (refine ⟨⟨?_, ?_⟩, ?_⟩; omega; omega; conv => whnf)
        | (refine ⟨⟨?_, ?_, ?_⟩, ?_⟩; rfl; omega; omega; conv => whnf)
        | (refine ⟨rfl, ?_, ?_⟩; decide; conv => whnf))
      try exact rfl
      exact hq _ _ ⟨rfl, trivial⟩ ⟨rfl, trivial⟩ rfl (Gro.mono h1 (fun _ _ => rfl) (by (conv => lhs; whnf); (repeat ((conv => rhs; whnf); first | with_reducible exact Nat.le_refl _ | refine Nat.le_trans ?_ (Nat.le_add_right _ _) | refine Nat.le_succ_of_le ?_ | exact Nat.le_refl _))))
/-- an item put where it belongs -/
theorem rput (hn : Non ext) (o : Int) (h0 : 0 ≤ o) (h5 : o ≤ 5) (L : List T) (x : T) (hl : L.length ≤ 65536) (hL : ∀ y ∈ L, WfV y ∧ okB y = true) (hx : WfV x) (ox : okB x = true) :
    ∃ U W, L = U ++ W ∧ (∀ y ∈ U, ordF ext o y x ≤ 0) ∧ (∀ y, W.head? = some y → ¬ ordF ext o y x ≤ 0) ∧ (cfg ext).Ev 26 [WV o L, A x] (WV o (U ++ x :: W)) := by
  have key : ∃ r, (cfg ext).Ev 26 [WV o L, A x] r ∧ ∃ p, p ≤ L.length ∧ (∀ y ∈ L.take p, ordF ext o y x ≤ 0) ∧ (∀ y, (L.drop p).head? = some y → ¬ ordF ext o y x ≤ 0) ∧ r = WV o (L.take p ++ x :: L.drop p) := by
    refine Ev.ofF (hn 26 (by decide) (by decide)) Tryz.func26 rfl rfl ?_
    conv => whnf
    refine lput hn o h0 h5 L x hl hL hx ox _ L.length 0 _ rfl (Nat.zero_le _) ⟨rfl, rfl, rfl, trivial⟩ ⟨rfl, trivial⟩ rfl (by intro y hy; simp at hy) (fun z p a b c hp hu hw => ?_)
    refine show xCode (cfg ext) (atP (bodyOf Tryz.f26) [true, true, true]) z _ from ?_
    refine xseq (a := atP (bodyOf Tryz.f26) [true, true, true, false]) (b := atP (bodyOf Tryz.f26) [true, true, true, true]) rfl ?_
    refine putA o L x p z _ a b c (fun z1 a b c => ?_)
    refine xseq (a := atP (bodyOf Tryz.f26) [true, true, true, true, false]) (b := atP (bodyOf Tryz.f26) [true, true, true, true, true]) rfl ?_
    refine putB o L x p hp hl z1 _ a b c (fun z2 S a b c g => ?_)
    refine xseq (a := atP (bodyOf Tryz.f26) [true, true, true, true, true, false]) (b := atP (bodyOf Tryz.f26) [true, true, true, true, true, true]) rfl ?_
    refine putC o L (L.take p) x p (by rw [List.length_take]; omega) S z2 _ a b c g (fun z3 S3 a b c g => ?_)
    refine xseq (a := atP (bodyOf Tryz.f26) [true, true, true, true, true, true, false]) (b := atP (bodyOf Tryz.f26) [true, true, true, true, true, true, true]) rfl ?_
    refine putD o L (L.take p ++ [x]) x p hp hl (by rw [List.length_append, List.length_take]; simp; omega) S3 z3 _ a b c g (fun z4 S4 a b c g => ?_)
    have g' : Gro 4 z4.hp.a z4.hp.m S4 (encL (L.take p ++ x :: L.drop p)) (L.take p ++ x :: L.drop p).length := g.to (by simp) (by simp)
    rw [St.knows _ _ a c _ b]
    conv => whnf
    exact Fin.boxQ (m := z4.hp.m) rfl rfl g' ⟨p, hp, hu, hw, rfl⟩
  obtain ⟨r, h, p, hp, hu, hw, rfl⟩ := key
  exact ⟨L.take p, L.drop p, (List.take_append_drop p L).symm, hu, hw, h⟩
theorem rnew (hn : Non ext) (o : Int) (h0 : 0 ≤ o) (h5 : o ≤ 5) : (cfg ext).Ev 5 [.int .i64 o] (.tup [WV o [], .int .i64 0]) := by
  have key : ∃ r, (cfg ext).Ev 5 [.int .i64 o] r ∧ r = .tup [WV o [], .int .i64 0] := by
    refine Ev.ofF (hn 5 (by decide) (by decide)) Tryz.func5 rfl rfl ?_
    conv => whnf
    repeat (first
      | (refine sel_yes ?_ ?_; (first | assumption | (simp only [beq_iff_eq, bne_iff_ne, beq_eq_false_iff_ne, bne_eq_false_iff_eq, decide_eq_true_eq, decide_eq_false_iff_not, Bool.not_eq_true', Bool.not_eq_false', ne_eq, beq_true, beq_false, bne_self_eq_false, not_true_eq_false, not_false_eq_true, gt_iff_lt, ge_iff_le, Int.not_lt, Int.not_le, Bool.true_eq_false, Bool.false_eq_true] <;> omega)); conv => whnf)
      | (refine sel_no ?_ ?_; (first | assumption | (simp only [beq_iff_eq, bne_iff_ne, beq_eq_false_iff_ne, bne_eq_false_iff_eq, decide_eq_true_eq, decide_eq_false_iff_not, Bool.not_eq_true', Bool.not_eq_false', ne_eq, beq_true, beq_false, bne_self_eq_false, not_true_eq_false, not_false_eq_true, gt_iff_lt, ge_iff_le, Int.not_lt, Int.not_le, Bool.true_eq_false, Bool.false_eq_true] <;> omega)); conv => whnf)
      | (refine ⟨le_rfl' ?_, ?_⟩; rfl; conv => whnf)
      | (refine ⟨⟨?_, ?_⟩, ?_⟩; omega; omega; conv => whnf)
      | (refine ⟨⟨?_, ?_, ?_⟩, ?_⟩; rfl; omega; omega; conv => whnf)
      | (refine ⟨rfl, ?_, ?_⟩; decide; conv => whnf))
    try exact rfl
    exact Fin.of_eq (v := .tup [.ptr [.int .i64 o, .sl false [] 0] 0, .int .i64 0]) rfl (by unfold WV; simp only [encL]; rfl)
  obtain ⟨r, h, rfl⟩ := key
  exact h
theorem rnewx (hn : Non ext) (o : Int) (ho : o < 0 ∨ o > 5) : (cfg ext).Ev 5 [.int .i64 o] (.tup [.nilp, .int .i64 4]) := by
  have key : ∃ r, (cfg ext).Ev 5 [.int .i64 o] r ∧ r = .tup [.nilp, .int .i64 4] := by
    refine Ev.ofE (hn 5 (by decide) (by decide)) Tryz.func5 rfl rfl ?_
    conv => whnf
    by_cases h : o < 0
    · repeat (first
        | (refine sel_yes ?_ ?_; (first | assumption | (simp only [beq_iff_eq, bne_iff_ne, beq_eq_false_iff_ne, bne_eq_false_iff_eq, decide_eq_true_eq, decide_eq_false_iff_not, Bool.not_eq_true', Bool.not_eq_false', ne_eq, beq_true, beq_false, bne_self_eq_false, not_true_eq_false, not_false_eq_true, gt_iff_lt, ge_iff_le, Int.not_lt, Int.not_le, Bool.true_eq_false, Bool.false_eq_true] <;> omega)); conv => whnf)
        | (refine sel_no ?_ ?_; (first | assumption | (simp only [beq_iff_eq, bne_iff_ne, beq_eq_false_iff_ne, bne_eq_false_iff_eq, decide_eq_true_eq, decide_eq_false_iff_not, Bool.not_eq_true', Bool.not_eq_false', ne_eq, beq_true, beq_false, bne_self_eq_false, not_true_eq_false, not_false_eq_true, gt_iff_lt, ge_iff_le, Int.not_lt, Int.not_le, Bool.true_eq_false, Bool.false_eq_true] <;> omega)); conv => whnf)
        | (refine ⟨le_rfl' ?_, ?_⟩; rfl; conv => whnf)
        | (refine ⟨⟨?_, ?_⟩, ?_⟩; omega; omega; conv => whnf)
        | (refine ⟨⟨?_, ?_, ?_⟩, ?_⟩; rfl; omega; omega; conv => whnf)
        | (refine ⟨rfl, ?_, ?_⟩; decide; conv => whnf))
      try exact rfl
    · have h' : o > 5 := by omega
      repeat (first
        | (refine sel_yes ?_ ?_; (first | assumption | (simp only [beq_iff_eq, bne_iff_ne, beq_eq_false_iff_ne, bne_eq_false_iff_eq, decide_eq_true_eq, decide_eq_false_iff_not, Bool.not_eq_true', Bool.not_eq_false', ne_eq, beq_true, beq_false, bne_self_eq_false, not_true_eq_false, not_false_eq_true, gt_iff_lt, ge_iff_le, Int.not_lt, Int.not_le, Bool.true_eq_false, Bool.false_eq_true] <;> omega)); conv => whnf)
        | (refine sel_no ?_ ?_; (first | assumption | (simp only [beq_iff_eq, bne_iff_ne, beq_eq_false_iff_ne, bne_eq_false_iff_eq, decide_eq_true_eq, decide_eq_false_iff_not, Bool.not_eq_true', Bool.not_eq_false', ne_eq, beq_true, beq_false, bne_self_eq_false, not_true_eq_false, not_false_eq_true, gt_iff_lt, ge_iff_le, Int.not_lt, Int.not_le, Bool.true_eq_false, Bool.false_eq_true] <;> omega)); conv => whnf)
        | (refine ⟨le_rfl' ?_, ?_⟩; rfl; conv => whnf)
        | (refine ⟨⟨?_, ?_⟩, ?_⟩; omega; omega; conv => whnf)
        | (refine ⟨⟨?_, ?_, ?_⟩, ?_⟩; rfl; omega; omega; conv => whnf)
        | (refine ⟨rfl, ?_, ?_⟩; decide; conv => whnf))
      try exact rfl
  obtain ⟨r, h, rfl⟩ := key
  exact h
theorem rmin0 (hn : Non ext) (o : Int) : (cfg ext).Ev 28 [WV o []] (.tup [A zT, .int .i64 6]) := by
  have key : ∃ r, (cfg ext).Ev 28 [WV o []] r ∧ r = .tup [A zT, .int .i64 6] := by
    refine Ev.ofF (hn 28 (by decide) (by decide)) Tryz.func28 rfl rfl ?_
    conv => whnf
    repeat (first
      | (refine sel_yes ?_ ?_; (first | assumption | (simp only [beq_iff_eq, bne_iff_ne, beq_eq_false_iff_ne, bne_eq_false_iff_eq, decide_eq_true_eq, decide_eq_false_iff_not, Bool.not_eq_true', Bool.not_eq_false', ne_eq, beq_true, beq_false, bne_self_eq_false, not_true_eq_false, not_false_eq_true, gt_iff_lt, ge_iff_le, Int.not_lt, Int.not_le, Bool.true_eq_false, Bool.false_eq_true] <;> omega)); conv => whnf)
      | (refine sel_no ?_ ?_; (first | assumption | (simp only [beq_iff_eq, bne_iff_ne, beq_eq_false_iff_ne, bne_eq_false_iff_eq, decide_eq_true_eq, decide_eq_false_iff_not, Bool.not_eq_true', Bool.not_eq_false', ne_eq, beq_true, beq_false, bne_self_eq_false, not_true_eq_false, not_false_eq_true, gt_iff_lt, ge_iff_le, Int.not_lt, Int.not_le, Bool.true_eq_false, Bool.false_eq_true] <;> omega)); conv => whnf)
      | (refine ⟨le_rfl' ?_, ?_⟩; rfl; conv => whnf)
      | (refine ⟨⟨?_, ?_⟩, ?_⟩; omega; omega; conv => whnf)
      | (refine ⟨⟨?_, ?_, ?_⟩, ?_⟩; rfl; omega; omega; conv => whnf)
      | (refine ⟨rfl, ?_, ?_⟩; decide; conv => whnf))
    try exact rfl
    exact Fin.of_eq (v := .tup [A zT, .int .i64 6]) rfl rfl
  obtain ⟨r, h, rfl⟩ := key
  exact h
theorem rmin (hn : Non ext) (o : Int) (y : T) (L : List T) : (cfg ext).Ev 28 [WV o (y :: L)] (.tup [A y, .int .i64 0]) := by
  have key : ∃ r, (cfg ext).Ev 28 [WV o (y :: L)] r ∧ r = .tup [A y, .int .i64 0] := by
    have hlt : 0 < (y :: L).length := by simp
    have hb : (0 : Int) ≤ 0 ∧ (0 : Int) < ((y :: L).length : Int) := ⟨by omega, by omega⟩
    have g : (((y :: L).length : Int) == 0) = false := by simp; omega
    refine Ev.ofF (hn 28 (by decide) (by decide)) Tryz.func28 rfl rfl ?_
    conv => whnf
    repeat (first
      | (refine sel_yes ?_ ?_; (first | assumption | (simp only [beq_iff_eq, bne_iff_ne, beq_eq_false_iff_ne, bne_eq_false_iff_eq, decide_eq_true_eq, decide_eq_false_iff_not, Bool.not_eq_true', Bool.not_eq_false', ne_eq, beq_true, beq_false, bne_self_eq_false, not_true_eq_false, not_false_eq_true, gt_iff_lt, ge_iff_le, Int.not_lt, Int.not_le, Bool.true_eq_false, Bool.false_eq_true] <;> omega)); conv => whnf)
      | (refine sel_no ?_ ?_; (first | assumption | (simp only [beq_iff_eq, bne_iff_ne, beq_eq_false_iff_ne, bne_eq_false_iff_eq, decide_eq_true_eq, decide_eq_false_iff_not, Bool.not_eq_true', Bool.not_eq_false', ne_eq, beq_true, beq_false, bne_self_eq_false, not_true_eq_false, not_false_eq_true, gt_iff_lt, ge_iff_le, Int.not_lt, Int.not_le, Bool.true_eq_false, Bool.false_eq_true] <;> omega)); conv => whnf)
      | (refine ⟨le_rfl' ?_, ?_⟩; rfl; conv => whnf)
      | (refine ⟨⟨?_, ?_⟩, ?_⟩; omega; omega; conv => whnf)
      | (refine ⟨⟨?_, ?_, ?_⟩, ?_⟩; rfl; omega; omega; conv => whnf)
      | (refine ⟨rfl, ?_, ?_⟩; decide; conv => whnf))
    try exact rfl
    refine ldA (i := 0) hlt ?_
    conv => whnf
    exact Fin.of_eq (v := .tup [A y, .int .i64 0]) rfl rfl
  obtain ⟨r, h, rfl⟩ := key
  exact h
theorem rpop0 (hn : Non ext) (o : Int) : (cfg ext).Ev 8 [WV o []] (.tup [.nilp, A zT, .int .i64 6]) := by
  have key : ∃ r, (cfg ext).Ev 8 [WV o []] r ∧ r = .tup [.nilp, A zT, .int .i64 6] := by
    refine Ev.ofF (hn 8 (by decide) (by decide)) Tryz.func8 rfl rfl ?_
    conv => whnf
    repeat (first
      | (refine sel_yes ?_ ?_; (first | assumption | (simp only [beq_iff_eq, bne_iff_ne, beq_eq_false_iff_ne, bne_eq_false_iff_eq, decide_eq_true_eq, decide_eq_false_iff_not, Bool.not_eq_true', Bool.not_eq_false', ne_eq, beq_true, beq_false, bne_self_eq_false, not_true_eq_false, not_false_eq_true, gt_iff_lt, ge_iff_le, Int.not_lt, Int.not_le, Bool.true_eq_false, Bool.false_eq_true] <;> omega)); conv => whnf)
      | (refine sel_no ?_ ?_; (first | assumption | (simp only [beq_iff_eq, bne_iff_ne, beq_eq_false_iff_ne, bne_eq_false_iff_eq, decide_eq_true_eq, decide_eq_false_iff_not, Bool.not_eq_true', Bool.not_eq_false', ne_eq, beq_true, beq_false, bne_self_eq_false, not_true_eq_false, not_false_eq_true, gt_iff_lt, ge_iff_le, Int.not_lt, Int.not_le, Bool.true_eq_false, Bool.false_eq_true] <;> omega)); conv => whnf)
      | (refine ⟨le_rfl' ?_, ?_⟩; rfl; conv => whnf)
      | (refine ⟨⟨?_, ?_⟩, ?_⟩; omega; omega; conv => whnf)
      | (refine ⟨⟨?_, ?_, ?_⟩, ?_⟩; rfl; omega; omega; conv => whnf)
      | (refine ⟨rfl, ?_, ?_⟩; decide; conv => whnf))
    try exact rfl
    exact Fin.of_eq (v := .tup [.nilp, A zT, .int .i64 6]) rfl rfl
  obtain ⟨r, h, rfl⟩ := key
  exact h
theorem rpop (hn : Non ext) (o : Int) (y : T) (L : List T) : (cfg ext).Ev 8 [WV o (y :: L)] (.tup [WV o L, A y, .int .i64 0]) := by
  have key : ∃ r, (cfg ext).Ev 8 [WV o (y :: L)] r ∧ r = .tup [WV o L, A y, .int .i64 0] := by
    have hlt : 0 < (y :: L).length := by simp
    refine Ev.ofF (hn 8 (by decide) (by decide)) Tryz.func8 rfl rfl ?_
    conv => whnf
    repeat (first
      | (refine sel_yes ?_ ?_; (first | assumption | (simp only [beq_iff_eq, bne_iff_ne, beq_eq_false_iff_ne, bne_eq_false_iff_eq, decide_eq_true_eq, decide_eq_false_iff_not, Bool.not_eq_true', Bool.not_eq_false', ne_eq, beq_true, beq_false, bne_self_eq_false, not_true_eq_false, not_false_eq_true, gt_iff_lt, ge_iff_le, Int.not_lt, Int.not_le, Bool.true_eq_false, Bool.false_eq_true] <;> omega)); conv => whnf)
      | (refine sel_no ?_ ?_; (first | assumption | (simp only [beq_iff_eq, bne_iff_ne, beq_eq_false_iff_ne, bne_eq_false_iff_eq, decide_eq_true_eq, decide_eq_false_iff_not, Bool.not_eq_true', Bool.not_eq_false', ne_eq, beq_true, beq_false, bne_self_eq_false, not_true_eq_false, not_false_eq_true, gt_iff_lt, ge_iff_le, Int.not_lt, Int.not_le, Bool.true_eq_false, Bool.false_eq_true] <;> omega)); conv => whnf)
      | (refine ⟨le_rfl' ?_, ?_⟩; rfl; conv => whnf)
      | (refine ⟨⟨?_, ?_⟩, ?_⟩; omega; omega; conv => whnf)
      | (refine ⟨⟨?_, ?_, ?_⟩, ?_⟩; rfl; omega; omega; conv => whnf)
      | (refine ⟨rfl, ?_, ?_⟩; decide; conv => whnf))
    try exact rfl
    refine ⟨_, slHi (e := 33) (l := y :: L) (i := 1) rfl rfl rfl (by simp), ?_⟩
    conv => whnf
    repeat (first
      | (refine sel_yes ?_ ?_; (first | assumption | (simp only [beq_iff_eq, bne_iff_ne, beq_eq_false_iff_ne, bne_eq_false_iff_eq, decide_eq_true_eq, decide_eq_false_iff_not, Bool.not_eq_true', Bool.not_eq_false', ne_eq, beq_true, beq_false, bne_self_eq_false, not_true_eq_false, not_false_eq_true, gt_iff_lt, ge_iff_le, Int.not_lt, Int.not_le, Bool.true_eq_false, Bool.false_eq_true] <;> omega)); conv => whnf)
      | (refine sel_no ?_ ?_; (first | assumption | (simp only [beq_iff_eq, bne_iff_ne, beq_eq_false_iff_ne, bne_eq_false_iff_eq, decide_eq_true_eq, decide_eq_false_iff_not, Bool.not_eq_true', Bool.not_eq_false', ne_eq, beq_true, beq_false, bne_self_eq_false, not_true_eq_false, not_false_eq_true, gt_iff_lt, ge_iff_le, Int.not_lt, Int.not_le, Bool.true_eq_false, Bool.false_eq_true] <;> omega)); conv => whnf)
      | (refine ⟨le_rfl' ?_, ?_⟩; rfl; conv => whnf)
      | (refine ⟨⟨?_, ?_⟩, ?_⟩; omega; omega; conv => whnf)
      | (refine ⟨⟨?_, ?_, ?_⟩, ?_⟩; rfl; omega; omega; conv => whnf)
      | (refine ⟨rfl, ?_, ?_⟩; decide; conv => whnf))
    try exact rfl
    refine ldA (i := 0) hlt ?_
    conv => whnf
    exact Fin.of_eq (v := .tup [WV o L, A y, .int .i64 0]) rfl rfl
  obtain ⟨r, h, rfl⟩ := key
  exact h
end
end Go.Proofs.YtbekoaalaofloaaGreatDoor.AB
end

section
set_option linter.unusedVariables false
set_option linter.unusedSimpArgs false
open Go Go.Ab Go.Proofs Go.Vl
namespace Go.Proofs.YtbekoaalaofloaaGreatDoor.AB
set_option maxRecDepth 100000
set_option maxHeartbeats 16000000
set_option linter.unusedSimpArgs false
set_option linter.unusedVariables false
theorem Ev.det {C : Cfg} {f : Nat} {xs : List V} {r r' : V} (h : C.Ev f xs r) (h' : C.Ev f xs r') : r = r' := by
  obtain ⟨K, hK⟩ := h.out
  obtain ⟨K', hK'⟩ := h'.out
  have h1 := hK (max K K') (by omega)
  have h2 := hK' (max K K') (by omega)
  rw [h1] at h2
  injection h2
def Rt (v : T) : Prop := WfV v ∧ okB v = true
section
variable {ext : Exts}
theorem lineV (o : Int) : LineV (ordF ext o) := ⟨(ord_line o).1, (ord_line o).2.1, (ord_line o).2.2.1⟩
theorem rt_shp (x : T) (h : Rt x) : Shp x := shp_of x (okB_iff.1 h.2).1
theorem rt_gd (x : T) (h : Rt x) : Gd x := gd_of h.1 h.2
theorem c_is (hn : Non ext) (h26 : E26 ext) (h73 : E73 ext) (o : Nat) (h5 : o ≤ 5) (x y : T) (hx : Rt x) (hy : Rt y) : cO ext o x y = ordF ext o x y := by
  obtain ⟨e, he⟩ := Classical.choose_spec (cmp_ex (ext := ext) o x y) hn h26 h73 hx.1 hy.1
  have h1 := pcompare hn h26 h73 o h5 x y hx.1 hy.1
  rw [if_pos ⟨hx.2, hy.2⟩] at h1
  have := Ev.det he h1
  injection this with this
  injection this with this _
  injection this
theorem rpush (hn : Non ext) (o : Int) (h0 : 0 ≤ o) (h5 : o ≤ 5) (L : List T) (x : T) (hl : L.length < 65536) (hL : ∀ y ∈ L, Rt y) (hx : WfV x) (ox : okB x = true) :
    ∃ U W, L = U ++ W ∧ (∀ y ∈ U, ordF ext o y x ≤ 0) ∧ (∀ y, W.head? = some y → ¬ ordF ext o y x ≤ 0) ∧ (cfg ext).Ev 10 [WV o L, A x] (.tup [WV o (U ++ x :: W), .int .i64 0]) := by
  obtain ⟨U, W, e, hu, hw, hp⟩ := rput hn o h0 h5 L x (by omega) hL hx ox
  refine ⟨U, W, e, hu, hw, ?_⟩
  have hr := rright hn x hx
  rw [ox] at hr
  have g : ((L.length : Int) == 65536) = false := by simp; omega
  have key : ∃ r, (cfg ext).Ev 10 [WV o L, A x] r ∧ r = .tup [WV o (U ++ x :: W), .int .i64 0] := by
    refine Ev.ofF (hn 10 (by decide) (by decide)) Tryz.func10 rfl rfl ?_
    conv => whnf
    repeat (first
      | (refine sel_yes ?_ ?_; (first | assumption | (simp only [beq_iff_eq, bne_iff_ne, beq_eq_false_iff_ne, bne_eq_false_iff_eq, decide_eq_true_eq, decide_eq_false_iff_not, Bool.not_eq_true', Bool.not_eq_false', ne_eq, beq_true, beq_false, bne_self_eq_false, not_true_eq_false, not_false_eq_true, gt_iff_lt, ge_iff_le, Int.not_lt, Int.not_le, Bool.true_eq_false, Bool.false_eq_true] <;> omega)); conv => whnf)
      | (refine sel_no ?_ ?_; (first | assumption | (simp only [beq_iff_eq, bne_iff_ne, beq_eq_false_iff_ne, bne_eq_false_iff_eq, decide_eq_true_eq, decide_eq_false_iff_not, Bool.not_eq_true', Bool.not_eq_false', ne_eq, beq_true, beq_false, bne_self_eq_false, not_true_eq_false, not_false_eq_true, gt_iff_lt, ge_iff_le, Int.not_lt, Int.not_le, Bool.true_eq_false, Bool.false_eq_true] <;> omega)); conv => whnf)
      | (refine ⟨_, hr, ?_⟩; conv => whnf)
      | (refine ⟨_, hp, ?_⟩; conv => whnf)
      | (refine ⟨le_rfl' ?_, ?_⟩; rfl; conv => whnf)
      | (refine ⟨⟨?_, ?_⟩, ?_⟩; omega; omega; conv => whnf)
      | (refine ⟨⟨?_, ?_, ?_⟩, ?_⟩; rfl; omega; omega; conv => whnf)
      | (refine ⟨rfl, ?_, ?_⟩; decide; conv => whnf))
    try exact rfl
    exact Fin.of_eq (v := .tup [WV o (U ++ x :: W), .int .i64 0]) rfl rfl
  obtain ⟨r, h, rfl⟩ := key
  exact h
theorem rpushx (hn : Non ext) (o : Int) (L : List T) (x : T) (hx : WfV x) (ox : okB x = false) : (cfg ext).Ev 10 [WV o L, A x] (.tup [.nilp, .int .i64 3]) := by
  have hr := rright hn x hx
  rw [ox] at hr
  have key : ∃ r, (cfg ext).Ev 10 [WV o L, A x] r ∧ r = .tup [.nilp, .int .i64 3] := by
    refine Ev.ofF (hn 10 (by decide) (by decide)) Tryz.func10 rfl rfl ?_
    conv => whnf
    repeat (first
      | (refine sel_yes ?_ ?_; (first | assumption | (simp only [beq_iff_eq, bne_iff_ne, beq_eq_false_iff_ne, bne_eq_false_iff_eq, decide_eq_true_eq, decide_eq_false_iff_not, Bool.not_eq_true', Bool.not_eq_false', ne_eq, beq_true, beq_false, bne_self_eq_false, not_true_eq_false, not_false_eq_true, gt_iff_lt, ge_iff_le, Int.not_lt, Int.not_le, Bool.true_eq_false, Bool.false_eq_true] <;> omega)); conv => whnf)
      | (refine sel_no ?_ ?_; (first | assumption | (simp only [beq_iff_eq, bne_iff_ne, beq_eq_false_iff_ne, bne_eq_false_iff_eq, decide_eq_true_eq, decide_eq_false_iff_not, Bool.not_eq_true', Bool.not_eq_false', ne_eq, beq_true, beq_false, bne_self_eq_false, not_true_eq_false, not_false_eq_true, gt_iff_lt, ge_iff_le, Int.not_lt, Int.not_le, Bool.true_eq_false, Bool.false_eq_true] <;> omega)); conv => whnf)
      | (refine ⟨_, hr, ?_⟩; conv => whnf)
      | (refine ⟨le_rfl' ?_, ?_⟩; rfl; conv => whnf)
      | (refine ⟨⟨?_, ?_⟩, ?_⟩; omega; omega; conv => whnf)
      | (refine ⟨⟨?_, ?_, ?_⟩, ?_⟩; rfl; omega; omega; conv => whnf)
      | (refine ⟨rfl, ?_, ?_⟩; decide; conv => whnf))
    try exact rfl
    exact Fin.of_eq (v := .tup [.nilp, .int .i64 3]) rfl rfl
  obtain ⟨r, h, rfl⟩ := key
  exact h
theorem tOrder (hn : Non ext) (o n : Int) (h : Option H) : (cfg ext).Ev 27 [QV o n h] (.int .i64 o) := by
  have hs := tsome hn o n h
  have key : ∃ r, (cfg ext).Ev 27 [QV o n h] r ∧ r = .int .i64 o := by
    refine Ev.ofE (hn 27 (by decide) (by decide)) Tryz.func27 rfl rfl ?_
    conv => whnf
    repeat (first
      | (refine sel_yes ?_ ?_; (first | assumption | (simp only [beq_iff_eq, bne_iff_ne, beq_eq_false_iff_ne, bne_eq_false_iff_eq, decide_eq_true_eq, decide_eq_false_iff_not, Bool.not_eq_true', Bool.not_eq_false', ne_eq, beq_true, beq_false, bne_self_eq_false, not_true_eq_false, not_false_eq_true, gt_iff_lt, ge_iff_le, Int.not_lt, Int.not_le, Bool.true_eq_false, Bool.false_eq_true] <;> omega)); conv => whnf)
      | (refine sel_no ?_ ?_; (first | assumption | (simp only [beq_iff_eq, bne_iff_ne, beq_eq_false_iff_ne, bne_eq_false_iff_eq, decide_eq_true_eq, decide_eq_false_iff_not, Bool.not_eq_true', Bool.not_eq_false', ne_eq, beq_true, beq_false, bne_self_eq_false, not_true_eq_false, not_false_eq_true, gt_iff_lt, ge_iff_le, Int.not_lt, Int.not_le, Bool.true_eq_false, Bool.false_eq_true] <;> omega)); conv => whnf)
      | (refine ⟨_, hs, ?_⟩; conv => whnf)
      | (refine ⟨le_rfl' ?_, ?_⟩; rfl; conv => whnf)
      | (refine ⟨⟨?_, ?_⟩, ?_⟩; omega; omega; conv => whnf)
      | (refine ⟨⟨?_, ?_, ?_⟩, ?_⟩; rfl; omega; omega; conv => whnf)
      | (refine ⟨rfl, ?_, ?_⟩; decide; conv => whnf))
    try exact rfl
  obtain ⟨r, h, rfl⟩ := key
  exact h
theorem ldB {l : List Bool} {i : Nat} {b : Bool} {Q : V → Prop} (h : l[i]? = some b) (hq : Q (.bool b)) : i * 1 + 1 ≤ (l.map V.bool).length ∧ opt (one (some false) (sub (l.map V.bool) (i * 1) 1)) fun v => fv v Q := by
  obtain ⟨hi, hb⟩ := List.getElem?_eq_some_iff.1 h
  refine ⟨by simp; omega, ?_⟩
  have : sub (l.map V.bool) (i * 1) 1 = [.bool b] := by
    unfold sub
    rw [Nat.mul_one, List.drop_eq_getElem_cons (by simpa using hi)]
    simp [hb]
  rw [this]
  exact hq
end
theorem tsame (o : Nat) (h5 : o ≤ 5) (n : Nat) (h : Option H) (L : List T) (hn : n ≤ 65536) (s : SameQ (ordF ext0 o) Rt h L) (hs : sizeO h = n) (hL : L.length = n) : (cfg ext0).Ev 13 [QV o n h, WV o L] (.bool true) := by
  have hc := c_is non0 e26 e73 o h5
  have hg : AllO Gd h := allO_mono rt_gd s.all
  have h1 := tOrder non0 o n h
  have h2 := tLen non0 o n h
  have h3 := tSorted non0 e26 e73 o n h hs hn hg
  have eS : sortedH (cO ext0 o) n h = L := sorted_perm_eq (lineV o) (fun x hx => rt_shp x (allO_it s.all x ((sorted_it n h hs).mem_iff.1 hx))) (sorted_ho (lineV o) rt_shp hc n h hs s.all s.ho) s.srt ((sorted_it n h hs).trans s.perm)
  rw [eS] at h3
  have h4 := tvals non0 L L (by omega) (fun v hv => (s.allL v hv).1)
  rw [eqL_self, hL] at h4
  have gn : ((n : Int) != (n : Int)) = false := by simp
  have go : ((o : Int) != (o : Int)) = false := by simp
  cases h with
  | none =>
    have e0 : L = [] := s.none_iff.1 rfl
    subst e0
    have n0 : n = 0 := by simpa using hL.symm
    subst n0
    have h5 := tMin0 non0 o 0
    have h6 := rmin0 non0 o
    have h7 := tplain non0 zT (by unfold zT; simp only [WfV]; exact ⟨⟨by decide, by decide⟩, ⟨by decide, by decide⟩, by decide, by decide, by simp only [WfL]⟩) zT
    rw [eqT_self] at h7
    have key : ∃ r, (cfg ext0).Ev 13 [QV o (0 : Nat) none, WV o []] r ∧ r = .bool true := by
      refine Ev.ofE (non0 13 (by decide) (by decide)) Tryz.func13 rfl rfl ?_
      conv => whnf
      repeat (first
        | (refine sel_yes ?_ ?_; (first | assumption | (simp only [beq_iff_eq, bne_iff_ne, beq_eq_false_iff_ne, bne_eq_false_iff_eq, decide_eq_true_eq, decide_eq_false_iff_not, Bool.not_eq_true', Bool.not_eq_false', ne_eq, beq_true, beq_false, bne_self_eq_false, not_true_eq_false, not_false_eq_true, gt_iff_lt, ge_iff_le, Int.not_lt, Int.not_le, Bool.true_eq_false, Bool.false_eq_true] <;> omega)); conv => whnf)
        | (refine sel_no ?_ ?_; (first | assumption | (simp only [beq_iff_eq, bne_iff_ne, beq_eq_false_iff_ne, bne_eq_false_iff_eq, decide_eq_true_eq, decide_eq_false_iff_not, Bool.not_eq_true', Bool.not_eq_false', ne_eq, beq_true, beq_false, bne_self_eq_false, not_true_eq_false, not_false_eq_true, gt_iff_lt, ge_iff_le, Int.not_lt, Int.not_le, Bool.true_eq_false, Bool.false_eq_true] <;> omega)); conv => whnf)
        | (refine ⟨_, h1, ?_⟩; conv => whnf)
        | (refine ⟨_, h2, ?_⟩; conv => whnf)
        | (refine ⟨_, h3, ?_⟩; conv => whnf)
        | (refine ⟨_, h4, ?_⟩; conv => whnf)
        | (refine ⟨_, h5, ?_⟩; conv => whnf)
        | (refine ⟨_, h6, ?_⟩; conv => whnf)
        | (refine ⟨_, h7, ?_⟩; conv => whnf)
        | (refine ⟨le_rfl' ?_, ?_⟩; rfl; conv => whnf)
        | (refine ⟨⟨?_, ?_⟩, ?_⟩; omega; omega; conv => whnf)
        | (refine ⟨⟨?_, ?_, ?_⟩, ?_⟩; rfl; omega; omega; conv => whnf)
        | (refine ⟨rfl, ?_, ?_⟩; decide; conv => whnf))
      try exact rfl
    obtain ⟨r, h, rfl⟩ := key
    exact h
  | some hh =>
    obtain ⟨L', eL, s'⟩ := s.pop (lineV o) rt_shp hc
    subst eL
    have rx : Rt hh.x := s.allL _ (by simp)
    have h5 := tMin non0 o n hh (rt_gd _ rx)
    have h6 := rmin non0 o hh.x L'
    have h7 := tplain non0 hh.x rx.1 hh.x
    rw [eqT_self] at h7
    have key : ∃ r, (cfg ext0).Ev 13 [QV o n (some hh), WV o (hh.x :: L')] r ∧ r = .bool true := by
      refine Ev.ofE (non0 13 (by decide) (by decide)) Tryz.func13 rfl rfl ?_
      have gl : ((n : Int) != ((hh.x :: L').length : Int)) = false := by rw [hL]; simp
      have h4 : (cfg ext0).Ev 17 [.sl false (encL (hh.x :: L')) n, .sl false (encL (hh.x :: L')) (hh.x :: L').length] (.bool true) := by rw [hL]; exact h4
      conv => whnf
      repeat (first
        | (refine sel_yes ?_ ?_; (first | assumption | (simp only [beq_iff_eq, bne_iff_ne, beq_eq_false_iff_ne, bne_eq_false_iff_eq, decide_eq_true_eq, decide_eq_false_iff_not, Bool.not_eq_true', Bool.not_eq_false', ne_eq, beq_true, beq_false, bne_self_eq_false, not_true_eq_false, not_false_eq_true, gt_iff_lt, ge_iff_le, Int.not_lt, Int.not_le, Bool.true_eq_false, Bool.false_eq_true] <;> omega)); conv => whnf)
        | (refine sel_no ?_ ?_; (first | assumption | (simp only [beq_iff_eq, bne_iff_ne, beq_eq_false_iff_ne, bne_eq_false_iff_eq, decide_eq_true_eq, decide_eq_false_iff_not, Bool.not_eq_true', Bool.not_eq_false', ne_eq, beq_true, beq_false, bne_self_eq_false, not_true_eq_false, not_false_eq_true, gt_iff_lt, ge_iff_le, Int.not_lt, Int.not_le, Bool.true_eq_false, Bool.false_eq_true] <;> omega)); conv => whnf)
        | (refine ⟨_, h1, ?_⟩; conv => whnf)
        | (refine ⟨_, h2, ?_⟩; conv => whnf)
        | (refine ⟨_, h3, ?_⟩; conv => whnf)
        | (refine ⟨_, h4, ?_⟩; conv => whnf)
        | (refine ⟨_, h5, ?_⟩; conv => whnf)
        | (refine ⟨_, h6, ?_⟩; conv => whnf)
        | (refine ⟨_, h7, ?_⟩; conv => whnf)
        | (refine ⟨le_rfl' ?_, ?_⟩; rfl; conv => whnf)
        | (refine ⟨⟨?_, ?_⟩, ?_⟩; omega; omega; conv => whnf)
        | (refine ⟨⟨?_, ?_, ?_⟩, ?_⟩; rfl; omega; omega; conv => whnf)
        | (refine ⟨rfl, ?_, ?_⟩; decide; conv => whnf))
      try exact rfl
    obtain ⟨r, h, rfl⟩ := key
    exact h
end Go.Proofs.YtbekoaalaofloaaGreatDoor.AB
end

section
set_option linter.unusedVariables false
set_option linter.unusedSimpArgs false
open Go Go.Ab Go.Proofs Go.Vl
namespace Go.Proofs.YtbekoaalaofloaaGreatDoor.AB
set_option maxRecDepth 100000
set_option maxHeartbeats 8000000
set_option linter.unusedSimpArgs false
theorem speaks19 : (cfg ext0).Ev 6 [] (.bool true) := Ev.closed 60 (by kernel_rfl)
section
variable {ext : Exts}
theorem sizeH_pos (h : H) : 1 ≤ sizeH h := by cases h; simp only [sizeH]; omega
end
end Go.Proofs.YtbekoaalaofloaaGreatDoor.AB
end

section
set_option linter.unusedVariables false
set_option linter.unusedSimpArgs false
open Go Go.Ab Go.Proofs Go.Vl
namespace Go.Proofs.YtbekoaalaofloaaGreatDoor.AB
set_option maxRecDepth 100000
set_option maxHeartbeats 16000000
set_option linter.unusedSimpArgs false
set_option linter.unusedVariables false
theorem zT_wf : WfV zT := by unfold zT; simp only [WfV]; exact ⟨⟨by decide, by decide⟩, ⟨by decide, by decide⟩, by decide, by decide, by simp only [WfL]⟩
theorem lsteps (o : Nat) (h5 : o ≤ 5) (l : List T) (hll : l.length ≤ 9223372036854775807) (hw : ∀ x ∈ l, WfV x) (ps : List Bool) (hps : ps.length ≤ 9223372036854775807) (Q : Ex → St → Prop) (d : Nat) :
    ∀ (i k n : Nat) (h : Option H) (L : List T) (z : St), 300 - i = d → i ≤ 300 → i ≤ ps.length → k ≤ l.length → n ≤ i → SameQ (ordF ext0 o) Rt h L → sizeO h = n → L.length = n →
      Has z.t [(1, .sl false (encL l) l.length), (2, .sl false (ps.map .bool) ps.length), (7, QV o n h), (9, WV o L), (11, .int .i64 k), (12, .int .i64 i)] → z.hp.n = 29 →
      (∀ (z' : St) (n : Nat) (h : Option H) (L : List T), n ≤ 300 → SameQ (ordF ext0 o) Rt h L → sizeO h = n → L.length = n → Has z'.t [(7, QV o n h), (9, WV o L)] → z'.hp.n = 37 → Q (.exit 0) z') →
      Go.Ab.Loop (cfg ext0) (lpOf Tryz.f3) 29 z Q := by
  have hc := c_is non0 e26 e73 o h5
  have stop : ∀ (i k n : Nat) (h : Option H) (L : List T) (z : St), ¬ (i < 300 ∧ i < ps.length) → n ≤ 300 → SameQ (ordF ext0 o) Rt h L → sizeO h = n → L.length = n →
      Has z.t [(1, .sl false (encL l) l.length), (2, .sl false (ps.map .bool) ps.length), (7, QV o n h), (9, WV o L), (11, .int .i64 k), (12, .int .i64 i)] → z.hp.n = 29 →
      (∀ (z' : St) (n : Nat) (h : Option H) (L : List T), n ≤ 300 → SameQ (ordF ext0 o) Rt h L → sizeO h = n → L.length = n → Has z'.t [(7, QV o n h), (9, WV o L)] → z'.hp.n = 37 → Q (.exit 0) z') →
      Go.Ab.Loop (cfg ext0) (lpOf Tryz.f3) 29 z Q := by
    intro i k n h L z hno hn s hs hL ht hz hq
    by_cases h1 : i < ps.length
    · have g1 : decide ((i : Int) < (ps.length : Int)) = true := decide_eq_true (by omega)
      have g1' : (decide ((i : Int) < (ps.length : Int)) == true) = true := by rw [g1]; rfl
      have g2 : decide ((i : Int) < 300) = false := decide_eq_false (by omega)
      rw [St.knows _ _ ht hz]
      refine Loop.round ?_
      conv => whnf
      repeat (first
        | (refine sel_yes ?_ ?_; (first | assumption | (simp only [beq_iff_eq, bne_iff_ne, beq_eq_false_iff_ne, bne_eq_false_iff_eq, decide_eq_true_eq, decide_eq_false_iff_not, Bool.not_eq_true', Bool.not_eq_false', ne_eq, beq_true, beq_false, bne_self_eq_false, not_true_eq_false, not_false_eq_true, gt_iff_lt, ge_iff_le, Int.not_lt, Int.not_le, Bool.true_eq_false, Bool.false_eq_true] <;> omega)); conv => whnf)
        | (refine sel_no ?_ ?_; (first | assumption | (simp only [beq_iff_eq, bne_iff_ne, beq_eq_false_iff_ne, bne_eq_false_iff_eq, decide_eq_true_eq, decide_eq_false_iff_not, Bool.not_eq_true', Bool.not_eq_false', ne_eq, beq_true, beq_false, bne_self_eq_false, not_true_eq_false, not_false_eq_true, gt_iff_lt, ge_iff_le, Int.not_lt, Int.not_le, Bool.true_eq_false, Bool.false_eq_true] <;> omega)); conv => whnf)
        | (refine ⟨le_rfl' ?_, ?_⟩; rfl; conv => whnf)
        | (refine ⟨⟨?_, ?_⟩, ?_⟩; omega; omega; conv => whnf)
        | (refine ⟨⟨?_, ?_, ?_⟩, ?_⟩; rfl; omega; omega; conv => whnf)
        | (refine ⟨rfl, ?_, ?_⟩; decide; conv => whnf))
      try exact rfl
      exact hq _ n h L hn s hs hL ⟨rfl, rfl, trivial⟩ rfl
    · have g1 : decide ((i : Int) < (ps.length : Int)) = false := decide_eq_false (by omega)
      have g1' : (decide ((i : Int) < (ps.length : Int)) == true) = false := by rw [g1]; rfl
      rw [St.knows _ _ ht hz]
      refine Loop.round ?_
      conv => whnf
      repeat (first
        | (refine sel_yes ?_ ?_; (first | assumption | (simp only [beq_iff_eq, bne_iff_ne, beq_eq_false_iff_ne, bne_eq_false_iff_eq, decide_eq_true_eq, decide_eq_false_iff_not, Bool.not_eq_true', Bool.not_eq_false', ne_eq, beq_true, beq_false, bne_self_eq_false, not_true_eq_false, not_false_eq_true, gt_iff_lt, ge_iff_le, Int.not_lt, Int.not_le, Bool.true_eq_false, Bool.false_eq_true] <;> omega)); conv => whnf)
        | (refine sel_no ?_ ?_; (first | assumption | (simp only [beq_iff_eq, bne_iff_ne, beq_eq_false_iff_ne, bne_eq_false_iff_eq, decide_eq_true_eq, decide_eq_false_iff_not, Bool.not_eq_true', Bool.not_eq_false', ne_eq, beq_true, beq_false, bne_self_eq_false, not_true_eq_false, not_false_eq_true, gt_iff_lt, ge_iff_le, Int.not_lt, Int.not_le, Bool.true_eq_false, Bool.false_eq_true] <;> omega)); conv => whnf)
        | (refine ⟨le_rfl' ?_, ?_⟩; rfl; conv => whnf)
        | (refine ⟨⟨?_, ?_⟩, ?_⟩; omega; omega; conv => whnf)
        | (refine ⟨⟨?_, ?_, ?_⟩, ?_⟩; rfl; omega; omega; conv => whnf)
        | (refine ⟨rfl, ?_, ?_⟩; decide; conv => whnf))
      try exact rfl
      exact hq _ n h L hn s hs hL ⟨rfl, rfl, trivial⟩ rfl
  induction d with
  | zero =>
    intro i k n h L z hd hi hip hk hni s hs hL ht hz hq
    exact stop i k n h L z (by omega) (by omega) s hs hL ht hz hq
  | succ d ih =>
    intro i k n h L z hd hi hip hk hni s hs hL ht hz hq
    by_cases h1 : i < ps.length
    rotate_left
    · exact stop i k n h L z (by omega) (by omega) s hs hL ht hz hq
    have g1 : decide ((i : Int) < (ps.length : Int)) = true := decide_eq_true (by omega)
    have g1' : (decide ((i : Int) < (ps.length : Int)) == true) = true := by rw [g1]; rfl
    have g2 : decide ((i : Int) < 300) = true := decide_eq_true (by omega)
    have ei : IntKind.i64.wrap ((i : Int) + 1) = ((i + 1 : Nat) : Int) := wrapN (by omega) (by omega)
    have ek : k < l.length → IntKind.i64.wrap ((k : Int) + 1) = ((k + 1 : Nat) : Int) := fun h => wrapN (by omega) (by omega)
    have gn : ((n : Int) != (n : Int)) = false := by simp
    have hg : AllO Gd h := allO_mono rt_gd s.all
    have hz0 := tplain non0 zT zT_wf zT
    rw [eqT_self] at hz0
    obtain ⟨b, hb⟩ : ∃ b, ps[i]? = some b := ⟨_, List.getElem?_eq_getElem h1⟩
    -- taking, or putting
    by_cases hpop : b = true ∨ l.length ≤ k
    · have pop : ∀ (bb : Bool), ps[i]? = some bb → (bb = true ∨ (bb = false ∧ decide ((k : Int) ≥ (l.length : Int)) = true)) → Go.Ab.Loop (cfg ext0) (lpOf Tryz.f3) 29 z Q := by
        intro bb hbb hor
        cases h with
        | none =>
          have e0 : L = [] := s.none_iff.1 rfl
          subst e0
          have n0 : n = 0 := by simpa using hL.symm
          subst n0
          have hp := tPop0 non0 o 0
          have hr := rpop0 non0 o
          have hl := tLen non0 o 0 none
          rcases hor with rfl | ⟨rfl, gk⟩
          all_goals
            rw [St.knows _ _ ht hz]
            refine Loop.round ?_
            conv => whnf
            repeat (first
              | (refine sel_yes ?_ ?_; (first | assumption | (simp only [beq_iff_eq, bne_iff_ne, beq_eq_false_iff_ne, bne_eq_false_iff_eq, decide_eq_true_eq, decide_eq_false_iff_not, Bool.not_eq_true', Bool.not_eq_false', ne_eq, beq_true, beq_false, bne_self_eq_false, not_true_eq_false, not_false_eq_true, gt_iff_lt, ge_iff_le, Int.not_lt, Int.not_le, Bool.true_eq_false, Bool.false_eq_true] <;> omega)); conv => whnf)
              | (refine sel_no ?_ ?_; (first | assumption | (simp only [beq_iff_eq, bne_iff_ne, beq_eq_false_iff_ne, bne_eq_false_iff_eq, decide_eq_true_eq, decide_eq_false_iff_not, Bool.not_eq_true', Bool.not_eq_false', ne_eq, beq_true, beq_false, bne_self_eq_false, not_true_eq_false, not_false_eq_true, gt_iff_lt, ge_iff_le, Int.not_lt, Int.not_le, Bool.true_eq_false, Bool.false_eq_true] <;> omega)); conv => whnf)
              | (refine ⟨le_rfl' ?_, ?_⟩; rfl; conv => whnf)
              | (refine ⟨⟨?_, ?_⟩, ?_⟩; omega; omega; conv => whnf)
              | (refine ⟨⟨?_, ?_, ?_⟩, ?_⟩; rfl; omega; omega; conv => whnf)
              | (refine ⟨rfl, ?_, ?_⟩; decide; conv => whnf))
            try exact rfl
            refine ldB hbb ?_
            conv => whnf
            repeat (first
              | (refine sel_yes ?_ ?_; (first | assumption | (simp only [beq_iff_eq, bne_iff_ne, beq_eq_false_iff_ne, bne_eq_false_iff_eq, decide_eq_true_eq, decide_eq_false_iff_not, Bool.not_eq_true', Bool.not_eq_false', ne_eq, beq_true, beq_false, bne_self_eq_false, not_true_eq_false, not_false_eq_true, gt_iff_lt, ge_iff_le, Int.not_lt, Int.not_le, Bool.true_eq_false, Bool.false_eq_true] <;> omega)); conv => whnf)
              | (refine sel_no ?_ ?_; (first | assumption | (simp only [beq_iff_eq, bne_iff_ne, beq_eq_false_iff_ne, bne_eq_false_iff_eq, decide_eq_true_eq, decide_eq_false_iff_not, Bool.not_eq_true', Bool.not_eq_false', ne_eq, beq_true, beq_false, bne_self_eq_false, not_true_eq_false, not_false_eq_true, gt_iff_lt, ge_iff_le, Int.not_lt, Int.not_le, Bool.true_eq_false, Bool.false_eq_true] <;> omega)); conv => whnf)
              | (refine ⟨_, hp, ?_⟩; conv => whnf)
              | (refine ⟨_, hr, ?_⟩; conv => whnf)
              | (refine ⟨_, hz0, ?_⟩; conv => whnf)
              | (refine ⟨_, hl, ?_⟩; conv => whnf)
              | (refine ⟨le_rfl' ?_, ?_⟩; rfl; conv => whnf)
              | (refine ⟨⟨?_, ?_⟩, ?_⟩; omega; omega; conv => whnf)
              | (refine ⟨⟨?_, ?_, ?_⟩, ?_⟩; rfl; omega; omega; conv => whnf)
              | (refine ⟨rfl, ?_, ?_⟩; decide; conv => whnf))
            try exact rfl
            refine ih (i + 1) k 0 none [] _ (by omega) (by omega) (by omega) hk (by omega) s hs hL ⟨rfl, rfl, rfl, rfl, rfl, ?_, trivial⟩ rfl hq
            conv => lhs; whnf
            exact vi ei
        | some hh =>
          obtain ⟨L', eL, s'⟩ := s.pop (lineV o) rt_shp hc
          subst eL
          obtain ⟨m, rfl⟩ : ∃ m, n = m + 1 := ⟨L'.length, by simpa using hL.symm⟩
          have rx : Rt hh.x := s.allL _ (by simp)
          have hp := tPop non0 e26 e73 o (m + 1) hh hs (by omega) hg
          rw [show ((m + 1 : Nat) : Int) - 1 = (m : Int) by omega] at hp
          have hr := rpop non0 o hh.x L'
          have hl := tLen non0 o m (pairedH (cO ext0 o) hh.kids)
          have hv := tplain non0 hh.x rx.1 hh.x
          rw [eqT_self] at hv
          have hsz : sizeO (pairedH (cO ext0 o) hh.kids) = m := by rw [paired_size]; cases hh; simp only [sizeO, sizeH] at hs; simp only [H.kids]; omega
          have hL' : L'.length = m := by simpa using hL
          have gm : ((m : Int) != (L'.length : Int)) = false := by rw [hL']; simp
          generalize pairedH (cO ext0 o) hh.kids = q at hp hl hsz s'
          rcases hor with rfl | ⟨rfl, gk⟩
          all_goals
            rw [St.knows _ _ ht hz]
            refine Loop.round ?_
            conv => whnf
            repeat (first
              | (refine sel_yes ?_ ?_; (first | assumption | (simp only [beq_iff_eq, bne_iff_ne, beq_eq_false_iff_ne, bne_eq_false_iff_eq, decide_eq_true_eq, decide_eq_false_iff_not, Bool.not_eq_true', Bool.not_eq_false', ne_eq, beq_true, beq_false, bne_self_eq_false, not_true_eq_false, not_false_eq_true, gt_iff_lt, ge_iff_le, Int.not_lt, Int.not_le, Bool.true_eq_false, Bool.false_eq_true] <;> omega)); conv => whnf)
              | (refine sel_no ?_ ?_; (first | assumption | (simp only [beq_iff_eq, bne_iff_ne, beq_eq_false_iff_ne, bne_eq_false_iff_eq, decide_eq_true_eq, decide_eq_false_iff_not, Bool.not_eq_true', Bool.not_eq_false', ne_eq, beq_true, beq_false, bne_self_eq_false, not_true_eq_false, not_false_eq_true, gt_iff_lt, ge_iff_le, Int.not_lt, Int.not_le, Bool.true_eq_false, Bool.false_eq_true] <;> omega)); conv => whnf)
              | (refine ⟨le_rfl' ?_, ?_⟩; rfl; conv => whnf)
              | (refine ⟨⟨?_, ?_⟩, ?_⟩; omega; omega; conv => whnf)
              | (refine ⟨⟨?_, ?_, ?_⟩, ?_⟩; rfl; omega; omega; conv => whnf)
              | (refine ⟨rfl, ?_, ?_⟩; decide; conv => whnf))
            try exact rfl
            refine ldB hbb ?_
            conv => whnf
            repeat (first
              | (refine sel_yes ?_ ?_; (first | assumption | (simp only [beq_iff_eq, bne_iff_ne, beq_eq_false_iff_ne, bne_eq_false_iff_eq, decide_eq_true_eq, decide_eq_false_iff_not, Bool.not_eq_true', Bool.not_eq_false', ne_eq, beq_true, beq_false, bne_self_eq_false, not_true_eq_false, not_false_eq_true, gt_iff_lt, ge_iff_le, Int.not_lt, Int.not_le, Bool.true_eq_false, Bool.false_eq_true] <;> omega)); conv => whnf)
              | (refine sel_no ?_ ?_; (first | assumption | (simp only [beq_iff_eq, bne_iff_ne, beq_eq_false_iff_ne, bne_eq_false_iff_eq, decide_eq_true_eq, decide_eq_false_iff_not, Bool.not_eq_true', Bool.not_eq_false', ne_eq, beq_true, beq_false, bne_self_eq_false, not_true_eq_false, not_false_eq_true, gt_iff_lt, ge_iff_le, Int.not_lt, Int.not_le, Bool.true_eq_false, Bool.false_eq_true] <;> omega)); conv => whnf)
              | (refine ⟨_, hp, ?_⟩; conv => whnf)
              | (refine ⟨_, hr, ?_⟩; conv => whnf)
              | (refine ⟨_, hv, ?_⟩; conv => whnf)
              | (refine ⟨_, hl, ?_⟩; conv => whnf)
              | (refine ⟨le_rfl' ?_, ?_⟩; rfl; conv => whnf)
              | (refine ⟨⟨?_, ?_⟩, ?_⟩; omega; omega; conv => whnf)
              | (refine ⟨⟨?_, ?_, ?_⟩, ?_⟩; rfl; omega; omega; conv => whnf)
              | (refine ⟨rfl, ?_, ?_⟩; decide; conv => whnf))
            try exact rfl
            refine ih (i + 1) k m q L' _ (by omega) (by omega) (by omega) hk (by omega) s' hsz hL' ⟨rfl, rfl, rfl, rfl, rfl, ?_, trivial⟩ rfl hq
            conv => lhs; whnf
            exact vi ei
      refine pop b hb ?_
      cases b with
      | true => exact .inl rfl
      | false => exact .inr ⟨rfl, decide_eq_true (by rcases hpop with h | h; cases h; omega)⟩
    · have hbf : b = false := by cases b; rfl; exact absurd (.inl rfl) hpop
      subst hbf
      have hkl : k < l.length := by
        by_cases h : k < l.length
        · exact h
        · exact absurd (.inr (by omega)) hpop
      have gk : decide ((k : Int) ≥ (l.length : Int)) = false := decide_eq_false (by omega)
      have ek := ek hkl
      obtain ⟨x, hx⟩ : ∃ x, l[k] = x := ⟨_, rfl⟩
      have wx : WfV x := by rw [← hx]; exact hw _ (List.getElem_mem hkl)
      have hld : ∀ {Q : V → Prop}, Q (A x) → k * 4 + 4 ≤ (encL l).length ∧ opt (one (some true) (sub (encL l) (k * 4) 4)) fun v => fv v Q := fun h => ldA hkl (by rw [hx]; exact h)
      have hl := tLen non0 o n h
      have gm : ((n : Int) != (L.length : Int)) = false := by rw [hL]; simp
      cases ox : okB x with
      | false =>
        have hp := tPushx non0 e26 e73 (QV o n h) (.inr ⟨_, rfl⟩) x wx ox
        have hr := rpushx non0 o L x wx ox
        rw [St.knows _ _ ht hz]
        refine Loop.round ?_
        conv => whnf
        repeat (first
          | (refine sel_yes ?_ ?_; (first | assumption | (simp only [beq_iff_eq, bne_iff_ne, beq_eq_false_iff_ne, bne_eq_false_iff_eq, decide_eq_true_eq, decide_eq_false_iff_not, Bool.not_eq_true', Bool.not_eq_false', ne_eq, beq_true, beq_false, bne_self_eq_false, not_true_eq_false, not_false_eq_true, gt_iff_lt, ge_iff_le, Int.not_lt, Int.not_le, Bool.true_eq_false, Bool.false_eq_true] <;> omega)); conv => whnf)
          | (refine sel_no ?_ ?_; (first | assumption | (simp only [beq_iff_eq, bne_iff_ne, beq_eq_false_iff_ne, bne_eq_false_iff_eq, decide_eq_true_eq, decide_eq_false_iff_not, Bool.not_eq_true', Bool.not_eq_false', ne_eq, beq_true, beq_false, bne_self_eq_false, not_true_eq_false, not_false_eq_true, gt_iff_lt, ge_iff_le, Int.not_lt, Int.not_le, Bool.true_eq_false, Bool.false_eq_true] <;> omega)); conv => whnf)
          | (refine ⟨le_rfl' ?_, ?_⟩; rfl; conv => whnf)
          | (refine ⟨⟨?_, ?_⟩, ?_⟩; omega; omega; conv => whnf)
          | (refine ⟨⟨?_, ?_, ?_⟩, ?_⟩; rfl; omega; omega; conv => whnf)
          | (refine ⟨rfl, ?_, ?_⟩; decide; conv => whnf))
        try exact rfl
        refine ldB hb ?_
        conv => whnf
        repeat (first
          | (refine sel_yes ?_ ?_; (first | assumption | (simp only [beq_iff_eq, bne_iff_ne, beq_eq_false_iff_ne, bne_eq_false_iff_eq, decide_eq_true_eq, decide_eq_false_iff_not, Bool.not_eq_true', Bool.not_eq_false', ne_eq, beq_true, beq_false, bne_self_eq_false, not_true_eq_false, not_false_eq_true, gt_iff_lt, ge_iff_le, Int.not_lt, Int.not_le, Bool.true_eq_false, Bool.false_eq_true] <;> omega)); conv => whnf)
          | (refine sel_no ?_ ?_; (first | assumption | (simp only [beq_iff_eq, bne_iff_ne, beq_eq_false_iff_ne, bne_eq_false_iff_eq, decide_eq_true_eq, decide_eq_false_iff_not, Bool.not_eq_true', Bool.not_eq_false', ne_eq, beq_true, beq_false, bne_self_eq_false, not_true_eq_false, not_false_eq_true, gt_iff_lt, ge_iff_le, Int.not_lt, Int.not_le, Bool.true_eq_false, Bool.false_eq_true] <;> omega)); conv => whnf)
          | (refine ⟨le_rfl' ?_, ?_⟩; rfl; conv => whnf)
          | (refine ⟨⟨?_, ?_⟩, ?_⟩; omega; omega; conv => whnf)
          | (refine ⟨⟨?_, ?_, ?_⟩, ?_⟩; rfl; omega; omega; conv => whnf)
          | (refine ⟨rfl, ?_, ?_⟩; decide; conv => whnf))
        try exact rfl
        refine hld ?_
        conv => whnf
        repeat (first
          | (refine sel_yes ?_ ?_; (first | assumption | (simp only [beq_iff_eq, bne_iff_ne, beq_eq_false_iff_ne, bne_eq_false_iff_eq, decide_eq_true_eq, decide_eq_false_iff_not, Bool.not_eq_true', Bool.not_eq_false', ne_eq, beq_true, beq_false, bne_self_eq_false, not_true_eq_false, not_false_eq_true, gt_iff_lt, ge_iff_le, Int.not_lt, Int.not_le, Bool.true_eq_false, Bool.false_eq_true] <;> omega)); conv => whnf)
          | (refine sel_no ?_ ?_; (first | assumption | (simp only [beq_iff_eq, bne_iff_ne, beq_eq_false_iff_ne, bne_eq_false_iff_eq, decide_eq_true_eq, decide_eq_false_iff_not, Bool.not_eq_true', Bool.not_eq_false', ne_eq, beq_true, beq_false, bne_self_eq_false, not_true_eq_false, not_false_eq_true, gt_iff_lt, ge_iff_le, Int.not_lt, Int.not_le, Bool.true_eq_false, Bool.false_eq_true] <;> omega)); conv => whnf)
          | (refine ⟨_, hp, ?_⟩; conv => whnf)
          | (refine ⟨le_rfl' ?_, ?_⟩; rfl; conv => whnf)
          | (refine ⟨⟨?_, ?_⟩, ?_⟩; omega; omega; conv => whnf)
          | (refine ⟨⟨?_, ?_, ?_⟩, ?_⟩; rfl; omega; omega; conv => whnf)
          | (refine ⟨rfl, ?_, ?_⟩; decide; conv => whnf))
        try exact rfl
        refine hld ?_
        conv => whnf
        repeat (first
          | (refine sel_yes ?_ ?_; (first | assumption | (simp only [beq_iff_eq, bne_iff_ne, beq_eq_false_iff_ne, bne_eq_false_iff_eq, decide_eq_true_eq, decide_eq_false_iff_not, Bool.not_eq_true', Bool.not_eq_false', ne_eq, beq_true, beq_false, bne_self_eq_false, not_true_eq_false, not_false_eq_true, gt_iff_lt, ge_iff_le, Int.not_lt, Int.not_le, Bool.true_eq_false, Bool.false_eq_true] <;> omega)); conv => whnf)
          | (refine sel_no ?_ ?_; (first | assumption | (simp only [beq_iff_eq, bne_iff_ne, beq_eq_false_iff_ne, bne_eq_false_iff_eq, decide_eq_true_eq, decide_eq_false_iff_not, Bool.not_eq_true', Bool.not_eq_false', ne_eq, beq_true, beq_false, bne_self_eq_false, not_true_eq_false, not_false_eq_true, gt_iff_lt, ge_iff_le, Int.not_lt, Int.not_le, Bool.true_eq_false, Bool.false_eq_true] <;> omega)); conv => whnf)
          | (refine ⟨_, hr, ?_⟩; conv => whnf)
          | (refine ⟨_, hz0, ?_⟩; conv => whnf)
          | (refine ⟨_, hl, ?_⟩; conv => whnf)
          | (refine ⟨le_rfl' ?_, ?_⟩; rfl; conv => whnf)
          | (refine ⟨⟨?_, ?_⟩, ?_⟩; omega; omega; conv => whnf)
          | (refine ⟨⟨?_, ?_, ?_⟩, ?_⟩; rfl; omega; omega; conv => whnf)
          | (refine ⟨rfl, ?_, ?_⟩; decide; conv => whnf))
        try exact rfl
        refine ih (i + 1) (k + 1) n h L _ (by omega) (by omega) (by omega) hkl (by omega) s hs hL ⟨rfl, rfl, rfl, rfl, ?_, ?_, trivial⟩ rfl hq
        · conv => lhs; whnf
          exact vi ek
        · conv => lhs; whnf
          exact vi ei
      | true =>
        have rx : Rt x := ⟨wx, ox⟩
        have hp := tPush non0 e26 e73 o n h x (by omega) wx ox hg
        rw [show (n : Int) + 1 = ((n + 1 : Nat) : Int) by omega] at hp
        obtain ⟨U, W, eL, hu, hwW, hr⟩ := rpush non0 o (by omega) (by omega) L x (by omega) s.allL wx ox
        rw [eL] at s
        have s' := s.push (lineV o) rt_shp hc rx hu (fun y hy => by have h1 := hwW y hy; have h2 := (lineV (ext := ext0) o).turn x y; omega)
        have hsz : sizeO (pushH (cO ext0 o) h x) = n + 1 := by rw [push_size, hs]
        have hL' : (U ++ x :: W).length = n + 1 := by rw [eL] at hL; simp only [List.length_append, List.length_cons] at hL ⊢; omega
        have hl' := tLen non0 o ((n + 1 : Nat) : Int) (pushH (cO ext0 o) h x)
        have gm' : (((n + 1 : Nat) : Int) != ((U ++ x :: W).length : Int)) = false := by rw [hL']; simp
        generalize pushH (cO ext0 o) h x = q at hp hl' hsz s'
        generalize U ++ x :: W = M at hr hL' s' gm'
        rw [St.knows _ _ ht hz]
        refine Loop.round ?_
        conv => whnf
        repeat (first
          | (refine sel_yes ?_ ?_; (first | assumption | (simp only [beq_iff_eq, bne_iff_ne, beq_eq_false_iff_ne, bne_eq_false_iff_eq, decide_eq_true_eq, decide_eq_false_iff_not, Bool.not_eq_true', Bool.not_eq_false', ne_eq, beq_true, beq_false, bne_self_eq_false, not_true_eq_false, not_false_eq_true, gt_iff_lt, ge_iff_le, Int.not_lt, Int.not_le, Bool.true_eq_false, Bool.false_eq_true] <;> omega)); conv => whnf)
          | (refine sel_no ?_ ?_; (first | assumption | (simp only [beq_iff_eq, bne_iff_ne, beq_eq_false_iff_ne, bne_eq_false_iff_eq, decide_eq_true_eq, decide_eq_false_iff_not, Bool.not_eq_true', Bool.not_eq_false', ne_eq, beq_true, beq_false, bne_self_eq_false, not_true_eq_false, not_false_eq_true, gt_iff_lt, ge_iff_le, Int.not_lt, Int.not_le, Bool.true_eq_false, Bool.false_eq_true] <;> omega)); conv => whnf)
          | (refine ⟨le_rfl' ?_, ?_⟩; rfl; conv => whnf)
          | (refine ⟨⟨?_, ?_⟩, ?_⟩; omega; omega; conv => whnf)
          | (refine ⟨⟨?_, ?_, ?_⟩, ?_⟩; rfl; omega; omega; conv => whnf)
          | (refine ⟨rfl, ?_, ?_⟩; decide; conv => whnf))
        try exact rfl
        refine ldB hb ?_
        conv => whnf
        repeat (first
          | (refine sel_yes ?_ ?_; (first | assumption | (simp only [beq_iff_eq, bne_iff_ne, beq_eq_false_iff_ne, bne_eq_false_iff_eq, decide_eq_true_eq, decide_eq_false_iff_not, Bool.not_eq_true', Bool.not_eq_false', ne_eq, beq_true, beq_false, bne_self_eq_false, not_true_eq_false, not_false_eq_true, gt_iff_lt, ge_iff_le, Int.not_lt, Int.not_le, Bool.true_eq_false, Bool.false_eq_true] <;> omega)); conv => whnf)
          | (refine sel_no ?_ ?_; (first | assumption | (simp only [beq_iff_eq, bne_iff_ne, beq_eq_false_iff_ne, bne_eq_false_iff_eq, decide_eq_true_eq, decide_eq_false_iff_not, Bool.not_eq_true', Bool.not_eq_false', ne_eq, beq_true, beq_false, bne_self_eq_false, not_true_eq_false, not_false_eq_true, gt_iff_lt, ge_iff_le, Int.not_lt, Int.not_le, Bool.true_eq_false, Bool.false_eq_true] <;> omega)); conv => whnf)
          | (refine ⟨le_rfl' ?_, ?_⟩; rfl; conv => whnf)
          | (refine ⟨⟨?_, ?_⟩, ?_⟩; omega; omega; conv => whnf)
          | (refine ⟨⟨?_, ?_, ?_⟩, ?_⟩; rfl; omega; omega; conv => whnf)
          | (refine ⟨rfl, ?_, ?_⟩; decide; conv => whnf))
        try exact rfl
        refine hld ?_
        conv => whnf
        repeat (first
          | (refine sel_yes ?_ ?_; (first | assumption | (simp only [beq_iff_eq, bne_iff_ne, beq_eq_false_iff_ne, bne_eq_false_iff_eq, decide_eq_true_eq, decide_eq_false_iff_not, Bool.not_eq_true', Bool.not_eq_false', ne_eq, beq_true, beq_false, bne_self_eq_false, not_true_eq_false, not_false_eq_true, gt_iff_lt, ge_iff_le, Int.not_lt, Int.not_le, Bool.true_eq_false, Bool.false_eq_true] <;> omega)); conv => whnf)
          | (refine sel_no ?_ ?_; (first | assumption | (simp only [beq_iff_eq, bne_iff_ne, beq_eq_false_iff_ne, bne_eq_false_iff_eq, decide_eq_true_eq, decide_eq_false_iff_not, Bool.not_eq_true', Bool.not_eq_false', ne_eq, beq_true, beq_false, bne_self_eq_false, not_true_eq_false, not_false_eq_true, gt_iff_lt, ge_iff_le, Int.not_lt, Int.not_le, Bool.true_eq_false, Bool.false_eq_true] <;> omega)); conv => whnf)
          | (refine ⟨_, hp, ?_⟩; conv => whnf)
          | (refine ⟨le_rfl' ?_, ?_⟩; rfl; conv => whnf)
          | (refine ⟨⟨?_, ?_⟩, ?_⟩; omega; omega; conv => whnf)
          | (refine ⟨⟨?_, ?_, ?_⟩, ?_⟩; rfl; omega; omega; conv => whnf)
          | (refine ⟨rfl, ?_, ?_⟩; decide; conv => whnf))
        try exact rfl
        refine hld ?_
        conv => whnf
        repeat (first
          | (refine sel_yes ?_ ?_; (first | assumption | (simp only [beq_iff_eq, bne_iff_ne, beq_eq_false_iff_ne, bne_eq_false_iff_eq, decide_eq_true_eq, decide_eq_false_iff_not, Bool.not_eq_true', Bool.not_eq_false', ne_eq, beq_true, beq_false, bne_self_eq_false, not_true_eq_false, not_false_eq_true, gt_iff_lt, ge_iff_le, Int.not_lt, Int.not_le, Bool.true_eq_false, Bool.false_eq_true] <;> omega)); conv => whnf)
          | (refine sel_no ?_ ?_; (first | assumption | (simp only [beq_iff_eq, bne_iff_ne, beq_eq_false_iff_ne, bne_eq_false_iff_eq, decide_eq_true_eq, decide_eq_false_iff_not, Bool.not_eq_true', Bool.not_eq_false', ne_eq, beq_true, beq_false, bne_self_eq_false, not_true_eq_false, not_false_eq_true, gt_iff_lt, ge_iff_le, Int.not_lt, Int.not_le, Bool.true_eq_false, Bool.false_eq_true] <;> omega)); conv => whnf)
          | (refine ⟨_, hr, ?_⟩; conv => whnf)
          | (refine ⟨_, hz0, ?_⟩; conv => whnf)
          | (refine ⟨_, hl', ?_⟩; conv => whnf)
          | (refine ⟨le_rfl' ?_, ?_⟩; rfl; conv => whnf)
          | (refine ⟨⟨?_, ?_⟩, ?_⟩; omega; omega; conv => whnf)
          | (refine ⟨⟨?_, ?_, ?_⟩, ?_⟩; rfl; omega; omega; conv => whnf)
          | (refine ⟨rfl, ?_, ?_⟩; decide; conv => whnf))
        try exact rfl
        refine ih (i + 1) (k + 1) (n + 1) q M _ (by omega) (by omega) (by omega) hkl (by omega) s' hsz hL' ⟨rfl, rfl, rfl, rfl, ?_, ?_, trivial⟩ rfl hq
        · conv => lhs; whnf
          exact vi ek
        · conv => lhs; whnf
          exact vi ei
theorem PairingSteps_ev (o : Int) (_ : In64 o) (l : List T) (hll : l.length ≤ 9223372036854775807) (hw : ∀ x ∈ l, WfV x) (ps : List Bool) (hps : ps.length ≤ 9223372036854775807) (_ : True) : (cfg ext0).Ev 3 [.int .i64 o, .sl false (encL l) l.length, .sl false (ps.map .bool) ps.length] (.bool true) := by
  have key : ∃ r, (cfg ext0).Ev 3 [.int .i64 o, .sl false (encL l) l.length, .sl false (ps.map .bool) ps.length] r ∧ r = .bool true := by
    refine Ev.ofE (non0 3 (by decide) (by decide)) Tryz.func3 rfl rfl ?_
    by_cases ho : o < 0 ∨ o > 5
    · have h1 := tNewx non0 o ho
      have h2 := rnewx non0 o ho
      conv => whnf
      repeat (first
        | (refine sel_yes ?_ ?_; (first | assumption | (simp only [beq_iff_eq, bne_iff_ne, beq_eq_false_iff_ne, bne_eq_false_iff_eq, decide_eq_true_eq, decide_eq_false_iff_not, Bool.not_eq_true', Bool.not_eq_false', ne_eq, beq_true, beq_false, bne_self_eq_false, not_true_eq_false, not_false_eq_true, gt_iff_lt, ge_iff_le, Int.not_lt, Int.not_le, Bool.true_eq_false, Bool.false_eq_true] <;> omega)); conv => whnf)
        | (refine sel_no ?_ ?_; (first | assumption | (simp only [beq_iff_eq, bne_iff_ne, beq_eq_false_iff_ne, bne_eq_false_iff_eq, decide_eq_true_eq, decide_eq_false_iff_not, Bool.not_eq_true', Bool.not_eq_false', ne_eq, beq_true, beq_false, bne_self_eq_false, not_true_eq_false, not_false_eq_true, gt_iff_lt, ge_iff_le, Int.not_lt, Int.not_le, Bool.true_eq_false, Bool.false_eq_true] <;> omega)); conv => whnf)
        | (refine ⟨_, h1, ?_⟩; conv => whnf)
        | (refine ⟨_, h2, ?_⟩; conv => whnf)
        | (refine ⟨_, speaks19, ?_⟩; conv => whnf)
        | (refine ⟨le_rfl' ?_, ?_⟩; rfl; conv => whnf)
        | (refine ⟨⟨?_, ?_⟩, ?_⟩; omega; omega; conv => whnf)
        | (refine ⟨⟨?_, ?_, ?_⟩, ?_⟩; rfl; omega; omega; conv => whnf)
        | (refine ⟨rfl, ?_, ?_⟩; decide; conv => whnf))
      try exact rfl
    · obtain ⟨k, rfl⟩ : ∃ k : Nat, o = k := ⟨o.toNat, by omega⟩
      have h5 : k ≤ 5 := by omega
      have h1 := tNew non0 k (by omega) (by omega)
      have h2 := rnew non0 k (by omega) (by omega)
      conv => whnf
      repeat (first
        | (refine sel_yes ?_ ?_; (first | assumption | (simp only [beq_iff_eq, bne_iff_ne, beq_eq_false_iff_ne, bne_eq_false_iff_eq, decide_eq_true_eq, decide_eq_false_iff_not, Bool.not_eq_true', Bool.not_eq_false', ne_eq, beq_true, beq_false, bne_self_eq_false, not_true_eq_false, not_false_eq_true, gt_iff_lt, ge_iff_le, Int.not_lt, Int.not_le, Bool.true_eq_false, Bool.false_eq_true] <;> omega)); conv => whnf)
        | (refine sel_no ?_ ?_; (first | assumption | (simp only [beq_iff_eq, bne_iff_ne, beq_eq_false_iff_ne, bne_eq_false_iff_eq, decide_eq_true_eq, decide_eq_false_iff_not, Bool.not_eq_true', Bool.not_eq_false', ne_eq, beq_true, beq_false, bne_self_eq_false, not_true_eq_false, not_false_eq_true, gt_iff_lt, ge_iff_le, Int.not_lt, Int.not_le, Bool.true_eq_false, Bool.false_eq_true] <;> omega)); conv => whnf)
        | (refine ⟨_, h1, ?_⟩; conv => whnf)
        | (refine ⟨_, h2, ?_⟩; conv => whnf)
        | (refine ⟨le_rfl' ?_, ?_⟩; rfl; conv => whnf)
        | (refine ⟨⟨?_, ?_⟩, ?_⟩; omega; omega; conv => whnf)
        | (refine ⟨⟨?_, ?_, ?_⟩, ?_⟩; rfl; omega; omega; conv => whnf)
        | (refine ⟨rfl, ?_, ?_⟩; decide; conv => whnf))
      try exact rfl
      refine lsteps k h5 l hll hw ps hps _ 300 0 0 0 none [] _ rfl (by omega) (by omega) (by omega) (by omega) SameQ.empty rfl rfl ⟨rfl, rfl, rfl, rfl, rfl, rfl, trivial⟩ rfl (fun z n h L hn s hs hL a b => ?_)
      have h3 := tsame k h5 n h L (by omega) s hs hL
      rw [St.knows _ _ a b]
      conv => whnf
      repeat (first
        | (refine sel_yes ?_ ?_; (first | assumption | (simp only [beq_iff_eq, bne_iff_ne, beq_eq_false_iff_ne, bne_eq_false_iff_eq, decide_eq_true_eq, decide_eq_false_iff_not, Bool.not_eq_true', Bool.not_eq_false', ne_eq, beq_true, beq_false, bne_self_eq_false, not_true_eq_false, not_false_eq_true, gt_iff_lt, ge_iff_le, Int.not_lt, Int.not_le, Bool.true_eq_false, Bool.false_eq_true] <;> omega)); conv => whnf)
        | (refine sel_no ?_ ?_; (first | assumption | (simp only [beq_iff_eq, bne_iff_ne, beq_eq_false_iff_ne, bne_eq_false_iff_eq, decide_eq_true_eq, decide_eq_false_iff_not, Bool.not_eq_true', Bool.not_eq_false', ne_eq, beq_true, beq_false, bne_self_eq_false, not_true_eq_false, not_false_eq_true, gt_iff_lt, ge_iff_le, Int.not_lt, Int.not_le, Bool.true_eq_false, Bool.false_eq_true] <;> omega)); conv => whnf)
        | (refine ⟨_, h3, ?_⟩; conv => whnf)
        | (refine ⟨_, speaks19, ?_⟩; conv => whnf)
        | (refine ⟨le_rfl' ?_, ?_⟩; rfl; conv => whnf)
        | (refine ⟨⟨?_, ?_⟩, ?_⟩; omega; omega; conv => whnf)
        | (refine ⟨⟨?_, ?_, ?_⟩, ?_⟩; rfl; omega; omega; conv => whnf)
        | (refine ⟨rfl, ?_, ?_⟩; decide; conv => whnf))
      try exact rfl
  obtain ⟨r, h, rfl⟩ := key
  exact h
end Go.Proofs.YtbekoaalaofloaaGreatDoor.AB
end
