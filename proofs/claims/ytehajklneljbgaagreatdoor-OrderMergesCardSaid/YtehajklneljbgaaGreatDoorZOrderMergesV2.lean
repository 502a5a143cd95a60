/- What OrderMerges is proved with: what the program's functions make of their arguments, by the evaluator. -/
import Derived.Test.YtehajklneljbgaaGreatDoorZOrderMergesV1
import Derived.Test.YtehajklneljbgaaGreatDoorZOrderMergesL0
import Derived.Test.YtehajklneljbgaaGreatDoorZOrderMergesV0
import Derived.Test.YtehajklneljbgaaGreatDoorZOrderMergesA1
section
set_option linter.unusedVariables false
set_option linter.unusedSimpArgs false
open Go Go.Ab Go.Proofs Go.Vl
namespace Go.Proofs.YtehajklneljbgaaGreatDoor.AB
set_option maxRecDepth 100000
set_option maxHeartbeats 16000000
set_option linter.unusedSimpArgs false
section
variable {ext : Exts}
open Classical in
/-- how many parts a value has that is right below some depth, with at most so many; below 0: it is not -/
noncomputable def fitZ (v : T) (d m : Int) : Int := if OkV v ∧ (deepV v : Int) ≤ d ∧ (partsV v : Int) ≤ m then (partsV v : Int) else -1
def FitE (ext : Exts) (a : T) : Prop := ∀ d m : Int, 0 ≤ d → d ≤ 16 → m ≤ 1024 → -1024 ≤ m → (cfg ext).Ev 42 [A a, .int .i64 d, .int .i64 m] (.int .i64 (fitZ a d m))
theorem fitZ_yes {v : T} {d m : Int} (h : OkV v ∧ (deepV v : Int) ≤ d ∧ (partsV v : Int) ≤ m) : fitZ v d m = partsV v := if_pos h
theorem fitZ_no {v : T} {d m : Int} (h : ¬ (OkV v ∧ (deepV v : Int) ≤ d ∧ (partsV v : Int) ≤ m)) : fitZ v d m = -1 := if_neg h
theorem lfits (k n : Int) (t : ByteArray) (l : List T) (hl : l.length ≤ 1024) (E : ∀ a ∈ l, FitE ext a) (d m : Int) (hd0 : l = [] ∨ 1 ≤ d) (hdp : 0 ≤ d) (hd : d ≤ 16) (hm : m ≤ 1024) (Q : Ex → St → Prop) (f : Nat) :
    ∀ (i : Nat) (c : Nat) (z : St), l.length - i = f → i ≤ l.length → (c : Int) ≤ m → Has z.t [(33, .int .i64 i), (32, .int .i64 l.length), (31, .sl false (encL l) l.length), (7, .int .i64 c), (1, .int .i64 d), (2, .int .i64 m), (3, .ref 0 0)] → Has z.hp.h [(0, some (.cells (encX' k n t l) false))] → z.hp.n = 26 →
      (∀ z' : St, z'.t 6 = .int .i64 (-1) → ¬ (OkL (l.drop i) ∧ (deepL (l.drop i) : Int) ≤ d ∧ (c : Int) + partsL (l.drop i) ≤ m) → Q .ret z') →
      (∀ z' : St, Has z'.t [(7, .int .i64 ((c : Int) + partsL (l.drop i))), (3, .ref 0 0)] → Has z'.hp.h [(0, some (.cells (encX' k n t l) false))] → (OkL (l.drop i) ∧ (deepL (l.drop i) : Int) ≤ d ∧ (c : Int) + partsL (l.drop i) ≤ m) → Q (.exit 0) z') →
      Go.Ab.Loop (cfg ext) (lpOf Tryz.f42) 26 z Q := by
  induction f with
  | zero =>
    intro i c z hf hi hc ht hh hz hr hq
    obtain rfl : i = l.length := by omega
    have g : decide ((l.length : Int) < (l.length : Int)) = false := decide_eq_false (by omega)
    have e : l.drop l.length = [] := List.drop_length
    rw [e] at hq
    rw [St.knows _ _ ht hz _ hh]
    refine Loop.round ?_
    conv => whnf
    repeat (first
      | (refine sel_yes ?_ ?_; (first | assumption | (simp only [beq_iff_eq, bne_iff_ne, beq_eq_false_iff_ne, bne_eq_false_iff_eq, decide_eq_true_eq, decide_eq_false_iff_not, Bool.not_eq_true', Bool.not_eq_false', ne_eq, beq_true, beq_false, bne_self_eq_false, not_true_eq_false, not_false_eq_true, gt_iff_lt, ge_iff_le, Int.not_lt, Int.not_le, Bool.true_eq_false, Bool.false_eq_true] <;> omega)); conv => whnf)
      | (refine sel_no ?_ ?_; (first | assumption | (simp only [beq_iff_eq, bne_iff_ne, beq_eq_false_iff_ne, bne_eq_false_iff_eq, decide_eq_true_eq, decide_eq_false_iff_not, Bool.not_eq_true', Bool.not_eq_false', ne_eq, beq_true, beq_false, bne_self_eq_false, not_true_eq_false, not_false_eq_true, gt_iff_lt, ge_iff_le, Int.not_lt, Int.not_le, Bool.true_eq_false, Bool.false_eq_true] <;> omega)); conv => whnf)
      | (refine ⟨le_rfl' ?_, ?_⟩; rfl; conv => whnf)
      | (refine ⟨⟨?_, ?_⟩, ?_⟩; omega; omega; conv => whnf)
      | (refine ⟨⟨?_, ?_, ?_⟩, ?_⟩; rfl; omega; omega; conv => whnf)
      | (refine ⟨rfl, ?_, ?_⟩; decide; conv => whnf))
    try exact rfl
    refine hq _ ⟨?_, rfl, trivial⟩ ⟨rfl, trivial⟩ ⟨by simp only [OkL], ?_, by simpa [partsL] using hc⟩
    · simp only [partsL]; exact vi (by simp)
    · simp only [deepL]; omega
  | succ f ih =>
    intro i c z hf hi hc ht hh hz hr hq
    have h1 : i < l.length := by omega
    have hd1 : 1 ≤ d := by rcases hd0 with rfl | h; simp at h1; exact h
    have g : decide ((i : Int) < (l.length : Int)) = true := decide_eq_true (by omega)
    have eD := List.drop_eq_getElem_cons h1
    have hw1 : IntKind.i64.wrap (d - 1) = d - 1 := by rw [IntKind.wrap_i64]; omega
    have hw2 : IntKind.i64.wrap (m - (c : Int)) = m - (c : Int) := by rw [IntKind.wrap_i64]; omega
    have hE := E _ (List.getElem_mem h1) (d - 1) (m - (c : Int)) (by omega) (by omega) (by omega) (by omega)
    rw [← hw1, ← hw2] at hE
    rw [eD] at hr hq
    simp only [OkL, deepL, partsL] at hr hq
    by_cases hok : OkV l[i] ∧ (deepV l[i] : Int) ≤ d - 1 ∧ (partsV l[i] : Int) ≤ m - c
    · rw [hw1, hw2, fitZ_yes hok] at hE
      rw [← hw1, ← hw2] at hE
      have hpp := partsV_pos l[i]
      have g2 : decide ((partsV l[i] : Int) < 0) = false := decide_eq_false (by omega)
      have hw3 : IntKind.i64.wrap ((c : Int) + (partsV l[i] : Int)) = ((c + partsV l[i] : Nat) : Int) := by rw [IntKind.wrap_i64]; omega
      rw [St.knows _ _ ht hz _ hh]
      refine Loop.round ?_
      conv => whnf
      repeat (first
        | (refine sel_yes ?_ ?_; (first | assumption | (simp only [beq_iff_eq, bne_iff_ne, beq_eq_false_iff_ne, bne_eq_false_iff_eq, decide_eq_true_eq, decide_eq_false_iff_not, Bool.not_eq_true', Bool.not_eq_false', ne_eq, beq_true, beq_false, bne_self_eq_false, not_true_eq_false, not_false_eq_true, gt_iff_lt, ge_iff_le, Int.not_lt, Int.not_le, Bool.true_eq_false, Bool.false_eq_true] <;> omega)); conv => whnf)
        | (refine sel_no ?_ ?_; (first | assumption | (simp only [beq_iff_eq, bne_iff_ne, beq_eq_false_iff_ne, bne_eq_false_iff_eq, decide_eq_true_eq, decide_eq_false_iff_not, Bool.not_eq_true', Bool.not_eq_false', ne_eq, beq_true, beq_false, bne_self_eq_false, not_true_eq_false, not_false_eq_true, gt_iff_lt, ge_iff_le, Int.not_lt, Int.not_le, Bool.true_eq_false, Bool.false_eq_true] <;> omega)); conv => whnf)
        | (refine ⟨le_rfl' ?_, ?_⟩; rfl; conv => whnf)
        | (refine ⟨⟨?_, ?_⟩, ?_⟩; omega; omega; conv => whnf)
        | (refine ⟨⟨?_, ?_, ?_⟩, ?_⟩; rfl; omega; omega; conv => whnf)
        | (refine ⟨rfl, ?_, ?_⟩; decide; conv => whnf))
      try exact rfl
      refine ldA (i := i) h1 ?_
      conv => whnf
      refine ⟨_, hE, ?_⟩
      conv => whnf
      repeat (first
        | (refine sel_yes ?_ ?_; (first | assumption | (simp only [beq_iff_eq, bne_iff_ne, beq_eq_false_iff_ne, bne_eq_false_iff_eq, decide_eq_true_eq, decide_eq_false_iff_not, Bool.not_eq_true', Bool.not_eq_false', ne_eq, beq_true, beq_false, bne_self_eq_false, not_true_eq_false, not_false_eq_true, gt_iff_lt, ge_iff_le, Int.not_lt, Int.not_le, Bool.true_eq_false, Bool.false_eq_true] <;> omega)); conv => whnf)
        | (refine sel_no ?_ ?_; (first | assumption | (simp only [beq_iff_eq, bne_iff_ne, beq_eq_false_iff_ne, bne_eq_false_iff_eq, decide_eq_true_eq, decide_eq_false_iff_not, Bool.not_eq_true', Bool.not_eq_false', ne_eq, beq_true, beq_false, bne_self_eq_false, not_true_eq_false, not_false_eq_true, gt_iff_lt, ge_iff_le, Int.not_lt, Int.not_le, Bool.true_eq_false, Bool.false_eq_true] <;> omega)); conv => whnf)
        | (refine ⟨le_rfl' ?_, ?_⟩; rfl; conv => whnf)
        | (refine ⟨⟨?_, ?_⟩, ?_⟩; omega; omega; conv => whnf)
        | (refine ⟨⟨?_, ?_, ?_⟩, ?_⟩; rfl; omega; omega; conv => whnf)
        | (refine ⟨rfl, ?_, ?_⟩; decide; conv => whnf))
      try exact rfl
      refine ih (i + 1) (c + partsV l[i]) _ (by omega) (by omega) (by omega) ⟨?_, rfl, rfl, ?_, rfl, rfl, rfl, trivial⟩ ⟨rfl, trivial⟩ rfl (fun z' a b => hr z' a (fun g => b ⟨g.1.2, by omega, by omega⟩)) (fun z' a b c' => hq z' ⟨?_, a.2⟩ b ⟨⟨hok.1, c'.1⟩, by omega, by omega⟩)
      · conv => lhs; whnf
        exact wrapN1 (by omega)
      · conv => lhs; whnf
        exact vi hw3
      · rw [a.1]; exact vi (by omega)
    · rw [hw1, hw2, fitZ_no hok] at hE
      rw [← hw1, ← hw2] at hE
      rw [St.knows _ _ ht hz _ hh]
      refine Loop.round ?_
      conv => whnf
      repeat (first
        | (refine sel_yes ?_ ?_; (first | assumption | (simp only [beq_iff_eq, bne_iff_ne, beq_eq_false_iff_ne, bne_eq_false_iff_eq, decide_eq_true_eq, decide_eq_false_iff_not, Bool.not_eq_true', Bool.not_eq_false', ne_eq, beq_true, beq_false, bne_self_eq_false, not_true_eq_false, not_false_eq_true, gt_iff_lt, ge_iff_le, Int.not_lt, Int.not_le, Bool.true_eq_false, Bool.false_eq_true] <;> omega)); conv => whnf)
        | (refine sel_no ?_ ?_; (first | assumption | (simp only [beq_iff_eq, bne_iff_ne, beq_eq_false_iff_ne, bne_eq_false_iff_eq, decide_eq_true_eq, decide_eq_false_iff_not, Bool.not_eq_true', Bool.not_eq_false', ne_eq, beq_true, beq_false, bne_self_eq_false, not_true_eq_false, not_false_eq_true, gt_iff_lt, ge_iff_le, Int.not_lt, Int.not_le, Bool.true_eq_false, Bool.false_eq_true] <;> omega)); conv => whnf)
        | (refine ⟨le_rfl' ?_, ?_⟩; rfl; conv => whnf)
        | (refine ⟨⟨?_, ?_⟩, ?_⟩; omega; omega; conv => whnf)
        | (refine ⟨⟨?_, ?_, ?_⟩, ?_⟩; rfl; omega; omega; conv => whnf)
        | (refine ⟨rfl, ?_, ?_⟩; decide; conv => whnf))
      try exact rfl
      refine ldA (i := i) h1 ?_
      conv => whnf
      refine ⟨_, hE, ?_⟩
      conv => whnf
      exact hr _ rfl (fun g => hok ⟨g.1.1, by omega, by omega⟩)
theorem deepV_pos {a : T} {l : List T} : 1 ≤ deepL (a :: l) := by simp only [deepL]; omega
theorem fits_one (hn : Non ext) (k n : Int) (t : ByteArray) (l : List T) (hw : WfV ⟨k, n, t, l⟩) (E : ∀ a ∈ l, FitE ext a) : FitE ext ⟨k, n, t, l⟩ := by
  intro d m hd0 hd hm hm0
  have hlp := partsL_len l
  have eO : OkV ⟨k, n, t, l⟩ ↔ PlainV k n t ∧ FormV k l ∧ OkL l := by simp only [OkV]
  have eDp : deepV ⟨k, n, t, l⟩ = deepL l := by simp only [deepV]
  have eP : partsV ⟨k, n, t, l⟩ = 1 + partsL l := by simp only [partsV]
  have key : ∃ r, (cfg ext).Ev 42 [A ⟨k, n, t, l⟩, .int .i64 d, .int .i64 m] r ∧ r = .int .i64 (fitZ ⟨k, n, t, l⟩ d m) := by
    refine Ev.ofF (hn 42 (by decide) (by decide)) Tryz.func42 rfl rfl ?_
    conv => whnf
    by_cases m1 : m < 1
    · rw [fitZ_no (fun h => by rw [eP] at h; omega)]
      repeat (first
        | (refine sel_yes ?_ ?_; (first | assumption | (simp only [beq_iff_eq, bne_iff_ne, beq_eq_false_iff_ne, bne_eq_false_iff_eq, decide_eq_true_eq, decide_eq_false_iff_not, Bool.not_eq_true', Bool.not_eq_false', ne_eq, beq_true, beq_false, bne_self_eq_false, not_true_eq_false, not_false_eq_true, gt_iff_lt, ge_iff_le, Int.not_lt, Int.not_le, Bool.true_eq_false, Bool.false_eq_true] <;> omega)); conv => whnf)
        | (refine sel_no ?_ ?_; (first | assumption | (simp only [beq_iff_eq, bne_iff_ne, beq_eq_false_iff_ne, bne_eq_false_iff_eq, decide_eq_true_eq, decide_eq_false_iff_not, Bool.not_eq_true', Bool.not_eq_false', ne_eq, beq_true, beq_false, bne_self_eq_false, not_true_eq_false, not_false_eq_true, gt_iff_lt, ge_iff_le, Int.not_lt, Int.not_le, Bool.true_eq_false, Bool.false_eq_true] <;> omega)); conv => whnf)
        | (refine ⟨le_rfl' ?_, ?_⟩; rfl; conv => whnf)
        | (refine ⟨⟨?_, ?_⟩, ?_⟩; omega; omega; conv => whnf)
        | (refine ⟨⟨?_, ?_, ?_⟩, ?_⟩; rfl; omega; omega; conv => whnf)
        | (refine ⟨rfl, ?_, ?_⟩; decide; conv => whnf))
      try exact rfl
      exact ⟨rfl⟩
    rcases l with _ | ⟨a, l⟩
    · have ho := rown hn k n t [] hw (by decide)
      have g : decide (((([] : List T).length : Nat) : Int) > m) = false := decide_eq_false (by simp; omega)
      repeat (first
        | (refine sel_yes ?_ ?_; (first | assumption | (simp only [beq_iff_eq, bne_iff_ne, beq_eq_false_iff_ne, bne_eq_false_iff_eq, decide_eq_true_eq, decide_eq_false_iff_not, Bool.not_eq_true', Bool.not_eq_false', ne_eq, beq_true, beq_false, bne_self_eq_false, not_true_eq_false, not_false_eq_true, gt_iff_lt, ge_iff_le, Int.not_lt, Int.not_le, Bool.true_eq_false, Bool.false_eq_true] <;> omega)); conv => whnf)
        | (refine sel_no ?_ ?_; (first | assumption | (simp only [beq_iff_eq, bne_iff_ne, beq_eq_false_iff_ne, bne_eq_false_iff_eq, decide_eq_true_eq, decide_eq_false_iff_not, Bool.not_eq_true', Bool.not_eq_false', ne_eq, beq_true, beq_false, bne_self_eq_false, not_true_eq_false, not_false_eq_true, gt_iff_lt, ge_iff_le, Int.not_lt, Int.not_le, Bool.true_eq_false, Bool.false_eq_true] <;> omega)); conv => whnf)
        | (refine ⟨le_rfl' ?_, ?_⟩; rfl; conv => whnf)
        | (refine ⟨⟨?_, ?_⟩, ?_⟩; omega; omega; conv => whnf)
        | (refine ⟨⟨?_, ?_, ?_⟩, ?_⟩; rfl; omega; omega; conv => whnf)
        | (refine ⟨rfl, ?_, ?_⟩; decide; conv => whnf))
      try exact rfl
      have hE0 : ∀ a ∈ ([] : List T), FitE ext a := fun a ha => by cases ha
      refine lfits k n t [] (Nat.zero_le _) hE0 d m (.inl rfl) hd0 hd hm _ 0 0 1 _ rfl (Nat.le_refl _) (by omega) ⟨rfl, rfl, rfl, rfl, rfl, rfl, rfl, trivial⟩ ⟨rfl, trivial⟩ (by rfl) (fun z a b => ?_) (fun z a b c => ?_)
      · exact absurd ⟨by simp only [List.drop_nil, OkL], by simp only [List.drop_nil, deepL]; omega, by simp only [List.drop_nil, partsL]; omega⟩ b
      · rw [St.knows _ z.hp.n a rfl _ b]
        conv => whnf
        refine ⟨_, ho, ?_⟩
        by_cases hp : PlainV k n t ∧ FormV k []
        · rw [propB_yes hp] at *
          rw [fitZ_yes ⟨eO.2 ⟨hp.1, hp.2, by simp only [OkL]⟩, by rw [eDp]; simp only [deepL]; omega, by rw [eP]; simp only [partsL]; omega⟩, eP]
          conv => whnf
          exact ⟨vi (by simp [partsL])⟩
        · rw [propB_no hp] at *
          rw [fitZ_no (fun h => hp ⟨(eO.1 h.1).1, (eO.1 h.1).2.1⟩)]
          conv => whnf
          exact ⟨rfl⟩
    · have hpos : (((a :: l).length : Nat) : Int) > 0 := by simp
      by_cases d0 : d = 0
      · rw [fitZ_no (fun h => by rw [eDp] at h; have := @deepV_pos a l; omega)]
        repeat (first
          | (refine sel_yes ?_ ?_; (first | assumption | (simp only [beq_iff_eq, bne_iff_ne, beq_eq_false_iff_ne, bne_eq_false_iff_eq, decide_eq_true_eq, decide_eq_false_iff_not, Bool.not_eq_true', Bool.not_eq_false', ne_eq, beq_true, beq_false, bne_self_eq_false, not_true_eq_false, not_false_eq_true, gt_iff_lt, ge_iff_le, Int.not_lt, Int.not_le, Bool.true_eq_false, Bool.false_eq_true] <;> omega)); conv => whnf)
          | (refine sel_no ?_ ?_; (first | assumption | (simp only [beq_iff_eq, bne_iff_ne, beq_eq_false_iff_ne, bne_eq_false_iff_eq, decide_eq_true_eq, decide_eq_false_iff_not, Bool.not_eq_true', Bool.not_eq_false', ne_eq, beq_true, beq_false, bne_self_eq_false, not_true_eq_false, not_false_eq_true, gt_iff_lt, ge_iff_le, Int.not_lt, Int.not_le, Bool.true_eq_false, Bool.false_eq_true] <;> omega)); conv => whnf)
          | (refine ⟨le_rfl' ?_, ?_⟩; rfl; conv => whnf)
          | (refine ⟨⟨?_, ?_⟩, ?_⟩; omega; omega; conv => whnf)
          | (refine ⟨⟨?_, ?_, ?_⟩, ?_⟩; rfl; omega; omega; conv => whnf)
          | (refine ⟨rfl, ?_, ?_⟩; decide; conv => whnf))
        try exact rfl
        exact ⟨rfl⟩
      by_cases hlm : (((a :: l).length : Nat) : Int) > m
      · rw [fitZ_no (fun h => by rw [eP] at h; omega)]
        repeat (first
          | (refine sel_yes ?_ ?_; (first | assumption | (simp only [beq_iff_eq, bne_iff_ne, beq_eq_false_iff_ne, bne_eq_false_iff_eq, decide_eq_true_eq, decide_eq_false_iff_not, Bool.not_eq_true', Bool.not_eq_false', ne_eq, beq_true, beq_false, bne_self_eq_false, not_true_eq_false, not_false_eq_true, gt_iff_lt, ge_iff_le, Int.not_lt, Int.not_le, Bool.true_eq_false, Bool.false_eq_true] <;> omega)); conv => whnf)
          | (refine sel_no ?_ ?_; (first | assumption | (simp only [beq_iff_eq, bne_iff_ne, beq_eq_false_iff_ne, bne_eq_false_iff_eq, decide_eq_true_eq, decide_eq_false_iff_not, Bool.not_eq_true', Bool.not_eq_false', ne_eq, beq_true, beq_false, bne_self_eq_false, not_true_eq_false, not_false_eq_true, gt_iff_lt, ge_iff_le, Int.not_lt, Int.not_le, Bool.true_eq_false, Bool.false_eq_true] <;> omega)); conv => whnf)
          | (refine ⟨le_rfl' ?_, ?_⟩; rfl; conv => whnf)
          | (refine ⟨⟨?_, ?_⟩, ?_⟩; omega; omega; conv => whnf)
          | (refine ⟨⟨?_, ?_, ?_⟩, ?_⟩; rfl; omega; omega; conv => whnf)
          | (refine ⟨rfl, ?_, ?_⟩; decide; conv => whnf))
        try exact rfl
        exact ⟨rfl⟩
      have ho := rown hn k n t (a :: l) hw (by omega)
      repeat (first
        | (refine sel_yes ?_ ?_; (first | assumption | (simp only [beq_iff_eq, bne_iff_ne, beq_eq_false_iff_ne, bne_eq_false_iff_eq, decide_eq_true_eq, decide_eq_false_iff_not, Bool.not_eq_true', Bool.not_eq_false', ne_eq, beq_true, beq_false, bne_self_eq_false, not_true_eq_false, not_false_eq_true, gt_iff_lt, ge_iff_le, Int.not_lt, Int.not_le, Bool.true_eq_false, Bool.false_eq_true] <;> omega)); conv => whnf)
        | (refine sel_no ?_ ?_; (first | assumption | (simp only [beq_iff_eq, bne_iff_ne, beq_eq_false_iff_ne, bne_eq_false_iff_eq, decide_eq_true_eq, decide_eq_false_iff_not, Bool.not_eq_true', Bool.not_eq_false', ne_eq, beq_true, beq_false, bne_self_eq_false, not_true_eq_false, not_false_eq_true, gt_iff_lt, ge_iff_le, Int.not_lt, Int.not_le, Bool.true_eq_false, Bool.false_eq_true] <;> omega)); conv => whnf)
        | (refine ⟨le_rfl' ?_, ?_⟩; rfl; conv => whnf)
        | (refine ⟨⟨?_, ?_⟩, ?_⟩; omega; omega; conv => whnf)
        | (refine ⟨⟨?_, ?_, ?_⟩, ?_⟩; rfl; omega; omega; conv => whnf)
        | (refine ⟨rfl, ?_, ?_⟩; decide; conv => whnf))
      try exact rfl
      refine lfits k n t (a :: l) (by omega) E d m (.inr (by omega)) hd0 hd hm _ (a :: l).length 0 1 _ rfl (Nat.zero_le _) (by omega) ⟨rfl, rfl, rfl, rfl, rfl, rfl, rfl, trivial⟩ ⟨rfl, trivial⟩ rfl (fun z b c => ?_) (fun z b c e => ?_)
      · refine Fin.tmp (i := 6) rfl b (vi ?_)
        rw [fitZ_no (fun h => c ?_)]
        rw [List.drop_zero]
        exact ⟨(eO.1 h.1).2.2, by rw [← eDp]; exact h.2.1, by have := h.2.2; rw [eP] at this; omega⟩
      · rw [List.drop_zero] at b e
        rw [St.knows _ z.hp.n b rfl _ c]
        conv => whnf
        refine ⟨_, ho, ?_⟩
        by_cases hp : PlainV k n t ∧ FormV k (a :: l)
        · rw [propB_yes hp] at *
          rw [fitZ_yes ⟨eO.2 ⟨hp.1, hp.2, e.1⟩, by rw [eDp]; exact e.2.1, by rw [eP]; have := e.2.2; omega⟩, eP]
          conv => whnf
          exact ⟨vi (by omega)⟩
        · rw [propB_no hp] at *
          rw [fitZ_no (fun h => hp ⟨(eO.1 h.1).1, (eO.1 h.1).2.1⟩)]
          conv => whnf
          exact ⟨rfl⟩
  obtain ⟨r, h, rfl⟩ := key
  exact h
mutual
theorem rfits (hn : Non ext) : (v : T) → WfV v → FitE ext v
  | ⟨k, n, t, l⟩, hw => by
    have hw' := hw
    simp only [WfV] at hw'
    exact fits_one hn k n t l hw (rfitsL hn l hw'.2.2.2.2)
theorem rfitsL (hn : Non ext) : (l : List T) → WfL l → ∀ a ∈ l, FitE ext a
  | [], _, a, ha => by cases ha
  | v :: l, hw, a, ha => by
    simp only [WfL] at hw
    rcases List.mem_cons.1 ha with e | h
    · rw [e]; exact rfits hn v hw.1
    · exact rfitsL hn l hw.2 a h
end
theorem rright (hn : Non ext) (v : T) (hw : WfV v) : (cfg ext).Ev 24 [A v] (.bool (okB v)) := by
  have h := rfits hn v hw 16 1024 (by decide) (by decide) (by decide) (by decide)
  cases ho : okB v with
  | true =>
    have hO := okB_iff.1 ho
    rw [fitZ_yes ⟨hO.1, by have := hO.2.1; omega, by have := hO.2.2; omega⟩] at h
    refine Ev.of (hn 24 (by decide) (by decide)) Tryz.func24 rfl rfl ?_
    conv => whnf
    refine ⟨_, h, ?_⟩
    conv => whnf
    try exact rfl
  | false =>
    have hO : ¬ OK v := fun h => by rw [okB_iff.2 h] at ho; cases ho
    rw [fitZ_no (fun g => hO ⟨g.1, by have := g.2.1; omega, by have := g.2.2; omega⟩)] at h
    refine Ev.of (hn 24 (by decide) (by decide)) Tryz.func24 rfl rfl ?_
    conv => whnf
    refine ⟨_, h, ?_⟩
    conv => whnf
    try exact rfl
end
end Go.Proofs.YtehajklneljbgaaGreatDoor.AB
end

section
set_option linter.unusedVariables false
set_option linter.unusedSimpArgs false
open Go Go.Ab Go.Proofs Go.Vl
namespace Go.Proofs.YtehajklneljbgaaGreatDoor.AB
set_option maxRecDepth 100000
set_option maxHeartbeats 8000000
set_option linter.unusedSimpArgs false
section
variable {ext : Exts}
def signI (a b : Int) : Int := if a < b then -1 else if b < a then 1 else 0
theorem rless (hn : Non ext) (a b : Int) : (cfg ext).Ev 51 [.int .u64 a, .int .u64 b] (.int .i64 (signI a b)) := by
  have key : ∃ r, (cfg ext).Ev 51 [.int .u64 a, .int .u64 b] r ∧ r = .int .i64 (signI a b) := by
    refine Ev.ofE (hn 51 (by decide) (by decide)) Tryz.func51 rfl rfl ?_
    conv => whnf
    by_cases h1 : a < b
    · repeat (first
        | (refine sel_yes ?_ ?_; (first | assumption | (simp only [beq_iff_eq, bne_iff_ne, beq_eq_false_iff_ne, bne_eq_false_iff_eq, decide_eq_true_eq, decide_eq_false_iff_not, Bool.not_eq_true', Bool.not_eq_false', ne_eq, beq_true, beq_false, bne_self_eq_false, not_true_eq_false, not_false_eq_true, gt_iff_lt, ge_iff_le, Int.not_lt, Int.not_le, Bool.true_eq_false, Bool.false_eq_true] <;> omega)); conv => whnf)
        | (refine sel_no ?_ ?_; (first | assumption | (simp only [beq_iff_eq, bne_iff_ne, beq_eq_false_iff_ne, bne_eq_false_iff_eq, decide_eq_true_eq, decide_eq_false_iff_not, Bool.not_eq_true', Bool.not_eq_false', ne_eq, beq_true, beq_false, bne_self_eq_false, not_true_eq_false, not_false_eq_true, gt_iff_lt, ge_iff_le, Int.not_lt, Int.not_le, Bool.true_eq_false, Bool.false_eq_true] <;> omega)); conv => whnf)
        | (refine ⟨le_rfl' ?_, ?_⟩; rfl; conv => whnf)
        | (refine ⟨⟨?_, ?_⟩, ?_⟩; omega; omega; conv => whnf)
        | (refine ⟨⟨?_, ?_, ?_⟩, ?_⟩; rfl; omega; omega; conv => whnf)
        | (refine ⟨rfl, ?_, ?_⟩; decide; conv => whnf))
      try exact rfl
      exact vi (by unfold signI; rw [if_pos h1])
    · by_cases h2 : b < a
      · repeat (first
          | (refine sel_yes ?_ ?_; (first | assumption | (simp only [beq_iff_eq, bne_iff_ne, beq_eq_false_iff_ne, bne_eq_false_iff_eq, decide_eq_true_eq, decide_eq_false_iff_not, Bool.not_eq_true', Bool.not_eq_false', ne_eq, beq_true, beq_false, bne_self_eq_false, not_true_eq_false, not_false_eq_true, gt_iff_lt, ge_iff_le, Int.not_lt, Int.not_le, Bool.true_eq_false, Bool.false_eq_true] <;> omega)); conv => whnf)
          | (refine sel_no ?_ ?_; (first | assumption | (simp only [beq_iff_eq, bne_iff_ne, beq_eq_false_iff_ne, bne_eq_false_iff_eq, decide_eq_true_eq, decide_eq_false_iff_not, Bool.not_eq_true', Bool.not_eq_false', ne_eq, beq_true, beq_false, bne_self_eq_false, not_true_eq_false, not_false_eq_true, gt_iff_lt, ge_iff_le, Int.not_lt, Int.not_le, Bool.true_eq_false, Bool.false_eq_true] <;> omega)); conv => whnf)
          | (refine ⟨le_rfl' ?_, ?_⟩; rfl; conv => whnf)
          | (refine ⟨⟨?_, ?_⟩, ?_⟩; omega; omega; conv => whnf)
          | (refine ⟨⟨?_, ?_, ?_⟩, ?_⟩; rfl; omega; omega; conv => whnf)
          | (refine ⟨rfl, ?_, ?_⟩; decide; conv => whnf))
        try exact rfl
        exact vi (by unfold signI; rw [if_neg h1, if_pos h2])
      · repeat (first
          | (refine sel_yes ?_ ?_; (first | assumption | (simp only [beq_iff_eq, bne_iff_ne, beq_eq_false_iff_ne, bne_eq_false_iff_eq, decide_eq_true_eq, decide_eq_false_iff_not, Bool.not_eq_true', Bool.not_eq_false', ne_eq, beq_true, beq_false, bne_self_eq_false, not_true_eq_false, not_false_eq_true, gt_iff_lt, ge_iff_le, Int.not_lt, Int.not_le, Bool.true_eq_false, Bool.false_eq_true] <;> omega)); conv => whnf)
          | (refine sel_no ?_ ?_; (first | assumption | (simp only [beq_iff_eq, bne_iff_ne, beq_eq_false_iff_ne, bne_eq_false_iff_eq, decide_eq_true_eq, decide_eq_false_iff_not, Bool.not_eq_true', Bool.not_eq_false', ne_eq, beq_true, beq_false, bne_self_eq_false, not_true_eq_false, not_false_eq_true, gt_iff_lt, ge_iff_le, Int.not_lt, Int.not_le, Bool.true_eq_false, Bool.false_eq_true] <;> omega)); conv => whnf)
          | (refine ⟨le_rfl' ?_, ?_⟩; rfl; conv => whnf)
          | (refine ⟨⟨?_, ?_⟩, ?_⟩; omega; omega; conv => whnf)
          | (refine ⟨⟨?_, ?_, ?_⟩, ?_⟩; rfl; omega; omega; conv => whnf)
          | (refine ⟨rfl, ?_, ?_⟩; decide; conv => whnf))
        try exact rfl
        exact vi (by unfold signI; rw [if_neg h1, if_neg h2])
  obtain ⟨r, h, rfl⟩ := key
  exact h
theorem rkind (hn : Non ext) (o : Int) : (cfg ext).Ev 23 [.int .i64 o] (.bool (decide (0 ≤ o ∧ o ≤ 5))) := by
  have key : ∃ r, (cfg ext).Ev 23 [.int .i64 o] r ∧ r = .bool (decide (0 ≤ o ∧ o ≤ 5)) := by
    refine Ev.ofE (hn 23 (by decide) (by decide)) Tryz.func23 rfl rfl ?_
    conv => whnf
    by_cases h1 : o ≥ 0
    · by_cases h2 : o ≤ 5
      · repeat (first
          | (refine sel_yes ?_ ?_; (first | assumption | (simp only [beq_iff_eq, bne_iff_ne, beq_eq_false_iff_ne, bne_eq_false_iff_eq, decide_eq_true_eq, decide_eq_false_iff_not, Bool.not_eq_true', Bool.not_eq_false', ne_eq, beq_true, beq_false, bne_self_eq_false, not_true_eq_false, not_false_eq_true, gt_iff_lt, ge_iff_le, Int.not_lt, Int.not_le, Bool.true_eq_false, Bool.false_eq_true] <;> omega)); conv => whnf)
          | (refine sel_no ?_ ?_; (first | assumption | (simp only [beq_iff_eq, bne_iff_ne, beq_eq_false_iff_ne, bne_eq_false_iff_eq, decide_eq_true_eq, decide_eq_false_iff_not, Bool.not_eq_true', Bool.not_eq_false', ne_eq, beq_true, beq_false, bne_self_eq_false, not_true_eq_false, not_false_eq_true, gt_iff_lt, ge_iff_le, Int.not_lt, Int.not_le, Bool.true_eq_false, Bool.false_eq_true] <;> omega)); conv => whnf)
          | (refine ⟨le_rfl' ?_, ?_⟩; rfl; conv => whnf)
          | (refine ⟨⟨?_, ?_⟩, ?_⟩; omega; omega; conv => whnf)
          | (refine ⟨⟨?_, ?_, ?_⟩, ?_⟩; rfl; omega; omega; conv => whnf)
          | (refine ⟨rfl, ?_, ?_⟩; decide; conv => whnf))
        try exact rfl
        exact vb (by simp; omega)
      · repeat (first
          | (refine sel_yes ?_ ?_; (first | assumption | (simp only [beq_iff_eq, bne_iff_ne, beq_eq_false_iff_ne, bne_eq_false_iff_eq, decide_eq_true_eq, decide_eq_false_iff_not, Bool.not_eq_true', Bool.not_eq_false', ne_eq, beq_true, beq_false, bne_self_eq_false, not_true_eq_false, not_false_eq_true, gt_iff_lt, ge_iff_le, Int.not_lt, Int.not_le, Bool.true_eq_false, Bool.false_eq_true] <;> omega)); conv => whnf)
          | (refine sel_no ?_ ?_; (first | assumption | (simp only [beq_iff_eq, bne_iff_ne, beq_eq_false_iff_ne, bne_eq_false_iff_eq, decide_eq_true_eq, decide_eq_false_iff_not, Bool.not_eq_true', Bool.not_eq_false', ne_eq, beq_true, beq_false, bne_self_eq_false, not_true_eq_false, not_false_eq_true, gt_iff_lt, ge_iff_le, Int.not_lt, Int.not_le, Bool.true_eq_false, Bool.false_eq_true] <;> omega)); conv => whnf)
          | (refine ⟨le_rfl' ?_, ?_⟩; rfl; conv => whnf)
          | (refine ⟨⟨?_, ?_⟩, ?_⟩; omega; omega; conv => whnf)
          | (refine ⟨⟨?_, ?_, ?_⟩, ?_⟩; rfl; omega; omega; conv => whnf)
          | (refine ⟨rfl, ?_, ?_⟩; decide; conv => whnf))
        try exact rfl
        exact vb (by simp; omega)
    · repeat (first
        | (refine sel_yes ?_ ?_; (first | assumption | (simp only [beq_iff_eq, bne_iff_ne, beq_eq_false_iff_ne, bne_eq_false_iff_eq, decide_eq_true_eq, decide_eq_false_iff_not, Bool.not_eq_true', Bool.not_eq_false', ne_eq, beq_true, beq_false, bne_self_eq_false, not_true_eq_false, not_false_eq_true, gt_iff_lt, ge_iff_le, Int.not_lt, Int.not_le, Bool.true_eq_false, Bool.false_eq_true] <;> omega)); conv => whnf)
        | (refine sel_no ?_ ?_; (first | assumption | (simp only [beq_iff_eq, bne_iff_ne, beq_eq_false_iff_ne, bne_eq_false_iff_eq, decide_eq_true_eq, decide_eq_false_iff_not, Bool.not_eq_true', Bool.not_eq_false', ne_eq, beq_true, beq_false, bne_self_eq_false, not_true_eq_false, not_false_eq_true, gt_iff_lt, ge_iff_le, Int.not_lt, Int.not_le, Bool.true_eq_false, Bool.false_eq_true] <;> omega)); conv => whnf)
        | (refine ⟨le_rfl' ?_, ?_⟩; rfl; conv => whnf)
        | (refine ⟨⟨?_, ?_⟩, ?_⟩; omega; omega; conv => whnf)
        | (refine ⟨⟨?_, ?_, ?_⟩, ?_⟩; rfl; omega; omega; conv => whnf)
        | (refine ⟨rfl, ?_, ?_⟩; decide; conv => whnf))
      try exact rfl
      exact vb (by simp; omega)
  obtain ⟨r, h, rfl⟩ := key
  exact h
end
end Go.Proofs.YtehajklneljbgaaGreatDoor.AB
end

section
set_option linter.unusedVariables false
set_option linter.unusedSimpArgs false
open Go Go.Ab Go.Proofs Go.Vl
namespace Go.Proofs.YtehajklneljbgaaGreatDoor.AB
set_option maxRecDepth 100000
set_option maxHeartbeats 8000000
set_option linter.unusedSimpArgs false
section
variable {ext : Exts}
/-- how many parts a right value has -/
theorem rparts (hn : Non ext) (v : T) (hw : WfV v) (ho : okB v = true) : (cfg ext).Ev 53 [A v] (.tup [.int .i64 (partsV v), .int .i64 0]) := by
  have h := rfits hn v hw 16 1024 (by decide) (by decide) (by decide) (by decide)
  have hO := okB_iff.1 ho
  rw [fitZ_yes ⟨hO.1, by have := hO.2.1; omega, by have := hO.2.2; omega⟩] at h
  have key : ∃ r, (cfg ext).Ev 53 [A v] r ∧ r = (.tup [.int .i64 (partsV v), .int .i64 0]) := by
    refine Ev.ofE (hn 53 (by decide) (by decide)) Tryz.func53 rfl rfl ?_
    conv => whnf
    repeat (first
      | (refine sel_yes ?_ ?_; (first | assumption | (simp only [beq_iff_eq, bne_iff_ne, beq_eq_false_iff_ne, bne_eq_false_iff_eq, decide_eq_true_eq, decide_eq_false_iff_not, Bool.not_eq_true', Bool.not_eq_false', ne_eq, beq_true, beq_false, bne_self_eq_false, not_true_eq_false, not_false_eq_true, gt_iff_lt, ge_iff_le, Int.not_lt, Int.not_le, Bool.true_eq_false, Bool.false_eq_true] <;> omega)); conv => whnf)
      | (refine sel_no ?_ ?_; (first | assumption | (simp only [beq_iff_eq, bne_iff_ne, beq_eq_false_iff_ne, bne_eq_false_iff_eq, decide_eq_true_eq, decide_eq_false_iff_not, Bool.not_eq_true', Bool.not_eq_false', ne_eq, beq_true, beq_false, bne_self_eq_false, not_true_eq_false, not_false_eq_true, gt_iff_lt, ge_iff_le, Int.not_lt, Int.not_le, Bool.true_eq_false, Bool.false_eq_true] <;> omega)); conv => whnf)
      | (refine ⟨_, h, ?_⟩; conv => whnf)
      | (refine ⟨le_rfl' ?_, ?_⟩; rfl; conv => whnf)
      | (refine ⟨⟨?_, ?_⟩, ?_⟩; omega; omega; conv => whnf)
      | (refine ⟨⟨?_, ?_, ?_⟩, ?_⟩; rfl; omega; omega; conv => whnf)
      | (refine ⟨rfl, ?_, ?_⟩; decide; conv => whnf))
    try exact rfl
  obtain ⟨r, h, rfl⟩ := key
  exact h
theorem u64s {x : Int} (h0 : 0 ≤ x) (h1 : x < 18446744073709551616) : IntKind.u64.wrap x = x := by rw [IntKind.wrap_u64]; omega
/-- what an order asks ahead of natural order -/
noncomputable def firstZ (ext : Exts) (o : Int) (a b : T) : Int :=
  if o = 2 then cmpI (hZ ext a) (hZ ext b) else if o = 3 then cmpI (partsV a) (partsV b)
  else if o = 4 then (if a.f0 = 3 ∧ b.f0 = 3 then cmpI (lettersZ a.f2) (lettersZ b.f2) else 0)
  else 0
theorem rfirst2 (hn : Non ext) (a b : T) (ha : WfV a) (hb : WfV b) (oa : okB a = true) (ob : okB b = true) : (cfg ext).Ev 43 [.int .i64 2, A a, A b] (.int .i64 (firstZ ext 2 a b)) := by
  have h1 := whole hn a (okB_iff.1 oa).1 (okB_iff.1 oa).2.2
  have h2 := whole hn b (okB_iff.1 ob).1 (okB_iff.1 ob).2.2
  have g1 := h1.2.1
  have g2 := h2.2.1
  have u1 := h1.2.2
  have u2 := h2.2.2
  unfold U32 at u1 u2
  have l := rless hn (IntKind.u64.wrap (hZ ext a)) (IntKind.u64.wrap (hZ ext b))
  have es : signI (IntKind.u64.wrap (hZ ext a)) (IntKind.u64.wrap (hZ ext b)) = signI (hZ ext a) (hZ ext b) := by rw [u64s u1.1 (by omega), u64s u2.1 (by omega)]
  rw [es] at l
  have e : firstZ ext 2 a b = signI (hZ ext a) (hZ ext b) := by unfold firstZ; rw [if_pos rfl]; rfl
  rw [e]
  have key : ∃ r, (cfg ext).Ev 43 [.int .i64 2, A a, A b] r ∧ r = .int .i64 (signI (hZ ext a) (hZ ext b)) := by
    refine Ev.ofE (hn 43 (by decide) (by decide)) Tryz.func43 rfl rfl ?_
    conv => whnf
    refine ⟨_, g1, ?_⟩
    conv => whnf
    refine ⟨_, g2, ?_⟩
    conv => whnf
    refine ⟨_, l, ?_⟩
    conv => whnf
    try exact rfl
  obtain ⟨r, h, rfl⟩ := key
  exact h
theorem rfirst3 (hn : Non ext) (a b : T) (ha : WfV a) (hb : WfV b) (oa : okB a = true) (ob : okB b = true) : (cfg ext).Ev 43 [.int .i64 3, A a, A b] (.int .i64 (firstZ ext 3 a b)) := by
  have g1 := rparts hn a ha oa
  have g2 := rparts hn b hb ob
  have p1 := (okB_iff.1 oa).2.2
  have p2 := (okB_iff.1 ob).2.2
  have l := rless hn (IntKind.u64.wrap (partsV a)) (IntKind.u64.wrap (partsV b))
  have es : signI (IntKind.u64.wrap (partsV a)) (IntKind.u64.wrap (partsV b)) = signI (partsV a) (partsV b) := by rw [u64s (x := (partsV a : Int)) (by omega) (by omega), u64s (x := (partsV b : Int)) (by omega) (by omega)]
  rw [es] at l
  have e : firstZ ext 3 a b = signI (partsV a) (partsV b) := by unfold firstZ; rw [if_neg (by decide), if_pos rfl]; rfl
  rw [e]
  have key : ∃ r, (cfg ext).Ev 43 [.int .i64 3, A a, A b] r ∧ r = .int .i64 (signI (partsV a) (partsV b)) := by
    refine Ev.ofE (hn 43 (by decide) (by decide)) Tryz.func43 rfl rfl ?_
    conv => whnf
    refine ⟨_, g1, ?_⟩
    conv => whnf
    refine ⟨_, g2, ?_⟩
    conv => whnf
    refine ⟨_, l, ?_⟩
    conv => whnf
    try exact rfl
  obtain ⟨r, h, rfl⟩ := key
  exact h
end
end Go.Proofs.YtehajklneljbgaaGreatDoor.AB
end

section
set_option linter.unusedVariables false
set_option linter.unusedSimpArgs false
open Go Go.Ab Go.Proofs Go.Vl
namespace Go.Proofs.YtehajklneljbgaaGreatDoor.AB
set_option maxRecDepth 100000
set_option maxHeartbeats 8000000
set_option linter.unusedSimpArgs false
section
variable {ext : Exts}
theorem runesF_le (s : ByteArray) : ∀ (f p : Nat), runesF s f p ≤ f
  | 0, _ => Nat.le_refl _
  | f + 1, p => by
    simp only [runesF]
    split
    · have := runesF_le s f (p + (Utf8.decode s p).2); omega
    · omega
theorem rfirst0 (hn : Non ext) (o : Int) (a b : T) (ho : o = 0 ∨ o = 1) : (cfg ext).Ev 43 [.int .i64 o, A a, A b] (.int .i64 0) := by
  have key : ∃ r, (cfg ext).Ev 43 [.int .i64 o, A a, A b] r ∧ r = .int .i64 0 := by
    refine Ev.ofE (hn 43 (by decide) (by decide)) Tryz.func43 rfl rfl ?_
    conv => whnf
    repeat (first
      | (refine sel_yes ?_ ?_; (first | assumption | (simp only [beq_iff_eq, bne_iff_ne, beq_eq_false_iff_ne, bne_eq_false_iff_eq, decide_eq_true_eq, decide_eq_false_iff_not, Bool.not_eq_true', Bool.not_eq_false', ne_eq, beq_true, beq_false, bne_self_eq_false, not_true_eq_false, not_false_eq_true, gt_iff_lt, ge_iff_le, Int.not_lt, Int.not_le, Bool.true_eq_false, Bool.false_eq_true] <;> omega)); conv => whnf)
      | (refine sel_no ?_ ?_; (first | assumption | (simp only [beq_iff_eq, bne_iff_ne, beq_eq_false_iff_ne, bne_eq_false_iff_eq, decide_eq_true_eq, decide_eq_false_iff_not, Bool.not_eq_true', Bool.not_eq_false', ne_eq, beq_true, beq_false, bne_self_eq_false, not_true_eq_false, not_false_eq_true, gt_iff_lt, ge_iff_le, Int.not_lt, Int.not_le, Bool.true_eq_false, Bool.false_eq_true] <;> omega)); conv => whnf)
      | (refine ⟨le_rfl' ?_, ?_⟩; rfl; conv => whnf)
      | (refine ⟨⟨?_, ?_⟩, ?_⟩; omega; omega; conv => whnf)
      | (refine ⟨⟨?_, ?_, ?_⟩, ?_⟩; rfl; omega; omega; conv => whnf)
      | (refine ⟨rfl, ?_, ?_⟩; decide; conv => whnf))
    try exact rfl
  obtain ⟨r, h, rfl⟩ := key
  exact h
theorem rfirst4 (hn : Non ext) (a b : T) (h3 : a.f0 = 3) (g3 : b.f0 = 3) (pa : utfB a.f2 = true) (pb : utfB b.f2 = true) (za : a.f2.size ≤ 256) (zb : b.f2.size ≤ 256) : (cfg ext).Ev 43 [.int .i64 4, A a, A b] (.int .i64 (cmpI (runesF a.f2 a.f2.size 0 : Nat) (runesF b.f2 b.f2.size 0 : Nat))) := by
  have g1 := rletters hn a.f2 (by omega)
  have g2 := rletters hn b.f2 (by omega)
  have ba := runesF_le a.f2 a.f2.size 0
  have bb := runesF_le b.f2 b.f2.size 0
  rw [letters_runes _ pa] at g1
  rw [letters_runes _ pb] at g2
  generalize runesF a.f2 a.f2.size 0 = x at g1 ba
  generalize runesF b.f2 b.f2.size 0 = y at g2 bb
  have l := rless hn (IntKind.u64.wrap x) (IntKind.u64.wrap y)
  have es : signI (IntKind.u64.wrap x) (IntKind.u64.wrap y) = cmpI x y := by rw [u64s (x := (x : Int)) (by omega) (by omega), u64s (x := (y : Int)) (by omega) (by omega)]; rfl
  rw [es] at l
  have t1 : (a.f0 == 3) = true := by rw [h3]; rfl
  have t2 : (b.f0 == 3) = true := by rw [g3]; rfl
  have key : ∃ r, (cfg ext).Ev 43 [.int .i64 4, A a, A b] r ∧ r = .int .i64 (cmpI x y) := by
    refine Ev.ofE (hn 43 (by decide) (by decide)) Tryz.func43 rfl rfl ?_
    conv => whnf
    repeat (first
      | (refine sel_yes ?_ ?_; (first | assumption | (simp only [beq_iff_eq, bne_iff_ne, beq_eq_false_iff_ne, bne_eq_false_iff_eq, decide_eq_true_eq, decide_eq_false_iff_not, Bool.not_eq_true', Bool.not_eq_false', ne_eq, beq_true, beq_false, bne_self_eq_false, not_true_eq_false, not_false_eq_true, gt_iff_lt, ge_iff_le, Int.not_lt, Int.not_le, Bool.true_eq_false, Bool.false_eq_true] <;> omega)); conv => whnf)
      | (refine sel_no ?_ ?_; (first | assumption | (simp only [beq_iff_eq, bne_iff_ne, beq_eq_false_iff_ne, bne_eq_false_iff_eq, decide_eq_true_eq, decide_eq_false_iff_not, Bool.not_eq_true', Bool.not_eq_false', ne_eq, beq_true, beq_false, bne_self_eq_false, not_true_eq_false, not_false_eq_true, gt_iff_lt, ge_iff_le, Int.not_lt, Int.not_le, Bool.true_eq_false, Bool.false_eq_true] <;> omega)); conv => whnf)
      | (refine ⟨_, g1, ?_⟩; conv => whnf)
      | (refine ⟨_, g2, ?_⟩; conv => whnf)
      | (refine ⟨_, l, ?_⟩; conv => whnf)
      | (refine ⟨le_rfl' ?_, ?_⟩; rfl; conv => whnf)
      | (refine ⟨⟨?_, ?_⟩, ?_⟩; omega; omega; conv => whnf)
      | (refine ⟨⟨?_, ?_, ?_⟩, ?_⟩; rfl; omega; omega; conv => whnf)
      | (refine ⟨rfl, ?_, ?_⟩; decide; conv => whnf))
    try exact rfl
  obtain ⟨r, h, rfl⟩ := key
  exact h
theorem rfirst4n (hn : Non ext) (a b : T) (h3 : ¬ (a.f0 = 3 ∧ b.f0 = 3)) : (cfg ext).Ev 43 [.int .i64 4, A a, A b] (.int .i64 0) := by
  have key : ∃ r, (cfg ext).Ev 43 [.int .i64 4, A a, A b] r ∧ r = .int .i64 0 := by
    refine Ev.ofE (hn 43 (by decide) (by decide)) Tryz.func43 rfl rfl ?_
    conv => whnf
    by_cases h1 : a.f0 = 3
    · have h2 : b.f0 ≠ 3 := fun h => h3 ⟨h1, h⟩
      repeat (first
        | (refine sel_yes ?_ ?_; (first | assumption | (simp only [beq_iff_eq, bne_iff_ne, beq_eq_false_iff_ne, bne_eq_false_iff_eq, decide_eq_true_eq, decide_eq_false_iff_not, Bool.not_eq_true', Bool.not_eq_false', ne_eq, beq_true, beq_false, bne_self_eq_false, not_true_eq_false, not_false_eq_true, gt_iff_lt, ge_iff_le, Int.not_lt, Int.not_le, Bool.true_eq_false, Bool.false_eq_true] <;> omega)); conv => whnf)
        | (refine sel_no ?_ ?_; (first | assumption | (simp only [beq_iff_eq, bne_iff_ne, beq_eq_false_iff_ne, bne_eq_false_iff_eq, decide_eq_true_eq, decide_eq_false_iff_not, Bool.not_eq_true', Bool.not_eq_false', ne_eq, beq_true, beq_false, bne_self_eq_false, not_true_eq_false, not_false_eq_true, gt_iff_lt, ge_iff_le, Int.not_lt, Int.not_le, Bool.true_eq_false, Bool.false_eq_true] <;> omega)); conv => whnf)
        | (refine ⟨le_rfl' ?_, ?_⟩; rfl; conv => whnf)
        | (refine ⟨⟨?_, ?_⟩, ?_⟩; omega; omega; conv => whnf)
        | (refine ⟨⟨?_, ?_, ?_⟩, ?_⟩; rfl; omega; omega; conv => whnf)
        | (refine ⟨rfl, ?_, ?_⟩; decide; conv => whnf))
      try exact rfl
    · repeat (first
        | (refine sel_yes ?_ ?_; (first | assumption | (simp only [beq_iff_eq, bne_iff_ne, beq_eq_false_iff_ne, bne_eq_false_iff_eq, decide_eq_true_eq, decide_eq_false_iff_not, Bool.not_eq_true', Bool.not_eq_false', ne_eq, beq_true, beq_false, bne_self_eq_false, not_true_eq_false, not_false_eq_true, gt_iff_lt, ge_iff_le, Int.not_lt, Int.not_le, Bool.true_eq_false, Bool.false_eq_true] <;> omega)); conv => whnf)
        | (refine sel_no ?_ ?_; (first | assumption | (simp only [beq_iff_eq, bne_iff_ne, beq_eq_false_iff_ne, bne_eq_false_iff_eq, decide_eq_true_eq, decide_eq_false_iff_not, Bool.not_eq_true', Bool.not_eq_false', ne_eq, beq_true, beq_false, bne_self_eq_false, not_true_eq_false, not_false_eq_true, gt_iff_lt, ge_iff_le, Int.not_lt, Int.not_le, Bool.true_eq_false, Bool.false_eq_true] <;> omega)); conv => whnf)
        | (refine ⟨le_rfl' ?_, ?_⟩; rfl; conv => whnf)
        | (refine ⟨⟨?_, ?_⟩, ?_⟩; omega; omega; conv => whnf)
        | (refine ⟨⟨?_, ?_, ?_⟩, ?_⟩; rfl; omega; omega; conv => whnf)
        | (refine ⟨rfl, ?_, ?_⟩; decide; conv => whnf))
      try exact rfl
  obtain ⟨r, h, rfl⟩ := key
  exact h
end
end Go.Proofs.YtehajklneljbgaaGreatDoor.AB
end

section
set_option linter.unusedVariables false
set_option linter.unusedSimpArgs false
open Go Go.Ab Go.Proofs Go.Vl
namespace Go.Proofs.YtehajklneljbgaaGreatDoor.AB
set_option maxRecDepth 100000
set_option maxHeartbeats 8000000
set_option linter.unusedSimpArgs false
section
variable {ext : Exts}
theorem rfar (hn : Non ext) (n : Int) : (cfg ext).Ev 55 [.int .i64 n] (.int .u64 (awy n)) := by
  have key : ∃ r, (cfg ext).Ev 55 [.int .i64 n] r ∧ r = .int .u64 (awy n) := by
    refine Ev.ofE (hn 55 (by decide) (by decide)) Tryz.func55 rfl rfl ?_
    conv => whnf
    by_cases h : n < 0
    · repeat (first
        | (refine sel_yes ?_ ?_; (first | assumption | (simp only [beq_iff_eq, bne_iff_ne, beq_eq_false_iff_ne, bne_eq_false_iff_eq, decide_eq_true_eq, decide_eq_false_iff_not, Bool.not_eq_true', Bool.not_eq_false', ne_eq, beq_true, beq_false, bne_self_eq_false, not_true_eq_false, not_false_eq_true, gt_iff_lt, ge_iff_le, Int.not_lt, Int.not_le, Bool.true_eq_false, Bool.false_eq_true] <;> omega)); conv => whnf)
        | (refine sel_no ?_ ?_; (first | assumption | (simp only [beq_iff_eq, bne_iff_ne, beq_eq_false_iff_ne, bne_eq_false_iff_eq, decide_eq_true_eq, decide_eq_false_iff_not, Bool.not_eq_true', Bool.not_eq_false', ne_eq, beq_true, beq_false, bne_self_eq_false, not_true_eq_false, not_false_eq_true, gt_iff_lt, ge_iff_le, Int.not_lt, Int.not_le, Bool.true_eq_false, Bool.false_eq_true] <;> omega)); conv => whnf)
        | (refine ⟨le_rfl' ?_, ?_⟩; rfl; conv => whnf)
        | (refine ⟨⟨?_, ?_⟩, ?_⟩; omega; omega; conv => whnf)
        | (refine ⟨⟨?_, ?_, ?_⟩, ?_⟩; rfl; omega; omega; conv => whnf)
        | (refine ⟨rfl, ?_, ?_⟩; decide; conv => whnf))
      try exact rfl
      try exact vi (by unfold awy; rw [if_pos h])
    · repeat (first
        | (refine sel_yes ?_ ?_; (first | assumption | (simp only [beq_iff_eq, bne_iff_ne, beq_eq_false_iff_ne, bne_eq_false_iff_eq, decide_eq_true_eq, decide_eq_false_iff_not, Bool.not_eq_true', Bool.not_eq_false', ne_eq, beq_true, beq_false, bne_self_eq_false, not_true_eq_false, not_false_eq_true, gt_iff_lt, ge_iff_le, Int.not_lt, Int.not_le, Bool.true_eq_false, Bool.false_eq_true] <;> omega)); conv => whnf)
        | (refine sel_no ?_ ?_; (first | assumption | (simp only [beq_iff_eq, bne_iff_ne, beq_eq_false_iff_ne, bne_eq_false_iff_eq, decide_eq_true_eq, decide_eq_false_iff_not, Bool.not_eq_true', Bool.not_eq_false', ne_eq, beq_true, beq_false, bne_self_eq_false, not_true_eq_false, not_false_eq_true, gt_iff_lt, ge_iff_le, Int.not_lt, Int.not_le, Bool.true_eq_false, Bool.false_eq_true] <;> omega)); conv => whnf)
        | (refine ⟨le_rfl' ?_, ?_⟩; rfl; conv => whnf)
        | (refine ⟨⟨?_, ?_⟩, ?_⟩; omega; omega; conv => whnf)
        | (refine ⟨⟨?_, ?_, ?_⟩, ?_⟩; rfl; omega; omega; conv => whnf)
        | (refine ⟨rfl, ?_, ?_⟩; decide; conv => whnf))
      try exact rfl
      try exact vi (by unfold awy; rw [if_neg h])
  obtain ⟨r, h, rfl⟩ := key
  exact h
theorem rfirst5 (hn : Non ext) (a b : T) (h3 : a.f0 = 2) (g3 : b.f0 = 2) : (cfg ext).Ev 43 [.int .i64 5, A a, A b] (.int .i64 (cmpI (awy a.f1) (awy b.f1))) := by
  have g1 := rfar hn a.f1
  have g2 := rfar hn b.f1
  have l := rless hn (awy a.f1) (awy b.f1)
  have t1 : (a.f0 == 2) = true := by rw [h3]; rfl
  have t2 : (b.f0 == 2) = true := by rw [g3]; rfl
  have key : ∃ r, (cfg ext).Ev 43 [.int .i64 5, A a, A b] r ∧ r = .int .i64 (cmpI (awy a.f1) (awy b.f1)) := by
    refine Ev.ofE (hn 43 (by decide) (by decide)) Tryz.func43 rfl rfl ?_
    conv => whnf
    repeat (first
      | (refine sel_yes ?_ ?_; (first | assumption | (simp only [beq_iff_eq, bne_iff_ne, beq_eq_false_iff_ne, bne_eq_false_iff_eq, decide_eq_true_eq, decide_eq_false_iff_not, Bool.not_eq_true', Bool.not_eq_false', ne_eq, beq_true, beq_false, bne_self_eq_false, not_true_eq_false, not_false_eq_true, gt_iff_lt, ge_iff_le, Int.not_lt, Int.not_le, Bool.true_eq_false, Bool.false_eq_true] <;> omega)); conv => whnf)
      | (refine sel_no ?_ ?_; (first | assumption | (simp only [beq_iff_eq, bne_iff_ne, beq_eq_false_iff_ne, bne_eq_false_iff_eq, decide_eq_true_eq, decide_eq_false_iff_not, Bool.not_eq_true', Bool.not_eq_false', ne_eq, beq_true, beq_false, bne_self_eq_false, not_true_eq_false, not_false_eq_true, gt_iff_lt, ge_iff_le, Int.not_lt, Int.not_le, Bool.true_eq_false, Bool.false_eq_true] <;> omega)); conv => whnf)
      | (refine ⟨_, g1, ?_⟩; conv => whnf)
      | (refine ⟨_, g2, ?_⟩; conv => whnf)
      | (refine ⟨_, l, ?_⟩; conv => whnf)
      | (refine ⟨le_rfl' ?_, ?_⟩; rfl; conv => whnf)
      | (refine ⟨⟨?_, ?_⟩, ?_⟩; omega; omega; conv => whnf)
      | (refine ⟨⟨?_, ?_, ?_⟩, ?_⟩; rfl; omega; omega; conv => whnf)
      | (refine ⟨rfl, ?_, ?_⟩; decide; conv => whnf))
    try exact rfl
  obtain ⟨r, h, rfl⟩ := key
  exact h
theorem rfirst5n (hn : Non ext) (a b : T) (h3 : ¬ (a.f0 = 2 ∧ b.f0 = 2)) : (cfg ext).Ev 43 [.int .i64 5, A a, A b] (.int .i64 0) := by
  have key : ∃ r, (cfg ext).Ev 43 [.int .i64 5, A a, A b] r ∧ r = .int .i64 0 := by
    refine Ev.ofE (hn 43 (by decide) (by decide)) Tryz.func43 rfl rfl ?_
    conv => whnf
    by_cases h1 : a.f0 = 2
    · have h2 : b.f0 ≠ 2 := fun h => h3 ⟨h1, h⟩
      repeat (first
        | (refine sel_yes ?_ ?_; (first | assumption | (simp only [beq_iff_eq, bne_iff_ne, beq_eq_false_iff_ne, bne_eq_false_iff_eq, decide_eq_true_eq, decide_eq_false_iff_not, Bool.not_eq_true', Bool.not_eq_false', ne_eq, beq_true, beq_false, bne_self_eq_false, not_true_eq_false, not_false_eq_true, gt_iff_lt, ge_iff_le, Int.not_lt, Int.not_le, Bool.true_eq_false, Bool.false_eq_true] <;> omega)); conv => whnf)
        | (refine sel_no ?_ ?_; (first | assumption | (simp only [beq_iff_eq, bne_iff_ne, beq_eq_false_iff_ne, bne_eq_false_iff_eq, decide_eq_true_eq, decide_eq_false_iff_not, Bool.not_eq_true', Bool.not_eq_false', ne_eq, beq_true, beq_false, bne_self_eq_false, not_true_eq_false, not_false_eq_true, gt_iff_lt, ge_iff_le, Int.not_lt, Int.not_le, Bool.true_eq_false, Bool.false_eq_true] <;> omega)); conv => whnf)
        | (refine ⟨le_rfl' ?_, ?_⟩; rfl; conv => whnf)
        | (refine ⟨⟨?_, ?_⟩, ?_⟩; omega; omega; conv => whnf)
        | (refine ⟨⟨?_, ?_, ?_⟩, ?_⟩; rfl; omega; omega; conv => whnf)
        | (refine ⟨rfl, ?_, ?_⟩; decide; conv => whnf))
      try exact rfl
    · repeat (first
        | (refine sel_yes ?_ ?_; (first | assumption | (simp only [beq_iff_eq, bne_iff_ne, beq_eq_false_iff_ne, bne_eq_false_iff_eq, decide_eq_true_eq, decide_eq_false_iff_not, Bool.not_eq_true', Bool.not_eq_false', ne_eq, beq_true, beq_false, bne_self_eq_false, not_true_eq_false, not_false_eq_true, gt_iff_lt, ge_iff_le, Int.not_lt, Int.not_le, Bool.true_eq_false, Bool.false_eq_true] <;> omega)); conv => whnf)
        | (refine sel_no ?_ ?_; (first | assumption | (simp only [beq_iff_eq, bne_iff_ne, beq_eq_false_iff_ne, bne_eq_false_iff_eq, decide_eq_true_eq, decide_eq_false_iff_not, Bool.not_eq_true', Bool.not_eq_false', ne_eq, beq_true, beq_false, bne_self_eq_false, not_true_eq_false, not_false_eq_true, gt_iff_lt, ge_iff_le, Int.not_lt, Int.not_le, Bool.true_eq_false, Bool.false_eq_true] <;> omega)); conv => whnf)
        | (refine ⟨le_rfl' ?_, ?_⟩; rfl; conv => whnf)
        | (refine ⟨⟨?_, ?_⟩, ?_⟩; omega; omega; conv => whnf)
        | (refine ⟨⟨?_, ?_, ?_⟩, ?_⟩; rfl; omega; omega; conv => whnf)
        | (refine ⟨rfl, ?_, ?_⟩; decide; conv => whnf))
      try exact rfl
  obtain ⟨r, h, rfl⟩ := key
  exact h
/-- what the reference says of two values by an order, when it says c ahead of natural order -/
theorem rordered (hn : Non ext) (o : Int) (a b : T) (ha : WfV a) (hb : WfV b) (c : Int) (hc : (cfg ext).Ev 43 [.int .i64 o, A a, A b] (.int .i64 c)) (h1 : c = -1 ∨ c = 0 ∨ c = 1) :
    (cfg ext).Ev 25 [.int .i64 o, A a, A b] (.int .i64 (if o = 1 then -(if c = 0 then cmpV a b else c) else if c = 0 then cmpV a b else c)) := by
  have g := rcmp hn a ha b
  have one := cmpV_one a b
  have key : ∃ r, (cfg ext).Ev 25 [.int .i64 o, A a, A b] r ∧ r = .int .i64 (if o = 1 then -(if c = 0 then cmpV a b else c) else if c = 0 then cmpV a b else c) := by
    refine Ev.ofE (hn 25 (by decide) (by decide)) Tryz.func25 rfl rfl ?_
    conv => whnf
    refine ⟨_, hc, ?_⟩
    conv => whnf
    by_cases c0 : c = 0
    · by_cases o1 : o = 1
      · repeat (first
          | (refine sel_yes ?_ ?_; (first | assumption | (simp only [beq_iff_eq, bne_iff_ne, beq_eq_false_iff_ne, bne_eq_false_iff_eq, decide_eq_true_eq, decide_eq_false_iff_not, Bool.not_eq_true', Bool.not_eq_false', ne_eq, beq_true, beq_false, bne_self_eq_false, not_true_eq_false, not_false_eq_true, gt_iff_lt, ge_iff_le, Int.not_lt, Int.not_le, Bool.true_eq_false, Bool.false_eq_true] <;> omega)); conv => whnf)
          | (refine sel_no ?_ ?_; (first | assumption | (simp only [beq_iff_eq, bne_iff_ne, beq_eq_false_iff_ne, bne_eq_false_iff_eq, decide_eq_true_eq, decide_eq_false_iff_not, Bool.not_eq_true', Bool.not_eq_false', ne_eq, beq_true, beq_false, bne_self_eq_false, not_true_eq_false, not_false_eq_true, gt_iff_lt, ge_iff_le, Int.not_lt, Int.not_le, Bool.true_eq_false, Bool.false_eq_true] <;> omega)); conv => whnf)
          | (refine ⟨_, g, ?_⟩; conv => whnf)
          | (refine ⟨le_rfl' ?_, ?_⟩; rfl; conv => whnf)
          | (refine ⟨⟨?_, ?_⟩, ?_⟩; omega; omega; conv => whnf)
          | (refine ⟨⟨?_, ?_, ?_⟩, ?_⟩; rfl; omega; omega; conv => whnf)
          | (refine ⟨rfl, ?_, ?_⟩; decide; conv => whnf))
        try exact rfl
        exact vi (by rw [if_pos o1, if_pos c0]; show IntKind.i64.wrap _ = _; rw [IntKind.wrap_i64]; unfold Go.Vl.One at one; omega)
      · repeat (first
          | (refine sel_yes ?_ ?_; (first | assumption | (simp only [beq_iff_eq, bne_iff_ne, beq_eq_false_iff_ne, bne_eq_false_iff_eq, decide_eq_true_eq, decide_eq_false_iff_not, Bool.not_eq_true', Bool.not_eq_false', ne_eq, beq_true, beq_false, bne_self_eq_false, not_true_eq_false, not_false_eq_true, gt_iff_lt, ge_iff_le, Int.not_lt, Int.not_le, Bool.true_eq_false, Bool.false_eq_true] <;> omega)); conv => whnf)
          | (refine sel_no ?_ ?_; (first | assumption | (simp only [beq_iff_eq, bne_iff_ne, beq_eq_false_iff_ne, bne_eq_false_iff_eq, decide_eq_true_eq, decide_eq_false_iff_not, Bool.not_eq_true', Bool.not_eq_false', ne_eq, beq_true, beq_false, bne_self_eq_false, not_true_eq_false, not_false_eq_true, gt_iff_lt, ge_iff_le, Int.not_lt, Int.not_le, Bool.true_eq_false, Bool.false_eq_true] <;> omega)); conv => whnf)
          | (refine ⟨_, g, ?_⟩; conv => whnf)
          | (refine ⟨le_rfl' ?_, ?_⟩; rfl; conv => whnf)
          | (refine ⟨⟨?_, ?_⟩, ?_⟩; omega; omega; conv => whnf)
          | (refine ⟨⟨?_, ?_, ?_⟩, ?_⟩; rfl; omega; omega; conv => whnf)
          | (refine ⟨rfl, ?_, ?_⟩; decide; conv => whnf))
        try exact rfl
        exact vi (by rw [if_neg o1, if_pos c0])
    · by_cases o1 : o = 1
      · repeat (first
          | (refine sel_yes ?_ ?_; (first | assumption | (simp only [beq_iff_eq, bne_iff_ne, beq_eq_false_iff_ne, bne_eq_false_iff_eq, decide_eq_true_eq, decide_eq_false_iff_not, Bool.not_eq_true', Bool.not_eq_false', ne_eq, beq_true, beq_false, bne_self_eq_false, not_true_eq_false, not_false_eq_true, gt_iff_lt, ge_iff_le, Int.not_lt, Int.not_le, Bool.true_eq_false, Bool.false_eq_true] <;> omega)); conv => whnf)
          | (refine sel_no ?_ ?_; (first | assumption | (simp only [beq_iff_eq, bne_iff_ne, beq_eq_false_iff_ne, bne_eq_false_iff_eq, decide_eq_true_eq, decide_eq_false_iff_not, Bool.not_eq_true', Bool.not_eq_false', ne_eq, beq_true, beq_false, bne_self_eq_false, not_true_eq_false, not_false_eq_true, gt_iff_lt, ge_iff_le, Int.not_lt, Int.not_le, Bool.true_eq_false, Bool.false_eq_true] <;> omega)); conv => whnf)
          | (refine ⟨_, g, ?_⟩; conv => whnf)
          | (refine ⟨le_rfl' ?_, ?_⟩; rfl; conv => whnf)
          | (refine ⟨⟨?_, ?_⟩, ?_⟩; omega; omega; conv => whnf)
          | (refine ⟨⟨?_, ?_, ?_⟩, ?_⟩; rfl; omega; omega; conv => whnf)
          | (refine ⟨rfl, ?_, ?_⟩; decide; conv => whnf))
        try exact rfl
        exact vi (by rw [if_pos o1, if_neg c0]; show IntKind.i64.wrap _ = _; rw [IntKind.wrap_i64]; omega)
      · repeat (first
          | (refine sel_yes ?_ ?_; (first | assumption | (simp only [beq_iff_eq, bne_iff_ne, beq_eq_false_iff_ne, bne_eq_false_iff_eq, decide_eq_true_eq, decide_eq_false_iff_not, Bool.not_eq_true', Bool.not_eq_false', ne_eq, beq_true, beq_false, bne_self_eq_false, not_true_eq_false, not_false_eq_true, gt_iff_lt, ge_iff_le, Int.not_lt, Int.not_le, Bool.true_eq_false, Bool.false_eq_true] <;> omega)); conv => whnf)
          | (refine sel_no ?_ ?_; (first | assumption | (simp only [beq_iff_eq, bne_iff_ne, beq_eq_false_iff_ne, bne_eq_false_iff_eq, decide_eq_true_eq, decide_eq_false_iff_not, Bool.not_eq_true', Bool.not_eq_false', ne_eq, beq_true, beq_false, bne_self_eq_false, not_true_eq_false, not_false_eq_true, gt_iff_lt, ge_iff_le, Int.not_lt, Int.not_le, Bool.true_eq_false, Bool.false_eq_true] <;> omega)); conv => whnf)
          | (refine ⟨_, g, ?_⟩; conv => whnf)
          | (refine ⟨le_rfl' ?_, ?_⟩; rfl; conv => whnf)
          | (refine ⟨⟨?_, ?_⟩, ?_⟩; omega; omega; conv => whnf)
          | (refine ⟨⟨?_, ?_, ?_⟩, ?_⟩; rfl; omega; omega; conv => whnf)
          | (refine ⟨rfl, ?_, ?_⟩; decide; conv => whnf))
        try exact rfl
        exact vi (by rw [if_neg o1, if_neg c0])
  obtain ⟨r, h, rfl⟩ := key
  exact h
end
end Go.Proofs.YtehajklneljbgaaGreatDoor.AB
end

section
set_option linter.unusedVariables false
set_option linter.unusedSimpArgs false
open Go Go.Ab Go.Proofs Go.Vl
namespace Go.Proofs.YtehajklneljbgaaGreatDoor.AB
set_option maxRecDepth 100000
set_option maxHeartbeats 8000000
set_option linter.unusedSimpArgs false
section
variable {ext : Exts}
theorem rcompareK (hn : Non ext) (o : Int) (a b : T) (ho : ¬ (0 ≤ o ∧ o ≤ 5)) : (cfg ext).Ev 8 [.int .i64 o, A a, A b] (.tup [.int .i64 0, .int .i64 4]) := by
  have k := rkind hn o
  rw [decide_eq_false ho] at k
  have key : ∃ r, (cfg ext).Ev 8 [.int .i64 o, A a, A b] r ∧ r = (.tup [.int .i64 0, .int .i64 4]) := by
    refine Ev.ofE (hn 8 (by decide) (by decide)) Tryz.func8 rfl rfl ?_
    conv => whnf
    repeat (first
      | (refine sel_yes ?_ ?_; (first | assumption | (simp only [beq_iff_eq, bne_iff_ne, beq_eq_false_iff_ne, bne_eq_false_iff_eq, decide_eq_true_eq, decide_eq_false_iff_not, Bool.not_eq_true', Bool.not_eq_false', ne_eq, beq_true, beq_false, bne_self_eq_false, not_true_eq_false, not_false_eq_true, gt_iff_lt, ge_iff_le, Int.not_lt, Int.not_le, Bool.true_eq_false, Bool.false_eq_true] <;> omega)); conv => whnf)
      | (refine sel_no ?_ ?_; (first | assumption | (simp only [beq_iff_eq, bne_iff_ne, beq_eq_false_iff_ne, bne_eq_false_iff_eq, decide_eq_true_eq, decide_eq_false_iff_not, Bool.not_eq_true', Bool.not_eq_false', ne_eq, beq_true, beq_false, bne_self_eq_false, not_true_eq_false, not_false_eq_true, gt_iff_lt, ge_iff_le, Int.not_lt, Int.not_le, Bool.true_eq_false, Bool.false_eq_true] <;> omega)); conv => whnf)
      | (refine ⟨_, k, ?_⟩; conv => whnf)
      | (refine ⟨le_rfl' ?_, ?_⟩; rfl; conv => whnf)
      | (refine ⟨⟨?_, ?_⟩, ?_⟩; omega; omega; conv => whnf)
      | (refine ⟨⟨?_, ?_, ?_⟩, ?_⟩; rfl; omega; omega; conv => whnf)
      | (refine ⟨rfl, ?_, ?_⟩; decide; conv => whnf))
    try exact rfl
  obtain ⟨r, h, rfl⟩ := key
  exact h
theorem rcompareR (hn : Non ext) (o : Int) (a b : T) (ha : WfV a) (hb : WfV b) (ho : 0 ≤ o ∧ o ≤ 5) (c : Int) (hc : okB a = true → okB b = true → (cfg ext).Ev 25 [.int .i64 o, A a, A b] (.int .i64 c)) :
    (cfg ext).Ev 8 [.int .i64 o, A a, A b] (if okB a = true ∧ okB b = true then .tup [.int .i64 c, .int .i64 0] else .tup [.int .i64 0, .int .i64 3]) := by
  have k := rkind hn o
  rw [decide_eq_true ho] at k
  have r1 := rright hn a ha
  have r2 := rright hn b hb
  have key : ∃ r, (cfg ext).Ev 8 [.int .i64 o, A a, A b] r ∧ r = (if okB a = true ∧ okB b = true then .tup [.int .i64 c, .int .i64 0] else .tup [.int .i64 0, .int .i64 3]) := by
    refine Ev.ofE (hn 8 (by decide) (by decide)) Tryz.func8 rfl rfl ?_
    conv => whnf
    cases oa : okB a with
    | false =>
      rw [oa] at r1
      rw [if_neg (fun h => by cases h.1)]
      repeat (first
        | (refine sel_yes ?_ ?_; (first | assumption | (simp only [beq_iff_eq, bne_iff_ne, beq_eq_false_iff_ne, bne_eq_false_iff_eq, decide_eq_true_eq, decide_eq_false_iff_not, Bool.not_eq_true', Bool.not_eq_false', ne_eq, beq_true, beq_false, bne_self_eq_false, not_true_eq_false, not_false_eq_true, gt_iff_lt, ge_iff_le, Int.not_lt, Int.not_le, Bool.true_eq_false, Bool.false_eq_true] <;> omega)); conv => whnf)
        | (refine sel_no ?_ ?_; (first | assumption | (simp only [beq_iff_eq, bne_iff_ne, beq_eq_false_iff_ne, bne_eq_false_iff_eq, decide_eq_true_eq, decide_eq_false_iff_not, Bool.not_eq_true', Bool.not_eq_false', ne_eq, beq_true, beq_false, bne_self_eq_false, not_true_eq_false, not_false_eq_true, gt_iff_lt, ge_iff_le, Int.not_lt, Int.not_le, Bool.true_eq_false, Bool.false_eq_true] <;> omega)); conv => whnf)
        | (refine ⟨_, k, ?_⟩; conv => whnf)
        | (refine ⟨_, r1, ?_⟩; conv => whnf)
        | (refine ⟨le_rfl' ?_, ?_⟩; rfl; conv => whnf)
        | (refine ⟨⟨?_, ?_⟩, ?_⟩; omega; omega; conv => whnf)
        | (refine ⟨⟨?_, ?_, ?_⟩, ?_⟩; rfl; omega; omega; conv => whnf)
        | (refine ⟨rfl, ?_, ?_⟩; decide; conv => whnf))
      try exact rfl
    | true =>
      rw [oa] at r1
      cases ob : okB b with
      | false =>
        rw [ob] at r2
        rw [if_neg (fun h => by cases h.2)]
        repeat (first
          | (refine sel_yes ?_ ?_; (first | assumption | (simp only [beq_iff_eq, bne_iff_ne, beq_eq_false_iff_ne, bne_eq_false_iff_eq, decide_eq_true_eq, decide_eq_false_iff_not, Bool.not_eq_true', Bool.not_eq_false', ne_eq, beq_true, beq_false, bne_self_eq_false, not_true_eq_false, not_false_eq_true, gt_iff_lt, ge_iff_le, Int.not_lt, Int.not_le, Bool.true_eq_false, Bool.false_eq_true] <;> omega)); conv => whnf)
          | (refine sel_no ?_ ?_; (first | assumption | (simp only [beq_iff_eq, bne_iff_ne, beq_eq_false_iff_ne, bne_eq_false_iff_eq, decide_eq_true_eq, decide_eq_false_iff_not, Bool.not_eq_true', Bool.not_eq_false', ne_eq, beq_true, beq_false, bne_self_eq_false, not_true_eq_false, not_false_eq_true, gt_iff_lt, ge_iff_le, Int.not_lt, Int.not_le, Bool.true_eq_false, Bool.false_eq_true] <;> omega)); conv => whnf)
          | (refine ⟨_, k, ?_⟩; conv => whnf)
          | (refine ⟨_, r1, ?_⟩; conv => whnf)
          | (refine ⟨_, r2, ?_⟩; conv => whnf)
          | (refine ⟨le_rfl' ?_, ?_⟩; rfl; conv => whnf)
          | (refine ⟨⟨?_, ?_⟩, ?_⟩; omega; omega; conv => whnf)
          | (refine ⟨⟨?_, ?_, ?_⟩, ?_⟩; rfl; omega; omega; conv => whnf)
          | (refine ⟨rfl, ?_, ?_⟩; decide; conv => whnf))
        try exact rfl
      | true =>
        rw [ob] at r2
        have o1 := hc oa ob
        rw [if_pos ⟨rfl, rfl⟩]
        repeat (first
          | (refine sel_yes ?_ ?_; (first | assumption | (simp only [beq_iff_eq, bne_iff_ne, beq_eq_false_iff_ne, bne_eq_false_iff_eq, decide_eq_true_eq, decide_eq_false_iff_not, Bool.not_eq_true', Bool.not_eq_false', ne_eq, beq_true, beq_false, bne_self_eq_false, not_true_eq_false, not_false_eq_true, gt_iff_lt, ge_iff_le, Int.not_lt, Int.not_le, Bool.true_eq_false, Bool.false_eq_true] <;> omega)); conv => whnf)
          | (refine sel_no ?_ ?_; (first | assumption | (simp only [beq_iff_eq, bne_iff_ne, beq_eq_false_iff_ne, bne_eq_false_iff_eq, decide_eq_true_eq, decide_eq_false_iff_not, Bool.not_eq_true', Bool.not_eq_false', ne_eq, beq_true, beq_false, bne_self_eq_false, not_true_eq_false, not_false_eq_true, gt_iff_lt, ge_iff_le, Int.not_lt, Int.not_le, Bool.true_eq_false, Bool.false_eq_true] <;> omega)); conv => whnf)
          | (refine ⟨_, k, ?_⟩; conv => whnf)
          | (refine ⟨_, r1, ?_⟩; conv => whnf)
          | (refine ⟨_, r2, ?_⟩; conv => whnf)
          | (refine ⟨_, o1, ?_⟩; conv => whnf)
          | (refine ⟨le_rfl' ?_, ?_⟩; rfl; conv => whnf)
          | (refine ⟨⟨?_, ?_⟩, ?_⟩; omega; omega; conv => whnf)
          | (refine ⟨⟨?_, ?_, ?_⟩, ?_⟩; rfl; omega; omega; conv => whnf)
          | (refine ⟨rfl, ?_, ?_⟩; decide; conv => whnf))
        try exact rfl
  obtain ⟨r, h, rfl⟩ := key
  exact h
end
end Go.Proofs.YtehajklneljbgaaGreatDoor.AB
end

section
set_option linter.unusedVariables false
set_option linter.unusedSimpArgs false
open Go Go.Ab Go.Proofs Go.Vl
namespace Go.Proofs.YtehajklneljbgaaGreatDoor.AB
set_option maxRecDepth 100000
set_option maxHeartbeats 8000000
set_option linter.unusedSimpArgs false
section
variable {ext : Exts}
/-- how an order sets two values -/
noncomputable def ordF (ext : Exts) (o : Int) (a b : T) : Int :=
  if o = 0 then cmpV a b else if o = 1 then cmpV b a else if o = 2 then lexC (hZ ext) a b else if o = 3 then lexC (fun v => (partsV v : Nat)) a b
  else if o = 4 then kindC 3 (fun v => (runesF v.f2 v.f2.size 0 : Nat)) a b else kindC 2 (fun v => awy v.f1) a b
theorem ordF0 (a b : T) : ordF ext 0 a b = cmpV a b := by unfold ordF; rw [if_pos rfl]
theorem ordF1 (a b : T) : ordF ext 1 a b = cmpV b a := by unfold ordF; rw [if_neg (by decide), if_pos rfl]
theorem ordF2 (a b : T) : ordF ext 2 a b = lexC (hZ ext) a b := by unfold ordF; rw [if_neg (by decide), if_neg (by decide), if_pos rfl]
theorem ordF3 (a b : T) : ordF ext 3 a b = lexC (fun v => (partsV v : Nat)) a b := by unfold ordF; rw [if_neg (by decide), if_neg (by decide), if_neg (by decide), if_pos rfl]
theorem ordF4 (a b : T) : ordF ext 4 a b = kindC 3 (fun v => (runesF v.f2 v.f2.size 0 : Nat)) a b := by unfold ordF; rw [if_neg (by decide), if_neg (by decide), if_neg (by decide), if_neg (by decide), if_pos rfl]
theorem ordF5 (a b : T) : ordF ext 5 a b = kindC 2 (fun v => awy v.f1) a b := by unfold ordF; rw [if_neg (by decide), if_neg (by decide), if_neg (by decide), if_neg (by decide), if_neg (by decide)]
theorem cmpI_or (x y : Int) : cmpI x y = -1 ∨ cmpI x y = 0 ∨ cmpI x y = 1 := by
  unfold cmpI
  split
  · exact .inl rfl
  · split
    · exact .inr (.inr rfl)
    · exact .inr (.inl rfl)
theorem text_ok {v : T} (h : okB v = true) (h3 : v.f0 = 3) : utfB v.f2 = true ∧ v.f2.size ≤ 256 := by
  have := (okB_iff.1 h).1
  cases v with | mk k n t l =>
  simp only [OkV] at this
  have p := this.1
  unfold PlainV at p
  obtain ⟨_, _, p⟩ := p
  have h3 : k = 3 := h3
  rw [if_neg (by omega), if_pos h3] at p
  exact ⟨p.2, p.1⟩
theorem ev_int {f : Nat} {xs : List V} {x y : Int} (h : (cfg ext).Ev f xs (.int .i64 x)) (e : x = y) : (cfg ext).Ev f xs (.int .i64 y) := e ▸ h
theorem rord0 (hn : Non ext) (a b : T) (ha : WfV a) (hb : WfV b) : (cfg ext).Ev 25 [.int .i64 0, A a, A b] (.int .i64 (ordF ext 0 a b)) := by
  refine ev_int (rordered hn 0 a b ha hb 0 (rfirst0 hn 0 a b (.inl rfl)) (.inr (.inl rfl))) ?_
  rw [ordF0, if_neg (by decide), if_pos rfl]
theorem rord1 (hn : Non ext) (a b : T) (ha : WfV a) (hb : WfV b) : (cfg ext).Ev 25 [.int .i64 1, A a, A b] (.int .i64 (ordF ext 1 a b)) := by
  refine ev_int (rordered hn 1 a b ha hb 0 (rfirst0 hn 1 a b (.inr rfl)) (.inr (.inl rfl))) ?_
  rw [ordF1, if_pos rfl, if_pos rfl, ← cmpV_turn a b]
theorem rord2 (hn : Non ext) (a b : T) (ha : WfV a) (hb : WfV b) (oa : okB a = true) (ob : okB b = true) : (cfg ext).Ev 25 [.int .i64 2, A a, A b] (.int .i64 (ordF ext 2 a b)) := by
  have e : firstZ ext 2 a b = cmpI (hZ ext a) (hZ ext b) := by unfold firstZ; rw [if_pos rfl]
  have h := rfirst2 hn a b ha hb oa ob
  rw [e] at h
  refine ev_int (rordered hn 2 a b ha hb _ h (cmpI_or _ _)) ?_
  rw [ordF2, if_neg (by decide)]; rfl
theorem rord3 (hn : Non ext) (a b : T) (ha : WfV a) (hb : WfV b) (oa : okB a = true) (ob : okB b = true) : (cfg ext).Ev 25 [.int .i64 3, A a, A b] (.int .i64 (ordF ext 3 a b)) := by
  have e : firstZ ext 3 a b = cmpI (partsV a : Nat) (partsV b : Nat) := by unfold firstZ; rw [if_neg (by decide), if_pos rfl]
  have h := rfirst3 hn a b ha hb oa ob
  rw [e] at h
  refine ev_int (rordered hn 3 a b ha hb _ h (cmpI_or _ _)) ?_
  rw [ordF3, if_neg (by decide)]; rfl
theorem rord4 (hn : Non ext) (a b : T) (ha : WfV a) (hb : WfV b) (oa : okB a = true) (ob : okB b = true) : (cfg ext).Ev 25 [.int .i64 4, A a, A b] (.int .i64 (ordF ext 4 a b)) := by
  rw [ordF4]
  unfold kindC
  by_cases g : a.f0 = 3 ∧ b.f0 = 3
  · have ta := text_ok oa g.1
    have tb := text_ok ob g.2
    rw [if_pos g]
    refine ev_int (rordered hn 4 a b ha hb _ (rfirst4 hn a b g.1 g.2 ta.1 tb.1 ta.2 tb.2) (cmpI_or _ _)) ?_
    rw [if_neg (by decide)]; rfl
  · rw [if_neg g]
    refine ev_int (rordered hn 4 a b ha hb _ (rfirst4n hn a b g) (.inr (.inl rfl))) ?_
    rw [if_neg (by decide), if_pos rfl]
theorem rord5 (hn : Non ext) (a b : T) (ha : WfV a) (hb : WfV b) : (cfg ext).Ev 25 [.int .i64 5, A a, A b] (.int .i64 (ordF ext 5 a b)) := by
  rw [ordF5]
  unfold kindC
  by_cases g : a.f0 = 2 ∧ b.f0 = 2
  · rw [if_pos g]
    refine ev_int (rordered hn 5 a b ha hb _ (rfirst5 hn a b g.1 g.2) (cmpI_or _ _)) ?_
    rw [if_neg (by decide)]; rfl
  · rw [if_neg g]
    refine ev_int (rordered hn 5 a b ha hb _ (rfirst5n hn a b g) (.inr (.inl rfl))) ?_
    rw [if_neg (by decide), if_pos rfl]
theorem rord (hn : Non ext) (o : Int) (h0 : 0 ≤ o) (h5 : o ≤ 5) (a b : T) (ha : WfV a) (hb : WfV b) (oa : okB a = true) (ob : okB b = true) : (cfg ext).Ev 25 [.int .i64 o, A a, A b] (.int .i64 (ordF ext o a b)) := by
  rcases (show o = 0 ∨ o = 1 ∨ o = 2 ∨ o = 3 ∨ o = 4 ∨ o = 5 by omega) with rfl | rfl | rfl | rfl | rfl | rfl
  · exact rord0 hn a b ha hb
  · exact rord1 hn a b ha hb
  · exact rord2 hn a b ha hb oa ob
  · exact rord3 hn a b ha hb oa ob
  · exact rord4 hn a b ha hb oa ob
  · exact rord5 hn a b ha hb
end
end Go.Proofs.YtehajklneljbgaaGreatDoor.AB
end

section
set_option linter.unusedVariables false
set_option linter.unusedSimpArgs false
open Go Go.Ab Go.Proofs Go.Vl
namespace Go.Proofs.YtehajklneljbgaaGreatDoor.AB
set_option maxRecDepth 100000
set_option maxHeartbeats 8000000
set_option linter.unusedSimpArgs false
section
variable {ext : Exts}
theorem hFull (hn : Non ext) (h26 : E26 ext) (h73 : E73 ext) (v : T) (hw : WfV v) (ho : okB v = true) : (cfg ext).Ev 88 [A v] (.tup [.int .u32 (hZ ext v), .int .i64 0]) := by
  have c := t22 hn h26 h73 v hw
  rw [ho, if_pos rfl] at c
  have w := (whole hn v (okB_iff.1 ho).1 (okB_iff.1 ho).2.2).1
  have key : ∃ r, (cfg ext).Ev 88 [A v] r ∧ r = .tup [.int .u32 (hZ ext v), .int .i64 0] := by
    refine Ev.ofE (hn 88 (by decide) (by decide)) Tryz.func88 rfl rfl ?_
    conv => whnf
    refine ⟨_, c, ?_⟩
    conv => whnf
    refine ⟨_, w, ?_⟩
    conv => whnf
  obtain ⟨r, h, rfl⟩ := key
  exact h
/-- an order's row on right values -/
theorem rowOrd (hn : Non ext) (h26 : E26 ext) (h73 : E73 ext) (o : Nat) (h5 : o ≤ 5) (a b : T) (ha : WfV a) (hb : WfV b) (oa : okB a = true) (ob : okB b = true) : RowE ext o a b (ordF ext o a b) := by
  have e (f : Nat) (h : f ≠ 83) (h' : f ≠ 108) := hn f h h'
  have c6 : o = 0 ∨ o = 1 ∨ o = 2 ∨ o = 3 ∨ o = 4 ∨ o = 5 := by omega
  rcases c6 with rfl | rfl | rfl | rfl | rfl | rfl
  · rw [show ((0 : Nat) : Int) = 0 from rfl, ordF0]; exact t15 hn h26 a ha b
  · rw [show ((1 : Nat) : Int) = 1 from rfl, ordF1]; exact t37 (e 60 (by decide) (by decide)) a b _ (t15 hn h26 b hb a)
  · rw [show ((2 : Nat) : Int) = 2 from rfl, ordF2]
    exact t48 (e 85 (by decide) (by decide)) (e 87 (by decide) (by decide)) (e 104 (by decide) (by decide)) (e 86 (by decide) (by decide)) a b _ _ _ (t39 (e 62 (by decide) (by decide)) a _ _ (hFull hn h26 h73 a ha oa)) (t39 (e 62 (by decide) (by decide)) b _ _ (hFull hn h26 h73 b hb ob)) (t15 hn h26 a ha b)
  · rw [show ((3 : Nat) : Int) = 3 from rfl, ordF3]
    obtain ⟨ea, ga⟩ := t53 hn h26 h73 a ha
    obtain ⟨eb, gb⟩ := t53 hn h26 h73 b hb
    have ca : cntZ a 16 1024 = (partsV a : Nat) := by have h := okB_iff.1 oa; unfold cntZ; rw [if_pos ⟨h.1, by have := h.2.1; omega, by have := h.2.2; omega⟩]
    have cb : cntZ b 16 1024 = (partsV b : Nat) := by have h := okB_iff.1 ob; unfold cntZ; rw [if_pos ⟨h.1, by have := h.2.1; omega, by have := h.2.2; omega⟩]
    rw [ca] at ga
    rw [cb] at gb
    exact t52 (e 89 (by decide) (by decide)) (e 81 (by decide) (by decide)) (e 101 (by decide) (by decide)) (e 86 (by decide) (by decide)) a b _ _ _ (t41 (e 64 (by decide) (by decide)) a _ _ ga) (t41 (e 64 (by decide) (by decide)) b _ _ gb) (t15 hn h26 a ha b)
  · rw [show ((4 : Nat) : Int) = 4 from rfl, ordF4]
    by_cases g : a.f0 = 3 ∧ b.f0 = 3
    · have ta := text_ok oa g.1
      have tb := text_ok ob g.2
      exact t42 (e 65 (by decide) (by decide)) (e 81 (by decide) (by decide)) (e 101 (by decide) (by decide)) (e 86 (by decide) (by decide)) a b _ _ _ (trunes hn a.f2 (by omega)) (trunes hn b.f2 (by omega)) (t15 hn h26 a ha b)
    · have h0 := t42 (ext := ext) (e 65 (by decide) (by decide)) (e 81 (by decide) (by decide)) (e 101 (by decide) (by decide)) (e 86 (by decide) (by decide)) a b _ _ _ (Classical.choose_spec (t54 hn a.f2)) (Classical.choose_spec (t54 hn b.f2)) (t15 hn h26 a ha b)
      rw [if_neg g] at h0
      unfold kindC
      rw [if_neg g]
      exact h0
  · rw [show ((5 : Nat) : Int) = 5 from rfl, ordF5, ← near_is]
    exact t43 hn a b (t15 hn h26 a ha b)
/-- two right values: one line -/
theorem ord_line (o : Int) : Line (ordF ext o) := by
  have lex (m : T → Int) : Line (lexC m) := ⟨lexC_turn m, fun _ _ => lexC_eq m, fun _ _ _ => lexC_trans m, lexC_one m⟩
  have kin (q : Int) (m : T → Int) : Line (kindC q m) := ⟨kindC_turn q m, fun _ _ => kindC_eq q m, fun _ _ _ => kindC_trans q m, kindC_one q m⟩
  by_cases h0 : o = 0
  · subst h0; rw [show ordF ext 0 = cmpV from funext fun a => funext fun b => ordF0 a b]; exact ⟨cmpV_turn, fun _ _ => cmpV_eq, fun _ _ _ => cmpV_le, Go.Vl.cmpV_one⟩
  by_cases h1 : o = 1
  · subst h1; rw [show ordF ext 1 = fun a b => cmpV b a from funext fun a => funext fun b => ordF1 a b]
    exact ⟨fun a b => cmpV_turn b a, fun a b ha hb => (cmpV_eq hb ha).trans ⟨Eq.symm, Eq.symm⟩, fun a b c ha hb hc h1 h2 => cmpV_le hc hb ha h2 h1, fun a b => Go.Vl.cmpV_one b a⟩
  by_cases h2 : o = 2
  · subst h2; rw [show ordF ext 2 = lexC (hZ ext) from funext fun a => funext fun b => ordF2 a b]; exact lex _
  by_cases h3 : o = 3
  · subst h3; rw [show ordF ext 3 = lexC (fun v => (partsV v : Nat)) from funext fun a => funext fun b => ordF3 a b]; exact lex _
  by_cases h4 : o = 4
  · subst h4; rw [show ordF ext 4 = kindC 3 (fun v => (runesF v.f2 v.f2.size 0 : Nat)) from funext fun a => funext fun b => ordF4 a b]; exact kin 3 _
  rw [show ordF ext o = kindC 2 (fun v => awy v.f1) from funext fun a => funext fun b => by unfold ordF; rw [if_neg h0, if_neg h1, if_neg h2, if_neg h3, if_neg h4]]; exact kin 2 _
theorem pcompare (hn : Non ext) (h26 : E26 ext) (h73 : E73 ext) (o : Nat) (h5 : o ≤ 5) (a b : T) (ha : WfV a) (hb : WfV b) :
    (cfg ext).Ev 7 [.int .i64 o, A a, A b] (if okB a = true ∧ okB b = true then .tup [.int .i64 (ordF ext o a b), .int .i64 0] else .tup [.int .i64 0, .int .i64 3]) := by
  have E : ∀ v ∈ [a, b], (cfg ext).Ev 28 [A v] (.int .i64 (if okB v = true then 0 else 3)) := by
    intro v hv
    rcases List.mem_cons.1 hv with rfl | hv
    · exact t22 hn h26 h73 _ ha
    · rcases List.mem_cons.1 hv with rfl | hv
      · exact t22 hn h26 h73 _ hb
      · cases hv
  have h11 := t11e hn o h5 [a, b] (by simp) E
  have eL : encL [a, b] = enc a ++ enc b := by simp only [encL, List.append_nil]
  rw [eL, enc_eq, enc_eq] at h11
  have ea : [a, b].all okB = (okB a && okB b) := by simp
  rw [ea] at h11
  by_cases g : okB a = true ∧ okB b = true
  · rw [if_pos g]
    rw [g.1, g.2, if_pos (show (true && true) = true from rfl)] at h11
    have hr := rowOrd hn h26 h73 o h5 a b ha hb g.1 g.2
    refine Ev.of (hn 7 (by decide) (by decide)) Tryz.func7 rfl rfl ?_
    conv => whnf
    refine ⟨_, h11, ?_⟩
    have c6 : o = 0 ∨ o = 1 ∨ o = 2 ∨ o = 3 ∨ o = 4 ∨ o = 5 := by omega
    rcases c6 with rfl | rfl | rfl | rfl | rfl | rfl
    all_goals
      conv => whnf
      refine ⟨_, hr, ?_⟩
      conv => whnf
  · rw [if_neg g]
    have e0 : (okB a && okB b) = false := by
      cases h1 : okB a
      · rfl
      · cases h2 : okB b
        · rfl
        · exact absurd ⟨h1, h2⟩ g
    rw [e0, if_neg (by decide)] at h11
    refine Ev.of (hn 7 (by decide) (by decide)) Tryz.func7 rfl rfl ?_
    conv => whnf
    refine ⟨_, h11, ?_⟩
    conv => whnf
end
end Go.Proofs.YtehajklneljbgaaGreatDoor.AB
end

section
set_option linter.unusedVariables false
set_option linter.unusedSimpArgs false
open Go Go.Ab Go.Proofs Go.Vl
namespace Go.Proofs.YtehajklneljbgaaGreatDoor.AB
set_option maxRecDepth 100000
set_option maxHeartbeats 8000000
set_option linter.unusedSimpArgs false
set_option linter.unusedVariables false
section
variable {ext : Exts}
/-- the reference's test of a list -/
theorem llisted (hn : Non ext) (l : List T) (hl : l.length ≤ 65536) (hw : ∀ a ∈ l, WfV a) (Q : Ex → St → Prop) (d : Nat) :
    ∀ (i : Nat) (z : St), l.length - i = d → i ≤ l.length → Has z.t [(8, .sl false (encL l) l.length), (9, .int .i64 l.length), (10, .int .i64 i)] → z.hp.n = 7 →
      (∀ z' : St, z'.t 2 = .int .i64 3 → ¬ (∀ a ∈ l.drop i, okB a = true) → Q .ret z') →
      (∀ z' : St, (∀ a ∈ l.drop i, okB a = true) → Q (.exit 0) z') →
      Go.Ab.Loop (cfg ext) (lpOf Tryz.f39) 7 z Q := by
  induction d with
  | zero =>
    intro i z hd hi ht hz hr hq
    have g : decide ((i : Int) < (l.length : Int)) = false := decide_eq_false (by omega)
    rw [St.knows _ _ ht hz]
    refine Loop.round ?_
    conv => whnf
    repeat (first
      | (refine sel_yes ?_ ?_; (first | assumption | (simp only [beq_iff_eq, bne_iff_ne, beq_eq_false_iff_ne, bne_eq_false_iff_eq, decide_eq_true_eq, decide_eq_false_iff_not, Bool.not_eq_true', Bool.not_eq_false', ne_eq, beq_true, beq_false, bne_self_eq_false, not_true_eq_false, not_false_eq_true, gt_iff_lt, ge_iff_le, Int.not_lt, Int.not_le, Bool.true_eq_false, Bool.false_eq_true] <;> omega)); conv => whnf)
      | (refine sel_no ?_ ?_; (first | assumption | (simp only [beq_iff_eq, bne_iff_ne, beq_eq_false_iff_ne, bne_eq_false_iff_eq, decide_eq_true_eq, decide_eq_false_iff_not, Bool.not_eq_true', Bool.not_eq_false', ne_eq, beq_true, beq_false, bne_self_eq_false, not_true_eq_false, not_false_eq_true, gt_iff_lt, ge_iff_le, Int.not_lt, Int.not_le, Bool.true_eq_false, Bool.false_eq_true] <;> omega)); conv => whnf)
      | (refine ⟨le_rfl' ?_, ?_⟩; rfl; conv => whnf)
      | (refine ⟨⟨?_, ?_⟩, ?_⟩; omega; omega; conv => whnf)
      | (refine ⟨⟨?_, ?_, ?_⟩, ?_⟩; rfl; omega; omega; conv => whnf)
      | (refine ⟨rfl, ?_, ?_⟩; decide; conv => whnf))
    try exact rfl
    exact hq _ (by intro a ha; rw [List.drop_eq_nil_of_le (by omega)] at ha; cases ha)
  | succ d ih =>
    intro i z hd hi ht hz hr hq
    have hlt : i < l.length := by omega
    have g : decide ((i : Int) < (l.length : Int)) = true := decide_eq_true (by omega)
    have eD := List.drop_eq_getElem_cons hlt
    have e1 : IntKind.i64.wrap ((i : Int) + 1) = ((i + 1 : Nat) : Int) := wrapN (by omega) (by omega)
    have hE := rright hn l[i] (hw _ (List.getElem_mem hlt))
    rw [St.knows _ _ ht hz]
    refine Loop.round ?_
    conv => whnf
    repeat (first
      | (refine sel_yes ?_ ?_; (first | assumption | (simp only [beq_iff_eq, bne_iff_ne, beq_eq_false_iff_ne, bne_eq_false_iff_eq, decide_eq_true_eq, decide_eq_false_iff_not, Bool.not_eq_true', Bool.not_eq_false', ne_eq, beq_true, beq_false, bne_self_eq_false, not_true_eq_false, not_false_eq_true, gt_iff_lt, ge_iff_le, Int.not_lt, Int.not_le, Bool.true_eq_false, Bool.false_eq_true] <;> omega)); conv => whnf)
      | (refine sel_no ?_ ?_; (first | assumption | (simp only [beq_iff_eq, bne_iff_ne, beq_eq_false_iff_ne, bne_eq_false_iff_eq, decide_eq_true_eq, decide_eq_false_iff_not, Bool.not_eq_true', Bool.not_eq_false', ne_eq, beq_true, beq_false, bne_self_eq_false, not_true_eq_false, not_false_eq_true, gt_iff_lt, ge_iff_le, Int.not_lt, Int.not_le, Bool.true_eq_false, Bool.false_eq_true] <;> omega)); conv => whnf)
      | (refine ⟨le_rfl' ?_, ?_⟩; rfl; conv => whnf)
      | (refine ⟨⟨?_, ?_⟩, ?_⟩; omega; omega; conv => whnf)
      | (refine ⟨⟨?_, ?_, ?_⟩, ?_⟩; rfl; omega; omega; conv => whnf)
      | (refine ⟨rfl, ?_, ?_⟩; decide; conv => whnf))
    try exact rfl
    refine ldA (i := i) hlt ?_
    conv => whnf
    refine ⟨_, hE, ?_⟩
    cases ho : okB l[i] with
    | false =>
      conv => whnf
      exact hr _ rfl (fun g => by have := g l[i] (by rw [eD]; exact List.mem_cons_self); rw [ho] at this; cases this)
    | true =>
      conv => whnf
      refine ih (i + 1) _ (by omega) (by omega) ⟨rfl, rfl, ?_, trivial⟩ rfl (fun z' a c => hr z' a (fun g => c (fun x hx => g x (by rw [eD]; exact List.mem_cons_of_mem _ hx)))) (fun z' e => hq z' (fun x hx => by rw [eD] at hx; rcases List.mem_cons.1 hx with rfl | hx; exact ho; exact e x hx))
      conv => lhs; whnf
      exact vi e1
noncomputable def listedZ (l : List T) : Int := if 65536 < l.length then 2 else if l.all okB = true then 0 else 3
theorem rlisted (hn : Non ext) (l : List T) (hl : l.length ≤ 9223372036854775807) (hw : ∀ a ∈ l, WfV a) : (cfg ext).Ev 39 [.sl false (encL l) l.length] (.int .i64 (listedZ l)) := by
  have key : ∃ r, (cfg ext).Ev 39 [.sl false (encL l) l.length] r ∧ r = .int .i64 (listedZ l) := by
    refine Ev.ofF (hn 39 (by decide) (by decide)) Tryz.func39 rfl rfl ?_
    conv => whnf
    by_cases h : 65536 < l.length
    · have g : decide ((l.length : Int) > 65536) = true := decide_eq_true (by omega)
      repeat (first
        | (refine sel_yes ?_ ?_; (first | assumption | (simp only [beq_iff_eq, bne_iff_ne, beq_eq_false_iff_ne, bne_eq_false_iff_eq, decide_eq_true_eq, decide_eq_false_iff_not, Bool.not_eq_true', Bool.not_eq_false', ne_eq, beq_true, beq_false, bne_self_eq_false, not_true_eq_false, not_false_eq_true, gt_iff_lt, ge_iff_le, Int.not_lt, Int.not_le, Bool.true_eq_false, Bool.false_eq_true] <;> omega)); conv => whnf)
        | (refine sel_no ?_ ?_; (first | assumption | (simp only [beq_iff_eq, bne_iff_ne, beq_eq_false_iff_ne, bne_eq_false_iff_eq, decide_eq_true_eq, decide_eq_false_iff_not, Bool.not_eq_true', Bool.not_eq_false', ne_eq, beq_true, beq_false, bne_self_eq_false, not_true_eq_false, not_false_eq_true, gt_iff_lt, ge_iff_le, Int.not_lt, Int.not_le, Bool.true_eq_false, Bool.false_eq_true] <;> omega)); conv => whnf)
        | (refine ⟨le_rfl' ?_, ?_⟩; rfl; conv => whnf)
        | (refine ⟨⟨?_, ?_⟩, ?_⟩; omega; omega; conv => whnf)
        | (refine ⟨⟨?_, ?_, ?_⟩, ?_⟩; rfl; omega; omega; conv => whnf)
        | (refine ⟨rfl, ?_, ?_⟩; decide; conv => whnf))
      try exact rfl
      exact Fin.tmp (i := 2) rfl rfl (vi (by unfold listedZ; rw [if_pos h]))
    · have g : decide ((l.length : Int) > 65536) = false := decide_eq_false (by omega)
      repeat (first
        | (refine sel_yes ?_ ?_; (first | assumption | (simp only [beq_iff_eq, bne_iff_ne, beq_eq_false_iff_ne, bne_eq_false_iff_eq, decide_eq_true_eq, decide_eq_false_iff_not, Bool.not_eq_true', Bool.not_eq_false', ne_eq, beq_true, beq_false, bne_self_eq_false, not_true_eq_false, not_false_eq_true, gt_iff_lt, ge_iff_le, Int.not_lt, Int.not_le, Bool.true_eq_false, Bool.false_eq_true] <;> omega)); conv => whnf)
        | (refine sel_no ?_ ?_; (first | assumption | (simp only [beq_iff_eq, bne_iff_ne, beq_eq_false_iff_ne, bne_eq_false_iff_eq, decide_eq_true_eq, decide_eq_false_iff_not, Bool.not_eq_true', Bool.not_eq_false', ne_eq, beq_true, beq_false, bne_self_eq_false, not_true_eq_false, not_false_eq_true, gt_iff_lt, ge_iff_le, Int.not_lt, Int.not_le, Bool.true_eq_false, Bool.false_eq_true] <;> omega)); conv => whnf)
        | (refine ⟨le_rfl' ?_, ?_⟩; rfl; conv => whnf)
        | (refine ⟨⟨?_, ?_⟩, ?_⟩; omega; omega; conv => whnf)
        | (refine ⟨⟨?_, ?_, ?_⟩, ?_⟩; rfl; omega; omega; conv => whnf)
        | (refine ⟨rfl, ?_, ?_⟩; decide; conv => whnf))
      try exact rfl
      refine llisted hn l (by omega) hw _ l.length 0 _ rfl (by omega) ⟨rfl, rfl, rfl, trivial⟩ rfl (fun z a b => ?_) (fun z b => ?_)
      · exact Fin.tmp (i := 2) rfl a (vi (by unfold listedZ; rw [if_neg h, if_neg (show ¬ (l.all okB = true) from fun h => b (List.all_eq_true.1 h))]))
      · conv => whnf
        exact Fin.tmp (i := 2) rfl rfl (vi (by unfold listedZ; rw [if_neg h, if_pos (show l.all okB = true from List.all_eq_true.2 b)]))
  obtain ⟨r, h, rfl⟩ := key
  exact h
theorem rfitK (hn : Non ext) (o : Int) (l : List T) (ho : ¬ (0 ≤ o ∧ o ≤ 5)) : (cfg ext).Ev 31 [.int .i64 o, .sl false (encL l) l.length] (.int .i64 4) := by
  have k := rkind hn o
  rw [decide_eq_false ho] at k
  have key : ∃ r, (cfg ext).Ev 31 [.int .i64 o, .sl false (encL l) l.length] r ∧ r = .int .i64 4 := by
    refine Ev.ofE (hn 31 (by decide) (by decide)) Tryz.func31 rfl rfl ?_
    conv => whnf
    repeat (first
      | (refine sel_yes ?_ ?_; (first | assumption | (simp only [beq_iff_eq, bne_iff_ne, beq_eq_false_iff_ne, bne_eq_false_iff_eq, decide_eq_true_eq, decide_eq_false_iff_not, Bool.not_eq_true', Bool.not_eq_false', ne_eq, beq_true, beq_false, bne_self_eq_false, not_true_eq_false, not_false_eq_true, gt_iff_lt, ge_iff_le, Int.not_lt, Int.not_le, Bool.true_eq_false, Bool.false_eq_true] <;> omega)); conv => whnf)
      | (refine sel_no ?_ ?_; (first | assumption | (simp only [beq_iff_eq, bne_iff_ne, beq_eq_false_iff_ne, bne_eq_false_iff_eq, decide_eq_true_eq, decide_eq_false_iff_not, Bool.not_eq_true', Bool.not_eq_false', ne_eq, beq_true, beq_false, bne_self_eq_false, not_true_eq_false, not_false_eq_true, gt_iff_lt, ge_iff_le, Int.not_lt, Int.not_le, Bool.true_eq_false, Bool.false_eq_true] <;> omega)); conv => whnf)
      | (refine ⟨_, k, ?_⟩; conv => whnf)
      | (refine ⟨le_rfl' ?_, ?_⟩; rfl; conv => whnf)
      | (refine ⟨⟨?_, ?_⟩, ?_⟩; omega; omega; conv => whnf)
      | (refine ⟨⟨?_, ?_, ?_⟩, ?_⟩; rfl; omega; omega; conv => whnf)
      | (refine ⟨rfl, ?_, ?_⟩; decide; conv => whnf))
    try exact rfl
  obtain ⟨r, h, rfl⟩ := key
  exact h
theorem rfit (hn : Non ext) (o : Int) (l : List T) (ho : 0 ≤ o ∧ o ≤ 5) (hl : l.length ≤ 9223372036854775807) (hw : ∀ a ∈ l, WfV a) : (cfg ext).Ev 31 [.int .i64 o, .sl false (encL l) l.length] (.int .i64 (listedZ l)) := by
  have k := rkind hn o
  rw [decide_eq_true ho] at k
  have h1 := rlisted hn l hl hw
  have key : ∃ r, (cfg ext).Ev 31 [.int .i64 o, .sl false (encL l) l.length] r ∧ r = .int .i64 (listedZ l) := by
    refine Ev.ofE (hn 31 (by decide) (by decide)) Tryz.func31 rfl rfl ?_
    conv => whnf
    repeat (first
      | (refine sel_yes ?_ ?_; (first | assumption | (simp only [beq_iff_eq, bne_iff_ne, beq_eq_false_iff_ne, bne_eq_false_iff_eq, decide_eq_true_eq, decide_eq_false_iff_not, Bool.not_eq_true', Bool.not_eq_false', ne_eq, beq_true, beq_false, bne_self_eq_false, not_true_eq_false, not_false_eq_true, gt_iff_lt, ge_iff_le, Int.not_lt, Int.not_le, Bool.true_eq_false, Bool.false_eq_true] <;> omega)); conv => whnf)
      | (refine sel_no ?_ ?_; (first | assumption | (simp only [beq_iff_eq, bne_iff_ne, beq_eq_false_iff_ne, bne_eq_false_iff_eq, decide_eq_true_eq, decide_eq_false_iff_not, Bool.not_eq_true', Bool.not_eq_false', ne_eq, beq_true, beq_false, bne_self_eq_false, not_true_eq_false, not_false_eq_true, gt_iff_lt, ge_iff_le, Int.not_lt, Int.not_le, Bool.true_eq_false, Bool.false_eq_true] <;> omega)); conv => whnf)
      | (refine ⟨_, k, ?_⟩; conv => whnf)
      | (refine ⟨_, h1, ?_⟩; conv => whnf)
      | (refine ⟨le_rfl' ?_, ?_⟩; rfl; conv => whnf)
      | (refine ⟨⟨?_, ?_⟩, ?_⟩; omega; omega; conv => whnf)
      | (refine ⟨⟨?_, ?_, ?_⟩, ?_⟩; rfl; omega; omega; conv => whnf)
      | (refine ⟨rfl, ?_, ?_⟩; decide; conv => whnf))
    try exact rfl
  obtain ⟨r, h, rfl⟩ := key
  exact h
/-- the program's -/
theorem plisted (hn : Non ext) (h26 : E26 ext) (h73 : E73 ext) (o : Nat) (h5 : o ≤ 5) (l : List T) (hw : ∀ a ∈ l, WfV a) : (cfg ext).Ev 22 [.int .i64 o, .sl false (encL l) l.length] (.tup [.agg [rowOf o], .int .i64 (listedZ l)]) := by
  by_cases h : 65536 < l.length
  · unfold listedZ; rw [if_pos h]; exact t11long hn o h5 l h
  · unfold listedZ; rw [if_neg h]; exact t11e hn o h5 l (by omega) (fun a ha => t22 hn h26 h73 a (hw a ha))
theorem listed_ok {l : List T} (h : listedZ l = 0) : l.length ≤ 65536 ∧ ∀ a ∈ l, okB a = true := by
  unfold listedZ at h
  split at h
  · omega
  · split at h
    · rename_i h1 h2; exact ⟨by omega, List.all_eq_true.1 h2⟩
    · omega
/-- is a list sorted? -/
def Srt (f : T → T → Int) (l : List T) : Prop := ∀ (j : Nat) (h : j + 1 < l.length), ¬ f l[j + 1] l[j] < 0
theorem lin (hn : Non ext) (o : Int) (h0 : 0 ≤ o) (h5 : o ≤ 5) (l : List T) (hl : l.length ≤ 65536) (hw : ∀ a ∈ l, WfV a ∧ okB a = true) (Q : Ex → St → Prop) (d : Nat) :
    ∀ (i : Nat) (z : St), l.length - i = d → Has z.t [(0, .int .i64 o), (1, .sl false (encL l) l.length), (5, .int .i64 ((i : Int) + 1))] → z.hp.n = 2 → (∀ (j : Nat) (h : j + 1 < l.length), j < i → ¬ ordF ext o l[j + 1] l[j] < 0) →
      (∀ z' : St, z'.t 4 = .bool false → ¬ Srt (ordF ext o) l → Q .ret z') →
      (∀ z' : St, Srt (ordF ext o) l → Q (.exit 0) z') →
      Go.Ab.Loop (cfg ext) (lpOf Tryz.f32) 2 z Q := by
  induction d with
  | zero =>
    intro i z hd ht hz hk hr hq
    have g : decide ((i : Int) + 1 < (l.length : Int)) = false := decide_eq_false (by omega)
    rw [St.knows _ _ ht hz]
    refine Loop.round ?_
    conv => whnf
    repeat (first
      | (refine sel_yes ?_ ?_; (first | assumption | (simp only [beq_iff_eq, bne_iff_ne, beq_eq_false_iff_ne, bne_eq_false_iff_eq, decide_eq_true_eq, decide_eq_false_iff_not, Bool.not_eq_true', Bool.not_eq_false', ne_eq, beq_true, beq_false, bne_self_eq_false, not_true_eq_false, not_false_eq_true, gt_iff_lt, ge_iff_le, Int.not_lt, Int.not_le, Bool.true_eq_false, Bool.false_eq_true] <;> omega)); conv => whnf)
      | (refine sel_no ?_ ?_; (first | assumption | (simp only [beq_iff_eq, bne_iff_ne, beq_eq_false_iff_ne, bne_eq_false_iff_eq, decide_eq_true_eq, decide_eq_false_iff_not, Bool.not_eq_true', Bool.not_eq_false', ne_eq, beq_true, beq_false, bne_self_eq_false, not_true_eq_false, not_false_eq_true, gt_iff_lt, ge_iff_le, Int.not_lt, Int.not_le, Bool.true_eq_false, Bool.false_eq_true] <;> omega)); conv => whnf)
      | (refine ⟨le_rfl' ?_, ?_⟩; rfl; conv => whnf)
      | (refine ⟨⟨?_, ?_⟩, ?_⟩; omega; omega; conv => whnf)
      | (refine ⟨⟨?_, ?_, ?_⟩, ?_⟩; rfl; omega; omega; conv => whnf)
      | (refine ⟨rfl, ?_, ?_⟩; decide; conv => whnf))
    try exact rfl
    exact hq _ (fun j h => hk j h (by omega))
  | succ d ih =>
    intro i z hd ht hz hk hr hq
    by_cases hlt : i + 1 < l.length
    · have g : decide ((i : Int) + 1 < (l.length : Int)) = true := decide_eq_true (by omega)
      have e1 : IntKind.i64.wrap ((i : Int) + 1 + 1) = ((i + 1 : Nat) : Int) + 1 := by rw [IntKind.wrap_i64]; omega
      have e2 : IntKind.i64.wrap ((i : Int) + 1 - 1) = (i : Int) := by rw [IntKind.wrap_i64]; omega
      have w1 := hw _ (List.getElem_mem hlt)
      have w0 := hw _ (List.getElem_mem (show i < l.length by omega))
      have hE := rord hn o h0 h5 l[i + 1] l[i] w1.1 w0.1 w1.2 w0.2
      have hb : (0 : Int) ≤ (i : Int) + 1 ∧ (i : Int) + 1 < (l.length : Int) := ⟨by omega, by omega⟩
      have hb2 : (0 : Int) ≤ IntKind.i64.wrap ((i : Int) + 1 - 1) ∧ IntKind.i64.wrap ((i : Int) + 1 - 1) < (l.length : Int) := by rw [e2]; exact ⟨by omega, by omega⟩
      have e3 : (IntKind.i64.wrap ((i : Int) + 1 - 1)).toNat = i := by rw [e2]; rfl
      have hlt3 : (IntKind.i64.wrap ((i : Int) + 1 - 1)).toNat < l.length := by rw [e3]; omega
      have e4 : l[(IntKind.i64.wrap ((i : Int) + 1 - 1)).toNat] = l[i] := by simp only [e3]
      rw [St.knows _ _ ht hz]
      refine Loop.round ?_
      conv => whnf
      refine sel_yes g ?_
      conv => whnf
      refine ⟨hb, ?_⟩
      conv => whnf
      refine ldA (i := i + 1) hlt ?_
      conv => whnf
      refine ⟨hb2, ?_⟩
      conv => whnf
      refine ldA (i := (IntKind.i64.wrap ((i : Int) + 1 - 1)).toNat) hlt3 ?_
      rw [← e4] at hE
      conv => whnf
      refine ⟨_, hE, ?_⟩
      conv => whnf
      refine sel_split (fun h => ?_) (fun h => ?_)
      · conv => whnf
        exact hr _ rfl (fun g => g i hlt (by rw [← e4]; exact of_decide_eq_true h))
      · conv => whnf
        refine ih (i + 1) _ (by omega) ⟨rfl, rfl, ?_, trivial⟩ rfl (fun j hj hji => ?_) hr hq
        · conv => lhs; whnf
          exact vi e1
        · by_cases e : j = i
          · subst e; rw [← e4]; exact of_decide_eq_false h
          · exact hk j hj (by omega)
    · have g : decide ((i : Int) + 1 < (l.length : Int)) = false := decide_eq_false (by omega)
      rw [St.knows _ _ ht hz]
      refine Loop.round ?_
      conv => whnf
      repeat (first
        | (refine sel_yes ?_ ?_; (first | assumption | (simp only [beq_iff_eq, bne_iff_ne, beq_eq_false_iff_ne, bne_eq_false_iff_eq, decide_eq_true_eq, decide_eq_false_iff_not, Bool.not_eq_true', Bool.not_eq_false', ne_eq, beq_true, beq_false, bne_self_eq_false, not_true_eq_false, not_false_eq_true, gt_iff_lt, ge_iff_le, Int.not_lt, Int.not_le, Bool.true_eq_false, Bool.false_eq_true] <;> omega)); conv => whnf)
        | (refine sel_no ?_ ?_; (first | assumption | (simp only [beq_iff_eq, bne_iff_ne, beq_eq_false_iff_ne, bne_eq_false_iff_eq, decide_eq_true_eq, decide_eq_false_iff_not, Bool.not_eq_true', Bool.not_eq_false', ne_eq, beq_true, beq_false, bne_self_eq_false, not_true_eq_false, not_false_eq_true, gt_iff_lt, ge_iff_le, Int.not_lt, Int.not_le, Bool.true_eq_false, Bool.false_eq_true] <;> omega)); conv => whnf)
        | (refine ⟨le_rfl' ?_, ?_⟩; rfl; conv => whnf)
        | (refine ⟨⟨?_, ?_⟩, ?_⟩; omega; omega; conv => whnf)
        | (refine ⟨⟨?_, ?_, ?_⟩, ?_⟩; rfl; omega; omega; conv => whnf)
        | (refine ⟨rfl, ?_, ?_⟩; decide; conv => whnf))
      try exact rfl
      exact hq _ (fun j h => hk j h (by omega))
open Classical in
theorem rin (hn : Non ext) (o : Int) (h0 : 0 ≤ o) (h5 : o ≤ 5) (l : List T) (hl : l.length ≤ 65536) (hw : ∀ a ∈ l, WfV a ∧ okB a = true) : (cfg ext).Ev 32 [.int .i64 o, .sl false (encL l) l.length] (.bool (decide (Srt (ordF ext o) l))) := by
  have key : ∃ r, (cfg ext).Ev 32 [.int .i64 o, .sl false (encL l) l.length] r ∧ r = .bool (decide (Srt (ordF ext o) l)) := by
    refine Ev.ofF (hn 32 (by decide) (by decide)) Tryz.func32 rfl rfl ?_
    conv => whnf
    refine lin hn o h0 h5 l hl hw _ l.length 0 _ rfl ⟨rfl, rfl, rfl, trivial⟩ rfl (fun j h hj => by omega) (fun z a b => ?_) (fun z b => ?_)
    · exact Fin.tmpB (i := 4) rfl a (by rw [decide_eq_false b])
    · conv => whnf
      exact Fin.tmpB (i := 4) rfl rfl (by rw [decide_eq_true b])
  obtain ⟨r, h, rfl⟩ := key
  exact h
end
end Go.Proofs.YtehajklneljbgaaGreatDoor.AB
end

section
set_option linter.unusedVariables false
set_option linter.unusedSimpArgs false
open Go Go.Ab Go.Proofs Go.Vl
namespace Go.Proofs.YtehajklneljbgaaGreatDoor.AB
set_option maxRecDepth 100000
set_option maxHeartbeats 8000000
set_option linter.unusedSimpArgs false
set_option linter.unusedVariables false
section
variable {ext : Exts}
/-- the rows of an order say f of these values -/
def Rows (ext : Exts) (o : Nat) (l : List T) : Prop := ∀ a ∈ l, ∀ b ∈ l, RowE ext o a b (ordF ext o a b)
theorem lisS (hn : Non ext) (o : Nat) (h5 : o ≤ 5) (l : List T) (hl : l.length ≤ 65536) (hw : Rows ext o l) (Q : Ex → St → Prop) :
    ∀ (i : Nat) (z : St), i < l.length → Has z.t [(0, .sl false (encL l) l.length), (1, rowOf o), (5, .int .i64 i)] → z.hp.n = 5 → (∀ (j : Nat) (h : j + 1 < l.length), i ≤ j → ¬ ordF ext o l[j + 1] l[j] < 0) →
      (∀ z' : St, z'.t 4 = .bool false → ¬ Srt (ordF ext o) l → Q .ret z') →
      (∀ z' : St, Srt (ordF ext o) l → Q (.exit 0) z') →
      Go.Ab.Loop (cfg ext) (lpOf Tryz.f29) 5 z Q := by
  intro i
  induction i with
  | zero =>
    intro z hi ht hz hk hr hq
    rw [St.knows _ _ ht hz]
    refine Loop.round ?_
    conv => whnf
    exact hq _ (fun j h => hk j h (by omega))
  | succ i ih =>
    intro z hi ht hz hk hr hq
    have g : decide (((i + 1 : Nat) : Int) > 0) = true := decide_eq_true (by omega)
    have e2 : IntKind.i64.wrap (((i + 1 : Nat) : Int) - 1) = (i : Int) := by rw [IntKind.wrap_i64]; omega
    have hE := hw _ (List.getElem_mem hi) _ (List.getElem_mem (show i < l.length by omega))
    have hb : (0 : Int) ≤ ((i + 1 : Nat) : Int) ∧ ((i + 1 : Nat) : Int) < (l.length : Int) := ⟨by omega, by omega⟩
    have hb2 : (0 : Int) ≤ IntKind.i64.wrap (((i + 1 : Nat) : Int) - 1) ∧ IntKind.i64.wrap (((i + 1 : Nat) : Int) - 1) < (l.length : Int) := by rw [e2]; exact ⟨by omega, by omega⟩
    have e3 : (IntKind.i64.wrap (((i + 1 : Nat) : Int) - 1)).toNat = i := by rw [e2]; rfl
    have hlt3 : (IntKind.i64.wrap (((i + 1 : Nat) : Int) - 1)).toNat < l.length := by rw [e3]; omega
    have e4 : l[(IntKind.i64.wrap (((i + 1 : Nat) : Int) - 1)).toNat] = l[i] := by simp only [e3]
    rw [← e4] at hE
    have hns : ordF ext o l[i + 1] l[(IntKind.i64.wrap (((i + 1 : Nat) : Int) - 1)).toNat] < 0 → ¬ Srt (ordF ext o) l := fun h g => g i hi (by rw [← e4]; exact h)
    have hks : ¬ ordF ext o l[i + 1] l[(IntKind.i64.wrap (((i + 1 : Nat) : Int) - 1)).toNat] < 0 → ∀ (j : Nat) (h : j + 1 < l.length), i ≤ j → ¬ ordF ext o l[j + 1] l[j] < 0 := fun h j hj hij => by
      by_cases e : j = i
      · subst e; rw [← e4]; exact h
      · exact hk j hj (by omega)
    have c6 : o = 0 ∨ o = 1 ∨ o = 2 ∨ o = 3 ∨ o = 4 ∨ o = 5 := by omega
    generalize ordF ext o l[i + 1] l[(IntKind.i64.wrap (((i + 1 : Nat) : Int) - 1)).toNat] = c at hE hns hks
    rw [St.knows _ _ ht hz]
    refine Loop.round ?_
    conv => whnf
    refine sel_yes g ?_
    rcases c6 with rfl | rfl | rfl | rfl | rfl | rfl
    all_goals
      conv => whnf
      refine ⟨hb, ?_⟩
      conv => whnf
      refine ldA (i := i + 1) hi ?_
      conv => whnf
      refine ⟨hb2, ?_⟩
      conv => whnf
      refine ldA (i := (IntKind.i64.wrap (((i + 1 : Nat) : Int) - 1)).toNat) hlt3 ?_
      conv => whnf
      refine ⟨_, hE, ?_⟩
      conv => whnf
      refine sel_split (fun h => ?_) (fun h => ?_)
      · conv => whnf
        exact hr _ rfl (hns (of_decide_eq_true h))
      · conv => whnf
        refine ih _ (by omega) ⟨rfl, rfl, ?_, trivial⟩ rfl (hks (of_decide_eq_false h)) hr hq
        conv => lhs; whnf
        exact vi e2
open Classical in
theorem tisS (hn : Non ext) (o : Nat) (h5 : o ≤ 5) (l : List T) (hl : l.length ≤ 65536) (hw : Rows ext o l) : (cfg ext).Ev 29 [.sl false (encL l) l.length, rowOf o] (.bool (decide (Srt (ordF ext o) l))) := by
  have key : ∃ r, (cfg ext).Ev 29 [.sl false (encL l) l.length, rowOf o] r ∧ r = .bool (decide (Srt (ordF ext o) l)) := by
    refine Ev.ofF (hn 29 (by decide) (by decide)) Tryz.func29 rfl rfl ?_
    conv => whnf
    by_cases h0 : l = []
    · subst h0
      refine Loop.round ?_
      conv => whnf
      exact Fin.tmpB (i := 4) rfl rfl (by rw [decide_eq_true (show Srt (ordF ext o) [] from fun j h => by simp at h)])
    · have hlen : 0 < l.length := List.length_pos_iff.2 h0
      refine lisS hn o h5 l hl hw _ (l.length - 1) _ (by omega) ⟨rfl, rfl, ?_, trivial⟩ rfl (fun j h hj => by omega) (fun z a b => ?_) (fun z b => ?_)
      · conv => lhs; whnf
        exact vi (by rw [IntKind.wrap_i64]; omega)
      · exact Fin.tmpB (i := 4) rfl a (by rw [decide_eq_false b])
      · conv => whnf
        exact Fin.tmpB (i := 4) rfl rfl (by rw [decide_eq_true b])
  obtain ⟨r, h, rfl⟩ := key
  exact h
/-- how the middle is told -/
def midZ (i j : Nat) : Int := IntKind.i64.wrap (Int.fdiv (IntKind.u64.wrap (IntKind.i64.wrap ((i : Int) + (j : Int)))) (2 ^ (min (1 : Int).toNat IntKind.u64.bits)))
theorem midZ_is {i j : Nat} (h : i + j ≤ 131072) : midZ i j = ((i + j) / 2 : Nat) := by
  unfold midZ
  have e1 : IntKind.i64.wrap ((i : Int) + (j : Int)) = ((i + j : Nat) : Int) := by rw [IntKind.wrap_i64]; omega
  have e2 : IntKind.u64.wrap ((i + j : Nat) : Int) = ((i + j : Nat) : Int) := by rw [IntKind.wrap_u64]; omega
  rw [e1, e2]
  rw [show (2 ^ (min (1 : Int).toNat IntKind.u64.bits) : Int) = 2 from rfl, Int.fdiv_eq_ediv_of_nonneg _ (by omega), IntKind.wrap_i64]
  omega
def box4 (v : T) : Bx := .cells [.int .i64 v.f0, .int .i64 v.f1, .str v.f2, .sl false (encL v.f3) v.f3.length] false
/-- so many stand ahead -/
def Ahd (f : T → T → Int) (l : List T) (v : T) (p : Nat) : Prop := p ≤ l.length ∧ (∀ (k : Nat) (h : k < l.length), k < p → f l[k] v < 0) ∧ (∀ (k : Nat) (h : k < l.length), p ≤ k → ¬ f l[k] v < 0)
theorem srt_le {f : T → T → Int} (hf : Line f) {l : List T} (hw : ∀ a ∈ l, Shp a) (hs : Srt f l) : ∀ (d i : Nat) (h : i + d < l.length), f l[i] l[i + d] ≤ 0
  | 0, i, h => by have := (hf.2.1 l[i] l[i] (hw _ (List.getElem_mem _)) (hw _ (List.getElem_mem _))).2 rfl; simp only [Nat.add_zero]; omega
  | d + 1, i, h => by
    have h1 := srt_le hf hw hs d i (by omega)
    have h2 := hs (i + d) (by omega)
    have h3 := hf.1 l[i + d] l[i + d + 1]
    exact hf.2.2.1 _ _ _ (hw _ (List.getElem_mem _)) (hw _ (List.getElem_mem (by omega))) (hw _ (List.getElem_mem _)) h1 (show f l[i + d] l[i + d + 1] ≤ 0 by omega)
theorem ahd_down {f : T → T → Int} (hf : Line f) {l : List T} (hw : ∀ a ∈ l, Shp a) (hs : Srt f l) {v : T} (hv : Shp v) {m : Nat} (hm : m < l.length) (h : f l[m] v < 0) {k : Nat} (hk : k ≤ m) : f (l[k]'(by omega)) v < 0 := by
  obtain ⟨d, rfl⟩ := Nat.exists_eq_add_of_le hk
  have h1 := srt_le hf hw hs d k hm
  by_cases hc : f (l[k]'(by omega)) v < 0
  · exact hc
  · have h2 := hf.1 (l[k]'(by omega)) v
    have h3 := hf.2.2.1 v _ _ hv (hw _ (List.getElem_mem (show k < l.length by omega))) (hw _ (List.getElem_mem hm)) (by omega) h1
    have h4 := hf.1 l[k + d] v
    omega
theorem ahd_up {f : T → T → Int} (hf : Line f) {l : List T} (hw : ∀ a ∈ l, Shp a) (hs : Srt f l) {v : T} (hv : Shp v) {m : Nat} (hm : m < l.length) (h : ¬ f l[m] v < 0) {k : Nat} (hl : k < l.length) (hk : m ≤ k) : ¬ f l[k] v < 0 :=
  fun hc => h (ahd_down hf hw hs hv hl hc hk)
theorem ahd_one {f : T → T → Int} {l : List T} {v : T} {p q : Nat} (h1 : Ahd f l v p) (h2 : Ahd f l v q) : p = q := by
  rcases Nat.lt_trichotomy p q with h | h | h
  · exact absurd (h2.2.1 p (by have := h2.1; omega) h) (h1.2.2 p (by have := h2.1; omega) (Nat.le_refl _))
  · exact h
  · exact absurd (h1.2.1 q (by have := h1.1; omega) h) (h2.2.2 q (by have := h1.1; omega) (Nat.le_refl _))
theorem lbin (hn : Non ext) (o : Nat) (h5 : o ≤ 5) (l : List T) (hl : l.length ≤ 65536) (v : T) (hw : ∀ a ∈ l, RowE ext o a v (ordF ext o a v)) (hsh : ∀ a ∈ l, Shp a) (hv : Shp v) (hs : Srt (ordF ext o) l) (Q : Ex → St → Prop) (d : Nat) :
    ∀ (i j : Nat) (z : St), j - i ≤ d → i ≤ j → j ≤ l.length → Has z.t [(0, .sl false (encL l) l.length), (2, rowOf o), (4, .ref 0 0), (8, .int .i64 l.length), (9, .int .i64 i), (10, .int .i64 j)] → Has z.hp.h [(0, some (box4 v))] → z.hp.n = 9 →
      (∀ (k : Nat) (h : k < l.length), k < i → ordF ext o l[k] v < 0) → (∀ (k : Nat) (h : k < l.length), j ≤ k → ¬ ordF ext o l[k] v < 0) →
      (∀ (z' : St) (p : Nat), Has z'.t [(0, .sl false (encL l) l.length), (2, rowOf o), (4, .ref 0 0), (8, .int .i64 l.length), (9, .int .i64 p)] → Has z'.hp.h [(0, some (box4 v))] → z'.hp.n = 12 → Ahd (ordF ext o) l v p → Q (.exit 0) z') →
      Go.Ab.Loop (cfg ext) (lpOf Tryz.f30) 9 z Q := by
  induction d with
  | zero =>
    intro i j z hd hij hj ht hh hz k1 k2 hq
    obtain rfl : i = j := by omega
    have g : decide ((i : Int) < (i : Int)) = false := decide_eq_false (by omega)
    have c6 : o = 0 ∨ o = 1 ∨ o = 2 ∨ o = 3 ∨ o = 4 ∨ o = 5 := by omega
    rw [St.knows _ _ ht hz _ hh]
    refine Loop.round ?_
    conv => whnf
    refine sel_no g ?_
    conv => whnf
    exact hq _ i ⟨rfl, rfl, rfl, rfl, rfl, trivial⟩ ⟨rfl, trivial⟩ rfl ⟨by omega, k1, k2⟩
  | succ d ih =>
    intro i j z hd hij hj ht hh hz k1 k2 hq
    by_cases he : i = j
    · subst he
      exact ih i i z (by omega) hij hj ht hh hz k1 k2 hq
    have g : decide ((i : Int) < (j : Int)) = true := decide_eq_true (by omega)
    have em := midZ_is (i := i) (j := j) (by omega)
    have hb : (0 : Int) ≤ midZ i j ∧ midZ i j < (l.length : Int) := by rw [em]; exact ⟨by omega, by omega⟩
    have en : (midZ i j).toNat = (i + j) / 2 := by rw [em]; rfl
    have hlt : (midZ i j).toNat < l.length := by rw [en]; omega
    have hE := hw _ (List.getElem_mem hlt)
    have e1 : IntKind.i64.wrap (midZ i j + 1) = (((midZ i j).toNat + 1 : Nat) : Int) := by rw [en, em, IntKind.wrap_i64]; omega
    have e2 : midZ i j = (((midZ i j).toNat : Nat) : Int) := by rw [en, em]
    have d1 : ordF ext o l[(midZ i j).toNat] v < 0 → ∀ (k : Nat) (h : k < l.length), k < (midZ i j).toNat + 1 → ordF ext o l[k] v < 0 := fun h k hk hlk => ahd_down (ord_line o) hsh hs hv hlt h (by omega)
    have d2 : ¬ ordF ext o l[(midZ i j).toNat] v < 0 → ∀ (k : Nat) (h : k < l.length), (midZ i j).toNat ≤ k → ¬ ordF ext o l[k] v < 0 := fun h k hk hlk => ahd_up (ord_line o) hsh hs hv hlt h hk hlk
    have b1 : (midZ i j).toNat < j := by rw [en]; omega
    have b2 : i ≤ (midZ i j).toNat := by rw [en]; omega
    have c6 : o = 0 ∨ o = 1 ∨ o = 2 ∨ o = 3 ∨ o = 4 ∨ o = 5 := by omega
    generalize ordF ext o l[(midZ i j).toNat] v = c at hE d1 d2
    rw [St.knows _ _ ht hz _ hh]
    refine Loop.round ?_
    conv => whnf
    refine sel_yes g ?_
    rcases c6 with rfl | rfl | rfl | rfl | rfl | rfl
    all_goals
      conv => whnf
      refine ⟨hb, ?_⟩
      conv => whnf
      refine ldA (i := (midZ i j).toNat) hlt ?_
      conv => whnf
      refine ⟨_, hE, ?_⟩
      conv => whnf
      refine sel_split (fun h => ?_) (fun h => ?_)
      · conv => whnf
        refine ih ((midZ i j).toNat + 1) j _ (by omega) (by omega) hj ⟨rfl, rfl, rfl, rfl, ?_, rfl, trivial⟩ ⟨rfl, trivial⟩ rfl (d1 (of_decide_eq_true h)) k2 hq
        conv => lhs; whnf
        exact vi e1
      · conv => whnf
        refine ih i (midZ i j).toNat _ (by omega) (by omega) (by omega) ⟨rfl, rfl, rfl, rfl, rfl, ?_, trivial⟩ ⟨rfl, trivial⟩ rfl k1 (d2 (of_decide_eq_false h)) hq
        conv => lhs; whnf
        exact vi e2
end
end Go.Proofs.YtehajklneljbgaaGreatDoor.AB
end

section
set_option linter.unusedVariables false
set_option linter.unusedSimpArgs false
open Go Go.Ab Go.Proofs Go.Vl
namespace Go.Proofs.YtehajklneljbgaaGreatDoor.AB
set_option maxRecDepth 100000
set_option maxHeartbeats 8000000
set_option linter.unusedSimpArgs false
set_option linter.unusedVariables false
/-! ### an array of values, read and written -/
theorem encL_take : ∀ (l : List T) (i : Nat), (encL l).take (i * 4) = encL (l.take i)
  | l, 0 => by simp [encL]
  | [], i + 1 => by simp [encL]
  | v :: l, i + 1 => by
    have : (i + 1) * 4 = 4 + i * 4 := by omega
    rw [this, List.take_succ_cons]
    simp only [encL, enc_eq]
    rw [← encL_take l i]
    simp [List.take_add]
theorem encL_app : ∀ (l m : List T), encL (l ++ m) = encL l ++ encL m
  | [], m => by simp [encL]
  | v :: l, m => by simp only [List.cons_append, encL, encL_app l m, List.append_assoc]
theorem fill_set {l : List T} {k : Nat} (x : T) (h : k < l.length) : fillL (encL l) (k * 4) (enc x) = encL (l.set k x) := by
  have e4 : (enc x).length = 4 := by rw [enc_eq]; rfl
  unfold fillL
  rw [e4, show k * 4 + 4 = (k + 1) * 4 by omega, encL_take, encL_drop, List.set_eq_take_append_cons_drop, if_pos h, encL_app]
  simp only [encL, List.append_assoc]
theorem ldR {hp : Hp} {lim : Option (Nat × Nat)} {b v ro : Nat} {l : List T} {cap : Option Nat} {e : Int} {k : Nat} {x : T} {Q : V → Prop} (h : hp.a b = some ⟨v, 4, encL l, cap, ro⟩) (hl : ∀ m, lim = some m → b < m.2) (he : e = (k : Int)) (hx : l[k]? = some x) (hq : Q (A x)) :
    opt (Go.Ab.look lim hp (.aref b v (0 + e.toNat * 4)) 4) fun cs => opt (one (some true) cs) fun v => fv v Q := by
  subst he
  have hk : k < l.length := (List.getElem?_eq_some_iff.1 hx).1
  have e0 : l[k] = x := (List.getElem?_eq_some_iff.1 hx).2
  refine opt_look h hl (by rw [encL_len]; simp; omega) ?_
  rw [show 0 + (k : Int).toNat * 4 = k * 4 by simp, subL hk, oneA, e0]
  exact (fv_eq _ _).2 hq
theorem stR {hp : Hp} {b v : Nat} {l : List T} {cap : Option Nat} {e : Int} {k : Nat} {x : T} {Q : V × Hp → Prop} (h : hp.a b = some ⟨v, 4, encL l, cap, 0⟩) (he : e = (k : Int)) (hk : k < l.length)
    (q : ∀ a', a' b = some ⟨v, 4, encL (l.set k x), cap, 0⟩ → Q (.tup [], ⟨hp.h, hp.n, a', hp.m⟩)) :
    opt ((storeV hp (.aref b v (0 + e.toNat * 4)) [.int .i64 x.f0, .int .i64 x.f1, .str x.f2, .sl false (encL x.f3) x.f3.length]).bind fun hp' => some (.tup [], hp')) Q := by
  subst he
  refine opt_store h (Nat.zero_le _) (by rw [encL_len]; simp; omega) (fun a' h1 _ => q a' ?_)
  rw [h1, show 0 + (k : Int).toNat * 4 = k * 4 by simp, ← enc_eq, fill_set x hk]
theorem map_encL (n : Nat) : ∀ l : List T, (encL l).map (cleanV n) = encL l
  | [] => by simp [encL]
  | v :: l => by simp only [encL, List.map_append, map_encL n l, enc_eq, List.map_cons, List.map_nil]; rfl
theorem trunc_arr {z : St} {b v n : Nat} {l : List T} {cap : Option Nat} (h : z.hp.a b = some ⟨v, 4, encL l, cap, 0⟩) : (z.trunc n).hp.a b = some ⟨v, 4, encL l, cap, 0⟩ := by
  show (match z.hp.a b with | some A => some { A with cs := A.cs.map (cleanV n) } | none => none) = _
  rw [h]
  simp only [map_encL]
theorem getq {A B : List T} {x : T} {k : Nat} (h : k = A.length) : (A ++ x :: B)[k]? = some x := by subst h; simp
theorem setq {A B : List T} {x y : T} {k : Nat} (h : k = A.length) : (A ++ x :: B).set k y = A ++ y :: B := by subst h; simp
section
variable {ext : Exts}
/-- a call turns l into l', in the array b -/
def SR (ext : Exts) (f : Nat) (xs : List V) (b v : Nat) (cap : Option Nat) (l l' : List T) : Prop :=
  ∀ hp : Hp, hp.a b = some ⟨v, 4, encL l, cap, 0⟩ → b < hp.m → ∃ hp', (cfg ext).EvR f xs hp (.tup []) hp' ∧ hp'.a b = some ⟨v, 4, encL l', cap, 0⟩ ∧ b < hp'.m
theorem lswap (fn : V) (N b v : Nat) (hN : N ≤ 65536) (cap : Option Nat) (s : List T) (Q : Ex → St → Prop) (a c m : Nat) (n : Nat) :
    ∀ (x p q y : List T) (i : Nat) (z : St), x.length = y.length → i + x.length = m → a + i = p.length → c + i = p.length + x.length + q.length → (p ++ x ++ q ++ y ++ s).length = N →
      Has z.t [(0, .rsl false b v 0 N), (1, .int .i64 a), (2, .int .i64 c), (3, .int .i64 m), (10, .int .i64 i)] → z.hp.n = n → z.hp.a b = some ⟨v, 4, encL (p ++ x ++ q ++ y ++ s), cap, 0⟩ → b < z.hp.m →
      (∀ z' : St, z'.hp.a b = some ⟨v, 4, encL (p ++ y ++ q ++ x ++ s), cap, 0⟩ → b < z'.hp.m → Q (.exit 0) z') →
      Go.Ab.Loop (cfg ext) (lpOf Tryz.f109) n z Q := by
  intro x
  induction x with
  | nil =>
    intro p q y i z hxy him hap hcp hlen ht hz ha hb hq
    obtain rfl : y = [] := List.eq_nil_of_length_eq_zero hxy.symm
    have g : decide ((i : Int) < (m : Int)) = false := decide_eq_false (by simp at him; omega)
    rw [St.knows _ _ ht hz]
    refine Loop.round ?_
    conv => whnf
    refine sel_no g ?_
    conv => whnf
    exact hq _ ha (Nat.lt_of_lt_of_le hb (by (conv => lhs; whnf); (repeat ((conv => rhs; whnf); first | with_reducible exact Nat.le_refl _ | refine Nat.le_trans ?_ (Nat.le_add_right _ _) | refine Nat.le_succ_of_le ?_))))
  | cons d x ih =>
    intro p q y i z hxy him hap hcp hlen ht hz ha hb hq
    cases y with
    | nil => simp at hxy
    | cons e y =>
    simp only [List.length_cons] at hxy him hcp
    have hlen' := hlen
    simp only [List.length_append, List.length_cons] at hlen'
    have g : decide ((i : Int) < (m : Int)) = true := decide_eq_true (by omega)
    have w1 : IntKind.i64.wrap ((a : Int) + (i : Int)) = (p.length : Int) := by rw [IntKind.wrap_i64]; omega
    have w2 : IntKind.i64.wrap ((c : Int) + (i : Int)) = ((p.length + (x.length + 1) + q.length : Nat) : Int) := by rw [IntKind.wrap_i64]; omega
    have w3 : IntKind.i64.wrap ((i : Int) + 1) = ((i + 1 : Nat) : Int) := by rw [IntKind.wrap_i64]; omega
    have r1 : (p ++ d :: x ++ q ++ e :: y ++ s)[p.length]? = some d := by simp
    have r2 : (p ++ d :: x ++ q ++ e :: y ++ s)[p.length + (x.length + 1) + q.length]? = some e := by
      rw [show p ++ d :: x ++ q ++ e :: y ++ s = (p ++ d :: x ++ q) ++ e :: (y ++ s) by simp]
      exact getq (by simp; omega)
    have s1 : (p ++ d :: x ++ q ++ e :: y ++ s).set p.length e = p ++ e :: x ++ q ++ e :: y ++ s := by simp
    have s2 : (p ++ e :: x ++ q ++ e :: y ++ s).set (p.length + (x.length + 1) + q.length) d = (p ++ [e]) ++ x ++ (q ++ [d]) ++ y ++ s := by
      rw [show p ++ e :: x ++ q ++ e :: y ++ s = (p ++ e :: x ++ q) ++ e :: (y ++ s) by simp, setq (by simp; omega)]
      simp
    have b1 : p.length < N := by omega
    have b2 : p.length + (x.length + 1) + q.length < N := by omega
    rw [St.knows _ _ ht hz]
    refine Loop.round ?_
    conv => whnf
    refine sel_yes g ?_
    conv => whnf
    refine ⟨bnd w2 b2, ?_⟩
    conv => whnf
    refine ldR ha (fun l hl => by cases hl; exact Nat.lt_of_lt_of_le hb (by (conv => lhs; whnf); (repeat ((conv => rhs; whnf); first | with_reducible exact Nat.le_refl _ | refine Nat.le_trans ?_ (Nat.le_add_right _ _) | refine Nat.le_succ_of_le ?_)))) w2 r2 ?_
    conv => whnf
    refine ⟨bnd w1 b1, ?_⟩
    conv => whnf
    refine ldR ha (fun l hl => by cases hl; exact Nat.lt_of_lt_of_le hb (by (conv => lhs; whnf); (repeat ((conv => rhs; whnf); first | with_reducible exact Nat.le_refl _ | refine Nat.le_trans ?_ (Nat.le_add_right _ _) | refine Nat.le_succ_of_le ?_)))) w1 r1 ?_
    conv => whnf
    refine ⟨bnd w1 b1, ?_⟩
    conv => whnf
    refine stR ha w1 (by rw [hlen]; exact b1) (fun a1 h1 => ?_)
    rw [s1] at h1
    conv => whnf
    refine ⟨bnd w2 b2, ?_⟩
    conv => whnf
    refine stR h1 w2 (by simp; omega) (fun a2 h2 => ?_)
    rw [s2] at h2
    conv => whnf
    refine ih (p ++ [e]) (q ++ [d]) y (i + 1) _ (by omega) (by omega) (by simp; omega) (by simp; omega) (by simp; omega) ⟨rfl, rfl, rfl, rfl, ?_, trivial⟩ rfl (trunc_arr h2) (Nat.lt_of_lt_of_le hb (by (conv => lhs; whnf); (repeat ((conv => rhs; whnf); first | with_reducible exact Nat.le_refl _ | refine Nat.le_trans ?_ (Nat.le_add_right _ _) | refine Nat.le_succ_of_le ?_)))) (fun z' h3 => hq z' (by rw [h3]; simp))
    conv => lhs; whnf
    exact vi w3
theorem tswap (fn : V) (b v : Nat) (cap : Option Nat) (p x q y s : List T) (hxy : x.length = y.length) (hN : (p ++ x ++ q ++ y ++ s).length ≤ 65536) :
    SR ext 109 [.rsl false b v 0 (p ++ x ++ q ++ y ++ s).length, .int .i64 p.length, .int .i64 ((p.length + x.length + q.length : Nat) : Int), .int .i64 x.length, fn] b v cap (p ++ x ++ q ++ y ++ s) (p ++ y ++ q ++ x ++ s) := by
  intro hp ha hb
  have key : ∃ r hp', (cfg ext).EvR 109 [.rsl false b v 0 (p ++ x ++ q ++ y ++ s).length, .int .i64 p.length, .int .i64 ((p.length + x.length + q.length : Nat) : Int), .int .i64 x.length, fn] hp r hp' ∧ (r = .tup [] ∧ hp'.a b = some ⟨v, 4, encL (p ++ y ++ q ++ x ++ s), cap, 0⟩ ∧ b < hp'.m) := by
    refine EvR.ofE Tryz.func109 rfl rfl ?_
    conv => whnf
    refine lswap fn _ b v hN cap s _ p.length (p.length + x.length + q.length) x.length _ x p q y 0 _ hxy (by omega) (by omega) (by omega) rfl ⟨rfl, rfl, rfl, rfl, rfl, trivial⟩ rfl ha (Nat.lt_of_lt_of_le hb (by (conv => lhs; whnf); (repeat ((conv => rhs; whnf); first | with_reducible exact Nat.le_refl _ | refine Nat.le_trans ?_ (Nat.le_add_right _ _) | refine Nat.le_succ_of_le ?_)))) (fun z' h1 h2 => ?_)
    exact ⟨rfl, h1, h2⟩
  obtain ⟨r, hp', h, rfl, h1, h2⟩ := key
  exact ⟨hp', h, h1, h2⟩
end
end Go.Proofs.YtehajklneljbgaaGreatDoor.AB
end

section
set_option linter.unusedVariables false
set_option linter.unusedSimpArgs false
open Go Go.Ab Go.Proofs Go.Vl
namespace Go.Proofs.YtehajklneljbgaaGreatDoor.AB
set_option maxRecDepth 100000
set_option maxHeartbeats 8000000
set_option linter.unusedSimpArgs false
set_option linter.unusedVariables false
section
variable {ext : Exts}
theorem SR.use {f : Nat} {xs : List V} {b v : Nat} {cap : Option Nat} {l l' : List T} {hp : Hp} {Q : V → Hp → Prop} (h : SR ext f xs b v cap l l') (ha : hp.a b = some ⟨v, 4, encL l, cap, 0⟩) (hb : b < hp.m)
    (q : ∀ hp', hp'.a b = some ⟨v, 4, encL l', cap, 0⟩ → b < hp'.m → Q (.tup []) hp') : ∃ r hp', (cfg ext).EvR f xs hp r hp' ∧ Q r hp' := by
  obtain ⟨hp', h1, h2, h3⟩ := h hp ha hb
  exact ⟨_, hp', h1, q hp' h2 h3⟩
theorem SR.args {f : Nat} {xs ys : List V} {b v : Nat} {cap : Option Nat} {l l' m' : List T} (h : SR ext f xs b v cap l l') (e : xs = ys) (e' : l' = m') : SR ext f ys b v cap l m' := e ▸ e' ▸ h
theorem lrot (fk : Nat) (fc : List V) (hfn : ∀ n, cleanV n (.fn fk fc) = .fn fk fc) (N b v : Nat) (hN : N ≤ 65536) (cap : Option Nat) (Q : Ex → St → Prop) (m n : Nat) (d : Nat) :
    ∀ (p X Y s : List T) (z : St), X.length + Y.length ≤ d → 0 < X.length → 0 < Y.length → p.length + X.length = m → (p ++ X ++ Y ++ s).length = N →
      Has z.t [(0, .rsl false b v 0 N), (2, .int .i64 m), (4, .fn fk fc), (10, .int .i64 X.length), (11, .int .i64 Y.length)] → z.hp.n = n → z.hp.a b = some ⟨v, 4, encL (p ++ X ++ Y ++ s), cap, 0⟩ → b < z.hp.m →
      (∀ (z' : St) (p' X' Y' s' : List T), X'.length = Y'.length → p'.length + X'.length = m → (p' ++ X' ++ Y' ++ s').length = N → p' ++ Y' ++ X' ++ s' = p ++ Y ++ X ++ s →
        Has z'.t [(0, .rsl false b v 0 N), (2, .int .i64 m), (4, .fn fk fc), (10, .int .i64 X'.length)] → z'.hp.n = n + 3 → z'.hp.a b = some ⟨v, 4, encL (p' ++ X' ++ Y' ++ s'), cap, 0⟩ → b < z'.hp.m → Q (.exit 0) z') →
      Go.Ab.Loop (cfg ext) (lpOf Tryz.f100) n z Q := by
  induction d with
  | zero => intro p X Y s z hd hX; omega
  | succ d ih =>
    intro p X Y s z hd hX hY hm hlen ht hz ha hb hq
    have hlen' := hlen
    simp only [List.length_append] at hlen'
    by_cases he : X.length = Y.length
    · have g : ((X.length : Int) != (Y.length : Int)) = false := by rw [he]; simp
      rw [St.knows _ _ ht hz]
      refine Loop.round ?_
      conv => whnf
      refine sel_no g ?_
      conv => whnf
      exact hq _ p X Y s he hm hlen rfl ⟨rfl, rfl, rfl, rfl, trivial⟩ rfl ha (Nat.lt_of_lt_of_le hb (by (conv => lhs; whnf); (repeat ((conv => rhs; whnf); first | with_reducible exact Nat.le_refl _ | refine Nat.le_trans ?_ (Nat.le_add_right _ _) | refine Nat.le_succ_of_le ?_))))
    · have g : ((X.length : Int) != (Y.length : Int)) = true := by simp; omega
      have w1 : IntKind.i64.wrap ((m : Int) - (X.length : Int)) = (p.length : Int) := by rw [IntKind.wrap_i64]; omega
      by_cases hg : Y.length < X.length
      · have g2 : decide ((X.length : Int) > (Y.length : Int)) = true := decide_eq_true (by omega)
        obtain ⟨X1, X2, hX12, hl1⟩ : ∃ X1 X2, X = X1 ++ X2 ∧ X1.length = Y.length := ⟨X.take Y.length, X.drop Y.length, (List.take_append_drop _ _).symm, by rw [List.length_take]; omega⟩
        subst hX12
        simp only [List.length_append] at hlen' hm hd w1 g g2 hg ht hX
        have hs := tswap (ext := ext) (.fn fk fc) b v cap p X1 X2 Y s hl1 (by simp only [List.length_append]; omega)
        have hs : SR ext 109 [.rsl false b v 0 N, .int .i64 (IntKind.i64.wrap ((m : Int) - ((X1.length + X2.length : Nat) : Int))), .int .i64 m, .int .i64 Y.length, .fn fk fc] b v cap (p ++ (X1 ++ X2) ++ Y ++ s) ((p ++ Y) ++ X2 ++ X1 ++ s) := by
          rw [w1, show p ++ (X1 ++ X2) ++ Y ++ s = p ++ X1 ++ X2 ++ Y ++ s by simp]
          exact hs.args (by rw [show (p ++ X1 ++ X2 ++ Y ++ s).length = N by rw [← hlen]; simp, hl1, show p.length + Y.length + X2.length = m by omega]) rfl
        have w2 : IntKind.i64.wrap (((X1.length + X2.length : Nat) : Int) - (Y.length : Int)) = (X2.length : Int) := by rw [IntKind.wrap_i64]; omega
        rw [St.knows _ _ ht hz]
        refine Loop.round ?_
        conv => whnf
        refine sel_yes g ?_
        conv => whnf
        refine sel_yes g2 ?_
        conv => whnf
        refine SR.use hs ha (Nat.lt_of_lt_of_le hb (by (conv => lhs; whnf); (repeat ((conv => rhs; whnf); first | with_reducible exact Nat.le_refl _ | refine Nat.le_trans ?_ (Nat.le_add_right _ _) | refine Nat.le_succ_of_le ?_)))) (fun hp' h1 h2 => ?_)
        conv => whnf
        refine ih (p ++ Y) X2 X1 s _ (by omega) (by omega) (by omega) (by simp only [List.length_append]; omega) (by simp only [List.length_append]; omega) ⟨rfl, rfl, hfn n, ?_, ?_, trivial⟩ rfl (trunc_arr h1) (Nat.lt_of_lt_of_le h2 (by (conv => lhs; whnf); (repeat ((conv => rhs; whnf); first | with_reducible exact Nat.le_refl _ | refine Nat.le_trans ?_ (Nat.le_add_right _ _) | refine Nat.le_succ_of_le ?_ | exact Nat.le_refl _)))) (fun z' p' X' Y' s' c1 c2 c3 c4 => hq z' p' X' Y' s' c1 c2 c3 (by rw [c4]; simp))
        · conv => lhs; whnf
          exact vi w2
        · conv => lhs; whnf
          exact vi (by rw [hl1])
      · have g2 : decide ((X.length : Int) > (Y.length : Int)) = false := decide_eq_false (by omega)
        obtain ⟨Y1, Y2, hY12, hl1⟩ : ∃ Y1 Y2, Y = Y1 ++ Y2 ∧ Y2.length = X.length := ⟨Y.take (Y.length - X.length), Y.drop (Y.length - X.length), (List.take_append_drop _ _).symm, by rw [List.length_drop]; omega⟩
        subst hY12
        simp only [List.length_append] at hlen' hm hd w1 g g2 hg ht hY he
        have hs := tswap (ext := ext) (.fn fk fc) b v cap p X Y1 Y2 s hl1.symm (by simp only [List.length_append]; omega)
        have w3 : IntKind.i64.wrap (IntKind.i64.wrap ((m : Int) + ((Y1.length + Y2.length : Nat) : Int)) - (X.length : Int)) = ((p.length + X.length + Y1.length : Nat) : Int) := by
          have e : IntKind.i64.wrap ((m : Int) + ((Y1.length + Y2.length : Nat) : Int)) = ((m + Y1.length + Y2.length : Nat) : Int) := by rw [IntKind.wrap_i64]; omega
          rw [e, IntKind.wrap_i64]; omega
        have hs : SR ext 109 [.rsl false b v 0 N, .int .i64 (IntKind.i64.wrap ((m : Int) - (X.length : Int))), .int .i64 (IntKind.i64.wrap (IntKind.i64.wrap ((m : Int) + ((Y1.length + Y2.length : Nat) : Int)) - (X.length : Int))), .int .i64 X.length, .fn fk fc] b v cap (p ++ X ++ (Y1 ++ Y2) ++ s) (p ++ Y2 ++ Y1 ++ (X ++ s)) := by
          rw [w1, w3, show p ++ X ++ (Y1 ++ Y2) ++ s = p ++ X ++ Y1 ++ Y2 ++ s by simp]
          exact hs.args (by rw [show (p ++ X ++ Y1 ++ Y2 ++ s).length = N by rw [← hlen]; simp]) (by simp)
        have w2 : IntKind.i64.wrap (((Y1.length + Y2.length : Nat) : Int) - (X.length : Int)) = (Y1.length : Int) := by rw [IntKind.wrap_i64]; omega
        rw [St.knows _ _ ht hz]
        refine Loop.round ?_
        conv => whnf
        refine sel_yes g ?_
        conv => whnf
        refine sel_no g2 ?_
        conv => whnf
        refine SR.use hs ha (Nat.lt_of_lt_of_le hb (by (conv => lhs; whnf); (repeat ((conv => rhs; whnf); first | with_reducible exact Nat.le_refl _ | refine Nat.le_trans ?_ (Nat.le_add_right _ _) | refine Nat.le_succ_of_le ?_)))) (fun hp' h1 h2 => ?_)
        conv => whnf
        refine ih p Y2 Y1 (X ++ s) _ (by omega) (by omega) (by omega) (by omega) (by simp only [List.length_append]; omega) ⟨rfl, rfl, hfn n, ?_, ?_, trivial⟩ rfl (trunc_arr h1) (Nat.lt_of_lt_of_le h2 (by (conv => lhs; whnf); (repeat ((conv => rhs; whnf); first | with_reducible exact Nat.le_refl _ | refine Nat.le_trans ?_ (Nat.le_add_right _ _) | refine Nat.le_succ_of_le ?_ | exact Nat.le_refl _)))) (fun z' p' X' Y' s' c1 c2 c3 c4 => hq z' p' X' Y' s' c1 c2 c3 (by rw [c4]; simp))
        · conv => lhs; whnf
          exact vi (by rw [hl1])
        · conv => lhs; whnf
          exact vi w2
theorem trot (fk : Nat) (fc : List V) (hfn : ∀ n, cleanV n (.fn fk fc) = .fn fk fc) (b v : Nat) (cap : Option Nat) (p X Y s : List T) (hX : 0 < X.length) (hY : 0 < Y.length) (hN : (p ++ X ++ Y ++ s).length ≤ 65536) :
    SR ext 100 [.rsl false b v 0 (p ++ X ++ Y ++ s).length, .int .i64 p.length, .int .i64 ((p.length + X.length : Nat) : Int), .int .i64 ((p.length + X.length + Y.length : Nat) : Int), .fn fk fc] b v cap (p ++ X ++ Y ++ s) (p ++ Y ++ X ++ s) := by
  intro hp ha hb
  have hN' := hN
  simp only [List.length_append] at hN'
  have key : ∃ r hp', (cfg ext).EvR 100 [.rsl false b v 0 (p ++ X ++ Y ++ s).length, .int .i64 p.length, .int .i64 ((p.length + X.length : Nat) : Int), .int .i64 ((p.length + X.length + Y.length : Nat) : Int), .fn fk fc] hp r hp' ∧ (r = .tup [] ∧ hp'.a b = some ⟨v, 4, encL (p ++ Y ++ X ++ s), cap, 0⟩ ∧ b < hp'.m) := by
    refine EvR.ofE Tryz.func100 rfl rfl ?_
    conv => whnf
    refine lrot fk fc hfn _ b v hN cap _ (p.length + X.length) _ _ p X Y s _ (Nat.le_refl _) hX hY rfl rfl ⟨rfl, rfl, rfl, ?_, ?_, trivial⟩ rfl ha (Nat.lt_of_lt_of_le hb (by (conv => lhs; whnf); (repeat ((conv => rhs; whnf); first | with_reducible exact Nat.le_refl _ | refine Nat.le_trans ?_ (Nat.le_add_right _ _) | refine Nat.le_succ_of_le ?_)))) (fun z' p' X' Y' s' c1 c2 c3 c4 c5 c6 c7 c8 => ?_)
    · conv => lhs; whnf
      exact vi (by rw [IntKind.wrap_i64]; omega)
    · conv => lhs; whnf
      exact vi (by rw [IntKind.wrap_i64]; omega)
    · have c3' := c3
      simp only [List.length_append] at c3'
      have w1 : IntKind.i64.wrap (((p.length + X.length : Nat) : Int) - (X'.length : Int)) = (p'.length : Int) := by rw [IntKind.wrap_i64]; omega
      have hs0 := tswap (ext := ext) (.fn fk fc) b v cap p' X' [] Y' s' c1 (by simp only [List.length_append, List.length_nil]; omega)
      have e1 : p' ++ X' ++ [] ++ Y' ++ s' = p' ++ X' ++ Y' ++ s' := by simp
      have e2 : p' ++ Y' ++ [] ++ X' ++ s' = p ++ Y ++ X ++ s := by rw [← c4]; simp
      rw [e1, e2] at hs0
      have hs : SR ext 109 [.rsl false b v 0 (p ++ X ++ Y ++ s).length, .int .i64 (IntKind.i64.wrap (((p.length + X.length : Nat) : Int) - (X'.length : Int))), .int .i64 ((p.length + X.length : Nat) : Int), .int .i64 X'.length, .fn fk fc] b v cap (p' ++ X' ++ Y' ++ s') (p ++ Y ++ X ++ s) := by
        rw [w1]
        exact hs0.args (by rw [c3, show p'.length + X'.length + ([] : List T).length = p.length + X.length by simp; omega]) rfl
      rw [St.knows _ _ c5 c6]
      conv => whnf
      refine SR.use hs c7 (Nat.lt_of_lt_of_le c8 (by (conv => lhs; whnf); (repeat ((conv => rhs; whnf); first | with_reducible exact Nat.le_refl _ | refine Nat.le_trans ?_ (Nat.le_add_right _ _) | refine Nat.le_succ_of_le ?_)))) (fun hp' h1 h2 => ?_)
      conv => whnf
      exact ⟨rfl, h1, h2⟩
  obtain ⟨r, hp', h, rfl, h1, h2⟩ := key
  exact ⟨hp', h, h1, h2⟩
end
end Go.Proofs.YtehajklneljbgaaGreatDoor.AB
end

section
set_option linter.unusedVariables false
set_option linter.unusedSimpArgs false
open Go Go.Ab Go.Proofs Go.Vl
namespace Go.Proofs.YtehajklneljbgaaGreatDoor.AB
set_option maxRecDepth 100000
set_option maxHeartbeats 16000000
set_option linter.unusedSimpArgs false
set_option linter.unusedVariables false
/-! ### sorted lists -/
def Le (f : T → T → Int) (l : List T) : Prop := l.Pairwise fun x y => f x y ≤ 0
theorem ins_sorted {f : T → T → Int} (hf : Line f) {U W : List T} {c : T} (hsh : ∀ x ∈ U ++ c :: W, Shp x) (hs : Le f (U ++ W)) (hw : ∀ w ∈ W, f c w ≤ 0) (hu : ∀ y, U.getLast? = some y → f y c ≤ 0) : Le f (U ++ c :: W) := by
  have hs' := List.pairwise_append.1 hs
  refine List.pairwise_append.2 ⟨hs'.1, List.pairwise_cons.2 ⟨hw, hs'.2.1⟩, ?_⟩
  intro x hx y hy
  rcases List.mem_cons.1 hy with rfl | hy
  · rcases List.eq_nil_or_concat U with rfl | ⟨U', z, rfl⟩
    · cases hx
    · have hz := hu z (by simp)
      rw [List.concat_eq_append] at hx hs' hsh
      rcases List.mem_append.1 hx with hx | hx
      · have h1 : f x z ≤ 0 := (List.pairwise_append.1 hs'.1).2.2 x hx z (by simp)
        exact hf.2.2.1 x z y (hsh _ (by simp [hx])) (hsh _ (by simp)) (hsh _ (by simp)) h1 hz
      · rcases List.mem_cons.1 hx with rfl | hx
        · exact hz
        · cases hx
  · exact hs'.2.2 x hx y hy
theorem le_perm_eq {f : T → T → Int} (hf : Line f) : ∀ {l m : List T}, (∀ x ∈ l, Shp x) → Le f l → Le f m → l.Perm m → l = m
  | [], m, _, _, _, h => (List.Perm.nil_eq h)
  | a :: l, m, hsh, h1, h2, h => by
    cases m with
    | nil => exact absurd h.length_eq (by simp)
    | cons b m =>
      have h1' := List.pairwise_cons.1 h1
      have h2' := List.pairwise_cons.1 h2
      have hsm : ∀ x ∈ b :: m, Shp x := fun x hx => hsh x (h.mem_iff.2 hx)
      have hab : a = b := by
        by_cases e : a = b
        · exact e
        · have ha : a ∈ m := by rcases List.mem_cons.1 (h.mem_iff.1 List.mem_cons_self) with h' | h'; exact absurd h' e; exact h'
          have hb : b ∈ l := by rcases List.mem_cons.1 (h.mem_iff.2 List.mem_cons_self) with h' | h'; exact absurd h'.symm e; exact h'
          have q1 := h1'.1 b hb
          have q2 := h2'.1 a ha
          have q3 := hf.1 a b
          exact (hf.2.1 a b (hsh _ List.mem_cons_self) (hsm _ List.mem_cons_self)).1 (by omega)
      subst hab
      rw [le_perm_eq hf (fun x hx => hsh x (List.mem_cons_of_mem _ hx)) h1'.2 h2'.2 (List.Perm.cons_inv h)]
section
variable {ext : Exts}
/-- right values -/
def Gd (l : List T) : Prop := ∀ x ∈ l, WfV x ∧ okB x = true
theorem Gd.shp {l : List T} (h : Gd l) : ∀ x ∈ l, Shp x := fun x hx => shp_of x (okB_iff.1 (h x hx).2).1
theorem Gd.perm {l m : List T} (h : Gd l) (p : m.Perm l) : Gd m := fun x hx => h x (p.mem_iff.1 hx)
theorem linsI (hn : Non ext) (h26 : E26 ext) (h73 : E73 ext) (o : Nat) (h5 : o ≤ 5) (N b v : Nat) (hN : N ≤ 65536) (cap : Option Nat) (p S : List T) (c : T) (e i : Int) (Q : Ex → St → Prop) (n : Nat) (d : Nat) :
    ∀ (U W : List T) (z : St), U.length = d → Gd (U ++ c :: W) → Le (ordF ext o) (U ++ W) → (∀ w ∈ W, ordF ext o c w ≤ 0) → (p ++ U ++ c :: (W ++ S)).length = N →
      Has z.t [(0, .rsl false b v 0 N), (1, .int .i64 p.length), (2, .int .i64 e), (3, rowOf o), (8, .int .i64 i), (9, .int .i64 ((p.length + U.length : Nat) : Int))] → z.hp.n = n → z.hp.a b = some ⟨v, 4, encL (p ++ U ++ c :: (W ++ S)), cap, 0⟩ → b < z.hp.m →
      (∀ (z' : St) (U' W' : List T), Le (ordF ext o) (U' ++ c :: W') → (U' ++ c :: W').Perm (U ++ c :: W) →
        Has z'.t [(0, .rsl false b v 0 N), (1, .int .i64 p.length), (2, .int .i64 e), (3, rowOf o), (8, .int .i64 i)] → z'.hp.a b = some ⟨v, 4, encL (p ++ U' ++ c :: (W' ++ S)), cap, 0⟩ → b < z'.hp.m → Q (.exit 2) z') →
      Go.Ab.Loop (cfg ext) (lpN Tryz.f79 1) n z Q := by
  have c6 : o = 0 ∨ o = 1 ∨ o = 2 ∨ o = 3 ∨ o = 4 ∨ o = 5 := by omega
  induction d with
  | zero =>
    intro U W z hU hG hs hw hlen ht hz ha hb hq
    obtain rfl := List.eq_nil_of_length_eq_zero hU
    have g : decide (((p.length + ([] : List T).length : Nat) : Int) > (p.length : Int)) = false := decide_eq_false (by simp)
    have g' : (decide (((p.length + ([] : List T).length : Nat) : Int) > (p.length : Int)) == true) = false := by rw [g]; rfl
    rw [St.knows _ _ ht hz]
    refine Loop.round ?_
    conv => whnf
    repeat (first
      | (refine sel_yes ?_ ?_; (first | assumption | (simp only [beq_iff_eq, bne_iff_ne, beq_eq_false_iff_ne, bne_eq_false_iff_eq, decide_eq_true_eq, decide_eq_false_iff_not, Bool.not_eq_true', Bool.not_eq_false', ne_eq, beq_true, beq_false, bne_self_eq_false, not_true_eq_false, not_false_eq_true, gt_iff_lt, ge_iff_le, Int.not_lt, Int.not_le, Bool.true_eq_false, Bool.false_eq_true] <;> omega)); conv => whnf)
      | (refine sel_no ?_ ?_; (first | assumption | (simp only [beq_iff_eq, bne_iff_ne, beq_eq_false_iff_ne, bne_eq_false_iff_eq, decide_eq_true_eq, decide_eq_false_iff_not, Bool.not_eq_true', Bool.not_eq_false', ne_eq, beq_true, beq_false, bne_self_eq_false, not_true_eq_false, not_false_eq_true, gt_iff_lt, ge_iff_le, Int.not_lt, Int.not_le, Bool.true_eq_false, Bool.false_eq_true] <;> omega)); conv => whnf)
      | (refine ⟨le_rfl' ?_, ?_⟩; rfl; conv => whnf)
      | (refine ⟨⟨?_, ?_⟩, ?_⟩; omega; omega; conv => whnf)
      | (refine ⟨⟨?_, ?_, ?_⟩, ?_⟩; rfl; omega; omega; conv => whnf)
      | (refine ⟨rfl, ?_, ?_⟩; decide; conv => whnf))
    try exact rfl
    refine hq _ [] W (List.pairwise_cons.2 ⟨hw, by simpa [Le] using hs⟩) (List.Perm.refl _) ⟨rfl, rfl, rfl, rfl, rfl, trivial⟩ ha (Nat.lt_of_lt_of_le hb (by (conv => lhs; whnf); (repeat ((conv => rhs; whnf); first | with_reducible exact Nat.le_refl _ | refine Nat.le_trans ?_ (Nat.le_add_right _ _) | refine Nat.le_succ_of_le ?_ | exact Nat.le_refl _))))
  | succ d ih =>
    intro U W z hU hG hs hw hlen ht hz ha hb hq
    obtain ⟨U', y, rfl⟩ : ∃ U' y, U = U' ++ [y] := by
      rcases List.eq_nil_or_concat U with rfl | ⟨U', y, rfl⟩
      · simp at hU
      · exact ⟨U', y, by simp⟩
    simp only [List.length_append, List.length_cons, List.length_nil] at hU ht
    have hlen' := hlen
    simp only [List.length_append, List.length_cons, List.length_nil] at hlen'
    have g : decide (((p.length + (U'.length + (0 + 1)) : Nat) : Int) > (p.length : Int)) = true := decide_eq_true (by omega)
    have g' : (decide (((p.length + (U'.length + (0 + 1)) : Nat) : Int) > (p.length : Int)) == true) = true := by rw [g]; rfl
    have w1 : IntKind.i64.wrap (((p.length + (U'.length + (0 + 1)) : Nat) : Int) - 1) = ((p.length + U'.length : Nat) : Int) := by rw [IntKind.wrap_i64]; omega
    have r1 : (p ++ (U' ++ [y]) ++ c :: (W ++ S))[p.length + (U'.length + (0 + 1))]? = some c := by
      exact getq (by simp)
    have r2 : (p ++ (U' ++ [y]) ++ c :: (W ++ S))[p.length + U'.length]? = some y := by
      rw [show p ++ (U' ++ [y]) ++ c :: (W ++ S) = (p ++ U') ++ y :: c :: (W ++ S) by simp]
      exact getq (by simp)
    have b1 : p.length + (U'.length + (0 + 1)) < N := by omega
    have b2 : p.length + U'.length < N := by omega
    have s1 : (p ++ (U' ++ [y]) ++ c :: (W ++ S)).set (p.length + (U'.length + (0 + 1))) y = (p ++ U') ++ y :: y :: (W ++ S) := by
      rw [setq (by simp)]; simp
    have s2 : ((p ++ U') ++ y :: y :: (W ++ S)).set (p.length + U'.length) c = p ++ U' ++ c :: (y :: W ++ S) := by
      rw [setq (by simp)]; simp
    have gc := hG c (by simp)
    have gy := hG y (by simp)
    have hE := rowOrd hn h26 h73 o h5 c y gc.1 gy.1 gc.2 gy.2
    have hyes : ordF ext o c y < 0 → ∀ w ∈ y :: W, ordF ext o c w ≤ 0 := fun h w hw' => by
      rcases List.mem_cons.1 hw' with rfl | hw'
      · omega
      · exact hw w hw'
    have hno : ¬ ordF ext o c y < 0 → Le (ordF ext o) ((U' ++ [y]) ++ c :: W) := fun h =>
      ins_sorted (ord_line o) (hG.shp) hs hw (fun q hq => by simp at hq; subst hq; have := (ord_line (ext := ext) o).1 c y; omega)
    have hs3 : Le (ordF ext o) (U' ++ y :: W) := by simpa using hs
    have hG3 : Gd (U' ++ c :: y :: W) := hG.perm (by
      rw [show U' ++ [y] ++ c :: W = U' ++ y :: c :: W by simp]
      exact List.Perm.append_left _ (List.Perm.swap _ _ _))
    have hP : ∀ {X Y : List T}, (X ++ c :: Y).Perm (U' ++ c :: y :: W) → (X ++ c :: Y).Perm (U' ++ [y] ++ c :: W) := fun h => h.trans (by
      rw [show U' ++ [y] ++ c :: W = U' ++ y :: c :: W by simp]
      exact List.Perm.append_left _ (List.Perm.swap _ _ _))
    generalize ordF ext o c y = x at hE hyes hno
    rw [St.knows _ _ ht hz]
    refine Loop.round ?_
    conv => whnf
    rcases c6 with rfl | rfl | rfl | rfl | rfl | rfl
    all_goals
      refine sel_yes g' ?_
      conv => whnf
      refine sel_yes g' ?_
      conv => whnf
      refine sel_yes g' ?_
      conv => whnf
      refine sel_yes g' ?_
      conv => whnf
      refine ⟨bnd rfl b1, ?_⟩
      conv => whnf
      refine sel_yes g' ?_
      conv => whnf
      refine ldR ha (fun l hl => by cases hl; exact Nat.lt_of_lt_of_le hb (by (conv => lhs; whnf); (repeat ((conv => rhs; whnf); first | with_reducible exact Nat.le_refl _ | refine Nat.le_trans ?_ (Nat.le_add_right _ _) | refine Nat.le_succ_of_le ?_ | exact Nat.le_refl _)))) rfl r1 ?_
      conv => whnf
      refine sel_yes g' ?_
      conv => whnf
      refine sel_yes g' ?_
      conv => whnf
      refine sel_yes g' ?_
      conv => whnf
      refine sel_yes g' ?_
      conv => whnf
      refine ⟨bnd w1 b2, ?_⟩
      conv => whnf
      refine sel_yes g' ?_
      conv => whnf
      refine ldR ha (fun l hl => by cases hl; exact Nat.lt_of_lt_of_le hb (by (conv => lhs; whnf); (repeat ((conv => rhs; whnf); first | with_reducible exact Nat.le_refl _ | refine Nat.le_trans ?_ (Nat.le_add_right _ _) | refine Nat.le_succ_of_le ?_ | exact Nat.le_refl _)))) w1 r2 ?_
      conv => whnf
      refine sel_yes g' ?_
      conv => whnf
      refine ⟨_, hE, ?_⟩
      conv => whnf
      refine sel_yes g' ?_
      conv => whnf
      refine sel_yes g ?_
      conv => whnf
      refine sel_split (fun h => ?_) (fun h => ?_)
      · conv => whnf
        refine ⟨bnd w1 b2, ?_⟩
        conv => whnf
        refine ldR ha (fun l hl => by cases hl; exact Nat.lt_of_lt_of_le hb (by (conv => lhs; whnf); (repeat ((conv => rhs; whnf); first | with_reducible exact Nat.le_refl _ | refine Nat.le_trans ?_ (Nat.le_add_right _ _) | refine Nat.le_succ_of_le ?_ | exact Nat.le_refl _)))) w1 r2 ?_
        conv => whnf
        refine ⟨bnd rfl b1, ?_⟩
        conv => whnf
        refine ldR ha (fun l hl => by cases hl; exact Nat.lt_of_lt_of_le hb (by (conv => lhs; whnf); (repeat ((conv => rhs; whnf); first | with_reducible exact Nat.le_refl _ | refine Nat.le_trans ?_ (Nat.le_add_right _ _) | refine Nat.le_succ_of_le ?_ | exact Nat.le_refl _)))) rfl r1 ?_
        conv => whnf
        refine ⟨bnd rfl b1, ?_⟩
        conv => whnf
        refine stR ha rfl (by rw [hlen]; exact b1) (fun a1 h1 => ?_)
        rw [s1] at h1
        conv => whnf
        refine ⟨bnd w1 b2, ?_⟩
        conv => whnf
        refine stR h1 w1 (by simp only [List.length_append, List.length_cons]; omega) (fun a2 h2 => ?_)
        rw [s2] at h2
        conv => whnf
        refine ih U' (y :: W) _ (by omega) hG3 hs3 (hyes (of_decide_eq_true h)) (by simp only [List.length_append, List.length_cons]; omega) ⟨rfl, rfl, rfl, rfl, rfl, ?_, trivial⟩ rfl (trunc_arr h2) (Nat.lt_of_lt_of_le hb (by (conv => lhs; whnf); (repeat ((conv => rhs; whnf); first | with_reducible exact Nat.le_refl _ | refine Nat.le_trans ?_ (Nat.le_add_right _ _) | refine Nat.le_succ_of_le ?_ | exact Nat.le_refl _)))) (fun z' X Y q1 q2 => hq z' X Y q1 (hP q2))
        conv => lhs; whnf
        exact vi w1
      · conv => whnf
        refine hq _ (U' ++ [y]) W (hno (of_decide_eq_false h)) (List.Perm.refl _) ⟨rfl, rfl, rfl, rfl, rfl, trivial⟩ ha (Nat.lt_of_lt_of_le hb (by (conv => lhs; whnf); (repeat ((conv => rhs; whnf); first | with_reducible exact Nat.le_refl _ | refine Nat.le_trans ?_ (Nat.le_add_right _ _) | refine Nat.le_succ_of_le ?_ | exact Nat.le_refl _))))
end
end Go.Proofs.YtehajklneljbgaaGreatDoor.AB
end

section
set_option linter.unusedVariables false
set_option linter.unusedSimpArgs false
open Go Go.Ab Go.Proofs Go.Vl
namespace Go.Proofs.YtehajklneljbgaaGreatDoor.AB
set_option maxRecDepth 100000
set_option maxHeartbeats 16000000
set_option linter.unusedSimpArgs false
set_option linter.unusedVariables false
section
variable {ext : Exts}
theorem row_clean (o : Nat) (h5 : o ≤ 5) (n : Nat) : cleanV n (rowOf o) = rowOf o := by
  have c6 : o = 0 ∨ o = 1 ∨ o = 2 ∨ o = 3 ∨ o = 4 ∨ o = 5 := by omega
  rcases c6 with rfl | rfl | rfl | rfl | rfl | rfl <;> rfl
theorem linsO (hn : Non ext) (h26 : E26 ext) (h73 : E73 ext) (o : Nat) (h5 : o ≤ 5) (N b v : Nat) (hN : N ≤ 65536) (cap : Option Nat) (p s : List T) (Q : Ex → St → Prop) (n e : Nat) :
    ∀ (R D : List T) (z : St), Gd (D ++ R) → Le (ordF ext o) D → (p ++ D ++ (R ++ s)).length = N → p.length + D.length + R.length = e →
      Has z.t [(0, .rsl false b v 0 N), (1, .int .i64 p.length), (2, .int .i64 e), (3, rowOf o), (8, .int .i64 ((p.length + D.length : Nat) : Int))] → z.hp.n = n → z.hp.a b = some ⟨v, 4, encL (p ++ D ++ (R ++ s)), cap, 0⟩ → b < z.hp.m →
      (∀ (z' : St) (D' : List T), Le (ordF ext o) D' → D'.Perm (D ++ R) → z'.hp.a b = some ⟨v, 4, encL (p ++ D' ++ s), cap, 0⟩ → b < z'.hp.m → Q (.exit 0) z') →
      Go.Ab.Loop (cfg ext) (lpN Tryz.f79 0) n z Q := by
  intro R
  induction R with
  | nil =>
    intro D z hG hs hlen he ht hz ha hb hq
    have g : decide (((p.length + D.length : Nat) : Int) < (e : Int)) = false := decide_eq_false (by simp at he; omega)
    rw [St.knows _ _ ht hz]
    refine Loop.round ?_
    conv => whnf
    refine sel_no g ?_
    conv => whnf
    exact hq _ D hs (by simp) ha (Nat.lt_of_lt_of_le hb (by (conv => lhs; whnf); (repeat ((conv => rhs; whnf); first | with_reducible exact Nat.le_refl _ | refine Nat.le_trans ?_ (Nat.le_add_right _ _) | refine Nat.le_succ_of_le ?_ | exact Nat.le_refl _))))
  | cons c R ih =>
    intro D z hG hs hlen he ht hz ha hb hq
    simp only [List.length_cons] at he
    have hlen' := hlen
    simp only [List.length_append, List.length_cons] at hlen'
    have g : decide (((p.length + D.length : Nat) : Int) < (e : Int)) = true := decide_eq_true (by omega)
    have w3 : IntKind.i64.wrap (((p.length + D.length : Nat) : Int) + 1) = ((p.length + (D.length + 1) : Nat) : Int) := by rw [IntKind.wrap_i64]; omega
    rw [St.knows _ _ ht hz]
    refine Loop.round ?_
    conv => whnf
    refine sel_yes g ?_
    conv => whnf
    refine linsI hn h26 h73 o h5 N b v hN cap p (R ++ s) c e ((p.length + D.length : Nat) : Int) _ _ D.length D [] _ rfl (fun x hx => hG x (by simp at hx ⊢; rcases hx with h | h; exact .inl h; exact .inr (.inl h))) (by simpa [Le] using hs) (fun w hw => by cases hw) (by simpa using hlen) ⟨rfl, rfl, rfl, rfl, rfl, rfl, trivial⟩ rfl ha (Nat.lt_of_lt_of_le hb (by (conv => lhs; whnf); (repeat ((conv => rhs; whnf); first | with_reducible exact Nat.le_refl _ | refine Nat.le_trans ?_ (Nat.le_add_right _ _) | refine Nat.le_succ_of_le ?_ | exact Nat.le_refl _)))) (fun z' U W q1 q2 q3 q4 q5 => ?_)
    have hl2 := q2.length_eq
    simp only [List.length_append, List.length_cons, List.length_nil] at hl2
    rw [St.knows _ z'.hp.n q3 rfl]
    conv => whnf
    refine ih (U ++ c :: W) _ (hG.perm ?_) q1 ?_ ?_ ⟨rfl, rfl, rfl, row_clean o h5 n, ?_, trivial⟩ rfl (by rw [show p ++ (U ++ c :: W) ++ (R ++ s) = p ++ U ++ c :: (W ++ (R ++ s)) by simp]; exact trunc_arr q4) (Nat.lt_of_lt_of_le q5 (by (conv => lhs; whnf); (repeat ((conv => rhs; whnf); first | with_reducible exact Nat.le_refl _ | refine Nat.le_trans ?_ (Nat.le_add_right _ _) | refine Nat.le_succ_of_le ?_ | exact Nat.le_refl _)))) (fun z2 D' k1 k2 => hq z2 D' k1 (k2.trans ?_))
    · refine (List.Perm.append_right R q2).trans ?_
      rw [show D ++ [c] ++ R = D ++ c :: R by simp]
    · simp only [List.length_append, List.length_cons]; omega
    · simp only [List.length_append, List.length_cons]; omega
    · conv => lhs; whnf
      exact vi (by rw [w3]; simp only [List.length_append, List.length_cons]; omega)
    · refine (List.Perm.append_right R q2).trans ?_
      rw [show D ++ [c] ++ R = D ++ c :: R by simp]
theorem le_one (f : T → T → Int) (x : T) : Le f [x] := List.pairwise_singleton _ _
theorem tins (hn : Non ext) (h26 : E26 ext) (h73 : E73 ext) (o : Nat) (h5 : o ≤ 5) (b v : Nat) (cap : Option Nat) (p M s : List T) (hG : Gd M) (hN : (p ++ M ++ s).length ≤ 65536) :
    ∀ hp : Hp, hp.a b = some ⟨v, 4, encL (p ++ M ++ s), cap, 0⟩ → b < hp.m → ∃ hp' M', (cfg ext).EvR 79 [.rsl false b v 0 (p ++ M ++ s).length, .int .i64 p.length, .int .i64 ((p.length + M.length : Nat) : Int), rowOf o] hp (.tup []) hp' ∧
      Le (ordF ext o) M' ∧ M'.Perm M ∧ hp'.a b = some ⟨v, 4, encL (p ++ M' ++ s), cap, 0⟩ ∧ b < hp'.m := by
  intro hp ha hb
  have hN' := hN
  simp only [List.length_append] at hN'
  have key : ∃ r hp', (cfg ext).EvR 79 [.rsl false b v 0 (p ++ M ++ s).length, .int .i64 p.length, .int .i64 ((p.length + M.length : Nat) : Int), rowOf o] hp r hp' ∧ (r = .tup [] ∧ ∃ M', Le (ordF ext o) M' ∧ M'.Perm M ∧ hp'.a b = some ⟨v, 4, encL (p ++ M' ++ s), cap, 0⟩ ∧ b < hp'.m) := by
    refine EvR.ofE Tryz.func79 rfl rfl ?_
    cases M with
    | nil =>
      have w : IntKind.i64.wrap ((p.length : Int) + 1) = (p.length : Int) + 1 := by rw [IntKind.wrap_i64]; omega
      have g : decide (IntKind.i64.wrap ((p.length : Int) + 1) < ((p.length + ([] : List T).length : Nat) : Int)) = false := decide_eq_false (by rw [w]; simp; omega)
      conv => whnf
      refine Loop.round ?_
      conv => whnf
      refine sel_no g ?_
      conv => whnf
      exact ⟨rfl, [], List.Pairwise.nil, List.Perm.refl _, ha, Nat.lt_of_lt_of_le hb (by (conv => lhs; whnf); (repeat ((conv => rhs; whnf); first | with_reducible exact Nat.le_refl _ | refine Nat.le_trans ?_ (Nat.le_add_right _ _) | refine Nat.le_succ_of_le ?_ | exact Nat.le_refl _)))⟩
    | cons c R =>
      have w : IntKind.i64.wrap ((p.length : Int) + 1) = ((p.length + ([c] : List T).length : Nat) : Int) := by rw [IntKind.wrap_i64]; simp; simp at hN'; omega
      conv => whnf
      refine linsO hn h26 h73 o h5 _ b v hN cap p s _ _ (p.length + (c :: R).length) R [c] _ hG (le_one _ _) (by simp) (by simp; omega) ⟨rfl, rfl, rfl, rfl, ?_, trivial⟩ rfl (by rw [show p ++ [c] ++ (R ++ s) = p ++ c :: R ++ s by simp]; exact ha) (Nat.lt_of_lt_of_le hb (by (conv => lhs; whnf); (repeat ((conv => rhs; whnf); first | with_reducible exact Nat.le_refl _ | refine Nat.le_trans ?_ (Nat.le_add_right _ _) | refine Nat.le_succ_of_le ?_ | exact Nat.le_refl _)))) (fun z' D' k1 k2 k3 k4 => ?_)
      · conv => lhs; whnf
        exact vi w
      · exact ⟨rfl, D', k1, k2, k3, k4⟩
  obtain ⟨r, hp', h, rfl, M', h1, h2, h3, h4⟩ := key
  exact ⟨hp', M', h, h1, h2, h3, h4⟩
end
end Go.Proofs.YtehajklneljbgaaGreatDoor.AB
end

section
set_option linter.unusedVariables false
set_option linter.unusedSimpArgs false
open Go Go.Ab Go.Proofs Go.Vl
namespace Go.Proofs.YtehajklneljbgaaGreatDoor.AB
set_option maxRecDepth 100000
set_option maxHeartbeats 16000000
set_option linter.unusedSimpArgs false
set_option linter.unusedVariables false
/-- where a search by halves ends -/
def Bs (B : Nat → Bool) (i0 j0 k : Nat) : Prop := i0 ≤ k ∧ k ≤ j0 ∧ (k = i0 ∨ B (k - 1) = true) ∧ (k = j0 ∨ B k = false)
section
variable {ext : Exts}
noncomputable def atB (ext : Exts) (o : Int) (l : List T) (i j : Nat) : Bool := match l[i]?, l[j]? with | some x, some y => decide (ordF ext o x y < 0) | _, _ => false
theorem atB_is {o : Int} {l : List T} {i j : Nat} {x y : T} (h1 : l[i]? = some x) (h2 : l[j]? = some y) : atB ext o l i j = decide (ordF ext o x y < 0) := by unfold atB; rw [h1, h2]
theorem lbs0 (hn : Non ext) (h26 : E26 ext) (h73 : E73 ext) (o : Nat) (h5 : o ≤ 5) (N b v : Nat) (hN : N ≤ 65536) (cap : Option Nat) (L : List T) (hG : Gd L) (hL : L.length = N) (A M E : Nat) (i0 j0 : Nat) (hj0 : j0 ≤ N) (hA : A < N) (Q : Ex → St → Prop) (n : Nat) (d : Nat) :
    ∀ (i j : Nat) (z : St), j - i ≤ d → i0 ≤ i → i ≤ j → j ≤ j0 → (i = i0 ∨ (fun h => atB ext o L h A) (i - 1) = true) → (j = j0 ∨ (fun h => atB ext o L h A) j = false) →
      Has z.t [(0, .rsl false b v 0 N), (1, .int .i64 (A : Int)), (2, .int .i64 (M : Int)), (3, .int .i64 (E : Int)), (4, rowOf o), (10, .int .i64 i), (11, .int .i64 j)] → z.hp.n = n → z.hp.a b = some ⟨v, 4, encL L, cap, 0⟩ → b < z.hp.m →
      (∀ (z' : St) (k : Nat), Bs (fun h => atB ext o L h A) i0 j0 k → Has z'.t [(0, .rsl false b v 0 N), (1, .int .i64 (A : Int)), (2, .int .i64 (M : Int)), (3, .int .i64 (E : Int)), (4, rowOf o), (10, .int .i64 k)] → z'.hp.a b = some ⟨v, 4, encL L, cap, 0⟩ → b < z'.hp.m → Q (.exit 0) z') →
      Go.Ab.Loop (cfg ext) (lpN Tryz.f80 0) n z Q := by
  have c6 : o = 0 ∨ o = 1 ∨ o = 2 ∨ o = 3 ∨ o = 4 ∨ o = 5 := by omega
  induction d with
  | zero =>
    intro i j z hd hi0 hij hj k1 k2 ht hz ha hb hq
    obtain rfl : i = j := by omega
    have g : decide ((i : Int) < (i : Int)) = false := decide_eq_false (by omega)
    rw [St.knows _ _ ht hz]
    refine Loop.round ?_
    conv => whnf
    refine sel_no g ?_
    conv => whnf
    exact hq _ i ⟨hi0, hj, k1, k2⟩ ⟨rfl, rfl, rfl, rfl, rfl, rfl, trivial⟩ ha (Nat.lt_of_lt_of_le hb (by (conv => lhs; whnf); (repeat ((conv => rhs; whnf); first | with_reducible exact Nat.le_refl _ | refine Nat.le_trans ?_ (Nat.le_add_right _ _) | refine Nat.le_succ_of_le ?_ | exact Nat.le_refl _))))
  | succ d ih =>
    intro i j z hd hi0 hij hj k1 k2 ht hz ha hb hq
    by_cases he : i = j
    · subst he
      exact ih i i z (by omega) hi0 hij hj k1 k2 ht hz ha hb hq
    have g : decide ((i : Int) < (j : Int)) = true := decide_eq_true (by omega)
    have em := midZ_is (i := i) (j := j) (by omega)
    obtain ⟨h, hh⟩ : ∃ h, h = (i + j) / 2 := ⟨_, rfl⟩
    rw [← hh] at em
    have b1 : i ≤ h ∧ h < j := by omega
    have bh : h < L.length := by omega
    have e1 : IntKind.i64.wrap (midZ i j + 1) = ((h + 1 : Nat) : Int) := by rw [em, IntKind.wrap_i64]; omega
    obtain ⟨y, hy⟩ : ∃ y, L[h]? = some y := ⟨_, List.getElem?_eq_getElem bh⟩
    have gy := hG y (List.mem_of_getElem? hy)
    obtain ⟨c, hc⟩ : ∃ c, L[A]? = some c := ⟨_, List.getElem?_eq_getElem (by omega)⟩
    have gc := hG c (List.mem_of_getElem? hc)
    have hE := rowOrd hn h26 h73 o h5 y c gy.1 gc.1 gy.2 gc.2
    have hB : (fun h => atB ext o L h A) h = (decide (ordF ext o y c < 0)) := by show (atB ext o L (h) (A)) = _; rw [atB_is hy hc]
    generalize ordF ext o y c = q at hE hB
    rw [St.knows _ _ ht hz]
    refine Loop.round ?_
    conv => whnf
    refine sel_yes g ?_
    rcases c6 with rfl | rfl | rfl | rfl | rfl | rfl
    all_goals
      conv => whnf
      refine ⟨bnd em (by omega), ?_⟩
      conv => whnf
      refine ldR ha (fun l hl => by cases hl; exact Nat.lt_of_lt_of_le hb (by (conv => lhs; whnf); (repeat ((conv => rhs; whnf); first | with_reducible exact Nat.le_refl _ | refine Nat.le_trans ?_ (Nat.le_add_right _ _) | refine Nat.le_succ_of_le ?_ | exact Nat.le_refl _)))) em hy ?_
      conv => whnf
      refine ⟨bnd rfl (by omega), ?_⟩
      conv => whnf
      refine ldR ha (fun l hl => by cases hl; exact Nat.lt_of_lt_of_le hb (by (conv => lhs; whnf); (repeat ((conv => rhs; whnf); first | with_reducible exact Nat.le_refl _ | refine Nat.le_trans ?_ (Nat.le_add_right _ _) | refine Nat.le_succ_of_le ?_ | exact Nat.le_refl _)))) rfl hc ?_
      conv => whnf
      refine ⟨_, hE, ?_⟩
      conv => whnf
      refine sel_split (fun hs => ?_) (fun hs => ?_)
      · conv => whnf
        refine ih (h + 1) j _ (by omega) (by omega) (by omega) hj (.inr (by rw [Nat.add_sub_cancel, hB]; exact hs)) k2 ⟨rfl, rfl, rfl, rfl, rfl, ?_, rfl, trivial⟩ rfl (trunc_arr ha) (Nat.lt_of_lt_of_le hb (by (conv => lhs; whnf); (repeat ((conv => rhs; whnf); first | with_reducible exact Nat.le_refl _ | refine Nat.le_trans ?_ (Nat.le_add_right _ _) | refine Nat.le_succ_of_le ?_ | exact Nat.le_refl _)))) hq
        conv => lhs; whnf
        exact vi e1
      · conv => whnf
        refine ih i h _ (by omega) hi0 (by omega) (by omega) k1 (.inr (by rw [hB]; exact hs)) ⟨rfl, rfl, rfl, rfl, rfl, rfl, ?_, trivial⟩ rfl (trunc_arr ha) (Nat.lt_of_lt_of_le hb (by (conv => lhs; whnf); (repeat ((conv => rhs; whnf); first | with_reducible exact Nat.le_refl _ | refine Nat.le_trans ?_ (Nat.le_add_right _ _) | refine Nat.le_succ_of_le ?_ | exact Nat.le_refl _)))) hq
        conv => lhs; whnf
        exact vi em
theorem lbs2 (hn : Non ext) (h26 : E26 ext) (h73 : E73 ext) (o : Nat) (h5 : o ≤ 5) (N b v : Nat) (hN : N ≤ 65536) (cap : Option Nat) (L : List T) (hG : Gd L) (hL : L.length = N) (A M E : Nat) (i0 j0 : Nat) (hj0 : j0 ≤ N) (hM : M < N) (Q : Ex → St → Prop) (n : Nat) (d : Nat) :
    ∀ (i j : Nat) (z : St), j - i ≤ d → i0 ≤ i → i ≤ j → j ≤ j0 → (i = i0 ∨ (fun h => !atB ext o L M h) (i - 1) = true) → (j = j0 ∨ (fun h => !atB ext o L M h) j = false) →
      Has z.t [(0, .rsl false b v 0 N), (1, .int .i64 (A : Int)), (2, .int .i64 (M : Int)), (3, .int .i64 (E : Int)), (4, rowOf o), (14, .int .i64 i), (15, .int .i64 j)] → z.hp.n = n → z.hp.a b = some ⟨v, 4, encL L, cap, 0⟩ → b < z.hp.m →
      (∀ (z' : St) (k : Nat), Bs (fun h => !atB ext o L M h) i0 j0 k → Has z'.t [(0, .rsl false b v 0 N), (1, .int .i64 (A : Int)), (2, .int .i64 (M : Int)), (3, .int .i64 (E : Int)), (4, rowOf o), (14, .int .i64 k)] → z'.hp.a b = some ⟨v, 4, encL L, cap, 0⟩ → b < z'.hp.m → Q (.exit 4) z') →
      Go.Ab.Loop (cfg ext) (lpN Tryz.f80 2) n z Q := by
  have c6 : o = 0 ∨ o = 1 ∨ o = 2 ∨ o = 3 ∨ o = 4 ∨ o = 5 := by omega
  induction d with
  | zero =>
    intro i j z hd hi0 hij hj k1 k2 ht hz ha hb hq
    obtain rfl : i = j := by omega
    have g : decide ((i : Int) < (i : Int)) = false := decide_eq_false (by omega)
    rw [St.knows _ _ ht hz]
    refine Loop.round ?_
    conv => whnf
    refine sel_no g ?_
    conv => whnf
    exact hq _ i ⟨hi0, hj, k1, k2⟩ ⟨rfl, rfl, rfl, rfl, rfl, rfl, trivial⟩ ha (Nat.lt_of_lt_of_le hb (by (conv => lhs; whnf); (repeat ((conv => rhs; whnf); first | with_reducible exact Nat.le_refl _ | refine Nat.le_trans ?_ (Nat.le_add_right _ _) | refine Nat.le_succ_of_le ?_ | exact Nat.le_refl _))))
  | succ d ih =>
    intro i j z hd hi0 hij hj k1 k2 ht hz ha hb hq
    by_cases he : i = j
    · subst he
      exact ih i i z (by omega) hi0 hij hj k1 k2 ht hz ha hb hq
    have g : decide ((i : Int) < (j : Int)) = true := decide_eq_true (by omega)
    have em := midZ_is (i := i) (j := j) (by omega)
    obtain ⟨h, hh⟩ : ∃ h, h = (i + j) / 2 := ⟨_, rfl⟩
    rw [← hh] at em
    have b1 : i ≤ h ∧ h < j := by omega
    have bh : h < L.length := by omega
    have e1 : IntKind.i64.wrap (midZ i j + 1) = ((h + 1 : Nat) : Int) := by rw [em, IntKind.wrap_i64]; omega
    obtain ⟨y, hy⟩ : ∃ y, L[h]? = some y := ⟨_, List.getElem?_eq_getElem bh⟩
    have gy := hG y (List.mem_of_getElem? hy)
    obtain ⟨c, hc⟩ : ∃ c, L[M]? = some c := ⟨_, List.getElem?_eq_getElem (by omega)⟩
    have gc := hG c (List.mem_of_getElem? hc)
    have hE := rowOrd hn h26 h73 o h5 c y gc.1 gy.1 gc.2 gy.2
    have hB : (fun h => !atB ext o L M h) h = (!decide (ordF ext o c y < 0)) := by show (!atB ext o L (M) (h)) = _; rw [atB_is hc hy]
    generalize ordF ext o c y = q at hE hB
    rw [St.knows _ _ ht hz]
    refine Loop.round ?_
    conv => whnf
    refine sel_yes g ?_
    rcases c6 with rfl | rfl | rfl | rfl | rfl | rfl
    all_goals
      conv => whnf
      refine ⟨bnd rfl (by omega), ?_⟩
      conv => whnf
      refine ldR ha (fun l hl => by cases hl; exact Nat.lt_of_lt_of_le hb (by (conv => lhs; whnf); (repeat ((conv => rhs; whnf); first | with_reducible exact Nat.le_refl _ | refine Nat.le_trans ?_ (Nat.le_add_right _ _) | refine Nat.le_succ_of_le ?_ | exact Nat.le_refl _)))) rfl hc ?_
      conv => whnf
      refine ⟨bnd em (by omega), ?_⟩
      conv => whnf
      refine ldR ha (fun l hl => by cases hl; exact Nat.lt_of_lt_of_le hb (by (conv => lhs; whnf); (repeat ((conv => rhs; whnf); first | with_reducible exact Nat.le_refl _ | refine Nat.le_trans ?_ (Nat.le_add_right _ _) | refine Nat.le_succ_of_le ?_ | exact Nat.le_refl _)))) em hy ?_
      conv => whnf
      refine ⟨_, hE, ?_⟩
      conv => whnf
      refine sel_split (fun hs => ?_) (fun hs => ?_)
      · conv => whnf
        refine ih (h + 1) j _ (by omega) (by omega) (by omega) hj (.inr (by rw [Nat.add_sub_cancel, hB]; exact hs)) k2 ⟨rfl, rfl, rfl, rfl, rfl, ?_, rfl, trivial⟩ rfl (trunc_arr ha) (Nat.lt_of_lt_of_le hb (by (conv => lhs; whnf); (repeat ((conv => rhs; whnf); first | with_reducible exact Nat.le_refl _ | refine Nat.le_trans ?_ (Nat.le_add_right _ _) | refine Nat.le_succ_of_le ?_ | exact Nat.le_refl _)))) hq
        conv => lhs; whnf
        exact vi e1
      · conv => whnf
        refine ih i h _ (by omega) hi0 (by omega) (by omega) k1 (.inr (by rw [hB]; exact hs)) ⟨rfl, rfl, rfl, rfl, rfl, rfl, ?_, trivial⟩ rfl (trunc_arr ha) (Nat.lt_of_lt_of_le hb (by (conv => lhs; whnf); (repeat ((conv => rhs; whnf); first | with_reducible exact Nat.le_refl _ | refine Nat.le_trans ?_ (Nat.le_add_right _ _) | refine Nat.le_succ_of_le ?_ | exact Nat.le_refl _)))) hq
        conv => lhs; whnf
        exact vi em
theorem lbs4 (hn : Non ext) (h26 : E26 ext) (h73 : E73 ext) (o : Nat) (h5 : o ≤ 5) (N b v : Nat) (hN : N ≤ 65536) (cap : Option Nat) (L : List T) (hG : Gd L) (hL : L.length = N) (A M E : Nat) (i0 j0 : Nat) (hj0 : j0 ≤ N) (mid nn : Int) (P : Nat) (hP : ∀ h, i0 ≤ h → h < j0 → h ≤ P ∧ P - h < N) (hP2 : P ≤ 131072) (Q : Ex → St → Prop) (n : Nat) (d : Nat) :
    ∀ (i j : Nat) (z : St), j - i ≤ d → i0 ≤ i → i ≤ j → j ≤ j0 → (i = i0 ∨ (fun h => !atB ext o L (P - h) h) (i - 1) = true) → (j = j0 ∨ (fun h => !atB ext o L (P - h) h) j = false) →
      Has z.t [(0, .rsl false b v 0 N), (1, .int .i64 (A : Int)), (2, .int .i64 (M : Int)), (3, .int .i64 (E : Int)), (4, rowOf o), (18, .int .i64 mid), (19, .int .i64 nn), (22, .int .i64 (P : Int)), (20, .int .i64 i), (21, .int .i64 j)] → z.hp.n = n → z.hp.a b = some ⟨v, 4, encL L, cap, 0⟩ → b < z.hp.m →
      (∀ (z' : St) (k : Nat), Bs (fun h => !atB ext o L (P - h) h) i0 j0 k → Has z'.t [(0, .rsl false b v 0 N), (1, .int .i64 (A : Int)), (2, .int .i64 (M : Int)), (3, .int .i64 (E : Int)), (4, rowOf o), (18, .int .i64 mid), (19, .int .i64 nn), (22, .int .i64 (P : Int)), (20, .int .i64 k)] → z'.hp.a b = some ⟨v, 4, encL L, cap, 0⟩ → b < z'.hp.m → Q (.exit 8) z') →
      Go.Ab.Loop (cfg ext) (lpN Tryz.f80 4) n z Q := by
  have c6 : o = 0 ∨ o = 1 ∨ o = 2 ∨ o = 3 ∨ o = 4 ∨ o = 5 := by omega
  induction d with
  | zero =>
    intro i j z hd hi0 hij hj k1 k2 ht hz ha hb hq
    obtain rfl : i = j := by omega
    have g : decide ((i : Int) < (i : Int)) = false := decide_eq_false (by omega)
    rw [St.knows _ _ ht hz]
    refine Loop.round ?_
    conv => whnf
    refine sel_no g ?_
    conv => whnf
    exact hq _ i ⟨hi0, hj, k1, k2⟩ ⟨rfl, rfl, rfl, rfl, rfl, rfl, rfl, rfl, rfl, trivial⟩ ha (Nat.lt_of_lt_of_le hb (by (conv => lhs; whnf); (repeat ((conv => rhs; whnf); first | with_reducible exact Nat.le_refl _ | refine Nat.le_trans ?_ (Nat.le_add_right _ _) | refine Nat.le_succ_of_le ?_ | exact Nat.le_refl _))))
  | succ d ih =>
    intro i j z hd hi0 hij hj k1 k2 ht hz ha hb hq
    by_cases he : i = j
    · subst he
      exact ih i i z (by omega) hi0 hij hj k1 k2 ht hz ha hb hq
    have g : decide ((i : Int) < (j : Int)) = true := decide_eq_true (by omega)
    have em := midZ_is (i := i) (j := j) (by omega)
    obtain ⟨h, hh⟩ : ∃ h, h = (i + j) / 2 := ⟨_, rfl⟩
    rw [← hh] at em
    have b1 : i ≤ h ∧ h < j := by omega
    have bh : h < L.length := by omega
    have e1 : IntKind.i64.wrap (midZ i j + 1) = ((h + 1 : Nat) : Int) := by rw [em, IntKind.wrap_i64]; omega
    obtain ⟨y, hy⟩ : ∃ y, L[h]? = some y := ⟨_, List.getElem?_eq_getElem bh⟩
    have gy := hG y (List.mem_of_getElem? hy)
    have bp := hP h (by omega) (by omega)
    have e2 : IntKind.i64.wrap ((P : Int) - midZ i j) = ((P - h : Nat) : Int) := by rw [em, IntKind.wrap_i64]; omega
    obtain ⟨c, hc⟩ : ∃ c, L[P - h]? = some c := ⟨_, List.getElem?_eq_getElem (by omega)⟩
    have gc := hG c (List.mem_of_getElem? hc)
    have hE := rowOrd hn h26 h73 o h5 c y gc.1 gy.1 gc.2 gy.2
    have hB : (fun h => !atB ext o L (P - h) h) h = (!decide (ordF ext o c y < 0)) := by show (!atB ext o L (P - h) (h)) = _; rw [atB_is hc hy]
    generalize ordF ext o c y = q at hE hB
    rw [St.knows _ _ ht hz]
    refine Loop.round ?_
    conv => whnf
    refine sel_yes g ?_
    rcases c6 with rfl | rfl | rfl | rfl | rfl | rfl
    all_goals
      conv => whnf
      refine ⟨bnd e2 (by omega), ?_⟩
      conv => whnf
      refine ldR ha (fun l hl => by cases hl; exact Nat.lt_of_lt_of_le hb (by (conv => lhs; whnf); (repeat ((conv => rhs; whnf); first | with_reducible exact Nat.le_refl _ | refine Nat.le_trans ?_ (Nat.le_add_right _ _) | refine Nat.le_succ_of_le ?_ | exact Nat.le_refl _)))) e2 hc ?_
      conv => whnf
      refine ⟨bnd em (by omega), ?_⟩
      conv => whnf
      refine ldR ha (fun l hl => by cases hl; exact Nat.lt_of_lt_of_le hb (by (conv => lhs; whnf); (repeat ((conv => rhs; whnf); first | with_reducible exact Nat.le_refl _ | refine Nat.le_trans ?_ (Nat.le_add_right _ _) | refine Nat.le_succ_of_le ?_ | exact Nat.le_refl _)))) em hy ?_
      conv => whnf
      refine ⟨_, hE, ?_⟩
      conv => whnf
      refine sel_split (fun hs => ?_) (fun hs => ?_)
      · conv => whnf
        refine ih (h + 1) j _ (by omega) (by omega) (by omega) hj (.inr (by rw [Nat.add_sub_cancel, hB]; exact hs)) k2 ⟨rfl, rfl, rfl, rfl, rfl, rfl, rfl, rfl, ?_, rfl, trivial⟩ rfl (trunc_arr ha) (Nat.lt_of_lt_of_le hb (by (conv => lhs; whnf); (repeat ((conv => rhs; whnf); first | with_reducible exact Nat.le_refl _ | refine Nat.le_trans ?_ (Nat.le_add_right _ _) | refine Nat.le_succ_of_le ?_ | exact Nat.le_refl _)))) hq
        conv => lhs; whnf
        exact vi e1
      · conv => whnf
        refine ih i h _ (by omega) hi0 (by omega) (by omega) k1 (.inr (by rw [hB]; exact hs)) ⟨rfl, rfl, rfl, rfl, rfl, rfl, rfl, rfl, rfl, ?_, trivial⟩ rfl (trunc_arr ha) (Nat.lt_of_lt_of_le hb (by (conv => lhs; whnf); (repeat ((conv => rhs; whnf); first | with_reducible exact Nat.le_refl _ | refine Nat.le_trans ?_ (Nat.le_add_right _ _) | refine Nat.le_succ_of_le ?_ | exact Nat.le_refl _)))) hq
        conv => lhs; whnf
        exact vi em
end
end Go.Proofs.YtehajklneljbgaaGreatDoor.AB
end

section
set_option linter.unusedVariables false
set_option linter.unusedSimpArgs false
open Go Go.Ab Go.Proofs Go.Vl
namespace Go.Proofs.YtehajklneljbgaaGreatDoor.AB
set_option maxRecDepth 100000
set_option maxHeartbeats 16000000
set_option linter.unusedSimpArgs false
set_option linter.unusedVariables false
theorem cross {f : T → T → Int} (hf : Line f) {A B : List T} (hA : ∀ x ∈ A, Shp x) (hB : ∀ x ∈ B, Shp x) (sA : Le f A) (sB : Le f B) (h : ∀ a b, A.getLast? = some a → B.head? = some b → f a b ≤ 0) : ∀ u ∈ A, ∀ w ∈ B, f u w ≤ 0 := by
  intro u hu w hw
  rcases List.eq_nil_or_concat A with rfl | ⟨A', a, rfl⟩
  · cases hu
  cases B with
  | nil => cases hw
  | cons b B =>
  rw [List.concat_eq_append] at *
  have hab := h a b (by simp) rfl
  have ha := hA a (by simp)
  have hb := hB b (by simp)
  have rf : ∀ {x}, Shp x → f x x ≤ 0 := fun hx => by have := (hf.2.1 _ _ hx hx).2 rfl; omega
  have h1 : f u a ≤ 0 := by
    rcases List.mem_append.1 hu with hu | hu
    · exact (List.pairwise_append.1 sA).2.2 u hu a (by simp)
    · rcases List.mem_cons.1 hu with rfl | hu
      · exact rf ha
      · cases hu
  have h2 : f b w ≤ 0 := by
    rcases List.mem_cons.1 hw with rfl | hw
    · exact rf hb
    · exact (List.pairwise_cons.1 sB).1 w hw
  exact hf.2.2.1 u b w (hA u hu) hb (hB w hw) (hf.2.2.1 u a b (hA u hu) ha hb h1 hab) h2
theorem mrg {f : T → T → Int} (hf : Line f) {X1 X2 Y1 Y2 Z1 Z2 : List T} (hsh : ∀ x ∈ X1 ++ X2 ++ Y1 ++ Y2, Shp x) (sX : Le f (X1 ++ X2)) (sY : Le f (Y1 ++ Y2)) (h1 : ∀ a b, X1.getLast? = some a → Y2.head? = some b → f a b ≤ 0) (h2 : ∀ a b, Y1.getLast? = some a → X2.head? = some b → f a b ≤ 0)
    (p1 : Z1.Perm (X1 ++ Y1)) (p2 : Z2.Perm (X2 ++ Y2)) (s1 : Le f Z1) (s2 : Le f Z2) : Le f (Z1 ++ Z2) := by
  have sX' := List.pairwise_append.1 sX
  have sY' := List.pairwise_append.1 sY
  have c1 := cross hf (fun x hx => hsh x (by simp [hx])) (fun x hx => hsh x (by simp [hx])) sX'.1 sY'.2.1 h1
  have c2 := cross hf (fun x hx => hsh x (by simp [hx])) (fun x hx => hsh x (by simp [hx])) sY'.1 sX'.2.1 h2
  refine List.pairwise_append.2 ⟨s1, s2, fun u hu w hw => ?_⟩
  rcases List.mem_append.1 (p1.mem_iff.1 hu) with hu | hu <;> rcases List.mem_append.1 (p2.mem_iff.1 hw) with hw | hw
  · exact sX'.2.2 u hu w hw
  · exact c1 u hu w hw
  · exact c2 u hu w hw
  · exact sY'.2.2 u hu w hw
theorem ins2 {f : T → T → Int} (hf : Line f) {U W : List T} {c : T} (hsh : ∀ x ∈ U ++ c :: W, Shp x) (hs : Le f (U ++ W)) (hu : ∀ y, U.getLast? = some y → f y c ≤ 0) (hw : ∀ y, W.head? = some y → f c y ≤ 0) : Le f (U ++ c :: W) := by
  refine ins_sorted hf hsh hs (fun w hw' => ?_) hu
  have sW := (List.pairwise_append.1 hs).2.1
  exact cross hf (A := [c]) (fun x hx => hsh x (by simp at hx; simp [hx])) (fun x hx => hsh x (by simp [hx])) (le_one f c) sW (fun a b ha hb => by simp at ha; subst ha; exact hw b hb) c (by simp) w hw'
section
variable {ext : Exts}
theorem row_fn (o : Nat) (h5 : o ≤ 5) : ∃ fk fc, rowOf o = .fn fk fc := by
  have c6 : o = 0 ∨ o = 1 ∨ o = 2 ∨ o = 3 ∨ o = 4 ∨ o = 5 := by omega
  rcases c6 with rfl | rfl | rfl | rfl | rfl | rfl <;> exact ⟨_, _, rfl⟩
/-- symMerge on two such parts -/
def SM (ext : Exts) (o : Nat) (X Y : List T) : Prop := ∀ (p s : List T) (b v : Nat) (cap : Option Nat), Gd (p ++ X ++ Y ++ s) → (p ++ X ++ Y ++ s).length ≤ 65536 → 0 < X.length → 0 < Y.length → Le (ordF ext o) X → Le (ordF ext o) Y →
  ∀ hp : Hp, hp.a b = some ⟨v, 4, encL (p ++ X ++ Y ++ s), cap, 0⟩ → b < hp.m → ∃ hp' Z, (cfg ext).EvR 80 [.rsl false b v 0 (p ++ X ++ Y ++ s).length, .int .i64 p.length, .int .i64 ((p.length + X.length : Nat) : Int), .int .i64 ((p.length + X.length + Y.length : Nat) : Int), rowOf o] hp (.tup []) hp' ∧
    Le (ordF ext o) Z ∧ Z.Perm (X ++ Y) ∧ hp'.a b = some ⟨v, 4, encL (p ++ Z ++ s), cap, 0⟩ ∧ b < hp'.m
theorem SM.use {o : Nat} {X Y : List T} (h : SM ext o X Y) {p s : List T} {b v N : Nat} {cap : Option Nat} {xs : List V} {hp : Hp} {Q : V → Hp → Prop} (hG : Gd (p ++ X ++ Y ++ s)) (hN : N ≤ 65536) (hlen : (p ++ X ++ Y ++ s).length = N) (hX : 0 < X.length) (hY : 0 < Y.length) (sX : Le (ordF ext o) X) (sY : Le (ordF ext o) Y)
    (e : [.rsl false b v 0 N, .int .i64 p.length, .int .i64 ((p.length + X.length : Nat) : Int), .int .i64 ((p.length + X.length + Y.length : Nat) : Int), rowOf o] = xs) (ha : hp.a b = some ⟨v, 4, encL (p ++ X ++ Y ++ s), cap, 0⟩) (hb : b < hp.m)
    (q : ∀ hp' Z, Le (ordF ext o) Z → Z.Perm (X ++ Y) → hp'.a b = some ⟨v, 4, encL (p ++ Z ++ s), cap, 0⟩ → b < hp'.m → Q (.tup []) hp') : ∃ r hp', (cfg ext).EvR 80 xs hp r hp' ∧ Q r hp' := by
  obtain ⟨hp', Z, h1, h2, h3, h4, h5⟩ := h p s b v cap hG (by omega) hX hY sX sY hp ha hb
  rw [hlen, e] at h1
  exact ⟨_, hp', h1, q hp' Z h2 h3 h4 h5⟩
/-- the right half, if there is something to do -/
theorem smR (o : Nat) (h5 : o ≤ 5) (N b v : Nat) (hN : N ≤ 65536) (cap : Option Nat) (q X Y s : List T) (hG : Gd (q ++ X ++ Y ++ s)) (hlen : (q ++ X ++ Y ++ s).length = N) (sX : Le (ordF ext o) X) (sY : Le (ordF ext o) Y) (ih : SM ext o X Y) (z : St) (K : Ex → St → Prop)
    (ht : Has z.t [(0, .rsl false b v 0 N), (3, .int .i64 ((q.length + X.length + Y.length : Nat) : Int)), (4, rowOf o), (18, .int .i64 q.length), (24, .int .i64 ((q.length + X.length : Nat) : Int))]) (ha : z.hp.a b = some ⟨v, 4, encL (q ++ X ++ Y ++ s), cap, 0⟩) (hb : b < z.hp.m)
    (hq : ∀ (z' : St) (Z : List T), Le (ordF ext o) Z → Z.Perm (X ++ Y) → z'.hp.a b = some ⟨v, 4, encL (q ++ Z ++ s), cap, 0⟩ → b < z'.hp.m → K .normal z') :
    xCode (cfg ext) (atP (bodyOf Tryz.f80) [true, true, true, true, true, true, true, true, true, true, true]) z K := by
  obtain ⟨fk, fc, ef⟩ := row_fn o h5
  rw [ef] at ht
  by_cases hX : X = []
  · subst hX
    have g : decide ((q.length : Int) < ((q.length + ([] : List T).length : Nat) : Int)) = false := decide_eq_false (by simp)
    have g' : (decide ((q.length : Int) < ((q.length + ([] : List T).length : Nat) : Int)) == true) = false := by rw [g]; rfl
    have ha' : z.hp.a b = some ⟨v, 4, encL (q ++ Y ++ s), cap, 0⟩ := by simpa using ha
    rw [St.knows _ z.hp.n ht rfl]
    conv => whnf
    repeat (first
      | (refine sel_yes ?_ ?_; (first | assumption | (simp only [beq_iff_eq, bne_iff_ne, beq_eq_false_iff_ne, bne_eq_false_iff_eq, decide_eq_true_eq, decide_eq_false_iff_not, Bool.not_eq_true', Bool.not_eq_false', ne_eq, beq_true, beq_false, bne_self_eq_false, not_true_eq_false, not_false_eq_true, gt_iff_lt, ge_iff_le, Int.not_lt, Int.not_le, Bool.true_eq_false, Bool.false_eq_true] <;> omega)); conv => whnf)
      | (refine sel_no ?_ ?_; (first | assumption | (simp only [beq_iff_eq, bne_iff_ne, beq_eq_false_iff_ne, bne_eq_false_iff_eq, decide_eq_true_eq, decide_eq_false_iff_not, Bool.not_eq_true', Bool.not_eq_false', ne_eq, beq_true, beq_false, bne_self_eq_false, not_true_eq_false, not_false_eq_true, gt_iff_lt, ge_iff_le, Int.not_lt, Int.not_le, Bool.true_eq_false, Bool.false_eq_true] <;> omega)); conv => whnf)
      | (refine ⟨le_rfl' ?_, ?_⟩; rfl; conv => whnf)
      | (refine ⟨⟨?_, ?_⟩, ?_⟩; omega; omega; conv => whnf)
      | (refine ⟨⟨?_, ?_, ?_⟩, ?_⟩; rfl; omega; omega; conv => whnf)
      | (refine ⟨rfl, ?_, ?_⟩; decide; conv => whnf))
    try exact rfl
    exact hq _ Y sY (by simp) ha' (Nat.lt_of_lt_of_le hb (by (conv => lhs; whnf); (repeat ((conv => rhs; whnf); first | with_reducible exact Nat.le_refl _ | refine Nat.le_trans ?_ (Nat.le_add_right _ _) | refine Nat.le_succ_of_le ?_ | exact Nat.le_refl _))))
  have hX0 : 0 < X.length := List.length_pos_iff.2 hX
  have g : decide ((q.length : Int) < ((q.length + X.length : Nat) : Int)) = true := decide_eq_true (by omega)
  have g' : (decide ((q.length : Int) < ((q.length + X.length : Nat) : Int)) == true) = true := by rw [g]; rfl
  by_cases hY : Y = []
  · subst hY
    have g2 : decide (((q.length + X.length : Nat) : Int) < ((q.length + X.length + ([] : List T).length : Nat) : Int)) = false := decide_eq_false (by simp)
    have ha' : z.hp.a b = some ⟨v, 4, encL (q ++ X ++ s), cap, 0⟩ := by simpa using ha
    rw [St.knows _ z.hp.n ht rfl]
    conv => whnf
    repeat (first
      | (refine sel_yes ?_ ?_; (first | assumption | (simp only [beq_iff_eq, bne_iff_ne, beq_eq_false_iff_ne, bne_eq_false_iff_eq, decide_eq_true_eq, decide_eq_false_iff_not, Bool.not_eq_true', Bool.not_eq_false', ne_eq, beq_true, beq_false, bne_self_eq_false, not_true_eq_false, not_false_eq_true, gt_iff_lt, ge_iff_le, Int.not_lt, Int.not_le, Bool.true_eq_false, Bool.false_eq_true] <;> omega)); conv => whnf)
      | (refine sel_no ?_ ?_; (first | assumption | (simp only [beq_iff_eq, bne_iff_ne, beq_eq_false_iff_ne, bne_eq_false_iff_eq, decide_eq_true_eq, decide_eq_false_iff_not, Bool.not_eq_true', Bool.not_eq_false', ne_eq, beq_true, beq_false, bne_self_eq_false, not_true_eq_false, not_false_eq_true, gt_iff_lt, ge_iff_le, Int.not_lt, Int.not_le, Bool.true_eq_false, Bool.false_eq_true] <;> omega)); conv => whnf)
      | (refine ⟨le_rfl' ?_, ?_⟩; rfl; conv => whnf)
      | (refine ⟨⟨?_, ?_⟩, ?_⟩; omega; omega; conv => whnf)
      | (refine ⟨⟨?_, ?_, ?_⟩, ?_⟩; rfl; omega; omega; conv => whnf)
      | (refine ⟨rfl, ?_, ?_⟩; decide; conv => whnf))
    try exact rfl
    exact hq _ X sX (by simp) ha' (Nat.lt_of_lt_of_le hb (by (conv => lhs; whnf); (repeat ((conv => rhs; whnf); first | with_reducible exact Nat.le_refl _ | refine Nat.le_trans ?_ (Nat.le_add_right _ _) | refine Nat.le_succ_of_le ?_ | exact Nat.le_refl _))))
  have hY0 : 0 < Y.length := List.length_pos_iff.2 hY
  have g2 : decide (((q.length + X.length : Nat) : Int) < ((q.length + X.length + Y.length : Nat) : Int)) = true := decide_eq_true (by omega)
  rw [St.knows _ z.hp.n ht rfl]
  conv => whnf
  repeat (first
    | (refine sel_yes ?_ ?_; (first | assumption | (simp only [beq_iff_eq, bne_iff_ne, beq_eq_false_iff_ne, bne_eq_false_iff_eq, decide_eq_true_eq, decide_eq_false_iff_not, Bool.not_eq_true', Bool.not_eq_false', ne_eq, beq_true, beq_false, bne_self_eq_false, not_true_eq_false, not_false_eq_true, gt_iff_lt, ge_iff_le, Int.not_lt, Int.not_le, Bool.true_eq_false, Bool.false_eq_true] <;> omega)); conv => whnf)
    | (refine sel_no ?_ ?_; (first | assumption | (simp only [beq_iff_eq, bne_iff_ne, beq_eq_false_iff_ne, bne_eq_false_iff_eq, decide_eq_true_eq, decide_eq_false_iff_not, Bool.not_eq_true', Bool.not_eq_false', ne_eq, beq_true, beq_false, bne_self_eq_false, not_true_eq_false, not_false_eq_true, gt_iff_lt, ge_iff_le, Int.not_lt, Int.not_le, Bool.true_eq_false, Bool.false_eq_true] <;> omega)); conv => whnf)
    | (refine ⟨le_rfl' ?_, ?_⟩; rfl; conv => whnf)
    | (refine ⟨⟨?_, ?_⟩, ?_⟩; omega; omega; conv => whnf)
    | (refine ⟨⟨?_, ?_, ?_⟩, ?_⟩; rfl; omega; omega; conv => whnf)
    | (refine ⟨rfl, ?_, ?_⟩; decide; conv => whnf))
  try exact rfl
  refine ih.use hG hN hlen hX0 hY0 sX sY (by rw [ef]; rfl) ha (Nat.lt_of_lt_of_le hb (by (conv => lhs; whnf); (repeat ((conv => rhs; whnf); first | with_reducible exact Nat.le_refl _ | refine Nat.le_trans ?_ (Nat.le_add_right _ _) | refine Nat.le_succ_of_le ?_ | exact Nat.le_refl _)))) (fun hp' Z q1 q2 q3 q4 => ?_)
  conv => whnf
  exact hq _ Z q1 q2 q3 q4
/-- the left half -/
theorem smLeft (o : Nat) (h5 : o ≤ 5) (N b v : Nat) (hN : N ≤ 65536) (cap : Option Nat) (p X Y s : List T) (e3 e24 : Int) (hG : Gd (p ++ X ++ Y ++ s)) (hlen : (p ++ X ++ Y ++ s).length = N) (sX : Le (ordF ext o) X) (sY : Le (ordF ext o) Y) (ih : SM ext o X Y) (z : St) (K : Ex → St → Prop)
    (ht : Has z.t [(0, .rsl false b v 0 N), (1, .int .i64 p.length), (3, .int .i64 e3), (4, rowOf o), (18, .int .i64 ((p.length + X.length + Y.length : Nat) : Int)), (20, .int .i64 ((p.length + X.length : Nat) : Int)), (24, .int .i64 e24)]) (ha : z.hp.a b = some ⟨v, 4, encL (p ++ X ++ Y ++ s), cap, 0⟩) (hb : b < z.hp.m)
    (hq : ∀ (z' : St) (Z : List T), Le (ordF ext o) Z → Z.Perm (X ++ Y) → Has z'.t [(0, .rsl false b v 0 N), (3, .int .i64 e3), (4, rowOf o), (18, .int .i64 ((p.length + X.length + Y.length : Nat) : Int)), (24, .int .i64 e24)] → z'.hp.a b = some ⟨v, 4, encL (p ++ Z ++ s), cap, 0⟩ → b < z'.hp.m → K .normal z') :
    xCode (cfg ext) (atP (bodyOf Tryz.f80) [true, true, true, true, true, true, true, true, true, true, false]) z K := by
  obtain ⟨fk, fc, ef⟩ := row_fn o h5
  rw [ef] at ht hq
  by_cases hX : X = []
  · subst hX
    have g : decide ((p.length : Int) < ((p.length + ([] : List T).length : Nat) : Int)) = false := decide_eq_false (by simp)
    have g' : (decide ((p.length : Int) < ((p.length + ([] : List T).length : Nat) : Int)) == true) = false := by rw [g]; rfl
    have ha' : z.hp.a b = some ⟨v, 4, encL (p ++ Y ++ s), cap, 0⟩ := by simpa using ha
    rw [St.knows _ z.hp.n ht rfl]
    conv => whnf
    repeat (first
      | (refine sel_yes ?_ ?_; (first | assumption | (simp only [beq_iff_eq, bne_iff_ne, beq_eq_false_iff_ne, bne_eq_false_iff_eq, decide_eq_true_eq, decide_eq_false_iff_not, Bool.not_eq_true', Bool.not_eq_false', ne_eq, beq_true, beq_false, bne_self_eq_false, not_true_eq_false, not_false_eq_true, gt_iff_lt, ge_iff_le, Int.not_lt, Int.not_le, Bool.true_eq_false, Bool.false_eq_true] <;> omega)); conv => whnf)
      | (refine sel_no ?_ ?_; (first | assumption | (simp only [beq_iff_eq, bne_iff_ne, beq_eq_false_iff_ne, bne_eq_false_iff_eq, decide_eq_true_eq, decide_eq_false_iff_not, Bool.not_eq_true', Bool.not_eq_false', ne_eq, beq_true, beq_false, bne_self_eq_false, not_true_eq_false, not_false_eq_true, gt_iff_lt, ge_iff_le, Int.not_lt, Int.not_le, Bool.true_eq_false, Bool.false_eq_true] <;> omega)); conv => whnf)
      | (refine ⟨le_rfl' ?_, ?_⟩; rfl; conv => whnf)
      | (refine ⟨⟨?_, ?_⟩, ?_⟩; omega; omega; conv => whnf)
      | (refine ⟨⟨?_, ?_, ?_⟩, ?_⟩; rfl; omega; omega; conv => whnf)
      | (refine ⟨rfl, ?_, ?_⟩; decide; conv => whnf))
    try exact rfl
    exact hq _ Y sY (by simp) ⟨rfl, rfl, rfl, rfl, rfl, trivial⟩ ha' (Nat.lt_of_lt_of_le hb (by (conv => lhs; whnf); (repeat ((conv => rhs; whnf); first | with_reducible exact Nat.le_refl _ | refine Nat.le_trans ?_ (Nat.le_add_right _ _) | refine Nat.le_succ_of_le ?_ | exact Nat.le_refl _))))
  have hX0 : 0 < X.length := List.length_pos_iff.2 hX
  have g : decide ((p.length : Int) < ((p.length + X.length : Nat) : Int)) = true := decide_eq_true (by omega)
  have g' : (decide ((p.length : Int) < ((p.length + X.length : Nat) : Int)) == true) = true := by rw [g]; rfl
  by_cases hY : Y = []
  · subst hY
    have g2 : decide (((p.length + X.length : Nat) : Int) < ((p.length + X.length + ([] : List T).length : Nat) : Int)) = false := decide_eq_false (by simp)
    have ha' : z.hp.a b = some ⟨v, 4, encL (p ++ X ++ s), cap, 0⟩ := by simpa using ha
    rw [St.knows _ z.hp.n ht rfl]
    conv => whnf
    repeat (first
      | (refine sel_yes ?_ ?_; (first | assumption | (simp only [beq_iff_eq, bne_iff_ne, beq_eq_false_iff_ne, bne_eq_false_iff_eq, decide_eq_true_eq, decide_eq_false_iff_not, Bool.not_eq_true', Bool.not_eq_false', ne_eq, beq_true, beq_false, bne_self_eq_false, not_true_eq_false, not_false_eq_true, gt_iff_lt, ge_iff_le, Int.not_lt, Int.not_le, Bool.true_eq_false, Bool.false_eq_true] <;> omega)); conv => whnf)
      | (refine sel_no ?_ ?_; (first | assumption | (simp only [beq_iff_eq, bne_iff_ne, beq_eq_false_iff_ne, bne_eq_false_iff_eq, decide_eq_true_eq, decide_eq_false_iff_not, Bool.not_eq_true', Bool.not_eq_false', ne_eq, beq_true, beq_false, bne_self_eq_false, not_true_eq_false, not_false_eq_true, gt_iff_lt, ge_iff_le, Int.not_lt, Int.not_le, Bool.true_eq_false, Bool.false_eq_true] <;> omega)); conv => whnf)
      | (refine ⟨le_rfl' ?_, ?_⟩; rfl; conv => whnf)
      | (refine ⟨⟨?_, ?_⟩, ?_⟩; omega; omega; conv => whnf)
      | (refine ⟨⟨?_, ?_, ?_⟩, ?_⟩; rfl; omega; omega; conv => whnf)
      | (refine ⟨rfl, ?_, ?_⟩; decide; conv => whnf))
    try exact rfl
    exact hq _ X sX (by simp) ⟨rfl, rfl, rfl, rfl, rfl, trivial⟩ ha' (Nat.lt_of_lt_of_le hb (by (conv => lhs; whnf); (repeat ((conv => rhs; whnf); first | with_reducible exact Nat.le_refl _ | refine Nat.le_trans ?_ (Nat.le_add_right _ _) | refine Nat.le_succ_of_le ?_ | exact Nat.le_refl _))))
  have hY0 : 0 < Y.length := List.length_pos_iff.2 hY
  have g2 : decide (((p.length + X.length : Nat) : Int) < ((p.length + X.length + Y.length : Nat) : Int)) = true := decide_eq_true (by omega)
  rw [St.knows _ z.hp.n ht rfl]
  conv => whnf
  repeat (first
    | (refine sel_yes ?_ ?_; (first | assumption | (simp only [beq_iff_eq, bne_iff_ne, beq_eq_false_iff_ne, bne_eq_false_iff_eq, decide_eq_true_eq, decide_eq_false_iff_not, Bool.not_eq_true', Bool.not_eq_false', ne_eq, beq_true, beq_false, bne_self_eq_false, not_true_eq_false, not_false_eq_true, gt_iff_lt, ge_iff_le, Int.not_lt, Int.not_le, Bool.true_eq_false, Bool.false_eq_true] <;> omega)); conv => whnf)
    | (refine sel_no ?_ ?_; (first | assumption | (simp only [beq_iff_eq, bne_iff_ne, beq_eq_false_iff_ne, bne_eq_false_iff_eq, decide_eq_true_eq, decide_eq_false_iff_not, Bool.not_eq_true', Bool.not_eq_false', ne_eq, beq_true, beq_false, bne_self_eq_false, not_true_eq_false, not_false_eq_true, gt_iff_lt, ge_iff_le, Int.not_lt, Int.not_le, Bool.true_eq_false, Bool.false_eq_true] <;> omega)); conv => whnf)
    | (refine ⟨le_rfl' ?_, ?_⟩; rfl; conv => whnf)
    | (refine ⟨⟨?_, ?_⟩, ?_⟩; omega; omega; conv => whnf)
    | (refine ⟨⟨?_, ?_, ?_⟩, ?_⟩; rfl; omega; omega; conv => whnf)
    | (refine ⟨rfl, ?_, ?_⟩; decide; conv => whnf))
  try exact rfl
  refine ih.use hG hN hlen hX0 hY0 sX sY (by rw [ef]; rfl) ha (Nat.lt_of_lt_of_le hb (by (conv => lhs; whnf); (repeat ((conv => rhs; whnf); first | with_reducible exact Nat.le_refl _ | refine Nat.le_trans ?_ (Nat.le_add_right _ _) | refine Nat.le_succ_of_le ?_ | exact Nat.le_refl _)))) (fun hp' Z q1 q2 q3 q4 => ?_)
  conv => whnf
  exact hq _ Z q1 q2 ⟨rfl, rfl, rfl, rfl, rfl, trivial⟩ q3 q4
/-- the left half, and the right half -/
theorem smL (o : Nat) (h5 : o ≤ 5) (N b v : Nat) (hN : N ≤ 65536) (cap : Option Nat) (p X1 Y1 X2 Y2 s : List T) (hG : Gd (p ++ X1 ++ Y1 ++ (X2 ++ Y2 ++ s))) (hlen : (p ++ X1 ++ Y1 ++ (X2 ++ Y2 ++ s)).length = N) (sX1 : Le (ordF ext o) X1) (sY1 : Le (ordF ext o) Y1) (sX2 : Le (ordF ext o) X2) (sY2 : Le (ordF ext o) Y2) (ih1 : SM ext o X1 Y1) (ih2 : SM ext o X2 Y2) (z : St) (K : Ex → St → Prop)
    (ht : Has z.t [(0, .rsl false b v 0 N), (1, .int .i64 p.length), (3, .int .i64 ((p.length + X1.length + Y1.length + X2.length + Y2.length : Nat) : Int)), (4, rowOf o), (18, .int .i64 ((p.length + X1.length + Y1.length : Nat) : Int)), (20, .int .i64 ((p.length + X1.length : Nat) : Int)), (24, .int .i64 ((p.length + X1.length + Y1.length + X2.length : Nat) : Int))]) (ha : z.hp.a b = some ⟨v, 4, encL (p ++ X1 ++ Y1 ++ (X2 ++ Y2 ++ s)), cap, 0⟩) (hb : b < z.hp.m)
    (hq : ∀ (z' : St) (Z1 Z2 : List T), Le (ordF ext o) Z1 → Le (ordF ext o) Z2 → Z1.Perm (X1 ++ Y1) → Z2.Perm (X2 ++ Y2) → z'.hp.a b = some ⟨v, 4, encL (p ++ (Z1 ++ Z2) ++ s), cap, 0⟩ → b < z'.hp.m → K .normal z') :
    xCode (cfg ext) (atP (bodyOf Tryz.f80) [true, true, true, true, true, true, true, true, true, true]) z K := by
  refine smLeft o h5 N b v hN cap p X1 Y1 (X2 ++ Y2 ++ s) _ _ hG hlen sX1 sY1 ih1 z _ ht ha hb (fun z2 Z1 s1 p1 ht2 ha2 hb2 => ?_)
  have hl := p1.length_eq
  simp only [List.length_append] at hl
  have el : (p ++ Z1).length = p.length + X1.length + Y1.length := by simp only [List.length_append]; omega
  have er : p ++ Z1 ++ (X2 ++ Y2 ++ s) = (p ++ Z1) ++ X2 ++ Y2 ++ s := by simp
  rw [er] at ha2
  refine smR o h5 N b v hN cap (p ++ Z1) X2 Y2 s (hG.perm ?_) ?_ sX2 sY2 ih2 z2 K ?_ ha2 hb2 (fun z' Z2 k1 k2 k3 k4 => hq z' Z1 Z2 s1 k1 p1 k2 (by rw [k3]; simp) k4)
  · rw [← er, show p ++ X1 ++ Y1 ++ (X2 ++ Y2 ++ s) = p ++ (X1 ++ Y1) ++ (X2 ++ Y2 ++ s) by simp]
    exact List.Perm.append_right _ (List.Perm.append_left _ p1)
  · rw [← hlen]; simp only [List.length_append]; omega
  · rw [el]; exact ht2
end
end Go.Proofs.YtehajklneljbgaaGreatDoor.AB
end

section
set_option linter.unusedVariables false
set_option linter.unusedSimpArgs false
open Go Go.Ab Go.Proofs Go.Vl
namespace Go.Proofs.YtehajklneljbgaaGreatDoor.AB
set_option maxRecDepth 100000
set_option maxHeartbeats 16000000
set_option linter.unusedSimpArgs false
set_option linter.unusedVariables false
section
variable {ext : Exts}
theorem lmv1 (N b v : Nat) (hN : N ≤ 65536) (cap : Option Nat) (p R : List T) (c : T) (Q : Ex → St → Prop) (n : Nat) :
    ∀ (W Z : List T) (z : St), (p ++ Z ++ c :: (W ++ R)).length = N → Has z.t [(0, .rsl false b v 0 N), (10, .int .i64 ((p.length + Z.length + 1 + W.length : Nat) : Int)), (13, .int .i64 ((p.length + Z.length : Nat) : Int))] → z.hp.n = n →
      z.hp.a b = some ⟨v, 4, encL (p ++ Z ++ c :: (W ++ R)), cap, 0⟩ → b < z.hp.m →
      (∀ z' : St, z'.hp.a b = some ⟨v, 4, encL (p ++ (Z ++ W) ++ c :: R), cap, 0⟩ → b < z'.hp.m → Q (.exit 2) z') →
      Go.Ab.Loop (cfg ext) (lpN Tryz.f80 1) n z Q := by
  intro W
  induction W with
  | nil =>
    intro Z z hlen ht hz ha hb hq
    simp only [List.length_append, List.length_cons, List.length_nil] at hlen
    have w1 : IntKind.i64.wrap (((p.length + Z.length + 1 + ([] : List T).length : Nat) : Int) - 1) = ((p.length + Z.length : Nat) : Int) := by rw [IntKind.wrap_i64]; simp; omega
    have g : decide (((p.length + Z.length : Nat) : Int) < IntKind.i64.wrap (((p.length + Z.length + 1 + ([] : List T).length : Nat) : Int) - 1)) = false := decide_eq_false (by rw [w1]; omega)
    have ha' : z.hp.a b = some ⟨v, 4, encL (p ++ (Z ++ []) ++ c :: R), cap, 0⟩ := by simpa using ha
    rw [St.knows _ _ ht hz]
    refine Loop.round ?_
    conv => whnf
    refine sel_no g ?_
    conv => whnf
    exact hq _ ha' (Nat.lt_of_lt_of_le hb (by (conv => lhs; whnf); (repeat ((conv => rhs; whnf); first | with_reducible exact Nat.le_refl _ | refine Nat.le_trans ?_ (Nat.le_add_right _ _) | refine Nat.le_succ_of_le ?_ | exact Nat.le_refl _))))
  | cons w W ih =>
    intro Z z hlen ht hz ha hb hq
    have hlen' := hlen
    simp only [List.length_append, List.length_cons] at hlen'
    simp only [List.length_cons] at ht
    have w1 : IntKind.i64.wrap (((p.length + Z.length + 1 + (W.length + 1) : Nat) : Int) - 1) = ((p.length + Z.length + 1 + W.length : Nat) : Int) := by rw [IntKind.wrap_i64]; omega
    have g : decide (((p.length + Z.length : Nat) : Int) < IntKind.i64.wrap (((p.length + Z.length + 1 + (W.length + 1) : Nat) : Int) - 1)) = true := decide_eq_true (by rw [w1]; omega)
    have w2 : IntKind.i64.wrap (((p.length + Z.length : Nat) : Int) + 1) = ((p.length + Z.length + 1 : Nat) : Int) := by rw [IntKind.wrap_i64]; omega
    have r1 : (p ++ Z ++ c :: (w :: W ++ R))[p.length + Z.length]? = some c := getq (by simp)
    have r2 : (p ++ Z ++ c :: (w :: W ++ R))[p.length + Z.length + 1]? = some w := by
      rw [show p ++ Z ++ c :: (w :: W ++ R) = (p ++ Z ++ [c]) ++ w :: (W ++ R) by simp]; exact getq (by simp; omega)
    have s1 : (p ++ Z ++ c :: (w :: W ++ R)).set (p.length + Z.length) w = (p ++ Z ++ [w]) ++ w :: (W ++ R) := by
      rw [setq (by simp)]; simp
    have s2 : ((p ++ Z ++ [w]) ++ w :: (W ++ R)).set (p.length + Z.length + 1) c = p ++ (Z ++ [w]) ++ c :: (W ++ R) := by
      rw [setq (by simp; omega)]; simp
    have b1 : p.length + Z.length < N := by omega
    have b2 : p.length + Z.length + 1 < N := by omega
    rw [St.knows _ _ ht hz]
    refine Loop.round ?_
    conv => whnf
    refine sel_yes g ?_
    conv => whnf
    refine ⟨bnd w2 b2, ?_⟩
    conv => whnf
    refine ldR ha (fun l hl => by cases hl; exact Nat.lt_of_lt_of_le hb (by (conv => lhs; whnf); (repeat ((conv => rhs; whnf); first | with_reducible exact Nat.le_refl _ | refine Nat.le_trans ?_ (Nat.le_add_right _ _) | refine Nat.le_succ_of_le ?_ | exact Nat.le_refl _)))) w2 r2 ?_
    conv => whnf
    refine ⟨bnd rfl b1, ?_⟩
    conv => whnf
    refine ldR ha (fun l hl => by cases hl; exact Nat.lt_of_lt_of_le hb (by (conv => lhs; whnf); (repeat ((conv => rhs; whnf); first | with_reducible exact Nat.le_refl _ | refine Nat.le_trans ?_ (Nat.le_add_right _ _) | refine Nat.le_succ_of_le ?_ | exact Nat.le_refl _)))) rfl r1 ?_
    conv => whnf
    refine ⟨bnd rfl b1, ?_⟩
    conv => whnf
    refine stR ha rfl (by rw [hlen]; exact b1) (fun a1 h1 => ?_)
    rw [s1] at h1
    conv => whnf
    refine ⟨bnd w2 b2, ?_⟩
    conv => whnf
    refine stR h1 w2 (by simp only [List.length_append, List.length_cons, List.length_nil]; omega) (fun a2 h2 => ?_)
    rw [s2] at h2
    conv => whnf
    refine ih (Z ++ [w]) _ (by simp only [List.length_append, List.length_cons, List.length_nil]; omega) ⟨rfl, ?_, ?_, trivial⟩ rfl (trunc_arr h2) (Nat.lt_of_lt_of_le hb (by (conv => lhs; whnf); (repeat ((conv => rhs; whnf); first | with_reducible exact Nat.le_refl _ | refine Nat.le_trans ?_ (Nat.le_add_right _ _) | refine Nat.le_succ_of_le ?_ | exact Nat.le_refl _)))) (fun z' k1 => hq z' (by rw [k1]; simp))
    · exact vi (by simp only [List.length_append, List.length_cons, List.length_nil]; omega)
    · conv => lhs; whnf
      exact vi (by rw [w2]; simp only [List.length_append, List.length_cons, List.length_nil]; omega)
theorem lmv3 (N b v : Nat) (hN : N ≤ 65536) (cap : Option Nat) (p : List T) (c : T) (Q : Ex → St → Prop) (n : Nat) (d : Nat) :
    ∀ (W R : List T) (z : St), W.length = d → (p ++ W ++ c :: R).length = N → Has z.t [(0, .rsl false b v 0 N), (14, .int .i64 p.length), (17, .int .i64 ((p.length + W.length : Nat) : Int))] → z.hp.n = n →
      z.hp.a b = some ⟨v, 4, encL (p ++ W ++ c :: R), cap, 0⟩ → b < z.hp.m →
      (∀ z' : St, z'.hp.a b = some ⟨v, 4, encL (p ++ c :: (W ++ R)), cap, 0⟩ → b < z'.hp.m → Q (.exit 6) z') →
      Go.Ab.Loop (cfg ext) (lpN Tryz.f80 3) n z Q := by
  induction d with
  | zero =>
    intro W R z hW hlen ht hz ha hb hq
    obtain rfl := List.eq_nil_of_length_eq_zero hW
    have g : decide (((p.length + ([] : List T).length : Nat) : Int) > (p.length : Int)) = false := decide_eq_false (by simp)
    have ha' : z.hp.a b = some ⟨v, 4, encL (p ++ c :: ([] ++ R)), cap, 0⟩ := by simpa using ha
    rw [St.knows _ _ ht hz]
    refine Loop.round ?_
    conv => whnf
    refine sel_no g ?_
    conv => whnf
    exact hq _ ha' (Nat.lt_of_lt_of_le hb (by (conv => lhs; whnf); (repeat ((conv => rhs; whnf); first | with_reducible exact Nat.le_refl _ | refine Nat.le_trans ?_ (Nat.le_add_right _ _) | refine Nat.le_succ_of_le ?_ | exact Nat.le_refl _))))
  | succ d ih =>
    intro W R z hW hlen ht hz ha hb hq
    obtain ⟨U, y, rfl⟩ : ∃ U y, W = U ++ [y] := by
      rcases List.eq_nil_or_concat W with rfl | ⟨U, y, rfl⟩
      · simp at hW
      · exact ⟨U, y, by simp⟩
    simp only [List.length_append, List.length_cons, List.length_nil] at hW ht
    have hlen' := hlen
    simp only [List.length_append, List.length_cons, List.length_nil] at hlen'
    have g : decide (((p.length + (U.length + (0 + 1)) : Nat) : Int) > (p.length : Int)) = true := decide_eq_true (by omega)
    have w1 : IntKind.i64.wrap (((p.length + (U.length + (0 + 1)) : Nat) : Int) - 1) = ((p.length + U.length : Nat) : Int) := by rw [IntKind.wrap_i64]; omega
    have r1 : (p ++ (U ++ [y]) ++ c :: R)[p.length + (U.length + (0 + 1))]? = some c := getq (by simp)
    have r2 : (p ++ (U ++ [y]) ++ c :: R)[p.length + U.length]? = some y := by
      rw [show p ++ (U ++ [y]) ++ c :: R = (p ++ U) ++ y :: c :: R by simp]; exact getq (by simp)
    have b1 : p.length + (U.length + (0 + 1)) < N := by omega
    have b2 : p.length + U.length < N := by omega
    have s1 : (p ++ (U ++ [y]) ++ c :: R).set (p.length + (U.length + (0 + 1))) y = (p ++ U) ++ y :: y :: R := by
      rw [setq (by simp)]; simp
    have s2 : ((p ++ U) ++ y :: y :: R).set (p.length + U.length) c = p ++ U ++ c :: (y :: R) := by
      rw [setq (by simp)]
    rw [St.knows _ _ ht hz]
    refine Loop.round ?_
    conv => whnf
    refine sel_yes g ?_
    conv => whnf
    refine ⟨bnd w1 b2, ?_⟩
    conv => whnf
    refine ldR ha (fun l hl => by cases hl; exact Nat.lt_of_lt_of_le hb (by (conv => lhs; whnf); (repeat ((conv => rhs; whnf); first | with_reducible exact Nat.le_refl _ | refine Nat.le_trans ?_ (Nat.le_add_right _ _) | refine Nat.le_succ_of_le ?_ | exact Nat.le_refl _)))) w1 r2 ?_
    conv => whnf
    refine ⟨bnd rfl b1, ?_⟩
    conv => whnf
    refine ldR ha (fun l hl => by cases hl; exact Nat.lt_of_lt_of_le hb (by (conv => lhs; whnf); (repeat ((conv => rhs; whnf); first | with_reducible exact Nat.le_refl _ | refine Nat.le_trans ?_ (Nat.le_add_right _ _) | refine Nat.le_succ_of_le ?_ | exact Nat.le_refl _)))) rfl r1 ?_
    conv => whnf
    refine ⟨bnd rfl b1, ?_⟩
    conv => whnf
    refine stR ha rfl (by rw [hlen]; exact b1) (fun a1 h1 => ?_)
    rw [s1] at h1
    conv => whnf
    refine ⟨bnd w1 b2, ?_⟩
    conv => whnf
    refine stR h1 w1 (by simp only [List.length_append, List.length_cons]; omega) (fun a2 h2 => ?_)
    rw [s2] at h2
    conv => whnf
    refine ih U (y :: R) _ (by omega) (by simp only [List.length_append, List.length_cons]; omega) ⟨rfl, rfl, ?_, trivial⟩ rfl (trunc_arr h2) (Nat.lt_of_lt_of_le hb (by (conv => lhs; whnf); (repeat ((conv => rhs; whnf); first | with_reducible exact Nat.le_refl _ | refine Nat.le_trans ?_ (Nat.le_add_right _ _) | refine Nat.le_succ_of_le ?_ | exact Nat.le_refl _)))) (fun z' k1 => hq z' (by rw [k1]; simp))
    conv => lhs; whnf
    exact vi w1
/-- the turn in the middle -/
theorem smRot (o : Nat) (h5 : o ≤ 5) (N b v : Nat) (hN : N ≤ 65536) (cap : Option Nat) (q X Y s : List T) (e1 e3 e18 : Int) (hlen : (q ++ X ++ Y ++ s).length = N) (z : St) (K : Ex → St → Prop)
    (ht : Has z.t [(0, .rsl false b v 0 N), (1, .int .i64 e1), (2, .int .i64 ((q.length + X.length : Nat) : Int)), (3, .int .i64 e3), (4, rowOf o), (18, .int .i64 e18), (20, .int .i64 q.length), (24, .int .i64 ((q.length + X.length + Y.length : Nat) : Int))]) (ha : z.hp.a b = some ⟨v, 4, encL (q ++ X ++ Y ++ s), cap, 0⟩) (hb : b < z.hp.m)
    (hq : ∀ (z' : St), Has z'.t [(0, .rsl false b v 0 N), (1, .int .i64 e1), (3, .int .i64 e3), (4, rowOf o), (18, .int .i64 e18), (20, .int .i64 q.length), (24, .int .i64 ((q.length + X.length + Y.length : Nat) : Int))] → z'.hp.a b = some ⟨v, 4, encL (q ++ Y ++ X ++ s), cap, 0⟩ → b < z'.hp.m → K .normal z') :
    xCode (cfg ext) (atP (bodyOf Tryz.f80) [true, true, true, true, true, true, true, true, true, false]) z K := by
  have hc := row_clean o h5
  obtain ⟨fk, fc, ef⟩ := row_fn o h5
  rw [ef] at ht hq
  by_cases hX : X = []
  · subst hX
    have g : decide ((q.length : Int) < ((q.length + ([] : List T).length : Nat) : Int)) = false := decide_eq_false (by simp)
    have g' : (decide ((q.length : Int) < ((q.length + ([] : List T).length : Nat) : Int)) == true) = false := by rw [g]; rfl
    have ha' : z.hp.a b = some ⟨v, 4, encL (q ++ Y ++ [] ++ s), cap, 0⟩ := by simpa using ha
    rw [St.knows _ z.hp.n ht rfl]
    conv => whnf
    repeat (first
      | (refine sel_yes ?_ ?_; (first | assumption | (simp only [beq_iff_eq, bne_iff_ne, beq_eq_false_iff_ne, bne_eq_false_iff_eq, decide_eq_true_eq, decide_eq_false_iff_not, Bool.not_eq_true', Bool.not_eq_false', ne_eq, beq_true, beq_false, bne_self_eq_false, not_true_eq_false, not_false_eq_true, gt_iff_lt, ge_iff_le, Int.not_lt, Int.not_le, Bool.true_eq_false, Bool.false_eq_true] <;> omega)); conv => whnf)
      | (refine sel_no ?_ ?_; (first | assumption | (simp only [beq_iff_eq, bne_iff_ne, beq_eq_false_iff_ne, bne_eq_false_iff_eq, decide_eq_true_eq, decide_eq_false_iff_not, Bool.not_eq_true', Bool.not_eq_false', ne_eq, beq_true, beq_false, bne_self_eq_false, not_true_eq_false, not_false_eq_true, gt_iff_lt, ge_iff_le, Int.not_lt, Int.not_le, Bool.true_eq_false, Bool.false_eq_true] <;> omega)); conv => whnf)
      | (refine ⟨le_rfl' ?_, ?_⟩; rfl; conv => whnf)
      | (refine ⟨⟨?_, ?_⟩, ?_⟩; omega; omega; conv => whnf)
      | (refine ⟨⟨?_, ?_, ?_⟩, ?_⟩; rfl; omega; omega; conv => whnf)
      | (refine ⟨rfl, ?_, ?_⟩; decide; conv => whnf))
    try exact rfl
    exact hq _ ⟨rfl, rfl, rfl, rfl, rfl, rfl, rfl, trivial⟩ ha' (Nat.lt_of_lt_of_le hb (by (conv => lhs; whnf); (repeat ((conv => rhs; whnf); first | with_reducible exact Nat.le_refl _ | refine Nat.le_trans ?_ (Nat.le_add_right _ _) | refine Nat.le_succ_of_le ?_ | exact Nat.le_refl _))))
  have hX0 : 0 < X.length := List.length_pos_iff.2 hX
  have g : decide ((q.length : Int) < ((q.length + X.length : Nat) : Int)) = true := decide_eq_true (by omega)
  have g' : (decide ((q.length : Int) < ((q.length + X.length : Nat) : Int)) == true) = true := by rw [g]; rfl
  by_cases hY : Y = []
  · subst hY
    have g2 : decide (((q.length + X.length : Nat) : Int) < ((q.length + X.length + ([] : List T).length : Nat) : Int)) = false := decide_eq_false (by simp)
    have ha' : z.hp.a b = some ⟨v, 4, encL (q ++ [] ++ X ++ s), cap, 0⟩ := by simpa using ha
    rw [St.knows _ z.hp.n ht rfl]
    conv => whnf
    repeat (first
      | (refine sel_yes ?_ ?_; (first | assumption | (simp only [beq_iff_eq, bne_iff_ne, beq_eq_false_iff_ne, bne_eq_false_iff_eq, decide_eq_true_eq, decide_eq_false_iff_not, Bool.not_eq_true', Bool.not_eq_false', ne_eq, beq_true, beq_false, bne_self_eq_false, not_true_eq_false, not_false_eq_true, gt_iff_lt, ge_iff_le, Int.not_lt, Int.not_le, Bool.true_eq_false, Bool.false_eq_true] <;> omega)); conv => whnf)
      | (refine sel_no ?_ ?_; (first | assumption | (simp only [beq_iff_eq, bne_iff_ne, beq_eq_false_iff_ne, bne_eq_false_iff_eq, decide_eq_true_eq, decide_eq_false_iff_not, Bool.not_eq_true', Bool.not_eq_false', ne_eq, beq_true, beq_false, bne_self_eq_false, not_true_eq_false, not_false_eq_true, gt_iff_lt, ge_iff_le, Int.not_lt, Int.not_le, Bool.true_eq_false, Bool.false_eq_true] <;> omega)); conv => whnf)
      | (refine ⟨le_rfl' ?_, ?_⟩; rfl; conv => whnf)
      | (refine ⟨⟨?_, ?_⟩, ?_⟩; omega; omega; conv => whnf)
      | (refine ⟨⟨?_, ?_, ?_⟩, ?_⟩; rfl; omega; omega; conv => whnf)
      | (refine ⟨rfl, ?_, ?_⟩; decide; conv => whnf))
    try exact rfl
    exact hq _ ⟨rfl, rfl, rfl, rfl, rfl, rfl, rfl, trivial⟩ ha' (Nat.lt_of_lt_of_le hb (by (conv => lhs; whnf); (repeat ((conv => rhs; whnf); first | with_reducible exact Nat.le_refl _ | refine Nat.le_trans ?_ (Nat.le_add_right _ _) | refine Nat.le_succ_of_le ?_ | exact Nat.le_refl _))))
  have hY0 : 0 < Y.length := List.length_pos_iff.2 hY
  have g2 : decide (((q.length + X.length : Nat) : Int) < ((q.length + X.length + Y.length : Nat) : Int)) = true := decide_eq_true (by omega)
  have hr := trot (ext := ext) fk fc (fun n => by rw [← ef]; exact hc n) b v cap q X Y s hX0 hY0 (by omega)
  rw [hlen] at hr
  rw [St.knows _ z.hp.n ht rfl]
  conv => whnf
  repeat (first
    | (refine sel_yes ?_ ?_; (first | assumption | (simp only [beq_iff_eq, bne_iff_ne, beq_eq_false_iff_ne, bne_eq_false_iff_eq, decide_eq_true_eq, decide_eq_false_iff_not, Bool.not_eq_true', Bool.not_eq_false', ne_eq, beq_true, beq_false, bne_self_eq_false, not_true_eq_false, not_false_eq_true, gt_iff_lt, ge_iff_le, Int.not_lt, Int.not_le, Bool.true_eq_false, Bool.false_eq_true] <;> omega)); conv => whnf)
    | (refine sel_no ?_ ?_; (first | assumption | (simp only [beq_iff_eq, bne_iff_ne, beq_eq_false_iff_ne, bne_eq_false_iff_eq, decide_eq_true_eq, decide_eq_false_iff_not, Bool.not_eq_true', Bool.not_eq_false', ne_eq, beq_true, beq_false, bne_self_eq_false, not_true_eq_false, not_false_eq_true, gt_iff_lt, ge_iff_le, Int.not_lt, Int.not_le, Bool.true_eq_false, Bool.false_eq_true] <;> omega)); conv => whnf)
    | (refine ⟨le_rfl' ?_, ?_⟩; rfl; conv => whnf)
    | (refine ⟨⟨?_, ?_⟩, ?_⟩; omega; omega; conv => whnf)
    | (refine ⟨⟨?_, ?_, ?_⟩, ?_⟩; rfl; omega; omega; conv => whnf)
    | (refine ⟨rfl, ?_, ?_⟩; decide; conv => whnf))
  try exact rfl
  refine SR.use hr ha (Nat.lt_of_lt_of_le hb (by (conv => lhs; whnf); (repeat ((conv => rhs; whnf); first | with_reducible exact Nat.le_refl _ | refine Nat.le_trans ?_ (Nat.le_add_right _ _) | refine Nat.le_succ_of_le ?_ | exact Nat.le_refl _)))) (fun hp' q1 q2 => ?_)
  conv => whnf
  exact hq _ ⟨rfl, rfl, rfl, rfl, rfl, rfl, rfl, trivial⟩ q1 q2
end
end Go.Proofs.YtehajklneljbgaaGreatDoor.AB
end

section
set_option linter.unusedVariables false
set_option linter.unusedSimpArgs false
open Go Go.Ab Go.Proofs Go.Vl
namespace Go.Proofs.YtehajklneljbgaaGreatDoor.AB
set_option maxRecDepth 100000
set_option maxHeartbeats 16000000
set_option linter.unusedSimpArgs false
set_option linter.unusedVariables false
theorem xseq {C : Cfg} {a b c : Code} {s : St} {Q : Ex → St → Prop} (e : c = .seq a b) (h : xCode C a s fun ex s' => match ex with | .normal => xCode C b s' Q | .exit i => Q (.exit i) s' | .ret => Q .ret s') : xCode C c s Q := by subst e; exact h
section
variable {ext : Exts}
theorem smRegEnd (o : Nat) (N b v : Nat) (cap : Option Nat) (L : List T) (e1 e2 e3 e18 e19 e20 e24 : Int) (h24 : IntKind.i64.wrap (e19 - e20) = e24) (z : St) (K : Ex → St → Prop)
    (ht : Has z.t [(0, .rsl false b v 0 N), (1, .int .i64 e1), (2, .int .i64 e2), (3, .int .i64 e3), (4, rowOf o), (18, .int .i64 e18), (19, .int .i64 e19), (20, .int .i64 e20)]) (ha : z.hp.a b = some ⟨v, 4, encL L, cap, 0⟩) (hb : b < z.hp.m)
    (hq : ∀ (z' : St), Has z'.t [(0, .rsl false b v 0 N), (1, .int .i64 e1), (2, .int .i64 e2), (3, .int .i64 e3), (4, rowOf o), (18, .int .i64 e18), (20, .int .i64 e20), (24, .int .i64 e24)] → z'.hp.a b = some ⟨v, 4, encL L, cap, 0⟩ → b < z'.hp.m → K .normal z') :
    xCode (cfg ext) (atP (bodyOf Tryz.f80) [true, true, true, true, true, true, true, true, false]) z K := by
  rw [St.knows _ z.hp.n ht rfl]
  conv => whnf
  refine hq _ ⟨rfl, rfl, rfl, rfl, rfl, rfl, rfl, ?_, trivial⟩ ha (Nat.lt_of_lt_of_le hb (by (conv => lhs; whnf); (repeat ((conv => rhs; whnf); first | with_reducible exact Nat.le_refl _ | refine Nat.le_trans ?_ (Nat.le_add_right _ _) | refine Nat.le_succ_of_le ?_ | exact Nat.le_refl _))))
  conv => lhs; whnf
  exact vi h24
theorem smEnd (o : Nat) (h5 : o ≤ 5) (N b v : Nat) (hN : N ≤ 65536) (cap : Option Nat) (p X1 X2 Y1 Y2 s : List T) (mid nn : Int) (hmid : mid = ((p.length + X1.length + Y1.length : Nat) : Int)) (hnn : IntKind.i64.wrap (nn - ((p.length + X1.length : Nat) : Int)) = ((p.length + X1.length + X2.length + Y1.length : Nat) : Int))
    (hG : Gd (p ++ X1 ++ X2 ++ Y1 ++ Y2 ++ s)) (hlen : (p ++ X1 ++ X2 ++ Y1 ++ Y2 ++ s).length = N) (sX : Le (ordF ext o) (X1 ++ X2)) (sY : Le (ordF ext o) (Y1 ++ Y2)) (hb1 : ∀ a b, X1.getLast? = some a → Y2.head? = some b → ordF ext o a b ≤ 0) (hb2 : ∀ a b, Y1.getLast? = some a → X2.head? = some b → ordF ext o a b ≤ 0)
    (ih1 : SM ext o X1 Y1) (ih2 : SM ext o X2 Y2) (z : St) (K : Ex → St → Prop)
    (ht : Has z.t [(0, .rsl false b v 0 N), (1, .int .i64 p.length), (2, .int .i64 ((p.length + X1.length + X2.length : Nat) : Int)), (3, .int .i64 ((p.length + X1.length + X2.length + Y1.length + Y2.length : Nat) : Int)), (4, rowOf o), (18, .int .i64 mid), (19, .int .i64 nn), (20, .int .i64 ((p.length + X1.length : Nat) : Int))])
    (ha : z.hp.a b = some ⟨v, 4, encL (p ++ X1 ++ X2 ++ Y1 ++ Y2 ++ s), cap, 0⟩) (hb : b < z.hp.m)
    (hq : ∀ (z' : St) (Z : List T), Le (ordF ext o) Z → Z.Perm (X1 ++ X2 ++ (Y1 ++ Y2)) → z'.hp.a b = some ⟨v, 4, encL (p ++ Z ++ s), cap, 0⟩ → b < z'.hp.m → K .normal z') :
    xCode (cfg ext) (atP (bodyOf Tryz.f80) [true, true, true, true, true, true, true, true]) z K := by
  subst hmid
  refine xseq (a := atP (bodyOf Tryz.f80) [true, true, true, true, true, true, true, true, false]) (b := atP (bodyOf Tryz.f80) [true, true, true, true, true, true, true, true, true]) rfl ?_
  refine smRegEnd o N b v cap _ _ _ _ _ _ _ _ hnn z _ ht ha hb (fun z1 ht1 ha1 hb1' => ?_)
  have e1 : p ++ X1 ++ X2 ++ Y1 ++ Y2 ++ s = (p ++ X1) ++ X2 ++ Y1 ++ (Y2 ++ s) := by simp
  have e2 : (p ++ X1) ++ Y1 ++ X2 ++ (Y2 ++ s) = p ++ X1 ++ Y1 ++ (X2 ++ Y2 ++ s) := by simp
  have el : (p ++ X1).length = p.length + X1.length := List.length_append
  rw [e1] at ha1 hlen
  rw [← el] at ht1
  refine xseq (a := atP (bodyOf Tryz.f80) [true, true, true, true, true, true, true, true, true, false]) (b := atP (bodyOf Tryz.f80) [true, true, true, true, true, true, true, true, true, true]) rfl ?_
  refine smRot o h5 N b v hN cap (p ++ X1) X2 Y1 (Y2 ++ s) _ _ _ hlen z1 _ ht1 ha1 hb1' (fun z2 ht2 ha2 hb2' => ?_)
  rw [e2] at ha2
  rw [el] at ht2
  have n3 : p.length + X1.length + Y1.length + X2.length + Y2.length = p.length + X1.length + X2.length + Y1.length + Y2.length := by omega
  have n24 : p.length + X1.length + Y1.length + X2.length = p.length + X1.length + X2.length + Y1.length := by omega
  have sX' := List.pairwise_append.1 sX
  have sY' := List.pairwise_append.1 sY
  have pG : (p ++ X1 ++ Y1 ++ (X2 ++ Y2 ++ s)).Perm (p ++ X1 ++ X2 ++ Y1 ++ Y2 ++ s) := by
    rw [← e2, e1]
    exact List.Perm.append_right _ (by rw [List.append_assoc (p ++ X1) Y1 X2, List.append_assoc (p ++ X1) X2 Y1]; exact List.Perm.append_left _ List.perm_append_comm)
  refine smL o h5 N b v hN cap p X1 Y1 X2 Y2 s (hG.perm pG) (by rw [pG.length_eq, e1]; exact hlen) sX'.1 sY'.1 sX'.2.1 sY'.2.1 ih1 ih2 z2 _ (by rw [n3, n24]; exact ht2) ha2 hb2' (fun z' Z1 Z2 s1 s2 p1 p2 k1 k2 => ?_)
  refine hq z' (Z1 ++ Z2) (mrg (ord_line o) (fun x hx => hG.shp x (by simp only [List.mem_append] at hx ⊢; rcases hx with ((h | h) | h) | h <;> simp [h])) sX sY hb1 hb2 p1 p2 s1 s2) ?_ k1 k2
  refine (List.Perm.append p1 p2).trans ?_
  rw [show X1 ++ X2 ++ (Y1 ++ Y2) = X1 ++ ((X2 ++ Y1) ++ Y2) by simp, show X1 ++ Y1 ++ (X2 ++ Y2) = X1 ++ ((Y1 ++ X2) ++ Y2) by simp]
  exact List.Perm.append_left _ (List.Perm.append_right _ List.perm_append_comm)
theorem last_is {A : List T} {y : T} (h : A.getLast? = some y) : ∃ B, A = B ++ [y] := by
  rcases List.eq_nil_or_concat A with rfl | ⟨B, x, rfl⟩
  · cases h
  · simp at h; subst h; exact ⟨B, by simp⟩
theorem head_is {A : List T} {y : T} (h : A.head? = some y) : ∃ B, A = y :: B := by
  cases A with
  | nil => cases h
  | cons x A => simp at h; subst h; exact ⟨A, rfl⟩
theorem tsm1 (hn : Non ext) (h26 : E26 ext) (h73 : E73 ext) (o : Nat) (h5 : o ≤ 5) (c : T) (Y : List T) : SM ext o [c] Y := by
  intro p s b v cap hG hN hX hY sX sY hp ha hb
  obtain ⟨N, hNe⟩ : ∃ N, (p ++ [c] ++ Y ++ s).length = N := ⟨_, rfl⟩
  rw [hNe] at hN ⊢
  have hlen' := hNe
  simp only [List.length_append, List.length_cons, List.length_nil] at hlen'
  have l1 : ([c] : List T).length = 1 := rfl
  have w : IntKind.i64.wrap (((p.length + ([c] : List T).length : Nat) : Int) - (p.length : Int)) = 1 := by rw [IntKind.wrap_i64]; omega
  have g1 : (IntKind.i64.wrap (((p.length + ([c] : List T).length : Nat) : Int) - (p.length : Int)) == 1) = true := by rw [w]; rfl
  have key : ∃ r hp', (cfg ext).EvR 80 [.rsl false b v 0 N, .int .i64 p.length, .int .i64 ((p.length + ([c] : List T).length : Nat) : Int), .int .i64 ((p.length + ([c] : List T).length + Y.length : Nat) : Int), rowOf o] hp r hp' ∧ (r = .tup [] ∧ ∃ Z, Le (ordF ext o) Z ∧ Z.Perm ([c] ++ Y) ∧ hp'.a b = some ⟨v, 4, encL (p ++ Z ++ s), cap, 0⟩ ∧ b < hp'.m) := by
    refine EvR.ofE Tryz.func80 rfl rfl ?_
    conv => whnf
    refine sel_yes g1 ?_
    conv => whnf
    refine lbs0 hn h26 h73 o h5 N b v hN cap (p ++ [c] ++ Y ++ s) hG hNe p.length (p.length + ([c] : List T).length) (p.length + ([c] : List T).length + Y.length) (p.length + ([c] : List T).length) (p.length + ([c] : List T).length + Y.length) (by omega) (by omega) _ _ _ (p.length + ([c] : List T).length) (p.length + ([c] : List T).length + Y.length) _ (Nat.le_refl _) (Nat.le_refl _) (by omega) (Nat.le_refl _) (.inl rfl) (.inl rfl) ⟨rfl, rfl, rfl, rfl, rfl, rfl, rfl, trivial⟩ rfl ha (Nat.lt_of_lt_of_le hb (by (conv => lhs; whnf); (repeat ((conv => rhs; whnf); first | with_reducible exact Nat.le_refl _ | refine Nat.le_trans ?_ (Nat.le_add_right _ _) | refine Nat.le_succ_of_le ?_ | exact Nat.le_refl _)))) (fun z k hB ht ha1 hb1 => ?_)
    obtain ⟨q1, q2, q3, q4⟩ := hB
    obtain ⟨Y1, Y2, hY12, hl1⟩ : ∃ Y1 Y2, Y = Y1 ++ Y2 ∧ p.length + ([c] : List T).length + Y1.length = k := ⟨Y.take (k - (p.length + 1)), Y.drop (k - (p.length + 1)), (List.take_append_drop _ _).symm, by rw [List.length_take]; omega⟩
    subst hY12
    simp only [List.length_append] at hlen' q2
    have rA : (p ++ [c] ++ (Y1 ++ Y2) ++ s)[p.length]? = some c := by
      rw [show p ++ [c] ++ (Y1 ++ Y2) ++ s = p ++ c :: (Y1 ++ Y2 ++ s) by simp]; exact getq rfl
    have hu : ∀ y, Y1.getLast? = some y → ordF ext o y c ≤ 0 := by
      intro y hy
      obtain ⟨B, rfl⟩ := last_is hy
      rcases q3 with q3 | q3
      · simp only [List.length_append, List.length_cons, List.length_nil] at hl1; omega
      · have r : (p ++ [c] ++ (B ++ [y] ++ Y2) ++ s)[k - 1]? = some y := by
          rw [show p ++ [c] ++ (B ++ [y] ++ Y2) ++ s = (p ++ [c] ++ B) ++ y :: (Y2 ++ s) by simp]; exact getq (by simp only [List.length_append, List.length_cons, List.length_nil] at hl1 ⊢; omega)
        have q3' : atB ext o (p ++ [c] ++ (B ++ [y] ++ Y2) ++ s) (k - 1) p.length = true := q3
        rw [atB_is r rA] at q3'
        have := of_decide_eq_true q3'
        omega
    have hw : ∀ y, Y2.head? = some y → ordF ext o c y ≤ 0 := by
      intro y hy
      obtain ⟨B, rfl⟩ := head_is hy
      rcases q4 with q4 | q4
      · simp only [List.length_append, List.length_cons] at q4; omega
      · have r : (p ++ [c] ++ (Y1 ++ y :: B) ++ s)[k]? = some y := by
          rw [show p ++ [c] ++ (Y1 ++ y :: B) ++ s = (p ++ [c] ++ Y1) ++ y :: (B ++ s) by simp]; exact getq (by simp only [List.length_append, List.length_cons, List.length_nil] at hl1 ⊢; omega)
        have q4' : atB ext o (p ++ [c] ++ (Y1 ++ y :: B) ++ s) k p.length = false := q4
        rw [atB_is r rA] at q4'
        have h1 := of_decide_eq_false q4'
        have h2 := (ord_line (ext := ext) o).1 c y
        omega
    have hle := ins2 (ord_line (ext := ext) o) (fun x hx => hG.shp x (by simp only [List.mem_append, List.mem_cons] at hx ⊢; rcases hx with h | h | h <;> simp [h])) sY hu hw
    have hL1 : p ++ [c] ++ (Y1 ++ Y2) ++ s = p ++ [] ++ c :: (Y1 ++ (Y2 ++ s)) := by simp
    rw [hL1] at ha1
    rw [St.knows _ z.hp.n ht rfl]
    conv => whnf
    refine lmv1 N b v hN cap p (Y2 ++ s) c _ _ Y1 [] _ (by rw [← hL1]; exact hNe) ⟨rfl, ?_, rfl, trivial⟩ rfl ha1 (Nat.lt_of_lt_of_le hb1 (by (conv => lhs; whnf); (repeat ((conv => rhs; whnf); first | with_reducible exact Nat.le_refl _ | refine Nat.le_trans ?_ (Nat.le_add_right _ _) | refine Nat.le_succ_of_le ?_ | exact Nat.le_refl _)))) (fun z2 h1 h2 => ?_)
    · exact vi (by simp only [List.length_nil, List.length_cons] at hl1 ⊢; omega)
    · exact ⟨rfl, Y1 ++ c :: Y2, hle, List.perm_middle, by rw [h1]; simp, h2⟩
  obtain ⟨r, hp', h, rfl, Z, k1, k2, k3, k4⟩ := key
  exact ⟨hp', Z, h, k1, k2, k3, k4⟩
theorem tsm2 (hn : Non ext) (h26 : E26 ext) (h73 : E73 ext) (o : Nat) (h5 : o ≤ 5) (c : T) (X : List T) (hX1 : X.length ≠ 1) : SM ext o X [c] := by
  intro p s b v cap hG hN hX hY sX sY hp ha hb
  obtain ⟨N, hNe⟩ : ∃ N, (p ++ X ++ [c] ++ s).length = N := ⟨_, rfl⟩
  rw [hNe] at hN ⊢
  have hlen' := hNe
  simp only [List.length_append, List.length_cons, List.length_nil] at hlen'
  have l1 : ([c] : List T).length = 1 := rfl
  have w0 : IntKind.i64.wrap (((p.length + X.length : Nat) : Int) - (p.length : Int)) = (X.length : Int) := by rw [IntKind.wrap_i64]; omega
  have g0 : (IntKind.i64.wrap (((p.length + X.length : Nat) : Int) - (p.length : Int)) == 1) = false := by rw [w0]; simp; omega
  have w : IntKind.i64.wrap (((p.length + X.length + ([c] : List T).length : Nat) : Int) - ((p.length + X.length : Nat) : Int)) = 1 := by rw [IntKind.wrap_i64]; omega
  have g1 : (IntKind.i64.wrap (((p.length + X.length + ([c] : List T).length : Nat) : Int) - ((p.length + X.length : Nat) : Int)) == 1) = true := by rw [w]; rfl
  have key : ∃ r hp', (cfg ext).EvR 80 [.rsl false b v 0 N, .int .i64 p.length, .int .i64 ((p.length + X.length : Nat) : Int), .int .i64 ((p.length + X.length + ([c] : List T).length : Nat) : Int), rowOf o] hp r hp' ∧ (r = .tup [] ∧ ∃ Z, Le (ordF ext o) Z ∧ Z.Perm (X ++ [c]) ∧ hp'.a b = some ⟨v, 4, encL (p ++ Z ++ s), cap, 0⟩ ∧ b < hp'.m) := by
    refine EvR.ofE Tryz.func80 rfl rfl ?_
    conv => whnf
    refine sel_no g0 ?_
    conv => whnf
    refine sel_yes g1 ?_
    conv => whnf
    refine lbs2 hn h26 h73 o h5 N b v hN cap (p ++ X ++ [c] ++ s) hG hNe p.length (p.length + X.length) (p.length + X.length + ([c] : List T).length) p.length (p.length + X.length) (by omega) (by omega) _ _ _ p.length (p.length + X.length) _ (Nat.le_refl _) (Nat.le_refl _) (by omega) (Nat.le_refl _) (.inl rfl) (.inl rfl) ⟨rfl, rfl, rfl, rfl, rfl, rfl, rfl, trivial⟩ rfl ha (Nat.lt_of_lt_of_le hb (by (conv => lhs; whnf); (repeat ((conv => rhs; whnf); first | with_reducible exact Nat.le_refl _ | refine Nat.le_trans ?_ (Nat.le_add_right _ _) | refine Nat.le_succ_of_le ?_ | exact Nat.le_refl _)))) (fun z k hB ht ha1 hb1 => ?_)
    obtain ⟨q1, q2, q3, q4⟩ := hB
    obtain ⟨X1, X2, hX12, hl1⟩ : ∃ X1 X2, X = X1 ++ X2 ∧ p.length + X1.length = k := ⟨X.take (k - p.length), X.drop (k - p.length), (List.take_append_drop _ _).symm, by rw [List.length_take]; omega⟩
    subst hX12
    have rA : (p ++ (X1 ++ X2) ++ [c] ++ s)[p.length + (X1 ++ X2).length]? = some c := by
      rw [show p ++ (X1 ++ X2) ++ [c] ++ s = (p ++ (X1 ++ X2)) ++ c :: s by simp]; exact getq (by simp)
    have hu : ∀ y, X1.getLast? = some y → ordF ext o y c ≤ 0 := by
      intro y hy
      obtain ⟨B, rfl⟩ := last_is hy
      rcases q3 with q3 | q3
      · simp only [List.length_append, List.length_cons, List.length_nil] at hl1; omega
      · have r : (p ++ (B ++ [y] ++ X2) ++ [c] ++ s)[k - 1]? = some y := by
          rw [show p ++ (B ++ [y] ++ X2) ++ [c] ++ s = (p ++ B) ++ y :: (X2 ++ [c] ++ s) by simp]; exact getq (by simp only [List.length_append, List.length_cons, List.length_nil] at hl1 ⊢; omega)
        have q3' : (!atB ext o (p ++ (B ++ [y] ++ X2) ++ [c] ++ s) (p.length + (B ++ [y] ++ X2).length) (k - 1)) = true := q3
        rw [atB_is rA r, Bool.not_eq_true'] at q3'
        have h1 := of_decide_eq_false q3'
        have h2 := (ord_line (ext := ext) o).1 c y
        omega
    have hw : ∀ y, X2.head? = some y → ordF ext o c y ≤ 0 := by
      intro y hy
      obtain ⟨B, rfl⟩ := head_is hy
      rcases q4 with q4 | q4
      · simp only [List.length_append, List.length_cons] at q4; omega
      · have r : (p ++ (X1 ++ y :: B) ++ [c] ++ s)[k]? = some y := by
          rw [show p ++ (X1 ++ y :: B) ++ [c] ++ s = (p ++ X1) ++ y :: (B ++ [c] ++ s) by simp]; exact getq (by simp only [List.length_append]; omega)
        have q4' : (!atB ext o (p ++ (X1 ++ y :: B) ++ [c] ++ s) (p.length + (X1 ++ y :: B).length) k) = false := q4
        rw [atB_is rA r, Bool.not_eq_false'] at q4'
        have h1 := of_decide_eq_true q4'
        omega
    have hle := ins2 (ord_line (ext := ext) o) (fun x hx => hG.shp x (by simp only [List.mem_append, List.mem_cons] at hx ⊢; rcases hx with h | h | h <;> simp [h])) sX hu hw
    have hL1 : p ++ (X1 ++ X2) ++ [c] ++ s = (p ++ X1) ++ X2 ++ c :: s := by simp
    rw [hL1] at ha1
    rw [St.knows _ z.hp.n ht rfl]
    conv => whnf
    refine lmv3 N b v hN cap (p ++ X1) c _ _ X2.length X2 s _ rfl (by rw [← hL1]; exact hNe) ⟨rfl, ?_, ?_, trivial⟩ rfl ha1 (Nat.lt_of_lt_of_le hb1 (by (conv => lhs; whnf); (repeat ((conv => rhs; whnf); first | with_reducible exact Nat.le_refl _ | refine Nat.le_trans ?_ (Nat.le_add_right _ _) | refine Nat.le_succ_of_le ?_ | exact Nat.le_refl _)))) (fun z2 h1 h2 => ?_)
    · exact vi (by simp only [List.length_append]; omega)
    · exact vi (by simp only [List.length_append]; omega)
    · exact ⟨rfl, X1 ++ c :: X2, hle, List.perm_middle.trans (List.perm_append_comm (l₁ := [c])), by rw [h1]; simp, h2⟩
  obtain ⟨r, hp', h, rfl, Z, k1, k2, k3, k4⟩ := key
  exact ⟨hp', Z, h, k1, k2, k3, k4⟩
end
end Go.Proofs.YtehajklneljbgaaGreatDoor.AB
end

section
set_option linter.unusedVariables false
set_option linter.unusedSimpArgs false
open Go Go.Ab Go.Proofs Go.Vl
namespace Go.Proofs.YtehajklneljbgaaGreatDoor.AB
set_option maxRecDepth 100000
set_option maxHeartbeats 16000000
set_option linter.unusedSimpArgs false
set_option linter.unusedVariables false
section
variable {ext : Exts}
theorem tsm3 (hn : Non ext) (h26 : E26 ext) (h73 : E73 ext) (o : Nat) (h5 : o ≤ 5) (X Y : List T) (hX1 : X.length ≠ 1) (hY1 : Y.length ≠ 1) (ih : ∀ X' Y' : List T, X'.length + Y'.length < X.length + Y.length → SM ext o X' Y') : SM ext o X Y := by
  intro p s b v cap hG hN hX hY sX sY hp ha hb
  obtain ⟨N, hNe⟩ : ∃ N, (p ++ X ++ Y ++ s).length = N := ⟨_, rfl⟩
  rw [hNe] at hN ⊢
  have hlen' := hNe
  simp only [List.length_append] at hlen'
  have em := midZ_is (i := p.length) (j := p.length + X.length + Y.length) (by omega)
  obtain ⟨md, hmd⟩ : ∃ md, md = (p.length + (p.length + X.length + Y.length)) / 2 := ⟨_, rfl⟩
  rw [← hmd] at em
  have w0 : IntKind.i64.wrap (((p.length + X.length : Nat) : Int) - (p.length : Int)) = (X.length : Int) := by rw [IntKind.wrap_i64]; omega
  have g0 : (IntKind.i64.wrap (((p.length + X.length : Nat) : Int) - (p.length : Int)) == 1) = false := by rw [w0]; simp; omega
  have w1 : IntKind.i64.wrap (((p.length + X.length + Y.length : Nat) : Int) - ((p.length + X.length : Nat) : Int)) = (Y.length : Int) := by rw [IntKind.wrap_i64]; omega
  have g1 : (IntKind.i64.wrap (((p.length + X.length + Y.length : Nat) : Int) - ((p.length + X.length : Nat) : Int)) == 1) = false := by rw [w1]; simp; omega
  have wn : IntKind.i64.wrap (midZ p.length (p.length + X.length + Y.length) + ((p.length + X.length : Nat) : Int)) = ((md + (p.length + X.length) : Nat) : Int) := by rw [em, IntKind.wrap_i64]; omega
  have wp : IntKind.i64.wrap (IntKind.i64.wrap (midZ p.length (p.length + X.length + Y.length) + ((p.length + X.length : Nat) : Int)) - 1) = ((md + (p.length + X.length) - 1 : Nat) : Int) := by rw [wn, IntKind.wrap_i64]; omega
  have common : ∀ (i0 j0 : Nat), ((md < p.length + X.length ∧ i0 = md + (p.length + X.length) - (p.length + X.length + Y.length) ∧ j0 = md) ∨ (p.length + X.length ≤ md ∧ i0 = p.length ∧ j0 = p.length + X.length)) → ∀ (z : St) (k : Nat), Bs (fun h => !atB ext o (p ++ X ++ Y ++ s) (md + (p.length + X.length) - 1 - h) h) i0 j0 k →
      Has z.t [(0, .rsl false b v 0 N), (1, .int .i64 p.length), (2, .int .i64 ((p.length + X.length : Nat) : Int)), (3, .int .i64 ((p.length + X.length + Y.length : Nat) : Int)), (4, rowOf o), (18, .int .i64 (midZ p.length (p.length + X.length + Y.length))), (19, .int .i64 (IntKind.i64.wrap (midZ p.length (p.length + X.length + Y.length) + ((p.length + X.length : Nat) : Int)))), (22, .int .i64 ((md + (p.length + X.length) - 1 : Nat) : Int)), (20, .int .i64 k)] →
      z.hp.a b = some ⟨v, 4, encL (p ++ X ++ Y ++ s), cap, 0⟩ → b < z.hp.m → ∀ K : Ex → St → Prop, (∀ (z' : St) (Z : List T), Le (ordF ext o) Z → Z.Perm (X ++ Y) → z'.hp.a b = some ⟨v, 4, encL (p ++ Z ++ s), cap, 0⟩ → b < z'.hp.m → K .normal z') →
      xCode (cfg ext) (atP (bodyOf Tryz.f80) [true, true, true, true, true, true, true, true]) z K := by
    intro i0 j0 hc z k hB ht ha1 hb1 K hK
    obtain ⟨q1, q2, q3, q4⟩ := hB
    have k1 : p.length ≤ k := by omega
    have k2 : k ≤ p.length + X.length := by omega
    have k3 : k ≤ md := by omega
    have k4 : md - k ≤ Y.length := by omega
    obtain ⟨X1, X2, hX12, hl1⟩ : ∃ X1 X2, X = X1 ++ X2 ∧ p.length + X1.length = k := ⟨X.take (k - p.length), X.drop (k - p.length), (List.take_append_drop _ _).symm, by rw [List.length_take]; omega⟩
    obtain ⟨Y1, Y2, hY12, hl2⟩ : ∃ Y1 Y2, Y = Y1 ++ Y2 ∧ Y1.length = md - k := ⟨Y.take (md - k), Y.drop (md - k), (List.take_append_drop _ _).symm, by rw [List.length_take]; omega⟩
    subst hX12 hY12
    have eL : p ++ (X1 ++ X2) ++ (Y1 ++ Y2) ++ s = p ++ X1 ++ X2 ++ Y1 ++ Y2 ++ s := by simp
    simp only [List.length_append] at hlen' hc hmd q1 q2 q3 q4 k2 k4 hX hY ih hX1 hY1
    rw [eL] at ha1 hG q3 q4
    have hb1' : ∀ a b', X1.getLast? = some a → Y2.head? = some b' → ordF ext o a b' ≤ 0 := by
      intro a b' h1 h2
      obtain ⟨U, rfl⟩ := last_is h1
      obtain ⟨W, rfl⟩ := head_is h2
      simp only [List.length_append, List.length_cons, List.length_nil] at hl1 hc k4 k2 hlen' hmd q1 q2
      rcases q3 with q3 | q3
      · exfalso; (try simp only [List.length_append, List.length_cons, List.length_nil] at q3); omega
      · have ra : (p ++ (U ++ [a]) ++ X2 ++ Y1 ++ b' :: W ++ s)[k - 1]? = some a := by
          rw [show p ++ (U ++ [a]) ++ X2 ++ Y1 ++ b' :: W ++ s = (p ++ U) ++ a :: (X2 ++ Y1 ++ b' :: W ++ s) by simp]; exact getq (by simp only [List.length_append]; omega)
        have rb : (p ++ (U ++ [a]) ++ X2 ++ Y1 ++ b' :: W ++ s)[md + (p.length + (U.length + (0 + 1) + X2.length)) - 1 - (k - 1)]? = some b' := by
          rw [show p ++ (U ++ [a]) ++ X2 ++ Y1 ++ b' :: W ++ s = (p ++ (U ++ [a]) ++ X2 ++ Y1) ++ b' :: (W ++ s) by simp]; exact getq (by simp only [List.length_append, List.length_cons, List.length_nil]; omega)
        try simp only [List.length_append, List.length_cons, List.length_nil] at q3
        have q3' : (!atB ext o (p ++ (U ++ [a]) ++ X2 ++ Y1 ++ b' :: W ++ s) (md + (p.length + (U.length + (0 + 1) + X2.length)) - 1 - (k - 1)) (k - 1)) = true := q3
        rw [atB_is rb ra, Bool.not_eq_true'] at q3'
        have h3 := of_decide_eq_false q3'
        have h4 := (ord_line (ext := ext) o).1 a b'
        omega
    have hb2' : ∀ a b', Y1.getLast? = some a → X2.head? = some b' → ordF ext o a b' ≤ 0 := by
      intro a b' h1 h2
      obtain ⟨U, rfl⟩ := last_is h1
      obtain ⟨W, rfl⟩ := head_is h2
      simp only [List.length_append, List.length_cons, List.length_nil] at hl2 hc k4 k2 hlen' hmd q1 q2
      rcases q4 with q4 | q4
      · exfalso; (try simp only [List.length_append, List.length_cons, List.length_nil] at q4); omega
      · have rb : (p ++ X1 ++ b' :: W ++ (U ++ [a]) ++ Y2 ++ s)[k]? = some b' := by
          rw [show p ++ X1 ++ b' :: W ++ (U ++ [a]) ++ Y2 ++ s = (p ++ X1) ++ b' :: (W ++ (U ++ [a]) ++ Y2 ++ s) by simp]; exact getq (by simp only [List.length_append]; omega)
        have ra : (p ++ X1 ++ b' :: W ++ (U ++ [a]) ++ Y2 ++ s)[md + (p.length + (X1.length + (W.length + 1))) - 1 - k]? = some a := by
          rw [show p ++ X1 ++ b' :: W ++ (U ++ [a]) ++ Y2 ++ s = (p ++ X1 ++ b' :: W ++ U) ++ a :: (Y2 ++ s) by simp]; exact getq (by simp only [List.length_append, List.length_cons, List.length_nil]; omega)
        try simp only [List.length_append, List.length_cons, List.length_nil] at q4
        have q4' : (!atB ext o (p ++ X1 ++ b' :: W ++ (U ++ [a]) ++ Y2 ++ s) (md + (p.length + (X1.length + (W.length + 1))) - 1 - k) k) = false := q4
        rw [atB_is ra rb, Bool.not_eq_false'] at q4'
        have h3 := of_decide_eq_true q4'
        omega
    obtain ⟨h0, h1, h2, h3, h4, h18, h19, h22, h20, _⟩ := ht
    refine smEnd o h5 N b v hN cap p X1 X2 Y1 Y2 s (midZ p.length (p.length + (X1 ++ X2).length + (Y1 ++ Y2).length)) (IntKind.i64.wrap (midZ p.length (p.length + (X1 ++ X2).length + (Y1 ++ Y2).length) + ((p.length + (X1 ++ X2).length : Nat) : Int))) (by rw [em]; omega) (by rw [wn, IntKind.wrap_i64]; simp only [List.length_append]; omega)
      hG (by rw [← eL]; exact hNe) sX sY hb1' hb2' (ih _ _ (by omega)) (ih _ _ (by omega)) z K ⟨h0, h1, h2.trans (vi (by simp only [List.length_append]; omega)), h3.trans (vi (by simp only [List.length_append]; omega)), h4, h18, h19, h20.trans (vi (by omega)), trivial⟩ ha1 hb1 hK
  have key : ∃ r hp', (cfg ext).EvR 80 [.rsl false b v 0 N, .int .i64 p.length, .int .i64 ((p.length + X.length : Nat) : Int), .int .i64 ((p.length + X.length + Y.length : Nat) : Int), rowOf o] hp r hp' ∧ (r = .tup [] ∧ ∃ Z, Le (ordF ext o) Z ∧ Z.Perm (X ++ Y) ∧ hp'.a b = some ⟨v, 4, encL (p ++ Z ++ s), cap, 0⟩ ∧ b < hp'.m) := by
    refine EvR.ofE Tryz.func80 rfl rfl ?_
    conv => whnf
    refine sel_no g0 ?_
    conv => whnf
    refine sel_no g1 ?_
    conv => whnf
    by_cases hm : md < p.length + X.length
    · have g2 : decide (((p.length + X.length : Nat) : Int) > midZ p.length (p.length + X.length + Y.length)) = true := decide_eq_true (by rw [em]; omega)
      have ws : IntKind.i64.wrap (IntKind.i64.wrap (midZ p.length (p.length + X.length + Y.length) + ((p.length + X.length : Nat) : Int)) - ((p.length + X.length + Y.length : Nat) : Int)) = ((md + (p.length + X.length) - (p.length + X.length + Y.length) : Nat) : Int) := by rw [wn, IntKind.wrap_i64]; omega
      refine sel_yes g2 ?_
      conv => whnf
      refine lbs4 hn h26 h73 o h5 N b v hN cap (p ++ X ++ Y ++ s) hG hNe p.length (p.length + X.length) (p.length + X.length + Y.length) (md + (p.length + X.length) - (p.length + X.length + Y.length)) md (by omega) (midZ p.length (p.length + X.length + Y.length)) (IntKind.i64.wrap (midZ p.length (p.length + X.length + Y.length) + ((p.length + X.length : Nat) : Int))) (md + (p.length + X.length) - 1) (fun h h1 h2 => by omega) (by omega) _ _ _ (md + (p.length + X.length) - (p.length + X.length + Y.length)) md _ (Nat.le_refl _) (Nat.le_refl _) (by omega) (Nat.le_refl _) (.inl rfl) (.inl rfl) ⟨rfl, rfl, rfl, rfl, rfl, rfl, rfl, ?_, ?_, ?_, trivial⟩ rfl ha (Nat.lt_of_lt_of_le hb (by (conv => lhs; whnf); (repeat ((conv => rhs; whnf); first | with_reducible exact Nat.le_refl _ | refine Nat.le_trans ?_ (Nat.le_add_right _ _) | refine Nat.le_succ_of_le ?_ | exact Nat.le_refl _)))) (fun z k hB ht ha1 hb1 => ?_)
      · conv => lhs; whnf
        exact vi wp
      · conv => lhs; whnf
        exact vi ws
      · conv => lhs; whnf
        exact vi em
      · exact common _ _ (.inl ⟨hm, rfl, rfl⟩) z k hB ht ha1 hb1 _ (fun z' Z h1 h2 h3 h4 => ⟨rfl, Z, h1, h2, h3, h4⟩)
    · have g2 : decide (((p.length + X.length : Nat) : Int) > midZ p.length (p.length + X.length + Y.length)) = false := decide_eq_false (by rw [em]; omega)
      refine sel_no g2 ?_
      conv => whnf
      refine lbs4 hn h26 h73 o h5 N b v hN cap (p ++ X ++ Y ++ s) hG hNe p.length (p.length + X.length) (p.length + X.length + Y.length) p.length (p.length + X.length) (by omega) (midZ p.length (p.length + X.length + Y.length)) (IntKind.i64.wrap (midZ p.length (p.length + X.length + Y.length) + ((p.length + X.length : Nat) : Int))) (md + (p.length + X.length) - 1) (fun h h1 h2 => by omega) (by omega) _ _ _ p.length (p.length + X.length) _ (Nat.le_refl _) (Nat.le_refl _) (by omega) (Nat.le_refl _) (.inl rfl) (.inl rfl) ⟨rfl, rfl, rfl, rfl, rfl, rfl, rfl, ?_, rfl, rfl, trivial⟩ rfl ha (Nat.lt_of_lt_of_le hb (by (conv => lhs; whnf); (repeat ((conv => rhs; whnf); first | with_reducible exact Nat.le_refl _ | refine Nat.le_trans ?_ (Nat.le_add_right _ _) | refine Nat.le_succ_of_le ?_ | exact Nat.le_refl _)))) (fun z k hB ht ha1 hb1 => ?_)
      · conv => lhs; whnf
        exact vi wp
      · exact common _ _ (.inr ⟨by omega, rfl, rfl⟩) z k hB ht ha1 hb1 _ (fun z' Z h1 h2 h3 h4 => ⟨rfl, Z, h1, h2, h3, h4⟩)
  obtain ⟨r, hp', h, rfl, Z, k1, k2, k3, k4⟩ := key
  exact ⟨hp', Z, h, k1, k2, k3, k4⟩
theorem tsm (hn : Non ext) (h26 : E26 ext) (h73 : E73 ext) (o : Nat) (h5 : o ≤ 5) : ∀ (d : Nat) (X Y : List T), X.length + Y.length ≤ d → SM ext o X Y := by
  intro d
  induction d with
  | zero => intro X Y hd p s b v cap hG hN hX; omega
  | succ d ih =>
    intro X Y hd
    by_cases h1 : X.length = 1
    · obtain ⟨c, rfl⟩ := List.length_eq_one_iff.1 h1
      exact tsm1 hn h26 h73 o h5 c Y
    · by_cases h2 : Y.length = 1
      · obtain ⟨c, rfl⟩ := List.length_eq_one_iff.1 h2
        exact tsm2 hn h26 h73 o h5 c X h1
      · exact tsm3 hn h26 h73 o h5 X Y h1 h2 (fun X' Y' h => ih X' Y' (by omega))
end
end Go.Proofs.YtehajklneljbgaaGreatDoor.AB
end
