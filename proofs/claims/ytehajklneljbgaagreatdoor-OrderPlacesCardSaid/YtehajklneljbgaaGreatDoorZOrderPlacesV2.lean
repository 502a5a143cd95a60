/- What OrderPlaces is proved with: what the program's functions make of their arguments, by the evaluator. -/
import Derived.Test.YtehajklneljbgaaGreatDoorZOrderPlacesV1
import Derived.Test.YtehajklneljbgaaGreatDoorZOrderPlacesL0
import Derived.Test.YtehajklneljbgaaGreatDoorZOrderPlacesV0
section
set_option linter.unusedVariables false
set_option linter.unusedSimpArgs false
open Go Go.Ab Go.Proofs Go.Vl
namespace Go.Proofs.YtehajklneljbgaaGreatDoor.AB
set_option maxRecDepth 100000
set_option maxHeartbeats 16000000
set_option linter.unusedSimpArgs false
section
variable {ext : Exts}
open Classical in
/-- how many parts a value has that is right below some depth, with at most so many; below 0: it is not -/
noncomputable def fitZ (v : T) (d m : Int) : Int := if OkV v ∧ (deepV v : Int) ≤ d ∧ (partsV v : Int) ≤ m then (partsV v : Int) else -1
def FitE (ext : Exts) (a : T) : Prop := ∀ d m : Int, 0 ≤ d → d ≤ 16 → m ≤ 1024 → -1024 ≤ m → (cfg ext).Ev 42 [A a, .int .i64 d, .int .i64 m] (.int .i64 (fitZ a d m))
theorem fitZ_yes {v : T} {d m : Int} (h : OkV v ∧ (deepV v : Int) ≤ d ∧ (partsV v : Int) ≤ m) : fitZ v d m = partsV v := if_pos h
theorem fitZ_no {v : T} {d m : Int} (h : ¬ (OkV v ∧ (deepV v : Int) ≤ d ∧ (partsV v : Int) ≤ m)) : fitZ v d m = -1 := if_neg h
theorem lfits (k n : Int) (t : ByteArray) (l : List T) (hl : l.length ≤ 1024) (E : ∀ a ∈ l, FitE ext a) (d m : Int) (hd0 : l = [] ∨ 1 ≤ d) (hdp : 0 ≤ d) (hd : d ≤ 16) (hm : m ≤ 1024) (Q : Ex → St → Prop) (f : Nat) :
    ∀ (i : Nat) (c : Nat) (z : St), l.length - i = f → i ≤ l.length → (c : Int) ≤ m → Has z.t [(33, .int .i64 i), (32, .int .i64 l.length), (31, .sl false (encL l) l.length), (7, .int .i64 c), (1, .int .i64 d), (2, .int .i64 m), (3, .ref 0 0)] → Has z.hp.h [(0, some (.cells (encX' k n t l) false))] → z.hp.n = 26 →
      (∀ z' : St, z'.t 6 = .int .i64 (-1) → ¬ (OkL (l.drop i) ∧ (deepL (l.drop i) : Int) ≤ d ∧ (c : Int) + partsL (l.drop i) ≤ m) → Q .ret z') →
      (∀ z' : St, Has z'.t [(7, .int .i64 ((c : Int) + partsL (l.drop i))), (3, .ref 0 0)] → Has z'.hp.h [(0, some (.cells (encX' k n t l) false))] → (OkL (l.drop i) ∧ (deepL (l.drop i) : Int) ≤ d ∧ (c : Int) + partsL (l.drop i) ≤ m) → Q (.exit 0) z') →
      Go.Ab.Loop (cfg ext) (lpOf Tryz.f42) 26 z Q := by
  induction f with
  | zero =>
    intro i c z hf hi hc ht hh hz hr hq
    obtain rfl : i = l.length := by omega
    have g : decide ((l.length : Int) < (l.length : Int)) = false := decide_eq_false (by omega)
    have e : l.drop l.length = [] := List.drop_length
    rw [e] at hq
    rw [St.knows _ _ ht hz _ hh]
    refine Loop.round ?_
    conv => whnf
    repeat (first
      | (refine sel_yes ?_ ?_; (first | assumption | (simp only [beq_iff_eq, bne_iff_ne, beq_eq_false_iff_ne, bne_eq_false_iff_eq, decide_eq_true_eq, decide_eq_false_iff_not, Bool.not_eq_true', Bool.not_eq_false', ne_eq, beq_true, beq_false, bne_self_eq_false, not_true_eq_false, not_false_eq_true, gt_iff_lt, ge_iff_le, Int.not_lt, Int.not_le, Bool.true_eq_false, Bool.false_eq_true] <;> omega)); conv => whnf)
      | (refine sel_no ?_ ?_; (first | assumption | (simp only [beq_iff_eq, bne_iff_ne, beq_eq_false_iff_ne, bne_eq_false_iff_eq, decide_eq_true_eq, decide_eq_false_iff_not, Bool.not_eq_true', Bool.not_eq_false', ne_eq, beq_true, beq_false, bne_self_eq_false, not_true_eq_false, not_false_eq_true, gt_iff_lt, ge_iff_le, Int.not_lt, Int.not_le, Bool.true_eq_false, Bool.false_eq_true] <;> omega)); conv => whnf)
      | (refine ⟨le_rfl' ?_, ?_⟩; rfl; conv => whnf)
      | (refine ⟨⟨?_, ?_⟩, ?_⟩; omega; omega; conv => whnf)
      | (refine ⟨⟨?_, ?_, ?_⟩, ?_⟩; rfl; omega; omega; conv => whnf)
      | (refine ⟨rfl, ?_, ?_⟩; decide; conv => whnf))
    try exact rfl
    refine hq _ ⟨?_, rfl, trivial⟩ ⟨rfl, trivial⟩ ⟨by simp only [OkL], ?_, by simpa [partsL] using hc⟩
    · simp only [partsL]; exact vi (by simp)
    · simp only [deepL]; omega
  | succ f ih =>
    intro i c z hf hi hc ht hh hz hr hq
    have h1 : i < l.length := by omega
    have hd1 : 1 ≤ d := by rcases hd0 with rfl | h; simp at h1; exact h
    have g : decide ((i : Int) < (l.length : Int)) = true := decide_eq_true (by omega)
    have eD := List.drop_eq_getElem_cons h1
    have hw1 : IntKind.i64.wrap (d - 1) = d - 1 := by rw [IntKind.wrap_i64]; omega
    have hw2 : IntKind.i64.wrap (m - (c : Int)) = m - (c : Int) := by rw [IntKind.wrap_i64]; omega
    have hE := E _ (List.getElem_mem h1) (d - 1) (m - (c : Int)) (by omega) (by omega) (by omega) (by omega)
    rw [← hw1, ← hw2] at hE
    rw [eD] at hr hq
    simp only [OkL, deepL, partsL] at hr hq
    by_cases hok : OkV l[i] ∧ (deepV l[i] : Int) ≤ d - 1 ∧ (partsV l[i] : Int) ≤ m - c
    · rw [hw1, hw2, fitZ_yes hok] at hE
      rw [← hw1, ← hw2] at hE
      have hpp := partsV_pos l[i]
      have g2 : decide ((partsV l[i] : Int) < 0) = false := decide_eq_false (by omega)
      have hw3 : IntKind.i64.wrap ((c : Int) + (partsV l[i] : Int)) = ((c + partsV l[i] : Nat) : Int) := by rw [IntKind.wrap_i64]; omega
      rw [St.knows _ _ ht hz _ hh]
      refine Loop.round ?_
      conv => whnf
      repeat (first
        | (refine sel_yes ?_ ?_; (first | assumption | (simp only [beq_iff_eq, bne_iff_ne, beq_eq_false_iff_ne, bne_eq_false_iff_eq, decide_eq_true_eq, decide_eq_false_iff_not, Bool.not_eq_true', Bool.not_eq_false', ne_eq, beq_true, beq_false, bne_self_eq_false, not_true_eq_false, not_false_eq_true, gt_iff_lt, ge_iff_le, Int.not_lt, Int.not_le, Bool.true_eq_false, Bool.false_eq_true] <;> omega)); conv => whnf)
        | (refine sel_no ?_ ?_; (first | assumption | (simp only [beq_iff_eq, bne_iff_ne, beq_eq_false_iff_ne, bne_eq_false_iff_eq, decide_eq_true_eq, decide_eq_false_iff_not, Bool.not_eq_true', Bool.not_eq_false', ne_eq, beq_true, beq_false, bne_self_eq_false, not_true_eq_false, not_false_eq_true, gt_iff_lt, ge_iff_le, Int.not_lt, Int.not_le, Bool.true_eq_false, Bool.false_eq_true] <;> omega)); conv => whnf)
        | (refine ⟨le_rfl' ?_, ?_⟩; rfl; conv => whnf)
        | (refine ⟨⟨?_, ?_⟩, ?_⟩; omega; omega; conv => whnf)
        | (refine ⟨⟨?_, ?_, ?_⟩, ?_⟩; rfl; omega; omega; conv => whnf)
        | (refine ⟨rfl, ?_, ?_⟩; decide; conv => whnf))
      try exact rfl
      refine ldA (i := i) h1 ?_
      conv => whnf
      refine ⟨_, hE, ?_⟩
      conv => whnf
      repeat (first
        | (refine sel_yes ?_ ?_; (first | assumption | (simp only [beq_iff_eq, bne_iff_ne, beq_eq_false_iff_ne, bne_eq_false_iff_eq, decide_eq_true_eq, decide_eq_false_iff_not, Bool.not_eq_true', Bool.not_eq_false', ne_eq, beq_true, beq_false, bne_self_eq_false, not_true_eq_false, not_false_eq_true, gt_iff_lt, ge_iff_le, Int.not_lt, Int.not_le, Bool.true_eq_false, Bool.false_eq_true] <;> omega)); conv => whnf)
        | (refine sel_no ?_ ?_; (first | assumption | (simp only [beq_iff_eq, bne_iff_ne, beq_eq_false_iff_ne, bne_eq_false_iff_eq, decide_eq_true_eq, decide_eq_false_iff_not, Bool.not_eq_true', Bool.not_eq_false', ne_eq, beq_true, beq_false, bne_self_eq_false, not_true_eq_false, not_false_eq_true, gt_iff_lt, ge_iff_le, Int.not_lt, Int.not_le, Bool.true_eq_false, Bool.false_eq_true] <;> omega)); conv => whnf)
        | (refine ⟨le_rfl' ?_, ?_⟩; rfl; conv => whnf)
        | (refine ⟨⟨?_, ?_⟩, ?_⟩; omega; omega; conv => whnf)
        | (refine ⟨⟨?_, ?_, ?_⟩, ?_⟩; rfl; omega; omega; conv => whnf)
        | (refine ⟨rfl, ?_, ?_⟩; decide; conv => whnf))
      try exact rfl
      refine ih (i + 1) (c + partsV l[i]) _ (by omega) (by omega) (by omega) ⟨?_, rfl, rfl, ?_, rfl, rfl, rfl, trivial⟩ ⟨rfl, trivial⟩ rfl (fun z' a b => hr z' a (fun g => b ⟨g.1.2, by omega, by omega⟩)) (fun z' a b c' => hq z' ⟨?_, a.2⟩ b ⟨⟨hok.1, c'.1⟩, by omega, by omega⟩)
      · conv => lhs; whnf
        exact wrapN1 (by omega)
      · conv => lhs; whnf
        exact vi hw3
      · rw [a.1]; exact vi (by omega)
    · rw [hw1, hw2, fitZ_no hok] at hE
      rw [← hw1, ← hw2] at hE
      rw [St.knows _ _ ht hz _ hh]
      refine Loop.round ?_
      conv => whnf
      repeat (first
        | (refine sel_yes ?_ ?_; (first | assumption | (simp only [beq_iff_eq, bne_iff_ne, beq_eq_false_iff_ne, bne_eq_false_iff_eq, decide_eq_true_eq, decide_eq_false_iff_not, Bool.not_eq_true', Bool.not_eq_false', ne_eq, beq_true, beq_false, bne_self_eq_false, not_true_eq_false, not_false_eq_true, gt_iff_lt, ge_iff_le, Int.not_lt, Int.not_le, Bool.true_eq_false, Bool.false_eq_true] <;> omega)); conv => whnf)
        | (refine sel_no ?_ ?_; (first | assumption | (simp only [beq_iff_eq, bne_iff_ne, beq_eq_false_iff_ne, bne_eq_false_iff_eq, decide_eq_true_eq, decide_eq_false_iff_not, Bool.not_eq_true', Bool.not_eq_false', ne_eq, beq_true, beq_false, bne_self_eq_false, not_true_eq_false, not_false_eq_true, gt_iff_lt, ge_iff_le, Int.not_lt, Int.not_le, Bool.true_eq_false, Bool.false_eq_true] <;> omega)); conv => whnf)
        | (refine ⟨le_rfl' ?_, ?_⟩; rfl; conv => whnf)
        | (refine ⟨⟨?_, ?_⟩, ?_⟩; omega; omega; conv => whnf)
        | (refine ⟨⟨?_, ?_, ?_⟩, ?_⟩; rfl; omega; omega; conv => whnf)
        | (refine ⟨rfl, ?_, ?_⟩; decide; conv => whnf))
      try exact rfl
      refine ldA (i := i) h1 ?_
      conv => whnf
      refine ⟨_, hE, ?_⟩
      conv => whnf
      exact hr _ rfl (fun g => hok ⟨g.1.1, by omega, by omega⟩)
theorem deepV_pos {a : T} {l : List T} : 1 ≤ deepL (a :: l) := by simp only [deepL]; omega
theorem fits_one (hn : Non ext) (k n : Int) (t : ByteArray) (l : List T) (hw : WfV ⟨k, n, t, l⟩) (E : ∀ a ∈ l, FitE ext a) : FitE ext ⟨k, n, t, l⟩ := by
  intro d m hd0 hd hm hm0
  have hlp := partsL_len l
  have eO : OkV ⟨k, n, t, l⟩ ↔ PlainV k n t ∧ FormV k l ∧ OkL l := by simp only [OkV]
  have eDp : deepV ⟨k, n, t, l⟩ = deepL l := by simp only [deepV]
  have eP : partsV ⟨k, n, t, l⟩ = 1 + partsL l := by simp only [partsV]
  have key : ∃ r, (cfg ext).Ev 42 [A ⟨k, n, t, l⟩, .int .i64 d, .int .i64 m] r ∧ r = .int .i64 (fitZ ⟨k, n, t, l⟩ d m) := by
    refine Ev.ofF (hn 42 (by decide) (by decide)) Tryz.func42 rfl rfl ?_
    conv => whnf
    by_cases m1 : m < 1
    · rw [fitZ_no (fun h => by rw [eP] at h; omega)]
      repeat (first
        | (refine sel_yes ?_ ?_; (first | assumption | (simp only [beq_iff_eq, bne_iff_ne, beq_eq_false_iff_ne, bne_eq_false_iff_eq, decide_eq_true_eq, decide_eq_false_iff_not, Bool.not_eq_true', Bool.not_eq_false', ne_eq, beq_true, beq_false, bne_self_eq_false, not_true_eq_false, not_false_eq_true, gt_iff_lt, ge_iff_le, Int.not_lt, Int.not_le, Bool.true_eq_false, Bool.false_eq_true] <;> omega)); conv => whnf)
        | (refine sel_no ?_ ?_; (first | assumption | (simp only [beq_iff_eq, bne_iff_ne, beq_eq_false_iff_ne, bne_eq_false_iff_eq, decide_eq_true_eq, decide_eq_false_iff_not, Bool.not_eq_true', Bool.not_eq_false', ne_eq, beq_true, beq_false, bne_self_eq_false, not_true_eq_false, not_false_eq_true, gt_iff_lt, ge_iff_le, Int.not_lt, Int.not_le, Bool.true_eq_false, Bool.false_eq_true] <;> omega)); conv => whnf)
        | (refine ⟨le_rfl' ?_, ?_⟩; rfl; conv => whnf)
        | (refine ⟨⟨?_, ?_⟩, ?_⟩; omega; omega; conv => whnf)
        | (refine ⟨⟨?_, ?_, ?_⟩, ?_⟩; rfl; omega; omega; conv => whnf)
        | (refine ⟨rfl, ?_, ?_⟩; decide; conv => whnf))
      try exact rfl
      exact ⟨rfl⟩
    rcases l with _ | ⟨a, l⟩
    · have ho := rown hn k n t [] hw (by decide)
      have g : decide (((([] : List T).length : Nat) : Int) > m) = false := decide_eq_false (by simp; omega)
      repeat (first
        | (refine sel_yes ?_ ?_; (first | assumption | (simp only [beq_iff_eq, bne_iff_ne, beq_eq_false_iff_ne, bne_eq_false_iff_eq, decide_eq_true_eq, decide_eq_false_iff_not, Bool.not_eq_true', Bool.not_eq_false', ne_eq, beq_true, beq_false, bne_self_eq_false, not_true_eq_false, not_false_eq_true, gt_iff_lt, ge_iff_le, Int.not_lt, Int.not_le, Bool.true_eq_false, Bool.false_eq_true] <;> omega)); conv => whnf)
        | (refine sel_no ?_ ?_; (first | assumption | (simp only [beq_iff_eq, bne_iff_ne, beq_eq_false_iff_ne, bne_eq_false_iff_eq, decide_eq_true_eq, decide_eq_false_iff_not, Bool.not_eq_true', Bool.not_eq_false', ne_eq, beq_true, beq_false, bne_self_eq_false, not_true_eq_false, not_false_eq_true, gt_iff_lt, ge_iff_le, Int.not_lt, Int.not_le, Bool.true_eq_false, Bool.false_eq_true] <;> omega)); conv => whnf)
        | (refine ⟨le_rfl' ?_, ?_⟩; rfl; conv => whnf)
        | (refine ⟨⟨?_, ?_⟩, ?_⟩; omega; omega; conv => whnf)
        | (refine ⟨⟨?_, ?_, ?_⟩, ?_⟩; rfl; omega; omega; conv => whnf)
        | (refine ⟨rfl, ?_, ?_⟩; decide; conv => whnf))
      try exact rfl
      have hE0 : ∀ a ∈ ([] : List T), FitE ext a := fun a ha => by cases ha
      refine lfits k n t [] (Nat.zero_le _) hE0 d m (.inl rfl) hd0 hd hm _ 0 0 1 _ rfl (Nat.le_refl _) (by omega) ⟨rfl, rfl, rfl, rfl, rfl, rfl, rfl, trivial⟩ ⟨rfl, trivial⟩ (by rfl) (fun z a b => ?_) (fun z a b c => ?_)
      · exact absurd ⟨by simp only [List.drop_nil, OkL], by simp only [List.drop_nil, deepL]; omega, by simp only [List.drop_nil, partsL]; omega⟩ b
      · rw [St.knows _ z.hp.n a rfl _ b]
        conv => whnf
        refine ⟨_, ho, ?_⟩
        by_cases hp : PlainV k n t ∧ FormV k []
        · rw [propB_yes hp] at *
          rw [fitZ_yes ⟨eO.2 ⟨hp.1, hp.2, by simp only [OkL]⟩, by rw [eDp]; simp only [deepL]; omega, by rw [eP]; simp only [partsL]; omega⟩, eP]
          conv => whnf
          exact ⟨vi (by simp [partsL])⟩
        · rw [propB_no hp] at *
          rw [fitZ_no (fun h => hp ⟨(eO.1 h.1).1, (eO.1 h.1).2.1⟩)]
          conv => whnf
          exact ⟨rfl⟩
    · have hpos : (((a :: l).length : Nat) : Int) > 0 := by simp
      by_cases d0 : d = 0
      · rw [fitZ_no (fun h => by rw [eDp] at h; have := @deepV_pos a l; omega)]
        repeat (first
          | (refine sel_yes ?_ ?_; (first | assumption | (simp only [beq_iff_eq, bne_iff_ne, beq_eq_false_iff_ne, bne_eq_false_iff_eq, decide_eq_true_eq, decide_eq_false_iff_not, Bool.not_eq_true', Bool.not_eq_false', ne_eq, beq_true, beq_false, bne_self_eq_false, not_true_eq_false, not_false_eq_true, gt_iff_lt, ge_iff_le, Int.not_lt, Int.not_le, Bool.true_eq_false, Bool.false_eq_true] <;> omega)); conv => whnf)
          | (refine sel_no ?_ ?_; (first | assumption | (simp only [beq_iff_eq, bne_iff_ne, beq_eq_false_iff_ne, bne_eq_false_iff_eq, decide_eq_true_eq, decide_eq_false_iff_not, Bool.not_eq_true', Bool.not_eq_false', ne_eq, beq_true, beq_false, bne_self_eq_false, not_true_eq_false, not_false_eq_true, gt_iff_lt, ge_iff_le, Int.not_lt, Int.not_le, Bool.true_eq_false, Bool.false_eq_true] <;> omega)); conv => whnf)
          | (refine ⟨le_rfl' ?_, ?_⟩; rfl; conv => whnf)
          | (refine ⟨⟨?_, ?_⟩, ?_⟩; omega; omega; conv => whnf)
          | (refine ⟨⟨?_, ?_, ?_⟩, ?_⟩; rfl; omega; omega; conv => whnf)
          | (refine ⟨rfl, ?_, ?_⟩; decide; conv => whnf))
        try exact rfl
        exact ⟨rfl⟩
      by_cases hlm : (((a :: l).length : Nat) : Int) > m
      · rw [fitZ_no (fun h => by rw [eP] at h; omega)]
        repeat (first
          | (refine sel_yes ?_ ?_; (first | assumption | (simp only [beq_iff_eq, bne_iff_ne, beq_eq_false_iff_ne, bne_eq_false_iff_eq, decide_eq_true_eq, decide_eq_false_iff_not, Bool.not_eq_true', Bool.not_eq_false', ne_eq, beq_true, beq_false, bne_self_eq_false, not_true_eq_false, not_false_eq_true, gt_iff_lt, ge_iff_le, Int.not_lt, Int.not_le, Bool.true_eq_false, Bool.false_eq_true] <;> omega)); conv => whnf)
          | (refine sel_no ?_ ?_; (first | assumption | (simp only [beq_iff_eq, bne_iff_ne, beq_eq_false_iff_ne, bne_eq_false_iff_eq, decide_eq_true_eq, decide_eq_false_iff_not, Bool.not_eq_true', Bool.not_eq_false', ne_eq, beq_true, beq_false, bne_self_eq_false, not_true_eq_false, not_false_eq_true, gt_iff_lt, ge_iff_le, Int.not_lt, Int.not_le, Bool.true_eq_false, Bool.false_eq_true] <;> omega)); conv => whnf)
          | (refine ⟨le_rfl' ?_, ?_⟩; rfl; conv => whnf)
          | (refine ⟨⟨?_, ?_⟩, ?_⟩; omega; omega; conv => whnf)
          | (refine ⟨⟨?_, ?_, ?_⟩, ?_⟩; rfl; omega; omega; conv => whnf)
          | (refine ⟨rfl, ?_, ?_⟩; decide; conv => whnf))
        try exact rfl
        exact ⟨rfl⟩
      have ho := rown hn k n t (a :: l) hw (by omega)
      repeat (first
        | (refine sel_yes ?_ ?_; (first | assumption | (simp only [beq_iff_eq, bne_iff_ne, beq_eq_false_iff_ne, bne_eq_false_iff_eq, decide_eq_true_eq, decide_eq_false_iff_not, Bool.not_eq_true', Bool.not_eq_false', ne_eq, beq_true, beq_false, bne_self_eq_false, not_true_eq_false, not_false_eq_true, gt_iff_lt, ge_iff_le, Int.not_lt, Int.not_le, Bool.true_eq_false, Bool.false_eq_true] <;> omega)); conv => whnf)
        | (refine sel_no ?_ ?_; (first | assumption | (simp only [beq_iff_eq, bne_iff_ne, beq_eq_false_iff_ne, bne_eq_false_iff_eq, decide_eq_true_eq, decide_eq_false_iff_not, Bool.not_eq_true', Bool.not_eq_false', ne_eq, beq_true, beq_false, bne_self_eq_false, not_true_eq_false, not_false_eq_true, gt_iff_lt, ge_iff_le, Int.not_lt, Int.not_le, Bool.true_eq_false, Bool.false_eq_true] <;> omega)); conv => whnf)
        | (refine ⟨le_rfl' ?_, ?_⟩; rfl; conv => whnf)
        | (refine ⟨⟨?_, ?_⟩, ?_⟩; omega; omega; conv => whnf)
        | (refine ⟨⟨?_, ?_, ?_⟩, ?_⟩; rfl; omega; omega; conv => whnf)
        | (refine ⟨rfl, ?_, ?_⟩; decide; conv => whnf))
      try exact rfl
      refine lfits k n t (a :: l) (by omega) E d m (.inr (by omega)) hd0 hd hm _ (a :: l).length 0 1 _ rfl (Nat.zero_le _) (by omega) ⟨rfl, rfl, rfl, rfl, rfl, rfl, rfl, trivial⟩ ⟨rfl, trivial⟩ rfl (fun z b c => ?_) (fun z b c e => ?_)
      · refine Fin.tmp (i := 6) rfl b (vi ?_)
        rw [fitZ_no (fun h => c ?_)]
        rw [List.drop_zero]
        exact ⟨(eO.1 h.1).2.2, by rw [← eDp]; exact h.2.1, by have := h.2.2; rw [eP] at this; omega⟩
      · rw [List.drop_zero] at b e
        rw [St.knows _ z.hp.n b rfl _ c]
        conv => whnf
        refine ⟨_, ho, ?_⟩
        by_cases hp : PlainV k n t ∧ FormV k (a :: l)
        · rw [propB_yes hp] at *
          rw [fitZ_yes ⟨eO.2 ⟨hp.1, hp.2, e.1⟩, by rw [eDp]; exact e.2.1, by rw [eP]; have := e.2.2; omega⟩, eP]
          conv => whnf
          exact ⟨vi (by omega)⟩
        · rw [propB_no hp] at *
          rw [fitZ_no (fun h => hp ⟨(eO.1 h.1).1, (eO.1 h.1).2.1⟩)]
          conv => whnf
          exact ⟨rfl⟩
  obtain ⟨r, h, rfl⟩ := key
  exact h
mutual
theorem rfits (hn : Non ext) : (v : T) → WfV v → FitE ext v
  | ⟨k, n, t, l⟩, hw => by
    have hw' := hw
    simp only [WfV] at hw'
    exact fits_one hn k n t l hw (rfitsL hn l hw'.2.2.2.2)
theorem rfitsL (hn : Non ext) : (l : List T) → WfL l → ∀ a ∈ l, FitE ext a
  | [], _, a, ha => by cases ha
  | v :: l, hw, a, ha => by
    simp only [WfL] at hw
    rcases List.mem_cons.1 ha with e | h
    · rw [e]; exact rfits hn v hw.1
    · exact rfitsL hn l hw.2 a h
end
theorem rright (hn : Non ext) (v : T) (hw : WfV v) : (cfg ext).Ev 24 [A v] (.bool (okB v)) := by
  have h := rfits hn v hw 16 1024 (by decide) (by decide) (by decide) (by decide)
  cases ho : okB v with
  | true =>
    have hO := okB_iff.1 ho
    rw [fitZ_yes ⟨hO.1, by have := hO.2.1; omega, by have := hO.2.2; omega⟩] at h
    refine Ev.of (hn 24 (by decide) (by decide)) Tryz.func24 rfl rfl ?_
    conv => whnf
    refine ⟨_, h, ?_⟩
    conv => whnf
    try exact rfl
  | false =>
    have hO : ¬ OK v := fun h => by rw [okB_iff.2 h] at ho; cases ho
    rw [fitZ_no (fun g => hO ⟨g.1, by have := g.2.1; omega, by have := g.2.2; omega⟩)] at h
    refine Ev.of (hn 24 (by decide) (by decide)) Tryz.func24 rfl rfl ?_
    conv => whnf
    refine ⟨_, h, ?_⟩
    conv => whnf
    try exact rfl
end
end Go.Proofs.YtehajklneljbgaaGreatDoor.AB
end

section
set_option linter.unusedVariables false
set_option linter.unusedSimpArgs false
open Go Go.Ab Go.Proofs Go.Vl
namespace Go.Proofs.YtehajklneljbgaaGreatDoor.AB
set_option maxRecDepth 100000
set_option maxHeartbeats 8000000
set_option linter.unusedSimpArgs false
section
variable {ext : Exts}
def signI (a b : Int) : Int := if a < b then -1 else if b < a then 1 else 0
theorem rless (hn : Non ext) (a b : Int) : (cfg ext).Ev 51 [.int .u64 a, .int .u64 b] (.int .i64 (signI a b)) := by
  have key : ∃ r, (cfg ext).Ev 51 [.int .u64 a, .int .u64 b] r ∧ r = .int .i64 (signI a b) := by
    refine Ev.ofE (hn 51 (by decide) (by decide)) Tryz.func51 rfl rfl ?_
    conv => whnf
    by_cases h1 : a < b
    · repeat (first
        | (refine sel_yes ?_ ?_; (first | assumption | (simp only [beq_iff_eq, bne_iff_ne, beq_eq_false_iff_ne, bne_eq_false_iff_eq, decide_eq_true_eq, decide_eq_false_iff_not, Bool.not_eq_true', Bool.not_eq_false', ne_eq, beq_true, beq_false, bne_self_eq_false, not_true_eq_false, not_false_eq_true, gt_iff_lt, ge_iff_le, Int.not_lt, Int.not_le, Bool.true_eq_false, Bool.false_eq_true] <;> omega)); conv => whnf)
        | (refine sel_no ?_ ?_; (first | assumption | (simp only [beq_iff_eq, bne_iff_ne, beq_eq_false_iff_ne, bne_eq_false_iff_eq, decide_eq_true_eq, decide_eq_false_iff_not, Bool.not_eq_true', Bool.not_eq_false', ne_eq, beq_true, beq_false, bne_self_eq_false, not_true_eq_false, not_false_eq_true, gt_iff_lt, ge_iff_le, Int.not_lt, Int.not_le, Bool.true_eq_false, Bool.false_eq_true] <;> omega)); conv => whnf)
        | (refine ⟨le_rfl' ?_, ?_⟩; rfl; conv => whnf)
        | (refine ⟨⟨?_, ?_⟩, ?_⟩; omega; omega; conv => whnf)
        | (refine ⟨⟨?_, ?_, ?_⟩, ?_⟩; rfl; omega; omega; conv => whnf)
        | (refine ⟨rfl, ?_, ?_⟩; decide; conv => whnf))
      try exact rfl
      exact vi (by unfold signI; rw [if_pos h1])
    · by_cases h2 : b < a
      · repeat (first
          | (refine sel_yes ?_ ?_; (first | assumption | (simp only [beq_iff_eq, bne_iff_ne, beq_eq_false_iff_ne, bne_eq_false_iff_eq, decide_eq_true_eq, decide_eq_false_iff_not, Bool.not_eq_true', Bool.not_eq_false', ne_eq, beq_true, beq_false, bne_self_eq_false, not_true_eq_false, not_false_eq_true, gt_iff_lt, ge_iff_le, Int.not_lt, Int.not_le, Bool.true_eq_false, Bool.false_eq_true] <;> omega)); conv => whnf)
          | (refine sel_no ?_ ?_; (first | assumption | (simp only [beq_iff_eq, bne_iff_ne, beq_eq_false_iff_ne, bne_eq_false_iff_eq, decide_eq_true_eq, decide_eq_false_iff_not, Bool.not_eq_true', Bool.not_eq_false', ne_eq, beq_true, beq_false, bne_self_eq_false, not_true_eq_false, not_false_eq_true, gt_iff_lt, ge_iff_le, Int.not_lt, Int.not_le, Bool.true_eq_false, Bool.false_eq_true] <;> omega)); conv => whnf)
          | (refine ⟨le_rfl' ?_, ?_⟩; rfl; conv => whnf)
          | (refine ⟨⟨?_, ?_⟩, ?_⟩; omega; omega; conv => whnf)
          | (refine ⟨⟨?_, ?_, ?_⟩, ?_⟩; rfl; omega; omega; conv => whnf)
          | (refine ⟨rfl, ?_, ?_⟩; decide; conv => whnf))
        try exact rfl
        exact vi (by unfold signI; rw [if_neg h1, if_pos h2])
      · repeat (first
          | (refine sel_yes ?_ ?_; (first | assumption | (simp only [beq_iff_eq, bne_iff_ne, beq_eq_false_iff_ne, bne_eq_false_iff_eq, decide_eq_true_eq, decide_eq_false_iff_not, Bool.not_eq_true', Bool.not_eq_false', ne_eq, beq_true, beq_false, bne_self_eq_false, not_true_eq_false, not_false_eq_true, gt_iff_lt, ge_iff_le, Int.not_lt, Int.not_le, Bool.true_eq_false, Bool.false_eq_true] <;> omega)); conv => whnf)
          | (refine sel_no ?_ ?_; (first | assumption | (simp only [beq_iff_eq, bne_iff_ne, beq_eq_false_iff_ne, bne_eq_false_iff_eq, decide_eq_true_eq, decide_eq_false_iff_not, Bool.not_eq_true', Bool.not_eq_false', ne_eq, beq_true, beq_false, bne_self_eq_false, not_true_eq_false, not_false_eq_true, gt_iff_lt, ge_iff_le, Int.not_lt, Int.not_le, Bool.true_eq_false, Bool.false_eq_true] <;> omega)); conv => whnf)
          | (refine ⟨le_rfl' ?_, ?_⟩; rfl; conv => whnf)
          | (refine ⟨⟨?_, ?_⟩, ?_⟩; omega; omega; conv => whnf)
          | (refine ⟨⟨?_, ?_, ?_⟩, ?_⟩; rfl; omega; omega; conv => whnf)
          | (refine ⟨rfl, ?_, ?_⟩; decide; conv => whnf))
        try exact rfl
        exact vi (by unfold signI; rw [if_neg h1, if_neg h2])
  obtain ⟨r, h, rfl⟩ := key
  exact h
theorem rkind (hn : Non ext) (o : Int) : (cfg ext).Ev 23 [.int .i64 o] (.bool (decide (0 ≤ o ∧ o ≤ 5))) := by
  have key : ∃ r, (cfg ext).Ev 23 [.int .i64 o] r ∧ r = .bool (decide (0 ≤ o ∧ o ≤ 5)) := by
    refine Ev.ofE (hn 23 (by decide) (by decide)) Tryz.func23 rfl rfl ?_
    conv => whnf
    by_cases h1 : o ≥ 0
    · by_cases h2 : o ≤ 5
      · repeat (first
          | (refine sel_yes ?_ ?_; (first | assumption | (simp only [beq_iff_eq, bne_iff_ne, beq_eq_false_iff_ne, bne_eq_false_iff_eq, decide_eq_true_eq, decide_eq_false_iff_not, Bool.not_eq_true', Bool.not_eq_false', ne_eq, beq_true, beq_false, bne_self_eq_false, not_true_eq_false, not_false_eq_true, gt_iff_lt, ge_iff_le, Int.not_lt, Int.not_le, Bool.true_eq_false, Bool.false_eq_true] <;> omega)); conv => whnf)
          | (refine sel_no ?_ ?_; (first | assumption | (simp only [beq_iff_eq, bne_iff_ne, beq_eq_false_iff_ne, bne_eq_false_iff_eq, decide_eq_true_eq, decide_eq_false_iff_not, Bool.not_eq_true', Bool.not_eq_false', ne_eq, beq_true, beq_false, bne_self_eq_false, not_true_eq_false, not_false_eq_true, gt_iff_lt, ge_iff_le, Int.not_lt, Int.not_le, Bool.true_eq_false, Bool.false_eq_true] <;> omega)); conv => whnf)
          | (refine ⟨le_rfl' ?_, ?_⟩; rfl; conv => whnf)
          | (refine ⟨⟨?_, ?_⟩, ?_⟩; omega; omega; conv => whnf)
          | (refine ⟨⟨?_, ?_, ?_⟩, ?_⟩; rfl; omega; omega; conv => whnf)
          | (refine ⟨rfl, ?_, ?_⟩; decide; conv => whnf))
        try exact rfl
        exact vb (by simp; omega)
      · repeat (first
          | (refine sel_yes ?_ ?_; (first | assumption | (simp only [beq_iff_eq, bne_iff_ne, beq_eq_false_iff_ne, bne_eq_false_iff_eq, decide_eq_true_eq, decide_eq_false_iff_not, Bool.not_eq_true', Bool.not_eq_false', ne_eq, beq_true, beq_false, bne_self_eq_false, not_true_eq_false, not_false_eq_true, gt_iff_lt, ge_iff_le, Int.not_lt, Int.not_le, Bool.true_eq_false, Bool.false_eq_true] <;> omega)); conv => whnf)
          | (refine sel_no ?_ ?_; (first | assumption | (simp only [beq_iff_eq, bne_iff_ne, beq_eq_false_iff_ne, bne_eq_false_iff_eq, decide_eq_true_eq, decide_eq_false_iff_not, Bool.not_eq_true', Bool.not_eq_false', ne_eq, beq_true, beq_false, bne_self_eq_false, not_true_eq_false, not_false_eq_true, gt_iff_lt, ge_iff_le, Int.not_lt, Int.not_le, Bool.true_eq_false, Bool.false_eq_true] <;> omega)); conv => whnf)
          | (refine ⟨le_rfl' ?_, ?_⟩; rfl; conv => whnf)
          | (refine ⟨⟨?_, ?_⟩, ?_⟩; omega; omega; conv => whnf)
          | (refine ⟨⟨?_, ?_, ?_⟩, ?_⟩; rfl; omega; omega; conv => whnf)
          | (refine ⟨rfl, ?_, ?_⟩; decide; conv => whnf))
        try exact rfl
        exact vb (by simp; omega)
    · repeat (first
        | (refine sel_yes ?_ ?_; (first | assumption | (simp only [beq_iff_eq, bne_iff_ne, beq_eq_false_iff_ne, bne_eq_false_iff_eq, decide_eq_true_eq, decide_eq_false_iff_not, Bool.not_eq_true', Bool.not_eq_false', ne_eq, beq_true, beq_false, bne_self_eq_false, not_true_eq_false, not_false_eq_true, gt_iff_lt, ge_iff_le, Int.not_lt, Int.not_le, Bool.true_eq_false, Bool.false_eq_true] <;> omega)); conv => whnf)
        | (refine sel_no ?_ ?_; (first | assumption | (simp only [beq_iff_eq, bne_iff_ne, beq_eq_false_iff_ne, bne_eq_false_iff_eq, decide_eq_true_eq, decide_eq_false_iff_not, Bool.not_eq_true', Bool.not_eq_false', ne_eq, beq_true, beq_false, bne_self_eq_false, not_true_eq_false, not_false_eq_true, gt_iff_lt, ge_iff_le, Int.not_lt, Int.not_le, Bool.true_eq_false, Bool.false_eq_true] <;> omega)); conv => whnf)
        | (refine ⟨le_rfl' ?_, ?_⟩; rfl; conv => whnf)
        | (refine ⟨⟨?_, ?_⟩, ?_⟩; omega; omega; conv => whnf)
        | (refine ⟨⟨?_, ?_, ?_⟩, ?_⟩; rfl; omega; omega; conv => whnf)
        | (refine ⟨rfl, ?_, ?_⟩; decide; conv => whnf))
      try exact rfl
      exact vb (by simp; omega)
  obtain ⟨r, h, rfl⟩ := key
  exact h
end
end Go.Proofs.YtehajklneljbgaaGreatDoor.AB
end

section
set_option linter.unusedVariables false
set_option linter.unusedSimpArgs false
open Go Go.Ab Go.Proofs Go.Vl
namespace Go.Proofs.YtehajklneljbgaaGreatDoor.AB
set_option maxRecDepth 100000
set_option maxHeartbeats 8000000
set_option linter.unusedSimpArgs false
section
variable {ext : Exts}
/-- how many parts a right value has -/
theorem rparts (hn : Non ext) (v : T) (hw : WfV v) (ho : okB v = true) : (cfg ext).Ev 53 [A v] (.tup [.int .i64 (partsV v), .int .i64 0]) := by
  have h := rfits hn v hw 16 1024 (by decide) (by decide) (by decide) (by decide)
  have hO := okB_iff.1 ho
  rw [fitZ_yes ⟨hO.1, by have := hO.2.1; omega, by have := hO.2.2; omega⟩] at h
  have key : ∃ r, (cfg ext).Ev 53 [A v] r ∧ r = (.tup [.int .i64 (partsV v), .int .i64 0]) := by
    refine Ev.ofE (hn 53 (by decide) (by decide)) Tryz.func53 rfl rfl ?_
    conv => whnf
    repeat (first
      | (refine sel_yes ?_ ?_; (first | assumption | (simp only [beq_iff_eq, bne_iff_ne, beq_eq_false_iff_ne, bne_eq_false_iff_eq, decide_eq_true_eq, decide_eq_false_iff_not, Bool.not_eq_true', Bool.not_eq_false', ne_eq, beq_true, beq_false, bne_self_eq_false, not_true_eq_false, not_false_eq_true, gt_iff_lt, ge_iff_le, Int.not_lt, Int.not_le, Bool.true_eq_false, Bool.false_eq_true] <;> omega)); conv => whnf)
      | (refine sel_no ?_ ?_; (first | assumption | (simp only [beq_iff_eq, bne_iff_ne, beq_eq_false_iff_ne, bne_eq_false_iff_eq, decide_eq_true_eq, decide_eq_false_iff_not, Bool.not_eq_true', Bool.not_eq_false', ne_eq, beq_true, beq_false, bne_self_eq_false, not_true_eq_false, not_false_eq_true, gt_iff_lt, ge_iff_le, Int.not_lt, Int.not_le, Bool.true_eq_false, Bool.false_eq_true] <;> omega)); conv => whnf)
      | (refine ⟨_, h, ?_⟩; conv => whnf)
      | (refine ⟨le_rfl' ?_, ?_⟩; rfl; conv => whnf)
      | (refine ⟨⟨?_, ?_⟩, ?_⟩; omega; omega; conv => whnf)
      | (refine ⟨⟨?_, ?_, ?_⟩, ?_⟩; rfl; omega; omega; conv => whnf)
      | (refine ⟨rfl, ?_, ?_⟩; decide; conv => whnf))
    try exact rfl
  obtain ⟨r, h, rfl⟩ := key
  exact h
theorem u64s {x : Int} (h0 : 0 ≤ x) (h1 : x < 18446744073709551616) : IntKind.u64.wrap x = x := by rw [IntKind.wrap_u64]; omega
/-- what an order asks ahead of natural order -/
noncomputable def firstZ (ext : Exts) (o : Int) (a b : T) : Int :=
  if o = 2 then cmpI (hZ ext a) (hZ ext b) else if o = 3 then cmpI (partsV a) (partsV b)
  else if o = 4 then (if a.f0 = 3 ∧ b.f0 = 3 then cmpI (lettersZ a.f2) (lettersZ b.f2) else 0)
  else 0
theorem rfirst2 (hn : Non ext) (a b : T) (ha : WfV a) (hb : WfV b) (oa : okB a = true) (ob : okB b = true) : (cfg ext).Ev 43 [.int .i64 2, A a, A b] (.int .i64 (firstZ ext 2 a b)) := by
  have h1 := whole hn a (okB_iff.1 oa).1 (okB_iff.1 oa).2.2
  have h2 := whole hn b (okB_iff.1 ob).1 (okB_iff.1 ob).2.2
  have g1 := h1.2.1
  have g2 := h2.2.1
  have u1 := h1.2.2
  have u2 := h2.2.2
  unfold U32 at u1 u2
  have l := rless hn (IntKind.u64.wrap (hZ ext a)) (IntKind.u64.wrap (hZ ext b))
  have es : signI (IntKind.u64.wrap (hZ ext a)) (IntKind.u64.wrap (hZ ext b)) = signI (hZ ext a) (hZ ext b) := by rw [u64s u1.1 (by omega), u64s u2.1 (by omega)]
  rw [es] at l
  have e : firstZ ext 2 a b = signI (hZ ext a) (hZ ext b) := by unfold firstZ; rw [if_pos rfl]; rfl
  rw [e]
  have key : ∃ r, (cfg ext).Ev 43 [.int .i64 2, A a, A b] r ∧ r = .int .i64 (signI (hZ ext a) (hZ ext b)) := by
    refine Ev.ofE (hn 43 (by decide) (by decide)) Tryz.func43 rfl rfl ?_
    conv => whnf
    refine ⟨_, g1, ?_⟩
    conv => whnf
    refine ⟨_, g2, ?_⟩
    conv => whnf
    refine ⟨_, l, ?_⟩
    conv => whnf
    try exact rfl
  obtain ⟨r, h, rfl⟩ := key
  exact h
theorem rfirst3 (hn : Non ext) (a b : T) (ha : WfV a) (hb : WfV b) (oa : okB a = true) (ob : okB b = true) : (cfg ext).Ev 43 [.int .i64 3, A a, A b] (.int .i64 (firstZ ext 3 a b)) := by
  have g1 := rparts hn a ha oa
  have g2 := rparts hn b hb ob
  have p1 := (okB_iff.1 oa).2.2
  have p2 := (okB_iff.1 ob).2.2
  have l := rless hn (IntKind.u64.wrap (partsV a)) (IntKind.u64.wrap (partsV b))
  have es : signI (IntKind.u64.wrap (partsV a)) (IntKind.u64.wrap (partsV b)) = signI (partsV a) (partsV b) := by rw [u64s (x := (partsV a : Int)) (by omega) (by omega), u64s (x := (partsV b : Int)) (by omega) (by omega)]
  rw [es] at l
  have e : firstZ ext 3 a b = signI (partsV a) (partsV b) := by unfold firstZ; rw [if_neg (by decide), if_pos rfl]; rfl
  rw [e]
  have key : ∃ r, (cfg ext).Ev 43 [.int .i64 3, A a, A b] r ∧ r = .int .i64 (signI (partsV a) (partsV b)) := by
    refine Ev.ofE (hn 43 (by decide) (by decide)) Tryz.func43 rfl rfl ?_
    conv => whnf
    refine ⟨_, g1, ?_⟩
    conv => whnf
    refine ⟨_, g2, ?_⟩
    conv => whnf
    refine ⟨_, l, ?_⟩
    conv => whnf
    try exact rfl
  obtain ⟨r, h, rfl⟩ := key
  exact h
end
end Go.Proofs.YtehajklneljbgaaGreatDoor.AB
end

section
set_option linter.unusedVariables false
set_option linter.unusedSimpArgs false
open Go Go.Ab Go.Proofs Go.Vl
namespace Go.Proofs.YtehajklneljbgaaGreatDoor.AB
set_option maxRecDepth 100000
set_option maxHeartbeats 8000000
set_option linter.unusedSimpArgs false
section
variable {ext : Exts}
theorem runesF_le (s : ByteArray) : ∀ (f p : Nat), runesF s f p ≤ f
  | 0, _ => Nat.le_refl _
  | f + 1, p => by
    simp only [runesF]
    split
    · have := runesF_le s f (p + (Utf8.decode s p).2); omega
    · omega
theorem rfirst0 (hn : Non ext) (o : Int) (a b : T) (ho : o = 0 ∨ o = 1) : (cfg ext).Ev 43 [.int .i64 o, A a, A b] (.int .i64 0) := by
  have key : ∃ r, (cfg ext).Ev 43 [.int .i64 o, A a, A b] r ∧ r = .int .i64 0 := by
    refine Ev.ofE (hn 43 (by decide) (by decide)) Tryz.func43 rfl rfl ?_
    conv => whnf
    repeat (first
      | (refine sel_yes ?_ ?_; (first | assumption | (simp only [beq_iff_eq, bne_iff_ne, beq_eq_false_iff_ne, bne_eq_false_iff_eq, decide_eq_true_eq, decide_eq_false_iff_not, Bool.not_eq_true', Bool.not_eq_false', ne_eq, beq_true, beq_false, bne_self_eq_false, not_true_eq_false, not_false_eq_true, gt_iff_lt, ge_iff_le, Int.not_lt, Int.not_le, Bool.true_eq_false, Bool.false_eq_true] <;> omega)); conv => whnf)
      | (refine sel_no ?_ ?_; (first | assumption | (simp only [beq_iff_eq, bne_iff_ne, beq_eq_false_iff_ne, bne_eq_false_iff_eq, decide_eq_true_eq, decide_eq_false_iff_not, Bool.not_eq_true', Bool.not_eq_false', ne_eq, beq_true, beq_false, bne_self_eq_false, not_true_eq_false, not_false_eq_true, gt_iff_lt, ge_iff_le, Int.not_lt, Int.not_le, Bool.true_eq_false, Bool.false_eq_true] <;> omega)); conv => whnf)
      | (refine ⟨le_rfl' ?_, ?_⟩; rfl; conv => whnf)
      | (refine ⟨⟨?_, ?_⟩, ?_⟩; omega; omega; conv => whnf)
      | (refine ⟨⟨?_, ?_, ?_⟩, ?_⟩; rfl; omega; omega; conv => whnf)
      | (refine ⟨rfl, ?_, ?_⟩; decide; conv => whnf))
    try exact rfl
  obtain ⟨r, h, rfl⟩ := key
  exact h
theorem rfirst4 (hn : Non ext) (a b : T) (h3 : a.f0 = 3) (g3 : b.f0 = 3) (pa : utfB a.f2 = true) (pb : utfB b.f2 = true) (za : a.f2.size ≤ 256) (zb : b.f2.size ≤ 256) : (cfg ext).Ev 43 [.int .i64 4, A a, A b] (.int .i64 (cmpI (runesF a.f2 a.f2.size 0 : Nat) (runesF b.f2 b.f2.size 0 : Nat))) := by
  have g1 := rletters hn a.f2 (by omega)
  have g2 := rletters hn b.f2 (by omega)
  have ba := runesF_le a.f2 a.f2.size 0
  have bb := runesF_le b.f2 b.f2.size 0
  rw [letters_runes _ pa] at g1
  rw [letters_runes _ pb] at g2
  generalize runesF a.f2 a.f2.size 0 = x at g1 ba
  generalize runesF b.f2 b.f2.size 0 = y at g2 bb
  have l := rless hn (IntKind.u64.wrap x) (IntKind.u64.wrap y)
  have es : signI (IntKind.u64.wrap x) (IntKind.u64.wrap y) = cmpI x y := by rw [u64s (x := (x : Int)) (by omega) (by omega), u64s (x := (y : Int)) (by omega) (by omega)]; rfl
  rw [es] at l
  have t1 : (a.f0 == 3) = true := by rw [h3]; rfl
  have t2 : (b.f0 == 3) = true := by rw [g3]; rfl
  have key : ∃ r, (cfg ext).Ev 43 [.int .i64 4, A a, A b] r ∧ r = .int .i64 (cmpI x y) := by
    refine Ev.ofE (hn 43 (by decide) (by decide)) Tryz.func43 rfl rfl ?_
    conv => whnf
    repeat (first
      | (refine sel_yes ?_ ?_; (first | assumption | (simp only [beq_iff_eq, bne_iff_ne, beq_eq_false_iff_ne, bne_eq_false_iff_eq, decide_eq_true_eq, decide_eq_false_iff_not, Bool.not_eq_true', Bool.not_eq_false', ne_eq, beq_true, beq_false, bne_self_eq_false, not_true_eq_false, not_false_eq_true, gt_iff_lt, ge_iff_le, Int.not_lt, Int.not_le, Bool.true_eq_false, Bool.false_eq_true] <;> omega)); conv => whnf)
      | (refine sel_no ?_ ?_; (first | assumption | (simp only [beq_iff_eq, bne_iff_ne, beq_eq_false_iff_ne, bne_eq_false_iff_eq, decide_eq_true_eq, decide_eq_false_iff_not, Bool.not_eq_true', Bool.not_eq_false', ne_eq, beq_true, beq_false, bne_self_eq_false, not_true_eq_false, not_false_eq_true, gt_iff_lt, ge_iff_le, Int.not_lt, Int.not_le, Bool.true_eq_false, Bool.false_eq_true] <;> omega)); conv => whnf)
      | (refine ⟨_, g1, ?_⟩; conv => whnf)
      | (refine ⟨_, g2, ?_⟩; conv => whnf)
      | (refine ⟨_, l, ?_⟩; conv => whnf)
      | (refine ⟨le_rfl' ?_, ?_⟩; rfl; conv => whnf)
      | (refine ⟨⟨?_, ?_⟩, ?_⟩; omega; omega; conv => whnf)
      | (refine ⟨⟨?_, ?_, ?_⟩, ?_⟩; rfl; omega; omega; conv => whnf)
      | (refine ⟨rfl, ?_, ?_⟩; decide; conv => whnf))
    try exact rfl
  obtain ⟨r, h, rfl⟩ := key
  exact h
theorem rfirst4n (hn : Non ext) (a b : T) (h3 : ¬ (a.f0 = 3 ∧ b.f0 = 3)) : (cfg ext).Ev 43 [.int .i64 4, A a, A b] (.int .i64 0) := by
  have key : ∃ r, (cfg ext).Ev 43 [.int .i64 4, A a, A b] r ∧ r = .int .i64 0 := by
    refine Ev.ofE (hn 43 (by decide) (by decide)) Tryz.func43 rfl rfl ?_
    conv => whnf
    by_cases h1 : a.f0 = 3
    · have h2 : b.f0 ≠ 3 := fun h => h3 ⟨h1, h⟩
      repeat (first
        | (refine sel_yes ?_ ?_; (first | assumption | (simp only [beq_iff_eq, bne_iff_ne, beq_eq_false_iff_ne, bne_eq_false_iff_eq, decide_eq_true_eq, decide_eq_false_iff_not, Bool.not_eq_true', Bool.not_eq_false', ne_eq, beq_true, beq_false, bne_self_eq_false, not_true_eq_false, not_false_eq_true, gt_iff_lt, ge_iff_le, Int.not_lt, Int.not_le, Bool.true_eq_false, Bool.false_eq_true] <;> omega)); conv => whnf)
        | (refine sel_no ?_ ?_; (first | assumption | (simp only [beq_iff_eq, bne_iff_ne, beq_eq_false_iff_ne, bne_eq_false_iff_eq, decide_eq_true_eq, decide_eq_false_iff_not, Bool.not_eq_true', Bool.not_eq_false', ne_eq, beq_true, beq_false, bne_self_eq_false, not_true_eq_false, not_false_eq_true, gt_iff_lt, ge_iff_le, Int.not_lt, Int.not_le, Bool.true_eq_false, Bool.false_eq_true] <;> omega)); conv => whnf)
        | (refine ⟨le_rfl' ?_, ?_⟩; rfl; conv => whnf)
        | (refine ⟨⟨?_, ?_⟩, ?_⟩; omega; omega; conv => whnf)
        | (refine ⟨⟨?_, ?_, ?_⟩, ?_⟩; rfl; omega; omega; conv => whnf)
        | (refine ⟨rfl, ?_, ?_⟩; decide; conv => whnf))
      try exact rfl
    · repeat (first
        | (refine sel_yes ?_ ?_; (first | assumption | (simp only [beq_iff_eq, bne_iff_ne, beq_eq_false_iff_ne, bne_eq_false_iff_eq, decide_eq_true_eq, decide_eq_false_iff_not, Bool.not_eq_true', Bool.not_eq_false', ne_eq, beq_true, beq_false, bne_self_eq_false, not_true_eq_false, not_false_eq_true, gt_iff_lt, ge_iff_le, Int.not_lt, Int.not_le, Bool.true_eq_false, Bool.false_eq_true] <;> omega)); conv => whnf)
        | (refine sel_no ?_ ?_; (first | assumption | (simp only [beq_iff_eq, bne_iff_ne, beq_eq_false_iff_ne, bne_eq_false_iff_eq, decide_eq_true_eq, decide_eq_false_iff_not, Bool.not_eq_true', Bool.not_eq_false', ne_eq, beq_true, beq_false, bne_self_eq_false, not_true_eq_false, not_false_eq_true, gt_iff_lt, ge_iff_le, Int.not_lt, Int.not_le, Bool.true_eq_false, Bool.false_eq_true] <;> omega)); conv => whnf)
        | (refine ⟨le_rfl' ?_, ?_⟩; rfl; conv => whnf)
        | (refine ⟨⟨?_, ?_⟩, ?_⟩; omega; omega; conv => whnf)
        | (refine ⟨⟨?_, ?_, ?_⟩, ?_⟩; rfl; omega; omega; conv => whnf)
        | (refine ⟨rfl, ?_, ?_⟩; decide; conv => whnf))
      try exact rfl
  obtain ⟨r, h, rfl⟩ := key
  exact h
end
end Go.Proofs.YtehajklneljbgaaGreatDoor.AB
end

section
set_option linter.unusedVariables false
set_option linter.unusedSimpArgs false
open Go Go.Ab Go.Proofs Go.Vl
namespace Go.Proofs.YtehajklneljbgaaGreatDoor.AB
set_option maxRecDepth 100000
set_option maxHeartbeats 8000000
set_option linter.unusedSimpArgs false
section
variable {ext : Exts}
theorem rfar (hn : Non ext) (n : Int) : (cfg ext).Ev 55 [.int .i64 n] (.int .u64 (awy n)) := by
  have key : ∃ r, (cfg ext).Ev 55 [.int .i64 n] r ∧ r = .int .u64 (awy n) := by
    refine Ev.ofE (hn 55 (by decide) (by decide)) Tryz.func55 rfl rfl ?_
    conv => whnf
    by_cases h : n < 0
    · repeat (first
        | (refine sel_yes ?_ ?_; (first | assumption | (simp only [beq_iff_eq, bne_iff_ne, beq_eq_false_iff_ne, bne_eq_false_iff_eq, decide_eq_true_eq, decide_eq_false_iff_not, Bool.not_eq_true', Bool.not_eq_false', ne_eq, beq_true, beq_false, bne_self_eq_false, not_true_eq_false, not_false_eq_true, gt_iff_lt, ge_iff_le, Int.not_lt, Int.not_le, Bool.true_eq_false, Bool.false_eq_true] <;> omega)); conv => whnf)
        | (refine sel_no ?_ ?_; (first | assumption | (simp only [beq_iff_eq, bne_iff_ne, beq_eq_false_iff_ne, bne_eq_false_iff_eq, decide_eq_true_eq, decide_eq_false_iff_not, Bool.not_eq_true', Bool.not_eq_false', ne_eq, beq_true, beq_false, bne_self_eq_false, not_true_eq_false, not_false_eq_true, gt_iff_lt, ge_iff_le, Int.not_lt, Int.not_le, Bool.true_eq_false, Bool.false_eq_true] <;> omega)); conv => whnf)
        | (refine ⟨le_rfl' ?_, ?_⟩; rfl; conv => whnf)
        | (refine ⟨⟨?_, ?_⟩, ?_⟩; omega; omega; conv => whnf)
        | (refine ⟨⟨?_, ?_, ?_⟩, ?_⟩; rfl; omega; omega; conv => whnf)
        | (refine ⟨rfl, ?_, ?_⟩; decide; conv => whnf))
      try exact rfl
      try exact vi (by unfold awy; rw [if_pos h])
    · repeat (first
        | (refine sel_yes ?_ ?_; (first | assumption | (simp only [beq_iff_eq, bne_iff_ne, beq_eq_false_iff_ne, bne_eq_false_iff_eq, decide_eq_true_eq, decide_eq_false_iff_not, Bool.not_eq_true', Bool.not_eq_false', ne_eq, beq_true, beq_false, bne_self_eq_false, not_true_eq_false, not_false_eq_true, gt_iff_lt, ge_iff_le, Int.not_lt, Int.not_le, Bool.true_eq_false, Bool.false_eq_true] <;> omega)); conv => whnf)
        | (refine sel_no ?_ ?_; (first | assumption | (simp only [beq_iff_eq, bne_iff_ne, beq_eq_false_iff_ne, bne_eq_false_iff_eq, decide_eq_true_eq, decide_eq_false_iff_not, Bool.not_eq_true', Bool.not_eq_false', ne_eq, beq_true, beq_false, bne_self_eq_false, not_true_eq_false, not_false_eq_true, gt_iff_lt, ge_iff_le, Int.not_lt, Int.not_le, Bool.true_eq_false, Bool.false_eq_true] <;> omega)); conv => whnf)
        | (refine ⟨le_rfl' ?_, ?_⟩; rfl; conv => whnf)
        | (refine ⟨⟨?_, ?_⟩, ?_⟩; omega; omega; conv => whnf)
        | (refine ⟨⟨?_, ?_, ?_⟩, ?_⟩; rfl; omega; omega; conv => whnf)
        | (refine ⟨rfl, ?_, ?_⟩; decide; conv => whnf))
      try exact rfl
      try exact vi (by unfold awy; rw [if_neg h])
  obtain ⟨r, h, rfl⟩ := key
  exact h
theorem rfirst5 (hn : Non ext) (a b : T) (h3 : a.f0 = 2) (g3 : b.f0 = 2) : (cfg ext).Ev 43 [.int .i64 5, A a, A b] (.int .i64 (cmpI (awy a.f1) (awy b.f1))) := by
  have g1 := rfar hn a.f1
  have g2 := rfar hn b.f1
  have l := rless hn (awy a.f1) (awy b.f1)
  have t1 : (a.f0 == 2) = true := by rw [h3]; rfl
  have t2 : (b.f0 == 2) = true := by rw [g3]; rfl
  have key : ∃ r, (cfg ext).Ev 43 [.int .i64 5, A a, A b] r ∧ r = .int .i64 (cmpI (awy a.f1) (awy b.f1)) := by
    refine Ev.ofE (hn 43 (by decide) (by decide)) Tryz.func43 rfl rfl ?_
    conv => whnf
    repeat (first
      | (refine sel_yes ?_ ?_; (first | assumption | (simp only [beq_iff_eq, bne_iff_ne, beq_eq_false_iff_ne, bne_eq_false_iff_eq, decide_eq_true_eq, decide_eq_false_iff_not, Bool.not_eq_true', Bool.not_eq_false', ne_eq, beq_true, beq_false, bne_self_eq_false, not_true_eq_false, not_false_eq_true, gt_iff_lt, ge_iff_le, Int.not_lt, Int.not_le, Bool.true_eq_false, Bool.false_eq_true] <;> omega)); conv => whnf)
      | (refine sel_no ?_ ?_; (first | assumption | (simp only [beq_iff_eq, bne_iff_ne, beq_eq_false_iff_ne, bne_eq_false_iff_eq, decide_eq_true_eq, decide_eq_false_iff_not, Bool.not_eq_true', Bool.not_eq_false', ne_eq, beq_true, beq_false, bne_self_eq_false, not_true_eq_false, not_false_eq_true, gt_iff_lt, ge_iff_le, Int.not_lt, Int.not_le, Bool.true_eq_false, Bool.false_eq_true] <;> omega)); conv => whnf)
      | (refine ⟨_, g1, ?_⟩; conv => whnf)
      | (refine ⟨_, g2, ?_⟩; conv => whnf)
      | (refine ⟨_, l, ?_⟩; conv => whnf)
      | (refine ⟨le_rfl' ?_, ?_⟩; rfl; conv => whnf)
      | (refine ⟨⟨?_, ?_⟩, ?_⟩; omega; omega; conv => whnf)
      | (refine ⟨⟨?_, ?_, ?_⟩, ?_⟩; rfl; omega; omega; conv => whnf)
      | (refine ⟨rfl, ?_, ?_⟩; decide; conv => whnf))
    try exact rfl
  obtain ⟨r, h, rfl⟩ := key
  exact h
theorem rfirst5n (hn : Non ext) (a b : T) (h3 : ¬ (a.f0 = 2 ∧ b.f0 = 2)) : (cfg ext).Ev 43 [.int .i64 5, A a, A b] (.int .i64 0) := by
  have key : ∃ r, (cfg ext).Ev 43 [.int .i64 5, A a, A b] r ∧ r = .int .i64 0 := by
    refine Ev.ofE (hn 43 (by decide) (by decide)) Tryz.func43 rfl rfl ?_
    conv => whnf
    by_cases h1 : a.f0 = 2
    · have h2 : b.f0 ≠ 2 := fun h => h3 ⟨h1, h⟩
      repeat (first
        | (refine sel_yes ?_ ?_; (first | assumption | (simp only [beq_iff_eq, bne_iff_ne, beq_eq_false_iff_ne, bne_eq_false_iff_eq, decide_eq_true_eq, decide_eq_false_iff_not, Bool.not_eq_true', Bool.not_eq_false', ne_eq, beq_true, beq_false, bne_self_eq_false, not_true_eq_false, not_false_eq_true, gt_iff_lt, ge_iff_le, Int.not_lt, Int.not_le, Bool.true_eq_false, Bool.false_eq_true] <;> omega)); conv => whnf)
        | (refine sel_no ?_ ?_; (first | assumption | (simp only [beq_iff_eq, bne_iff_ne, beq_eq_false_iff_ne, bne_eq_false_iff_eq, decide_eq_true_eq, decide_eq_false_iff_not, Bool.not_eq_true', Bool.not_eq_false', ne_eq, beq_true, beq_false, bne_self_eq_false, not_true_eq_false, not_false_eq_true, gt_iff_lt, ge_iff_le, Int.not_lt, Int.not_le, Bool.true_eq_false, Bool.false_eq_true] <;> omega)); conv => whnf)
        | (refine ⟨le_rfl' ?_, ?_⟩; rfl; conv => whnf)
        | (refine ⟨⟨?_, ?_⟩, ?_⟩; omega; omega; conv => whnf)
        | (refine ⟨⟨?_, ?_, ?_⟩, ?_⟩; rfl; omega; omega; conv => whnf)
        | (refine ⟨rfl, ?_, ?_⟩; decide; conv => whnf))
      try exact rfl
    · repeat (first
        | (refine sel_yes ?_ ?_; (first | assumption | (simp only [beq_iff_eq, bne_iff_ne, beq_eq_false_iff_ne, bne_eq_false_iff_eq, decide_eq_true_eq, decide_eq_false_iff_not, Bool.not_eq_true', Bool.not_eq_false', ne_eq, beq_true, beq_false, bne_self_eq_false, not_true_eq_false, not_false_eq_true, gt_iff_lt, ge_iff_le, Int.not_lt, Int.not_le, Bool.true_eq_false, Bool.false_eq_true] <;> omega)); conv => whnf)
        | (refine sel_no ?_ ?_; (first | assumption | (simp only [beq_iff_eq, bne_iff_ne, beq_eq_false_iff_ne, bne_eq_false_iff_eq, decide_eq_true_eq, decide_eq_false_iff_not, Bool.not_eq_true', Bool.not_eq_false', ne_eq, beq_true, beq_false, bne_self_eq_false, not_true_eq_false, not_false_eq_true, gt_iff_lt, ge_iff_le, Int.not_lt, Int.not_le, Bool.true_eq_false, Bool.false_eq_true] <;> omega)); conv => whnf)
        | (refine ⟨le_rfl' ?_, ?_⟩; rfl; conv => whnf)
        | (refine ⟨⟨?_, ?_⟩, ?_⟩; omega; omega; conv => whnf)
        | (refine ⟨⟨?_, ?_, ?_⟩, ?_⟩; rfl; omega; omega; conv => whnf)
        | (refine ⟨rfl, ?_, ?_⟩; decide; conv => whnf))
      try exact rfl
  obtain ⟨r, h, rfl⟩ := key
  exact h
/-- what the reference says of two values by an order, when it says c ahead of natural order -/
theorem rordered (hn : Non ext) (o : Int) (a b : T) (ha : WfV a) (hb : WfV b) (c : Int) (hc : (cfg ext).Ev 43 [.int .i64 o, A a, A b] (.int .i64 c)) (h1 : c = -1 ∨ c = 0 ∨ c = 1) :
    (cfg ext).Ev 25 [.int .i64 o, A a, A b] (.int .i64 (if o = 1 then -(if c = 0 then cmpV a b else c) else if c = 0 then cmpV a b else c)) := by
  have g := rcmp hn a ha b
  have one := cmpV_one a b
  have key : ∃ r, (cfg ext).Ev 25 [.int .i64 o, A a, A b] r ∧ r = .int .i64 (if o = 1 then -(if c = 0 then cmpV a b else c) else if c = 0 then cmpV a b else c) := by
    refine Ev.ofE (hn 25 (by decide) (by decide)) Tryz.func25 rfl rfl ?_
    conv => whnf
    refine ⟨_, hc, ?_⟩
    conv => whnf
    by_cases c0 : c = 0
    · by_cases o1 : o = 1
      · repeat (first
          | (refine sel_yes ?_ ?_; (first | assumption | (simp only [beq_iff_eq, bne_iff_ne, beq_eq_false_iff_ne, bne_eq_false_iff_eq, decide_eq_true_eq, decide_eq_false_iff_not, Bool.not_eq_true', Bool.not_eq_false', ne_eq, beq_true, beq_false, bne_self_eq_false, not_true_eq_false, not_false_eq_true, gt_iff_lt, ge_iff_le, Int.not_lt, Int.not_le, Bool.true_eq_false, Bool.false_eq_true] <;> omega)); conv => whnf)
          | (refine sel_no ?_ ?_; (first | assumption | (simp only [beq_iff_eq, bne_iff_ne, beq_eq_false_iff_ne, bne_eq_false_iff_eq, decide_eq_true_eq, decide_eq_false_iff_not, Bool.not_eq_true', Bool.not_eq_false', ne_eq, beq_true, beq_false, bne_self_eq_false, not_true_eq_false, not_false_eq_true, gt_iff_lt, ge_iff_le, Int.not_lt, Int.not_le, Bool.true_eq_false, Bool.false_eq_true] <;> omega)); conv => whnf)
          | (refine ⟨_, g, ?_⟩; conv => whnf)
          | (refine ⟨le_rfl' ?_, ?_⟩; rfl; conv => whnf)
          | (refine ⟨⟨?_, ?_⟩, ?_⟩; omega; omega; conv => whnf)
          | (refine ⟨⟨?_, ?_, ?_⟩, ?_⟩; rfl; omega; omega; conv => whnf)
          | (refine ⟨rfl, ?_, ?_⟩; decide; conv => whnf))
        try exact rfl
        exact vi (by rw [if_pos o1, if_pos c0]; show IntKind.i64.wrap _ = _; rw [IntKind.wrap_i64]; unfold Go.Vl.One at one; omega)
      · repeat (first
          | (refine sel_yes ?_ ?_; (first | assumption | (simp only [beq_iff_eq, bne_iff_ne, beq_eq_false_iff_ne, bne_eq_false_iff_eq, decide_eq_true_eq, decide_eq_false_iff_not, Bool.not_eq_true', Bool.not_eq_false', ne_eq, beq_true, beq_false, bne_self_eq_false, not_true_eq_false, not_false_eq_true, gt_iff_lt, ge_iff_le, Int.not_lt, Int.not_le, Bool.true_eq_false, Bool.false_eq_true] <;> omega)); conv => whnf)
          | (refine sel_no ?_ ?_; (first | assumption | (simp only [beq_iff_eq, bne_iff_ne, beq_eq_false_iff_ne, bne_eq_false_iff_eq, decide_eq_true_eq, decide_eq_false_iff_not, Bool.not_eq_true', Bool.not_eq_false', ne_eq, beq_true, beq_false, bne_self_eq_false, not_true_eq_false, not_false_eq_true, gt_iff_lt, ge_iff_le, Int.not_lt, Int.not_le, Bool.true_eq_false, Bool.false_eq_true] <;> omega)); conv => whnf)
          | (refine ⟨_, g, ?_⟩; conv => whnf)
          | (refine ⟨le_rfl' ?_, ?_⟩; rfl; conv => whnf)
          | (refine ⟨⟨?_, ?_⟩, ?_⟩; omega; omega; conv => whnf)
          | (refine ⟨⟨?_, ?_, ?_⟩, ?_⟩; rfl; omega; omega; conv => whnf)
          | (refine ⟨rfl, ?_, ?_⟩; decide; conv => whnf))
        try exact rfl
        exact vi (by rw [if_neg o1, if_pos c0])
    · by_cases o1 : o = 1
      · repeat (first
          | (refine sel_yes ?_ ?_; (first | assumption | (simp only [beq_iff_eq, bne_iff_ne, beq_eq_false_iff_ne, bne_eq_false_iff_eq, decide_eq_true_eq, decide_eq_false_iff_not, Bool.not_eq_true', Bool.not_eq_false', ne_eq, beq_true, beq_false, bne_self_eq_false, not_true_eq_false, not_false_eq_true, gt_iff_lt, ge_iff_le, Int.not_lt, Int.not_le, Bool.true_eq_false, Bool.false_eq_true] <;> omega)); conv => whnf)
          | (refine sel_no ?_ ?_; (first | assumption | (simp only [beq_iff_eq, bne_iff_ne, beq_eq_false_iff_ne, bne_eq_false_iff_eq, decide_eq_true_eq, decide_eq_false_iff_not, Bool.not_eq_true', Bool.not_eq_false', ne_eq, beq_true, beq_false, bne_self_eq_false, not_true_eq_false, not_false_eq_true, gt_iff_lt, ge_iff_le, Int.not_lt, Int.not_le, Bool.true_eq_false, Bool.false_eq_true] <;> omega)); conv => whnf)
          | (refine ⟨_, g, ?_⟩; conv => whnf)
          | (refine ⟨le_rfl' ?_, ?_⟩; rfl; conv => whnf)
          | (refine ⟨⟨?_, ?_⟩, ?_⟩; omega; omega; conv => whnf)
          | (refine ⟨⟨?_, ?_, ?_⟩, ?_⟩; rfl; omega; omega; conv => whnf)
          | (refine ⟨rfl, ?_, ?_⟩; decide; conv => whnf))
        try exact rfl
        exact vi (by rw [if_pos o1, if_neg c0]; show IntKind.i64.wrap _ = _; rw [IntKind.wrap_i64]; omega)
      · repeat (first
          | (refine sel_yes ?_ ?_; (first | assumption | (simp only [beq_iff_eq, bne_iff_ne, beq_eq_false_iff_ne, bne_eq_false_iff_eq, decide_eq_true_eq, decide_eq_false_iff_not, Bool.not_eq_true', Bool.not_eq_false', ne_eq, beq_true, beq_false, bne_self_eq_false, not_true_eq_false, not_false_eq_true, gt_iff_lt, ge_iff_le, Int.not_lt, Int.not_le, Bool.true_eq_false, Bool.false_eq_true] <;> omega)); conv => whnf)
          | (refine sel_no ?_ ?_; (first | assumption | (simp only [beq_iff_eq, bne_iff_ne, beq_eq_false_iff_ne, bne_eq_false_iff_eq, decide_eq_true_eq, decide_eq_false_iff_not, Bool.not_eq_true', Bool.not_eq_false', ne_eq, beq_true, beq_false, bne_self_eq_false, not_true_eq_false, not_false_eq_true, gt_iff_lt, ge_iff_le, Int.not_lt, Int.not_le, Bool.true_eq_false, Bool.false_eq_true] <;> omega)); conv => whnf)
          | (refine ⟨_, g, ?_⟩; conv => whnf)
          | (refine ⟨le_rfl' ?_, ?_⟩; rfl; conv => whnf)
          | (refine ⟨⟨?_, ?_⟩, ?_⟩; omega; omega; conv => whnf)
          | (refine ⟨⟨?_, ?_, ?_⟩, ?_⟩; rfl; omega; omega; conv => whnf)
          | (refine ⟨rfl, ?_, ?_⟩; decide; conv => whnf))
        try exact rfl
        exact vi (by rw [if_neg o1, if_neg c0])
  obtain ⟨r, h, rfl⟩ := key
  exact h
end
end Go.Proofs.YtehajklneljbgaaGreatDoor.AB
end

section
set_option linter.unusedVariables false
set_option linter.unusedSimpArgs false
open Go Go.Ab Go.Proofs Go.Vl
namespace Go.Proofs.YtehajklneljbgaaGreatDoor.AB
set_option maxRecDepth 100000
set_option maxHeartbeats 8000000
set_option linter.unusedSimpArgs false
section
variable {ext : Exts}
theorem rcompareK (hn : Non ext) (o : Int) (a b : T) (ho : ¬ (0 ≤ o ∧ o ≤ 5)) : (cfg ext).Ev 8 [.int .i64 o, A a, A b] (.tup [.int .i64 0, .int .i64 4]) := by
  have k := rkind hn o
  rw [decide_eq_false ho] at k
  have key : ∃ r, (cfg ext).Ev 8 [.int .i64 o, A a, A b] r ∧ r = (.tup [.int .i64 0, .int .i64 4]) := by
    refine Ev.ofE (hn 8 (by decide) (by decide)) Tryz.func8 rfl rfl ?_
    conv => whnf
    repeat (first
      | (refine sel_yes ?_ ?_; (first | assumption | (simp only [beq_iff_eq, bne_iff_ne, beq_eq_false_iff_ne, bne_eq_false_iff_eq, decide_eq_true_eq, decide_eq_false_iff_not, Bool.not_eq_true', Bool.not_eq_false', ne_eq, beq_true, beq_false, bne_self_eq_false, not_true_eq_false, not_false_eq_true, gt_iff_lt, ge_iff_le, Int.not_lt, Int.not_le, Bool.true_eq_false, Bool.false_eq_true] <;> omega)); conv => whnf)
      | (refine sel_no ?_ ?_; (first | assumption | (simp only [beq_iff_eq, bne_iff_ne, beq_eq_false_iff_ne, bne_eq_false_iff_eq, decide_eq_true_eq, decide_eq_false_iff_not, Bool.not_eq_true', Bool.not_eq_false', ne_eq, beq_true, beq_false, bne_self_eq_false, not_true_eq_false, not_false_eq_true, gt_iff_lt, ge_iff_le, Int.not_lt, Int.not_le, Bool.true_eq_false, Bool.false_eq_true] <;> omega)); conv => whnf)
      | (refine ⟨_, k, ?_⟩; conv => whnf)
      | (refine ⟨le_rfl' ?_, ?_⟩; rfl; conv => whnf)
      | (refine ⟨⟨?_, ?_⟩, ?_⟩; omega; omega; conv => whnf)
      | (refine ⟨⟨?_, ?_, ?_⟩, ?_⟩; rfl; omega; omega; conv => whnf)
      | (refine ⟨rfl, ?_, ?_⟩; decide; conv => whnf))
    try exact rfl
  obtain ⟨r, h, rfl⟩ := key
  exact h
theorem rcompareR (hn : Non ext) (o : Int) (a b : T) (ha : WfV a) (hb : WfV b) (ho : 0 ≤ o ∧ o ≤ 5) (c : Int) (hc : okB a = true → okB b = true → (cfg ext).Ev 25 [.int .i64 o, A a, A b] (.int .i64 c)) :
    (cfg ext).Ev 8 [.int .i64 o, A a, A b] (if okB a = true ∧ okB b = true then .tup [.int .i64 c, .int .i64 0] else .tup [.int .i64 0, .int .i64 3]) := by
  have k := rkind hn o
  rw [decide_eq_true ho] at k
  have r1 := rright hn a ha
  have r2 := rright hn b hb
  have key : ∃ r, (cfg ext).Ev 8 [.int .i64 o, A a, A b] r ∧ r = (if okB a = true ∧ okB b = true then .tup [.int .i64 c, .int .i64 0] else .tup [.int .i64 0, .int .i64 3]) := by
    refine Ev.ofE (hn 8 (by decide) (by decide)) Tryz.func8 rfl rfl ?_
    conv => whnf
    cases oa : okB a with
    | false =>
      rw [oa] at r1
      rw [if_neg (fun h => by cases h.1)]
      repeat (first
        | (refine sel_yes ?_ ?_; (first | assumption | (simp only [beq_iff_eq, bne_iff_ne, beq_eq_false_iff_ne, bne_eq_false_iff_eq, decide_eq_true_eq, decide_eq_false_iff_not, Bool.not_eq_true', Bool.not_eq_false', ne_eq, beq_true, beq_false, bne_self_eq_false, not_true_eq_false, not_false_eq_true, gt_iff_lt, ge_iff_le, Int.not_lt, Int.not_le, Bool.true_eq_false, Bool.false_eq_true] <;> omega)); conv => whnf)
        | (refine sel_no ?_ ?_; (first | assumption | (simp only [beq_iff_eq, bne_iff_ne, beq_eq_false_iff_ne, bne_eq_false_iff_eq, decide_eq_true_eq, decide_eq_false_iff_not, Bool.not_eq_true', Bool.not_eq_false', ne_eq, beq_true, beq_false, bne_self_eq_false, not_true_eq_false, not_false_eq_true, gt_iff_lt, ge_iff_le, Int.not_lt, Int.not_le, Bool.true_eq_false, Bool.false_eq_true] <;> omega)); conv => whnf)
        | (refine ⟨_, k, ?_⟩; conv => whnf)
        | (refine ⟨_, r1, ?_⟩; conv => whnf)
        | (refine ⟨le_rfl' ?_, ?_⟩; rfl; conv => whnf)
        | (refine ⟨⟨?_, ?_⟩, ?_⟩; omega; omega; conv => whnf)
        | (refine ⟨⟨?_, ?_, ?_⟩, ?_⟩; rfl; omega; omega; conv => whnf)
        | (refine ⟨rfl, ?_, ?_⟩; decide; conv => whnf))
      try exact rfl
    | true =>
      rw [oa] at r1
      cases ob : okB b with
      | false =>
        rw [ob] at r2
        rw [if_neg (fun h => by cases h.2)]
        repeat (first
          | (refine sel_yes ?_ ?_; (first | assumption | (simp only [beq_iff_eq, bne_iff_ne, beq_eq_false_iff_ne, bne_eq_false_iff_eq, decide_eq_true_eq, decide_eq_false_iff_not, Bool.not_eq_true', Bool.not_eq_false', ne_eq, beq_true, beq_false, bne_self_eq_false, not_true_eq_false, not_false_eq_true, gt_iff_lt, ge_iff_le, Int.not_lt, Int.not_le, Bool.true_eq_false, Bool.false_eq_true] <;> omega)); conv => whnf)
          | (refine sel_no ?_ ?_; (first | assumption | (simp only [beq_iff_eq, bne_iff_ne, beq_eq_false_iff_ne, bne_eq_false_iff_eq, decide_eq_true_eq, decide_eq_false_iff_not, Bool.not_eq_true', Bool.not_eq_false', ne_eq, beq_true, beq_false, bne_self_eq_false, not_true_eq_false, not_false_eq_true, gt_iff_lt, ge_iff_le, Int.not_lt, Int.not_le, Bool.true_eq_false, Bool.false_eq_true] <;> omega)); conv => whnf)
          | (refine ⟨_, k, ?_⟩; conv => whnf)
          | (refine ⟨_, r1, ?_⟩; conv => whnf)
          | (refine ⟨_, r2, ?_⟩; conv => whnf)
          | (refine ⟨le_rfl' ?_, ?_⟩; rfl; conv => whnf)
          | (refine ⟨⟨?_, ?_⟩, ?_⟩; omega; omega; conv => whnf)
          | (refine ⟨⟨?_, ?_, ?_⟩, ?_⟩; rfl; omega; omega; conv => whnf)
          | (refine ⟨rfl, ?_, ?_⟩; decide; conv => whnf))
        try exact rfl
      | true =>
        rw [ob] at r2
        have o1 := hc oa ob
        rw [if_pos ⟨rfl, rfl⟩]
        repeat (first
          | (refine sel_yes ?_ ?_; (first | assumption | (simp only [beq_iff_eq, bne_iff_ne, beq_eq_false_iff_ne, bne_eq_false_iff_eq, decide_eq_true_eq, decide_eq_false_iff_not, Bool.not_eq_true', Bool.not_eq_false', ne_eq, beq_true, beq_false, bne_self_eq_false, not_true_eq_false, not_false_eq_true, gt_iff_lt, ge_iff_le, Int.not_lt, Int.not_le, Bool.true_eq_false, Bool.false_eq_true] <;> omega)); conv => whnf)
          | (refine sel_no ?_ ?_; (first | assumption | (simp only [beq_iff_eq, bne_iff_ne, beq_eq_false_iff_ne, bne_eq_false_iff_eq, decide_eq_true_eq, decide_eq_false_iff_not, Bool.not_eq_true', Bool.not_eq_false', ne_eq, beq_true, beq_false, bne_self_eq_false, not_true_eq_false, not_false_eq_true, gt_iff_lt, ge_iff_le, Int.not_lt, Int.not_le, Bool.true_eq_false, Bool.false_eq_true] <;> omega)); conv => whnf)
          | (refine ⟨_, k, ?_⟩; conv => whnf)
          | (refine ⟨_, r1, ?_⟩; conv => whnf)
          | (refine ⟨_, r2, ?_⟩; conv => whnf)
          | (refine ⟨_, o1, ?_⟩; conv => whnf)
          | (refine ⟨le_rfl' ?_, ?_⟩; rfl; conv => whnf)
          | (refine ⟨⟨?_, ?_⟩, ?_⟩; omega; omega; conv => whnf)
          | (refine ⟨⟨?_, ?_, ?_⟩, ?_⟩; rfl; omega; omega; conv => whnf)
          | (refine ⟨rfl, ?_, ?_⟩; decide; conv => whnf))
        try exact rfl
  obtain ⟨r, h, rfl⟩ := key
  exact h
end
end Go.Proofs.YtehajklneljbgaaGreatDoor.AB
end

section
set_option linter.unusedVariables false
set_option linter.unusedSimpArgs false
open Go Go.Ab Go.Proofs Go.Vl
namespace Go.Proofs.YtehajklneljbgaaGreatDoor.AB
set_option maxRecDepth 100000
set_option maxHeartbeats 8000000
set_option linter.unusedSimpArgs false
section
variable {ext : Exts}
/-- how an order sets two values -/
noncomputable def ordF (ext : Exts) (o : Int) (a b : T) : Int :=
  if o = 0 then cmpV a b else if o = 1 then cmpV b a else if o = 2 then lexC (hZ ext) a b else if o = 3 then lexC (fun v => (partsV v : Nat)) a b
  else if o = 4 then kindC 3 (fun v => (runesF v.f2 v.f2.size 0 : Nat)) a b else kindC 2 (fun v => awy v.f1) a b
theorem ordF0 (a b : T) : ordF ext 0 a b = cmpV a b := by unfold ordF; rw [if_pos rfl]
theorem ordF1 (a b : T) : ordF ext 1 a b = cmpV b a := by unfold ordF; rw [if_neg (by decide), if_pos rfl]
theorem ordF2 (a b : T) : ordF ext 2 a b = lexC (hZ ext) a b := by unfold ordF; rw [if_neg (by decide), if_neg (by decide), if_pos rfl]
theorem ordF3 (a b : T) : ordF ext 3 a b = lexC (fun v => (partsV v : Nat)) a b := by unfold ordF; rw [if_neg (by decide), if_neg (by decide), if_neg (by decide), if_pos rfl]
theorem ordF4 (a b : T) : ordF ext 4 a b = kindC 3 (fun v => (runesF v.f2 v.f2.size 0 : Nat)) a b := by unfold ordF; rw [if_neg (by decide), if_neg (by decide), if_neg (by decide), if_neg (by decide), if_pos rfl]
theorem ordF5 (a b : T) : ordF ext 5 a b = kindC 2 (fun v => awy v.f1) a b := by unfold ordF; rw [if_neg (by decide), if_neg (by decide), if_neg (by decide), if_neg (by decide), if_neg (by decide)]
theorem cmpI_or (x y : Int) : cmpI x y = -1 ∨ cmpI x y = 0 ∨ cmpI x y = 1 := by
  unfold cmpI
  split
  · exact .inl rfl
  · split
    · exact .inr (.inr rfl)
    · exact .inr (.inl rfl)
theorem text_ok {v : T} (h : okB v = true) (h3 : v.f0 = 3) : utfB v.f2 = true ∧ v.f2.size ≤ 256 := by
  have := (okB_iff.1 h).1
  cases v with | mk k n t l =>
  simp only [OkV] at this
  have p := this.1
  unfold PlainV at p
  obtain ⟨_, _, p⟩ := p
  have h3 : k = 3 := h3
  rw [if_neg (by omega), if_pos h3] at p
  exact ⟨p.2, p.1⟩
theorem ev_int {f : Nat} {xs : List V} {x y : Int} (h : (cfg ext).Ev f xs (.int .i64 x)) (e : x = y) : (cfg ext).Ev f xs (.int .i64 y) := e ▸ h
theorem rord0 (hn : Non ext) (a b : T) (ha : WfV a) (hb : WfV b) : (cfg ext).Ev 25 [.int .i64 0, A a, A b] (.int .i64 (ordF ext 0 a b)) := by
  refine ev_int (rordered hn 0 a b ha hb 0 (rfirst0 hn 0 a b (.inl rfl)) (.inr (.inl rfl))) ?_
  rw [ordF0, if_neg (by decide), if_pos rfl]
theorem rord1 (hn : Non ext) (a b : T) (ha : WfV a) (hb : WfV b) : (cfg ext).Ev 25 [.int .i64 1, A a, A b] (.int .i64 (ordF ext 1 a b)) := by
  refine ev_int (rordered hn 1 a b ha hb 0 (rfirst0 hn 1 a b (.inr rfl)) (.inr (.inl rfl))) ?_
  rw [ordF1, if_pos rfl, if_pos rfl, ← cmpV_turn a b]
theorem rord2 (hn : Non ext) (a b : T) (ha : WfV a) (hb : WfV b) (oa : okB a = true) (ob : okB b = true) : (cfg ext).Ev 25 [.int .i64 2, A a, A b] (.int .i64 (ordF ext 2 a b)) := by
  have e : firstZ ext 2 a b = cmpI (hZ ext a) (hZ ext b) := by unfold firstZ; rw [if_pos rfl]
  have h := rfirst2 hn a b ha hb oa ob
  rw [e] at h
  refine ev_int (rordered hn 2 a b ha hb _ h (cmpI_or _ _)) ?_
  rw [ordF2, if_neg (by decide)]; rfl
theorem rord3 (hn : Non ext) (a b : T) (ha : WfV a) (hb : WfV b) (oa : okB a = true) (ob : okB b = true) : (cfg ext).Ev 25 [.int .i64 3, A a, A b] (.int .i64 (ordF ext 3 a b)) := by
  have e : firstZ ext 3 a b = cmpI (partsV a : Nat) (partsV b : Nat) := by unfold firstZ; rw [if_neg (by decide), if_pos rfl]
  have h := rfirst3 hn a b ha hb oa ob
  rw [e] at h
  refine ev_int (rordered hn 3 a b ha hb _ h (cmpI_or _ _)) ?_
  rw [ordF3, if_neg (by decide)]; rfl
theorem rord4 (hn : Non ext) (a b : T) (ha : WfV a) (hb : WfV b) (oa : okB a = true) (ob : okB b = true) : (cfg ext).Ev 25 [.int .i64 4, A a, A b] (.int .i64 (ordF ext 4 a b)) := by
  rw [ordF4]
  unfold kindC
  by_cases g : a.f0 = 3 ∧ b.f0 = 3
  · have ta := text_ok oa g.1
    have tb := text_ok ob g.2
    rw [if_pos g]
    refine ev_int (rordered hn 4 a b ha hb _ (rfirst4 hn a b g.1 g.2 ta.1 tb.1 ta.2 tb.2) (cmpI_or _ _)) ?_
    rw [if_neg (by decide)]; rfl
  · rw [if_neg g]
    refine ev_int (rordered hn 4 a b ha hb _ (rfirst4n hn a b g) (.inr (.inl rfl))) ?_
    rw [if_neg (by decide), if_pos rfl]
theorem rord5 (hn : Non ext) (a b : T) (ha : WfV a) (hb : WfV b) : (cfg ext).Ev 25 [.int .i64 5, A a, A b] (.int .i64 (ordF ext 5 a b)) := by
  rw [ordF5]
  unfold kindC
  by_cases g : a.f0 = 2 ∧ b.f0 = 2
  · rw [if_pos g]
    refine ev_int (rordered hn 5 a b ha hb _ (rfirst5 hn a b g.1 g.2) (cmpI_or _ _)) ?_
    rw [if_neg (by decide)]; rfl
  · rw [if_neg g]
    refine ev_int (rordered hn 5 a b ha hb _ (rfirst5n hn a b g) (.inr (.inl rfl))) ?_
    rw [if_neg (by decide), if_pos rfl]
theorem rord (hn : Non ext) (o : Int) (h0 : 0 ≤ o) (h5 : o ≤ 5) (a b : T) (ha : WfV a) (hb : WfV b) (oa : okB a = true) (ob : okB b = true) : (cfg ext).Ev 25 [.int .i64 o, A a, A b] (.int .i64 (ordF ext o a b)) := by
  rcases (show o = 0 ∨ o = 1 ∨ o = 2 ∨ o = 3 ∨ o = 4 ∨ o = 5 by omega) with rfl | rfl | rfl | rfl | rfl | rfl
  · exact rord0 hn a b ha hb
  · exact rord1 hn a b ha hb
  · exact rord2 hn a b ha hb oa ob
  · exact rord3 hn a b ha hb oa ob
  · exact rord4 hn a b ha hb oa ob
  · exact rord5 hn a b ha hb
end
end Go.Proofs.YtehajklneljbgaaGreatDoor.AB
end

section
set_option linter.unusedVariables false
set_option linter.unusedSimpArgs false
open Go Go.Ab Go.Proofs Go.Vl
namespace Go.Proofs.YtehajklneljbgaaGreatDoor.AB
set_option maxRecDepth 100000
set_option maxHeartbeats 8000000
set_option linter.unusedSimpArgs false
section
variable {ext : Exts}
theorem hFull (hn : Non ext) (h26 : E26 ext) (h73 : E73 ext) (v : T) (hw : WfV v) (ho : okB v = true) : (cfg ext).Ev 88 [A v] (.tup [.int .u32 (hZ ext v), .int .i64 0]) := by
  have c := t22 hn h26 h73 v hw
  rw [ho, if_pos rfl] at c
  have w := (whole hn v (okB_iff.1 ho).1 (okB_iff.1 ho).2.2).1
  have key : ∃ r, (cfg ext).Ev 88 [A v] r ∧ r = .tup [.int .u32 (hZ ext v), .int .i64 0] := by
    refine Ev.ofE (hn 88 (by decide) (by decide)) Tryz.func88 rfl rfl ?_
    conv => whnf
    refine ⟨_, c, ?_⟩
    conv => whnf
    refine ⟨_, w, ?_⟩
    conv => whnf
  obtain ⟨r, h, rfl⟩ := key
  exact h
/-- an order's row on right values -/
theorem rowOrd (hn : Non ext) (h26 : E26 ext) (h73 : E73 ext) (o : Nat) (h5 : o ≤ 5) (a b : T) (ha : WfV a) (hb : WfV b) (oa : okB a = true) (ob : okB b = true) : RowE ext o a b (ordF ext o a b) := by
  have e (f : Nat) (h : f ≠ 83) (h' : f ≠ 108) := hn f h h'
  have c6 : o = 0 ∨ o = 1 ∨ o = 2 ∨ o = 3 ∨ o = 4 ∨ o = 5 := by omega
  rcases c6 with rfl | rfl | rfl | rfl | rfl | rfl
  · rw [show ((0 : Nat) : Int) = 0 from rfl, ordF0]; exact t15 hn h26 a ha b
  · rw [show ((1 : Nat) : Int) = 1 from rfl, ordF1]; exact t37 (e 60 (by decide) (by decide)) a b _ (t15 hn h26 b hb a)
  · rw [show ((2 : Nat) : Int) = 2 from rfl, ordF2]
    exact t48 (e 85 (by decide) (by decide)) (e 87 (by decide) (by decide)) (e 104 (by decide) (by decide)) (e 86 (by decide) (by decide)) a b _ _ _ (t39 (e 62 (by decide) (by decide)) a _ _ (hFull hn h26 h73 a ha oa)) (t39 (e 62 (by decide) (by decide)) b _ _ (hFull hn h26 h73 b hb ob)) (t15 hn h26 a ha b)
  · rw [show ((3 : Nat) : Int) = 3 from rfl, ordF3]
    obtain ⟨ea, ga⟩ := t53 hn h26 h73 a ha
    obtain ⟨eb, gb⟩ := t53 hn h26 h73 b hb
    have ca : cntZ a 16 1024 = (partsV a : Nat) := by have h := okB_iff.1 oa; unfold cntZ; rw [if_pos ⟨h.1, by have := h.2.1; omega, by have := h.2.2; omega⟩]
    have cb : cntZ b 16 1024 = (partsV b : Nat) := by have h := okB_iff.1 ob; unfold cntZ; rw [if_pos ⟨h.1, by have := h.2.1; omega, by have := h.2.2; omega⟩]
    rw [ca] at ga
    rw [cb] at gb
    exact t52 (e 89 (by decide) (by decide)) (e 81 (by decide) (by decide)) (e 101 (by decide) (by decide)) (e 86 (by decide) (by decide)) a b _ _ _ (t41 (e 64 (by decide) (by decide)) a _ _ ga) (t41 (e 64 (by decide) (by decide)) b _ _ gb) (t15 hn h26 a ha b)
  · rw [show ((4 : Nat) : Int) = 4 from rfl, ordF4]
    by_cases g : a.f0 = 3 ∧ b.f0 = 3
    · have ta := text_ok oa g.1
      have tb := text_ok ob g.2
      exact t42 (e 65 (by decide) (by decide)) (e 81 (by decide) (by decide)) (e 101 (by decide) (by decide)) (e 86 (by decide) (by decide)) a b _ _ _ (trunes hn a.f2 (by omega)) (trunes hn b.f2 (by omega)) (t15 hn h26 a ha b)
    · have h0 := t42 (ext := ext) (e 65 (by decide) (by decide)) (e 81 (by decide) (by decide)) (e 101 (by decide) (by decide)) (e 86 (by decide) (by decide)) a b _ _ _ (Classical.choose_spec (t54 hn a.f2)) (Classical.choose_spec (t54 hn b.f2)) (t15 hn h26 a ha b)
      rw [if_neg g] at h0
      unfold kindC
      rw [if_neg g]
      exact h0
  · rw [show ((5 : Nat) : Int) = 5 from rfl, ordF5, ← near_is]
    exact t43 hn a b (t15 hn h26 a ha b)
/-- two right values: one line -/
theorem ord_line (o : Int) : Line (ordF ext o) := by
  have lex (m : T → Int) : Line (lexC m) := ⟨lexC_turn m, fun _ _ => lexC_eq m, fun _ _ _ => lexC_trans m, lexC_one m⟩
  have kin (q : Int) (m : T → Int) : Line (kindC q m) := ⟨kindC_turn q m, fun _ _ => kindC_eq q m, fun _ _ _ => kindC_trans q m, kindC_one q m⟩
  by_cases h0 : o = 0
  · subst h0; rw [show ordF ext 0 = cmpV from funext fun a => funext fun b => ordF0 a b]; exact ⟨cmpV_turn, fun _ _ => cmpV_eq, fun _ _ _ => cmpV_le, Go.Vl.cmpV_one⟩
  by_cases h1 : o = 1
  · subst h1; rw [show ordF ext 1 = fun a b => cmpV b a from funext fun a => funext fun b => ordF1 a b]
    exact ⟨fun a b => cmpV_turn b a, fun a b ha hb => (cmpV_eq hb ha).trans ⟨Eq.symm, Eq.symm⟩, fun a b c ha hb hc h1 h2 => cmpV_le hc hb ha h2 h1, fun a b => Go.Vl.cmpV_one b a⟩
  by_cases h2 : o = 2
  · subst h2; rw [show ordF ext 2 = lexC (hZ ext) from funext fun a => funext fun b => ordF2 a b]; exact lex _
  by_cases h3 : o = 3
  · subst h3; rw [show ordF ext 3 = lexC (fun v => (partsV v : Nat)) from funext fun a => funext fun b => ordF3 a b]; exact lex _
  by_cases h4 : o = 4
  · subst h4; rw [show ordF ext 4 = kindC 3 (fun v => (runesF v.f2 v.f2.size 0 : Nat)) from funext fun a => funext fun b => ordF4 a b]; exact kin 3 _
  rw [show ordF ext o = kindC 2 (fun v => awy v.f1) from funext fun a => funext fun b => by unfold ordF; rw [if_neg h0, if_neg h1, if_neg h2, if_neg h3, if_neg h4]]; exact kin 2 _
theorem pcompare (hn : Non ext) (h26 : E26 ext) (h73 : E73 ext) (o : Nat) (h5 : o ≤ 5) (a b : T) (ha : WfV a) (hb : WfV b) :
    (cfg ext).Ev 7 [.int .i64 o, A a, A b] (if okB a = true ∧ okB b = true then .tup [.int .i64 (ordF ext o a b), .int .i64 0] else .tup [.int .i64 0, .int .i64 3]) := by
  have E : ∀ v ∈ [a, b], (cfg ext).Ev 28 [A v] (.int .i64 (if okB v = true then 0 else 3)) := by
    intro v hv
    rcases List.mem_cons.1 hv with rfl | hv
    · exact t22 hn h26 h73 _ ha
    · rcases List.mem_cons.1 hv with rfl | hv
      · exact t22 hn h26 h73 _ hb
      · cases hv
  have h11 := t11e hn o h5 [a, b] (by simp) E
  have eL : encL [a, b] = enc a ++ enc b := by simp only [encL, List.append_nil]
  rw [eL, enc_eq, enc_eq] at h11
  have ea : [a, b].all okB = (okB a && okB b) := by simp
  rw [ea] at h11
  by_cases g : okB a = true ∧ okB b = true
  · rw [if_pos g]
    rw [g.1, g.2, if_pos (show (true && true) = true from rfl)] at h11
    have hr := rowOrd hn h26 h73 o h5 a b ha hb g.1 g.2
    refine Ev.of (hn 7 (by decide) (by decide)) Tryz.func7 rfl rfl ?_
    conv => whnf
    refine ⟨_, h11, ?_⟩
    have c6 : o = 0 ∨ o = 1 ∨ o = 2 ∨ o = 3 ∨ o = 4 ∨ o = 5 := by omega
    rcases c6 with rfl | rfl | rfl | rfl | rfl | rfl
    all_goals
      conv => whnf
      refine ⟨_, hr, ?_⟩
      conv => whnf
  · rw [if_neg g]
    have e0 : (okB a && okB b) = false := by
      cases h1 : okB a
      · rfl
      · cases h2 : okB b
        · rfl
        · exact absurd ⟨h1, h2⟩ g
    rw [e0, if_neg (by decide)] at h11
    refine Ev.of (hn 7 (by decide) (by decide)) Tryz.func7 rfl rfl ?_
    conv => whnf
    refine ⟨_, h11, ?_⟩
    conv => whnf
end
end Go.Proofs.YtehajklneljbgaaGreatDoor.AB
end

section
set_option linter.unusedVariables false
set_option linter.unusedSimpArgs false
open Go Go.Ab Go.Proofs Go.Vl
namespace Go.Proofs.YtehajklneljbgaaGreatDoor.AB
set_option maxRecDepth 100000
set_option maxHeartbeats 8000000
set_option linter.unusedSimpArgs false
set_option linter.unusedVariables false
section
variable {ext : Exts}
/-- the reference's test of a list -/
theorem llisted (hn : Non ext) (l : List T) (hl : l.length ≤ 65536) (hw : ∀ a ∈ l, WfV a) (Q : Ex → St → Prop) (d : Nat) :
    ∀ (i : Nat) (z : St), l.length - i = d → i ≤ l.length → Has z.t [(8, .sl false (encL l) l.length), (9, .int .i64 l.length), (10, .int .i64 i)] → z.hp.n = 7 →
      (∀ z' : St, z'.t 2 = .int .i64 3 → ¬ (∀ a ∈ l.drop i, okB a = true) → Q .ret z') →
      (∀ z' : St, (∀ a ∈ l.drop i, okB a = true) → Q (.exit 0) z') →
      Go.Ab.Loop (cfg ext) (lpOf Tryz.f39) 7 z Q := by
  induction d with
  | zero =>
    intro i z hd hi ht hz hr hq
    have g : decide ((i : Int) < (l.length : Int)) = false := decide_eq_false (by omega)
    rw [St.knows _ _ ht hz]
    refine Loop.round ?_
    conv => whnf
    repeat (first
      | (refine sel_yes ?_ ?_; (first | assumption | (simp only [beq_iff_eq, bne_iff_ne, beq_eq_false_iff_ne, bne_eq_false_iff_eq, decide_eq_true_eq, decide_eq_false_iff_not, Bool.not_eq_true', Bool.not_eq_false', ne_eq, beq_true, beq_false, bne_self_eq_false, not_true_eq_false, not_false_eq_true, gt_iff_lt, ge_iff_le, Int.not_lt, Int.not_le, Bool.true_eq_false, Bool.false_eq_true] <;> omega)); conv => whnf)
      | (refine sel_no ?_ ?_; (first | assumption | (simp only [beq_iff_eq, bne_iff_ne, beq_eq_false_iff_ne, bne_eq_false_iff_eq, decide_eq_true_eq, decide_eq_false_iff_not, Bool.not_eq_true', Bool.not_eq_false', ne_eq, beq_true, beq_false, bne_self_eq_false, not_true_eq_false, not_false_eq_true, gt_iff_lt, ge_iff_le, Int.not_lt, Int.not_le, Bool.true_eq_false, Bool.false_eq_true] <;> omega)); conv => whnf)
      | (refine ⟨le_rfl' ?_, ?_⟩; rfl; conv => whnf)
      | (refine ⟨⟨?_, ?_⟩, ?_⟩; omega; omega; conv => whnf)
      | (refine ⟨⟨?_, ?_, ?_⟩, ?_⟩; rfl; omega; omega; conv => whnf)
      | (refine ⟨rfl, ?_, ?_⟩; decide; conv => whnf))
    try exact rfl
    exact hq _ (by intro a ha; rw [List.drop_eq_nil_of_le (by omega)] at ha; cases ha)
  | succ d ih =>
    intro i z hd hi ht hz hr hq
    have hlt : i < l.length := by omega
    have g : decide ((i : Int) < (l.length : Int)) = true := decide_eq_true (by omega)
    have eD := List.drop_eq_getElem_cons hlt
    have e1 : IntKind.i64.wrap ((i : Int) + 1) = ((i + 1 : Nat) : Int) := wrapN (by omega) (by omega)
    have hE := rright hn l[i] (hw _ (List.getElem_mem hlt))
    rw [St.knows _ _ ht hz]
    refine Loop.round ?_
    conv => whnf
    repeat (first
      | (refine sel_yes ?_ ?_; (first | assumption | (simp only [beq_iff_eq, bne_iff_ne, beq_eq_false_iff_ne, bne_eq_false_iff_eq, decide_eq_true_eq, decide_eq_false_iff_not, Bool.not_eq_true', Bool.not_eq_false', ne_eq, beq_true, beq_false, bne_self_eq_false, not_true_eq_false, not_false_eq_true, gt_iff_lt, ge_iff_le, Int.not_lt, Int.not_le, Bool.true_eq_false, Bool.false_eq_true] <;> omega)); conv => whnf)
      | (refine sel_no ?_ ?_; (first | assumption | (simp only [beq_iff_eq, bne_iff_ne, beq_eq_false_iff_ne, bne_eq_false_iff_eq, decide_eq_true_eq, decide_eq_false_iff_not, Bool.not_eq_true', Bool.not_eq_false', ne_eq, beq_true, beq_false, bne_self_eq_false, not_true_eq_false, not_false_eq_true, gt_iff_lt, ge_iff_le, Int.not_lt, Int.not_le, Bool.true_eq_false, Bool.false_eq_true] <;> omega)); conv => whnf)
      | (refine ⟨le_rfl' ?_, ?_⟩; rfl; conv => whnf)
      | (refine ⟨⟨?_, ?_⟩, ?_⟩; omega; omega; conv => whnf)
      | (refine ⟨⟨?_, ?_, ?_⟩, ?_⟩; rfl; omega; omega; conv => whnf)
      | (refine ⟨rfl, ?_, ?_⟩; decide; conv => whnf))
    try exact rfl
    refine ldA (i := i) hlt ?_
    conv => whnf
    refine ⟨_, hE, ?_⟩
    cases ho : okB l[i] with
    | false =>
      conv => whnf
      exact hr _ rfl (fun g => by have := g l[i] (by rw [eD]; exact List.mem_cons_self); rw [ho] at this; cases this)
    | true =>
      conv => whnf
      refine ih (i + 1) _ (by omega) (by omega) ⟨rfl, rfl, ?_, trivial⟩ rfl (fun z' a c => hr z' a (fun g => c (fun x hx => g x (by rw [eD]; exact List.mem_cons_of_mem _ hx)))) (fun z' e => hq z' (fun x hx => by rw [eD] at hx; rcases List.mem_cons.1 hx with rfl | hx; exact ho; exact e x hx))
      conv => lhs; whnf
      exact vi e1
noncomputable def listedZ (l : List T) : Int := if 65536 < l.length then 2 else if l.all okB = true then 0 else 3
theorem rlisted (hn : Non ext) (l : List T) (hl : l.length ≤ 9223372036854775807) (hw : ∀ a ∈ l, WfV a) : (cfg ext).Ev 39 [.sl false (encL l) l.length] (.int .i64 (listedZ l)) := by
  have key : ∃ r, (cfg ext).Ev 39 [.sl false (encL l) l.length] r ∧ r = .int .i64 (listedZ l) := by
    refine Ev.ofF (hn 39 (by decide) (by decide)) Tryz.func39 rfl rfl ?_
    conv => whnf
    by_cases h : 65536 < l.length
    · have g : decide ((l.length : Int) > 65536) = true := decide_eq_true (by omega)
      repeat (first
        | (refine sel_yes ?_ ?_; (first | assumption | (simp only [beq_iff_eq, bne_iff_ne, beq_eq_false_iff_ne, bne_eq_false_iff_eq, decide_eq_true_eq, decide_eq_false_iff_not, Bool.not_eq_true', Bool.not_eq_false', ne_eq, beq_true, beq_false, bne_self_eq_false, not_true_eq_false, not_false_eq_true, gt_iff_lt, ge_iff_le, Int.not_lt, Int.not_le, Bool.true_eq_false, Bool.false_eq_true] <;> omega)); conv => whnf)
        | (refine sel_no ?_ ?_; (first | assumption | (simp only [beq_iff_eq, bne_iff_ne, beq_eq_false_iff_ne, bne_eq_false_iff_eq, decide_eq_true_eq, decide_eq_false_iff_not, Bool.not_eq_true', Bool.not_eq_false', ne_eq, beq_true, beq_false, bne_self_eq_false, not_true_eq_false, not_false_eq_true, gt_iff_lt, ge_iff_le, Int.not_lt, Int.not_le, Bool.true_eq_false, Bool.false_eq_true] <;> omega)); conv => whnf)
        | (refine ⟨le_rfl' ?_, ?_⟩; rfl; conv => whnf)
        | (refine ⟨⟨?_, ?_⟩, ?_⟩; omega; omega; conv => whnf)
        | (refine ⟨⟨?_, ?_, ?_⟩, ?_⟩; rfl; omega; omega; conv => whnf)
        | (refine ⟨rfl, ?_, ?_⟩; decide; conv => whnf))
      try exact rfl
      exact Fin.tmp (i := 2) rfl rfl (vi (by unfold listedZ; rw [if_pos h]))
    · have g : decide ((l.length : Int) > 65536) = false := decide_eq_false (by omega)
      repeat (first
        | (refine sel_yes ?_ ?_; (first | assumption | (simp only [beq_iff_eq, bne_iff_ne, beq_eq_false_iff_ne, bne_eq_false_iff_eq, decide_eq_true_eq, decide_eq_false_iff_not, Bool.not_eq_true', Bool.not_eq_false', ne_eq, beq_true, beq_false, bne_self_eq_false, not_true_eq_false, not_false_eq_true, gt_iff_lt, ge_iff_le, Int.not_lt, Int.not_le, Bool.true_eq_false, Bool.false_eq_true] <;> omega)); conv => whnf)
        | (refine sel_no ?_ ?_; (first | assumption | (simp only [beq_iff_eq, bne_iff_ne, beq_eq_false_iff_ne, bne_eq_false_iff_eq, decide_eq_true_eq, decide_eq_false_iff_not, Bool.not_eq_true', Bool.not_eq_false', ne_eq, beq_true, beq_false, bne_self_eq_false, not_true_eq_false, not_false_eq_true, gt_iff_lt, ge_iff_le, Int.not_lt, Int.not_le, Bool.true_eq_false, Bool.false_eq_true] <;> omega)); conv => whnf)
        | (refine ⟨le_rfl' ?_, ?_⟩; rfl; conv => whnf)
        | (refine ⟨⟨?_, ?_⟩, ?_⟩; omega; omega; conv => whnf)
        | (refine ⟨⟨?_, ?_, ?_⟩, ?_⟩; rfl; omega; omega; conv => whnf)
        | (refine ⟨rfl, ?_, ?_⟩; decide; conv => whnf))
      try exact rfl
      refine llisted hn l (by omega) hw _ l.length 0 _ rfl (by omega) ⟨rfl, rfl, rfl, trivial⟩ rfl (fun z a b => ?_) (fun z b => ?_)
      · exact Fin.tmp (i := 2) rfl a (vi (by unfold listedZ; rw [if_neg h, if_neg (show ¬ (l.all okB = true) from fun h => b (List.all_eq_true.1 h))]))
      · conv => whnf
        exact Fin.tmp (i := 2) rfl rfl (vi (by unfold listedZ; rw [if_neg h, if_pos (show l.all okB = true from List.all_eq_true.2 b)]))
  obtain ⟨r, h, rfl⟩ := key
  exact h
theorem rfitK (hn : Non ext) (o : Int) (l : List T) (ho : ¬ (0 ≤ o ∧ o ≤ 5)) : (cfg ext).Ev 31 [.int .i64 o, .sl false (encL l) l.length] (.int .i64 4) := by
  have k := rkind hn o
  rw [decide_eq_false ho] at k
  have key : ∃ r, (cfg ext).Ev 31 [.int .i64 o, .sl false (encL l) l.length] r ∧ r = .int .i64 4 := by
    refine Ev.ofE (hn 31 (by decide) (by decide)) Tryz.func31 rfl rfl ?_
    conv => whnf
    repeat (first
      | (refine sel_yes ?_ ?_; (first | assumption | (simp only [beq_iff_eq, bne_iff_ne, beq_eq_false_iff_ne, bne_eq_false_iff_eq, decide_eq_true_eq, decide_eq_false_iff_not, Bool.not_eq_true', Bool.not_eq_false', ne_eq, beq_true, beq_false, bne_self_eq_false, not_true_eq_false, not_false_eq_true, gt_iff_lt, ge_iff_le, Int.not_lt, Int.not_le, Bool.true_eq_false, Bool.false_eq_true] <;> omega)); conv => whnf)
      | (refine sel_no ?_ ?_; (first | assumption | (simp only [beq_iff_eq, bne_iff_ne, beq_eq_false_iff_ne, bne_eq_false_iff_eq, decide_eq_true_eq, decide_eq_false_iff_not, Bool.not_eq_true', Bool.not_eq_false', ne_eq, beq_true, beq_false, bne_self_eq_false, not_true_eq_false, not_false_eq_true, gt_iff_lt, ge_iff_le, Int.not_lt, Int.not_le, Bool.true_eq_false, Bool.false_eq_true] <;> omega)); conv => whnf)
      | (refine ⟨_, k, ?_⟩; conv => whnf)
      | (refine ⟨le_rfl' ?_, ?_⟩; rfl; conv => whnf)
      | (refine ⟨⟨?_, ?_⟩, ?_⟩; omega; omega; conv => whnf)
      | (refine ⟨⟨?_, ?_, ?_⟩, ?_⟩; rfl; omega; omega; conv => whnf)
      | (refine ⟨rfl, ?_, ?_⟩; decide; conv => whnf))
    try exact rfl
  obtain ⟨r, h, rfl⟩ := key
  exact h
theorem rfit (hn : Non ext) (o : Int) (l : List T) (ho : 0 ≤ o ∧ o ≤ 5) (hl : l.length ≤ 9223372036854775807) (hw : ∀ a ∈ l, WfV a) : (cfg ext).Ev 31 [.int .i64 o, .sl false (encL l) l.length] (.int .i64 (listedZ l)) := by
  have k := rkind hn o
  rw [decide_eq_true ho] at k
  have h1 := rlisted hn l hl hw
  have key : ∃ r, (cfg ext).Ev 31 [.int .i64 o, .sl false (encL l) l.length] r ∧ r = .int .i64 (listedZ l) := by
    refine Ev.ofE (hn 31 (by decide) (by decide)) Tryz.func31 rfl rfl ?_
    conv => whnf
    repeat (first
      | (refine sel_yes ?_ ?_; (first | assumption | (simp only [beq_iff_eq, bne_iff_ne, beq_eq_false_iff_ne, bne_eq_false_iff_eq, decide_eq_true_eq, decide_eq_false_iff_not, Bool.not_eq_true', Bool.not_eq_false', ne_eq, beq_true, beq_false, bne_self_eq_false, not_true_eq_false, not_false_eq_true, gt_iff_lt, ge_iff_le, Int.not_lt, Int.not_le, Bool.true_eq_false, Bool.false_eq_true] <;> omega)); conv => whnf)
      | (refine sel_no ?_ ?_; (first | assumption | (simp only [beq_iff_eq, bne_iff_ne, beq_eq_false_iff_ne, bne_eq_false_iff_eq, decide_eq_true_eq, decide_eq_false_iff_not, Bool.not_eq_true', Bool.not_eq_false', ne_eq, beq_true, beq_false, bne_self_eq_false, not_true_eq_false, not_false_eq_true, gt_iff_lt, ge_iff_le, Int.not_lt, Int.not_le, Bool.true_eq_false, Bool.false_eq_true] <;> omega)); conv => whnf)
      | (refine ⟨_, k, ?_⟩; conv => whnf)
      | (refine ⟨_, h1, ?_⟩; conv => whnf)
      | (refine ⟨le_rfl' ?_, ?_⟩; rfl; conv => whnf)
      | (refine ⟨⟨?_, ?_⟩, ?_⟩; omega; omega; conv => whnf)
      | (refine ⟨⟨?_, ?_, ?_⟩, ?_⟩; rfl; omega; omega; conv => whnf)
      | (refine ⟨rfl, ?_, ?_⟩; decide; conv => whnf))
    try exact rfl
  obtain ⟨r, h, rfl⟩ := key
  exact h
/-- the program's -/
theorem plisted (hn : Non ext) (h26 : E26 ext) (h73 : E73 ext) (o : Nat) (h5 : o ≤ 5) (l : List T) (hw : ∀ a ∈ l, WfV a) : (cfg ext).Ev 22 [.int .i64 o, .sl false (encL l) l.length] (.tup [.agg [rowOf o], .int .i64 (listedZ l)]) := by
  by_cases h : 65536 < l.length
  · unfold listedZ; rw [if_pos h]; exact t11long hn o h5 l h
  · unfold listedZ; rw [if_neg h]; exact t11e hn o h5 l (by omega) (fun a ha => t22 hn h26 h73 a (hw a ha))
theorem listed_ok {l : List T} (h : listedZ l = 0) : l.length ≤ 65536 ∧ ∀ a ∈ l, okB a = true := by
  unfold listedZ at h
  split at h
  · omega
  · split at h
    · rename_i h1 h2; exact ⟨by omega, List.all_eq_true.1 h2⟩
    · omega
/-- is a list sorted? -/
def Srt (f : T → T → Int) (l : List T) : Prop := ∀ (j : Nat) (h : j + 1 < l.length), ¬ f l[j + 1] l[j] < 0
theorem lin (hn : Non ext) (o : Int) (h0 : 0 ≤ o) (h5 : o ≤ 5) (l : List T) (hl : l.length ≤ 65536) (hw : ∀ a ∈ l, WfV a ∧ okB a = true) (Q : Ex → St → Prop) (d : Nat) :
    ∀ (i : Nat) (z : St), l.length - i = d → Has z.t [(0, .int .i64 o), (1, .sl false (encL l) l.length), (5, .int .i64 ((i : Int) + 1))] → z.hp.n = 2 → (∀ (j : Nat) (h : j + 1 < l.length), j < i → ¬ ordF ext o l[j + 1] l[j] < 0) →
      (∀ z' : St, z'.t 4 = .bool false → ¬ Srt (ordF ext o) l → Q .ret z') →
      (∀ z' : St, Srt (ordF ext o) l → Q (.exit 0) z') →
      Go.Ab.Loop (cfg ext) (lpOf Tryz.f32) 2 z Q := by
  induction d with
  | zero =>
    intro i z hd ht hz hk hr hq
    have g : decide ((i : Int) + 1 < (l.length : Int)) = false := decide_eq_false (by omega)
    rw [St.knows _ _ ht hz]
    refine Loop.round ?_
    conv => whnf
    repeat (first
      | (refine sel_yes ?_ ?_; (first | assumption | (simp only [beq_iff_eq, bne_iff_ne, beq_eq_false_iff_ne, bne_eq_false_iff_eq, decide_eq_true_eq, decide_eq_false_iff_not, Bool.not_eq_true', Bool.not_eq_false', ne_eq, beq_true, beq_false, bne_self_eq_false, not_true_eq_false, not_false_eq_true, gt_iff_lt, ge_iff_le, Int.not_lt, Int.not_le, Bool.true_eq_false, Bool.false_eq_true] <;> omega)); conv => whnf)
      | (refine sel_no ?_ ?_; (first | assumption | (simp only [beq_iff_eq, bne_iff_ne, beq_eq_false_iff_ne, bne_eq_false_iff_eq, decide_eq_true_eq, decide_eq_false_iff_not, Bool.not_eq_true', Bool.not_eq_false', ne_eq, beq_true, beq_false, bne_self_eq_false, not_true_eq_false, not_false_eq_true, gt_iff_lt, ge_iff_le, Int.not_lt, Int.not_le, Bool.true_eq_false, Bool.false_eq_true] <;> omega)); conv => whnf)
      | (refine ⟨le_rfl' ?_, ?_⟩; rfl; conv => whnf)
      | (refine ⟨⟨?_, ?_⟩, ?_⟩; omega; omega; conv => whnf)
      | (refine ⟨⟨?_, ?_, ?_⟩, ?_⟩; rfl; omega; omega; conv => whnf)
      | (refine ⟨rfl, ?_, ?_⟩; decide; conv => whnf))
    try exact rfl
    exact hq _ (fun j h => hk j h (by omega))
  | succ d ih =>
    intro i z hd ht hz hk hr hq
    by_cases hlt : i + 1 < l.length
    · have g : decide ((i : Int) + 1 < (l.length : Int)) = true := decide_eq_true (by omega)
      have e1 : IntKind.i64.wrap ((i : Int) + 1 + 1) = ((i + 1 : Nat) : Int) + 1 := by rw [IntKind.wrap_i64]; omega
      have e2 : IntKind.i64.wrap ((i : Int) + 1 - 1) = (i : Int) := by rw [IntKind.wrap_i64]; omega
      have w1 := hw _ (List.getElem_mem hlt)
      have w0 := hw _ (List.getElem_mem (show i < l.length by omega))
      have hE := rord hn o h0 h5 l[i + 1] l[i] w1.1 w0.1 w1.2 w0.2
      have hb : (0 : Int) ≤ (i : Int) + 1 ∧ (i : Int) + 1 < (l.length : Int) := ⟨by omega, by omega⟩
      have hb2 : (0 : Int) ≤ IntKind.i64.wrap ((i : Int) + 1 - 1) ∧ IntKind.i64.wrap ((i : Int) + 1 - 1) < (l.length : Int) := by rw [e2]; exact ⟨by omega, by omega⟩
      have e3 : (IntKind.i64.wrap ((i : Int) + 1 - 1)).toNat = i := by rw [e2]; rfl
      have hlt3 : (IntKind.i64.wrap ((i : Int) + 1 - 1)).toNat < l.length := by rw [e3]; omega
      have e4 : l[(IntKind.i64.wrap ((i : Int) + 1 - 1)).toNat] = l[i] := by simp only [e3]
      rw [St.knows _ _ ht hz]
      refine Loop.round ?_
      conv => whnf
      refine sel_yes g ?_
      conv => whnf
      refine ⟨hb, ?_⟩
      conv => whnf
      refine ldA (i := i + 1) hlt ?_
      conv => whnf
      refine ⟨hb2, ?_⟩
      conv => whnf
      refine ldA (i := (IntKind.i64.wrap ((i : Int) + 1 - 1)).toNat) hlt3 ?_
      rw [← e4] at hE
      conv => whnf
      refine ⟨_, hE, ?_⟩
      conv => whnf
      refine sel_split (fun h => ?_) (fun h => ?_)
      · conv => whnf
        exact hr _ rfl (fun g => g i hlt (by rw [← e4]; exact of_decide_eq_true h))
      · conv => whnf
        refine ih (i + 1) _ (by omega) ⟨rfl, rfl, ?_, trivial⟩ rfl (fun j hj hji => ?_) hr hq
        · conv => lhs; whnf
          exact vi e1
        · by_cases e : j = i
          · subst e; rw [← e4]; exact of_decide_eq_false h
          · exact hk j hj (by omega)
    · have g : decide ((i : Int) + 1 < (l.length : Int)) = false := decide_eq_false (by omega)
      rw [St.knows _ _ ht hz]
      refine Loop.round ?_
      conv => whnf
      repeat (first
        | (refine sel_yes ?_ ?_; (first | assumption | (simp only [beq_iff_eq, bne_iff_ne, beq_eq_false_iff_ne, bne_eq_false_iff_eq, decide_eq_true_eq, decide_eq_false_iff_not, Bool.not_eq_true', Bool.not_eq_false', ne_eq, beq_true, beq_false, bne_self_eq_false, not_true_eq_false, not_false_eq_true, gt_iff_lt, ge_iff_le, Int.not_lt, Int.not_le, Bool.true_eq_false, Bool.false_eq_true] <;> omega)); conv => whnf)
        | (refine sel_no ?_ ?_; (first | assumption | (simp only [beq_iff_eq, bne_iff_ne, beq_eq_false_iff_ne, bne_eq_false_iff_eq, decide_eq_true_eq, decide_eq_false_iff_not, Bool.not_eq_true', Bool.not_eq_false', ne_eq, beq_true, beq_false, bne_self_eq_false, not_true_eq_false, not_false_eq_true, gt_iff_lt, ge_iff_le, Int.not_lt, Int.not_le, Bool.true_eq_false, Bool.false_eq_true] <;> omega)); conv => whnf)
        | (refine ⟨le_rfl' ?_, ?_⟩; rfl; conv => whnf)
        | (refine ⟨⟨?_, ?_⟩, ?_⟩; omega; omega; conv => whnf)
        | (refine ⟨⟨?_, ?_, ?_⟩, ?_⟩; rfl; omega; omega; conv => whnf)
        | (refine ⟨rfl, ?_, ?_⟩; decide; conv => whnf))
      try exact rfl
      exact hq _ (fun j h => hk j h (by omega))
open Classical in
theorem rin (hn : Non ext) (o : Int) (h0 : 0 ≤ o) (h5 : o ≤ 5) (l : List T) (hl : l.length ≤ 65536) (hw : ∀ a ∈ l, WfV a ∧ okB a = true) : (cfg ext).Ev 32 [.int .i64 o, .sl false (encL l) l.length] (.bool (decide (Srt (ordF ext o) l))) := by
  have key : ∃ r, (cfg ext).Ev 32 [.int .i64 o, .sl false (encL l) l.length] r ∧ r = .bool (decide (Srt (ordF ext o) l)) := by
    refine Ev.ofF (hn 32 (by decide) (by decide)) Tryz.func32 rfl rfl ?_
    conv => whnf
    refine lin hn o h0 h5 l hl hw _ l.length 0 _ rfl ⟨rfl, rfl, rfl, trivial⟩ rfl (fun j h hj => by omega) (fun z a b => ?_) (fun z b => ?_)
    · exact Fin.tmpB (i := 4) rfl a (by rw [decide_eq_false b])
    · conv => whnf
      exact Fin.tmpB (i := 4) rfl rfl (by rw [decide_eq_true b])
  obtain ⟨r, h, rfl⟩ := key
  exact h
end
end Go.Proofs.YtehajklneljbgaaGreatDoor.AB
end

section
set_option linter.unusedVariables false
set_option linter.unusedSimpArgs false
open Go Go.Ab Go.Proofs Go.Vl
namespace Go.Proofs.YtehajklneljbgaaGreatDoor.AB
set_option maxRecDepth 100000
set_option maxHeartbeats 8000000
set_option linter.unusedSimpArgs false
set_option linter.unusedVariables false
section
variable {ext : Exts}
/-- the rows of an order say f of these values -/
def Rows (ext : Exts) (o : Nat) (l : List T) : Prop := ∀ a ∈ l, ∀ b ∈ l, RowE ext o a b (ordF ext o a b)
theorem lisS (hn : Non ext) (o : Nat) (h5 : o ≤ 5) (l : List T) (hl : l.length ≤ 65536) (hw : Rows ext o l) (Q : Ex → St → Prop) :
    ∀ (i : Nat) (z : St), i < l.length → Has z.t [(0, .sl false (encL l) l.length), (1, rowOf o), (5, .int .i64 i)] → z.hp.n = 5 → (∀ (j : Nat) (h : j + 1 < l.length), i ≤ j → ¬ ordF ext o l[j + 1] l[j] < 0) →
      (∀ z' : St, z'.t 4 = .bool false → ¬ Srt (ordF ext o) l → Q .ret z') →
      (∀ z' : St, Srt (ordF ext o) l → Q (.exit 0) z') →
      Go.Ab.Loop (cfg ext) (lpOf Tryz.f29) 5 z Q := by
  intro i
  induction i with
  | zero =>
    intro z hi ht hz hk hr hq
    rw [St.knows _ _ ht hz]
    refine Loop.round ?_
    conv => whnf
    exact hq _ (fun j h => hk j h (by omega))
  | succ i ih =>
    intro z hi ht hz hk hr hq
    have g : decide (((i + 1 : Nat) : Int) > 0) = true := decide_eq_true (by omega)
    have e2 : IntKind.i64.wrap (((i + 1 : Nat) : Int) - 1) = (i : Int) := by rw [IntKind.wrap_i64]; omega
    have hE := hw _ (List.getElem_mem hi) _ (List.getElem_mem (show i < l.length by omega))
    have hb : (0 : Int) ≤ ((i + 1 : Nat) : Int) ∧ ((i + 1 : Nat) : Int) < (l.length : Int) := ⟨by omega, by omega⟩
    have hb2 : (0 : Int) ≤ IntKind.i64.wrap (((i + 1 : Nat) : Int) - 1) ∧ IntKind.i64.wrap (((i + 1 : Nat) : Int) - 1) < (l.length : Int) := by rw [e2]; exact ⟨by omega, by omega⟩
    have e3 : (IntKind.i64.wrap (((i + 1 : Nat) : Int) - 1)).toNat = i := by rw [e2]; rfl
    have hlt3 : (IntKind.i64.wrap (((i + 1 : Nat) : Int) - 1)).toNat < l.length := by rw [e3]; omega
    have e4 : l[(IntKind.i64.wrap (((i + 1 : Nat) : Int) - 1)).toNat] = l[i] := by simp only [e3]
    rw [← e4] at hE
    have hns : ordF ext o l[i + 1] l[(IntKind.i64.wrap (((i + 1 : Nat) : Int) - 1)).toNat] < 0 → ¬ Srt (ordF ext o) l := fun h g => g i hi (by rw [← e4]; exact h)
    have hks : ¬ ordF ext o l[i + 1] l[(IntKind.i64.wrap (((i + 1 : Nat) : Int) - 1)).toNat] < 0 → ∀ (j : Nat) (h : j + 1 < l.length), i ≤ j → ¬ ordF ext o l[j + 1] l[j] < 0 := fun h j hj hij => by
      by_cases e : j = i
      · subst e; rw [← e4]; exact h
      · exact hk j hj (by omega)
    have c6 : o = 0 ∨ o = 1 ∨ o = 2 ∨ o = 3 ∨ o = 4 ∨ o = 5 := by omega
    generalize ordF ext o l[i + 1] l[(IntKind.i64.wrap (((i + 1 : Nat) : Int) - 1)).toNat] = c at hE hns hks
    rw [St.knows _ _ ht hz]
    refine Loop.round ?_
    conv => whnf
    refine sel_yes g ?_
    rcases c6 with rfl | rfl | rfl | rfl | rfl | rfl
    all_goals
      conv => whnf
      refine ⟨hb, ?_⟩
      conv => whnf
      refine ldA (i := i + 1) hi ?_
      conv => whnf
      refine ⟨hb2, ?_⟩
      conv => whnf
      refine ldA (i := (IntKind.i64.wrap (((i + 1 : Nat) : Int) - 1)).toNat) hlt3 ?_
      conv => whnf
      refine ⟨_, hE, ?_⟩
      conv => whnf
      refine sel_split (fun h => ?_) (fun h => ?_)
      · conv => whnf
        exact hr _ rfl (hns (of_decide_eq_true h))
      · conv => whnf
        refine ih _ (by omega) ⟨rfl, rfl, ?_, trivial⟩ rfl (hks (of_decide_eq_false h)) hr hq
        conv => lhs; whnf
        exact vi e2
open Classical in
theorem tisS (hn : Non ext) (o : Nat) (h5 : o ≤ 5) (l : List T) (hl : l.length ≤ 65536) (hw : Rows ext o l) : (cfg ext).Ev 29 [.sl false (encL l) l.length, rowOf o] (.bool (decide (Srt (ordF ext o) l))) := by
  have key : ∃ r, (cfg ext).Ev 29 [.sl false (encL l) l.length, rowOf o] r ∧ r = .bool (decide (Srt (ordF ext o) l)) := by
    refine Ev.ofF (hn 29 (by decide) (by decide)) Tryz.func29 rfl rfl ?_
    conv => whnf
    by_cases h0 : l = []
    · subst h0
      refine Loop.round ?_
      conv => whnf
      exact Fin.tmpB (i := 4) rfl rfl (by rw [decide_eq_true (show Srt (ordF ext o) [] from fun j h => by simp at h)])
    · have hlen : 0 < l.length := List.length_pos_iff.2 h0
      refine lisS hn o h5 l hl hw _ (l.length - 1) _ (by omega) ⟨rfl, rfl, ?_, trivial⟩ rfl (fun j h hj => by omega) (fun z a b => ?_) (fun z b => ?_)
      · conv => lhs; whnf
        exact vi (by rw [IntKind.wrap_i64]; omega)
      · exact Fin.tmpB (i := 4) rfl a (by rw [decide_eq_false b])
      · conv => whnf
        exact Fin.tmpB (i := 4) rfl rfl (by rw [decide_eq_true b])
  obtain ⟨r, h, rfl⟩ := key
  exact h
/-- how the middle is told -/
def midZ (i j : Nat) : Int := IntKind.i64.wrap (Int.fdiv (IntKind.u64.wrap (IntKind.i64.wrap ((i : Int) + (j : Int)))) (2 ^ (min (1 : Int).toNat IntKind.u64.bits)))
theorem midZ_is {i j : Nat} (h : i + j ≤ 131072) : midZ i j = ((i + j) / 2 : Nat) := by
  unfold midZ
  have e1 : IntKind.i64.wrap ((i : Int) + (j : Int)) = ((i + j : Nat) : Int) := by rw [IntKind.wrap_i64]; omega
  have e2 : IntKind.u64.wrap ((i + j : Nat) : Int) = ((i + j : Nat) : Int) := by rw [IntKind.wrap_u64]; omega
  rw [e1, e2]
  rw [show (2 ^ (min (1 : Int).toNat IntKind.u64.bits) : Int) = 2 from rfl, Int.fdiv_eq_ediv_of_nonneg _ (by omega), IntKind.wrap_i64]
  omega
def box4 (v : T) : Bx := .cells [.int .i64 v.f0, .int .i64 v.f1, .str v.f2, .sl false (encL v.f3) v.f3.length] false
/-- so many stand ahead -/
def Ahd (f : T → T → Int) (l : List T) (v : T) (p : Nat) : Prop := p ≤ l.length ∧ (∀ (k : Nat) (h : k < l.length), k < p → f l[k] v < 0) ∧ (∀ (k : Nat) (h : k < l.length), p ≤ k → ¬ f l[k] v < 0)
theorem srt_le {f : T → T → Int} (hf : Line f) {l : List T} (hw : ∀ a ∈ l, Shp a) (hs : Srt f l) : ∀ (d i : Nat) (h : i + d < l.length), f l[i] l[i + d] ≤ 0
  | 0, i, h => by have := (hf.2.1 l[i] l[i] (hw _ (List.getElem_mem _)) (hw _ (List.getElem_mem _))).2 rfl; simp only [Nat.add_zero]; omega
  | d + 1, i, h => by
    have h1 := srt_le hf hw hs d i (by omega)
    have h2 := hs (i + d) (by omega)
    have h3 := hf.1 l[i + d] l[i + d + 1]
    exact hf.2.2.1 _ _ _ (hw _ (List.getElem_mem _)) (hw _ (List.getElem_mem (by omega))) (hw _ (List.getElem_mem _)) h1 (show f l[i + d] l[i + d + 1] ≤ 0 by omega)
theorem ahd_down {f : T → T → Int} (hf : Line f) {l : List T} (hw : ∀ a ∈ l, Shp a) (hs : Srt f l) {v : T} (hv : Shp v) {m : Nat} (hm : m < l.length) (h : f l[m] v < 0) {k : Nat} (hk : k ≤ m) : f (l[k]'(by omega)) v < 0 := by
  obtain ⟨d, rfl⟩ := Nat.exists_eq_add_of_le hk
  have h1 := srt_le hf hw hs d k hm
  by_cases hc : f (l[k]'(by omega)) v < 0
  · exact hc
  · have h2 := hf.1 (l[k]'(by omega)) v
    have h3 := hf.2.2.1 v _ _ hv (hw _ (List.getElem_mem (show k < l.length by omega))) (hw _ (List.getElem_mem hm)) (by omega) h1
    have h4 := hf.1 l[k + d] v
    omega
theorem ahd_up {f : T → T → Int} (hf : Line f) {l : List T} (hw : ∀ a ∈ l, Shp a) (hs : Srt f l) {v : T} (hv : Shp v) {m : Nat} (hm : m < l.length) (h : ¬ f l[m] v < 0) {k : Nat} (hl : k < l.length) (hk : m ≤ k) : ¬ f l[k] v < 0 :=
  fun hc => h (ahd_down hf hw hs hv hl hc hk)
theorem ahd_one {f : T → T → Int} {l : List T} {v : T} {p q : Nat} (h1 : Ahd f l v p) (h2 : Ahd f l v q) : p = q := by
  rcases Nat.lt_trichotomy p q with h | h | h
  · exact absurd (h2.2.1 p (by have := h2.1; omega) h) (h1.2.2 p (by have := h2.1; omega) (Nat.le_refl _))
  · exact h
  · exact absurd (h1.2.1 q (by have := h1.1; omega) h) (h2.2.2 q (by have := h1.1; omega) (Nat.le_refl _))
theorem lbin (hn : Non ext) (o : Nat) (h5 : o ≤ 5) (l : List T) (hl : l.length ≤ 65536) (v : T) (hw : ∀ a ∈ l, RowE ext o a v (ordF ext o a v)) (hsh : ∀ a ∈ l, Shp a) (hv : Shp v) (hs : Srt (ordF ext o) l) (Q : Ex → St → Prop) (d : Nat) :
    ∀ (i j : Nat) (z : St), j - i ≤ d → i ≤ j → j ≤ l.length → Has z.t [(0, .sl false (encL l) l.length), (2, rowOf o), (4, .ref 0 0), (8, .int .i64 l.length), (9, .int .i64 i), (10, .int .i64 j)] → Has z.hp.h [(0, some (box4 v))] → z.hp.n = 9 →
      (∀ (k : Nat) (h : k < l.length), k < i → ordF ext o l[k] v < 0) → (∀ (k : Nat) (h : k < l.length), j ≤ k → ¬ ordF ext o l[k] v < 0) →
      (∀ (z' : St) (p : Nat), Has z'.t [(0, .sl false (encL l) l.length), (2, rowOf o), (4, .ref 0 0), (8, .int .i64 l.length), (9, .int .i64 p)] → Has z'.hp.h [(0, some (box4 v))] → z'.hp.n = 12 → Ahd (ordF ext o) l v p → Q (.exit 0) z') →
      Go.Ab.Loop (cfg ext) (lpOf Tryz.f30) 9 z Q := by
  induction d with
  | zero =>
    intro i j z hd hij hj ht hh hz k1 k2 hq
    obtain rfl : i = j := by omega
    have g : decide ((i : Int) < (i : Int)) = false := decide_eq_false (by omega)
    have c6 : o = 0 ∨ o = 1 ∨ o = 2 ∨ o = 3 ∨ o = 4 ∨ o = 5 := by omega
    rw [St.knows _ _ ht hz _ hh]
    refine Loop.round ?_
    conv => whnf
    refine sel_no g ?_
    conv => whnf
    exact hq _ i ⟨rfl, rfl, rfl, rfl, rfl, trivial⟩ ⟨rfl, trivial⟩ rfl ⟨by omega, k1, k2⟩
  | succ d ih =>
    intro i j z hd hij hj ht hh hz k1 k2 hq
    by_cases he : i = j
    · subst he
      exact ih i i z (by omega) hij hj ht hh hz k1 k2 hq
    have g : decide ((i : Int) < (j : Int)) = true := decide_eq_true (by omega)
    have em := midZ_is (i := i) (j := j) (by omega)
    have hb : (0 : Int) ≤ midZ i j ∧ midZ i j < (l.length : Int) := by rw [em]; exact ⟨by omega, by omega⟩
    have en : (midZ i j).toNat = (i + j) / 2 := by rw [em]; rfl
    have hlt : (midZ i j).toNat < l.length := by rw [en]; omega
    have hE := hw _ (List.getElem_mem hlt)
    have e1 : IntKind.i64.wrap (midZ i j + 1) = (((midZ i j).toNat + 1 : Nat) : Int) := by rw [en, em, IntKind.wrap_i64]; omega
    have e2 : midZ i j = (((midZ i j).toNat : Nat) : Int) := by rw [en, em]
    have d1 : ordF ext o l[(midZ i j).toNat] v < 0 → ∀ (k : Nat) (h : k < l.length), k < (midZ i j).toNat + 1 → ordF ext o l[k] v < 0 := fun h k hk hlk => ahd_down (ord_line o) hsh hs hv hlt h (by omega)
    have d2 : ¬ ordF ext o l[(midZ i j).toNat] v < 0 → ∀ (k : Nat) (h : k < l.length), (midZ i j).toNat ≤ k → ¬ ordF ext o l[k] v < 0 := fun h k hk hlk => ahd_up (ord_line o) hsh hs hv hlt h hk hlk
    have b1 : (midZ i j).toNat < j := by rw [en]; omega
    have b2 : i ≤ (midZ i j).toNat := by rw [en]; omega
    have c6 : o = 0 ∨ o = 1 ∨ o = 2 ∨ o = 3 ∨ o = 4 ∨ o = 5 := by omega
    generalize ordF ext o l[(midZ i j).toNat] v = c at hE d1 d2
    rw [St.knows _ _ ht hz _ hh]
    refine Loop.round ?_
    conv => whnf
    refine sel_yes g ?_
    rcases c6 with rfl | rfl | rfl | rfl | rfl | rfl
    all_goals
      conv => whnf
      refine ⟨hb, ?_⟩
      conv => whnf
      refine ldA (i := (midZ i j).toNat) hlt ?_
      conv => whnf
      refine ⟨_, hE, ?_⟩
      conv => whnf
      refine sel_split (fun h => ?_) (fun h => ?_)
      · conv => whnf
        refine ih ((midZ i j).toNat + 1) j _ (by omega) (by omega) hj ⟨rfl, rfl, rfl, rfl, ?_, rfl, trivial⟩ ⟨rfl, trivial⟩ rfl (d1 (of_decide_eq_true h)) k2 hq
        conv => lhs; whnf
        exact vi e1
      · conv => whnf
        refine ih i (midZ i j).toNat _ (by omega) (by omega) (by omega) ⟨rfl, rfl, rfl, rfl, rfl, ?_, trivial⟩ ⟨rfl, trivial⟩ rfl k1 (d2 (of_decide_eq_false h)) hq
        conv => lhs; whnf
        exact vi e2
end
end Go.Proofs.YtehajklneljbgaaGreatDoor.AB
end

section
set_option linter.unusedVariables false
set_option linter.unusedSimpArgs false
open Go Go.Ab Go.Proofs Go.Vl
namespace Go.Proofs.YtehajklneljbgaaGreatDoor.AB
set_option maxRecDepth 100000
set_option maxHeartbeats 8000000
set_option linter.unusedSimpArgs false
set_option linter.unusedVariables false
section
variable {ext : Exts}
theorem shp_ok {v : T} (h : okB v = true) : Shp v := shp_of v (okB_iff.1 h).1
noncomputable def hereB (ext : Exts) (o : Int) (l : List T) (v : T) (p : Nat) : Bool := match l[p]? with | some a => ordF ext o a v == 0 | none => false
theorem tbin (hn : Non ext) (o : Nat) (h5 : o ≤ 5) (l : List T) (hl : l.length ≤ 65536) (v : T) (hw : ∀ a ∈ l, RowE ext o a v (ordF ext o a v)) (hsh : ∀ a ∈ l, Shp a) (hv : Shp v) (hs : Srt (ordF ext o) l) :
    ∃ p, Ahd (ordF ext o) l v p ∧ (cfg ext).Ev 30 [.sl false (encL l) l.length, A v, rowOf o] (.tup [.int .i64 p, .bool (hereB ext o l v p)]) := by
  have key : ∃ r, (cfg ext).Ev 30 [.sl false (encL l) l.length, A v, rowOf o] r ∧ ∃ p : Nat, Ahd (ordF ext o) l v p ∧ r = .tup [.int .i64 p, .bool (hereB ext o l v p)] := by
    refine Ev.ofF (hn 30 (by decide) (by decide)) Tryz.func30 rfl rfl ?_
    conv => whnf
    refine lbin hn o h5 l hl v hw hsh hv hs _ l.length 0 l.length _ (by omega) (by omega) (by omega) ⟨rfl, rfl, rfl, rfl, rfl, rfl, trivial⟩ ⟨rfl, trivial⟩ rfl (fun k h hk => by omega) (fun k h hk => by omega) (fun z p a b c hp => ?_)
    have c6 : o = 0 ∨ o = 1 ∨ o = 2 ∨ o = 3 ∨ o = 4 ∨ o = 5 := by omega
    by_cases hlt : p < l.length
    · have g : decide ((p : Int) < (l.length : Int)) = true := decide_eq_true (by omega)
      have g' : (decide ((p : Int) < (l.length : Int)) == true) = true := by rw [g]; rfl
      have hE := hw _ (List.getElem_mem hlt)
      have hb : (0 : Int) ≤ (p : Int) ∧ (p : Int) < (l.length : Int) := ⟨by omega, by omega⟩
      have hh : hereB ext o l v p = (ordF ext o l[p] v == 0) := by unfold hereB; rw [List.getElem?_eq_getElem hlt]
      generalize ordF ext o l[p] v = x at hE hh
      rw [St.knows _ _ a c _ b]
      conv => whnf
      rcases c6 with rfl | rfl | rfl | rfl | rfl | rfl
      all_goals
        refine sel_yes g' ?_
        conv => whnf
        refine sel_yes g' ?_
        conv => whnf
        refine sel_yes g' ?_
        conv => whnf
        refine sel_yes g' ?_
        conv => whnf
        refine ⟨hb, ?_⟩
        conv => whnf
        refine sel_yes g' ?_
        conv => whnf
        refine ldA (i := p) hlt ?_
        conv => whnf
        refine sel_yes g' ?_
        conv => whnf
        refine sel_yes g' ?_
        conv => whnf
        refine ⟨_, hE, ?_⟩
        conv => whnf
        refine sel_yes g' ?_
        conv => whnf
        refine sel_yes g ?_
        conv => whnf
        exact Fin.of_eq (v := .tup [.int .i64 p, .bool (x == 0)]) rfl ⟨p, hp, by rw [hh]⟩
    · have g : decide ((p : Int) < (l.length : Int)) = false := decide_eq_false (by omega)
      have g' : (decide ((p : Int) < (l.length : Int)) == true) = false := by rw [g]; rfl
      have hh : hereB ext o l v p = false := by unfold hereB; rw [List.getElem?_eq_none (by omega)]
      rw [St.knows _ _ a c _ b]
      conv => whnf
      repeat (first
        | (refine sel_yes ?_ ?_; (first | assumption | (simp only [beq_iff_eq, bne_iff_ne, beq_eq_false_iff_ne, bne_eq_false_iff_eq, decide_eq_true_eq, decide_eq_false_iff_not, Bool.not_eq_true', Bool.not_eq_false', ne_eq, beq_true, beq_false, bne_self_eq_false, not_true_eq_false, not_false_eq_true, gt_iff_lt, ge_iff_le, Int.not_lt, Int.not_le, Bool.true_eq_false, Bool.false_eq_true] <;> omega)); conv => whnf)
        | (refine sel_no ?_ ?_; (first | assumption | (simp only [beq_iff_eq, bne_iff_ne, beq_eq_false_iff_ne, bne_eq_false_iff_eq, decide_eq_true_eq, decide_eq_false_iff_not, Bool.not_eq_true', Bool.not_eq_false', ne_eq, beq_true, beq_false, bne_self_eq_false, not_true_eq_false, not_false_eq_true, gt_iff_lt, ge_iff_le, Int.not_lt, Int.not_le, Bool.true_eq_false, Bool.false_eq_true] <;> omega)); conv => whnf)
        | (refine ⟨le_rfl' ?_, ?_⟩; rfl; conv => whnf)
        | (refine ⟨⟨?_, ?_⟩, ?_⟩; omega; omega; conv => whnf)
        | (refine ⟨⟨?_, ?_, ?_⟩, ?_⟩; rfl; omega; omega; conv => whnf)
        | (refine ⟨rfl, ?_, ?_⟩; decide; conv => whnf))
      try exact rfl
      exact Fin.of_eq (v := .tup [.int .i64 p, .bool false]) rfl ⟨p, hp, by rw [hh]⟩
  obtain ⟨r, h, p, hp, rfl⟩ := key
  exact ⟨p, hp, h⟩
theorem lplace (hn : Non ext) (o : Int) (h0 : 0 ≤ o) (h5 : o ≤ 5) (l : List T) (hl : l.length ≤ 65536) (v : T) (hw : ∀ a ∈ l, WfV a ∧ okB a = true) (hv : WfV v) (ov : okB v = true) (hs : Srt (ordF ext o) l) (Q : Ex → St → Prop) (d : Nat) :
    ∀ (n : Nat) (z : St), l.length - n = d → n ≤ l.length → Has z.t [(0, .int .i64 o), (1, .sl false (encL l) l.length), (5, .ref 0 0), (10, .int .i64 n)] → Has z.hp.h [(0, some (box4 v))] → z.hp.n = 18 →
      (∀ (k : Nat) (h : k < l.length), k < n → ordF ext o l[k] v < 0) →
      (∀ (z' : St) (p : Nat), Has z'.t [(1, .sl false (encL l) l.length), (5, .ref 0 0), (10, .int .i64 p)] → Has z'.hp.h [(0, some (box4 v))] → z'.hp.n = 32 → Ahd (ordF ext o) l v p → Q (.exit 0) z') →
      Go.Ab.Loop (cfg ext) (lpOf Tryz.f11) 18 z Q := by
  induction d with
  | zero =>
    intro n z hd hn' ht hh hz hk hq
    have g : decide ((n : Int) < (l.length : Int)) = false := decide_eq_false (by omega)
    have g' : (decide ((n : Int) < (l.length : Int)) == true) = false := by rw [g]; rfl
    rw [St.knows _ _ ht hz _ hh]
    refine Loop.round ?_
    conv => whnf
    repeat (first
      | (refine sel_yes ?_ ?_; (first | assumption | (simp only [beq_iff_eq, bne_iff_ne, beq_eq_false_iff_ne, bne_eq_false_iff_eq, decide_eq_true_eq, decide_eq_false_iff_not, Bool.not_eq_true', Bool.not_eq_false', ne_eq, beq_true, beq_false, bne_self_eq_false, not_true_eq_false, not_false_eq_true, gt_iff_lt, ge_iff_le, Int.not_lt, Int.not_le, Bool.true_eq_false, Bool.false_eq_true] <;> omega)); conv => whnf)
      | (refine sel_no ?_ ?_; (first | assumption | (simp only [beq_iff_eq, bne_iff_ne, beq_eq_false_iff_ne, bne_eq_false_iff_eq, decide_eq_true_eq, decide_eq_false_iff_not, Bool.not_eq_true', Bool.not_eq_false', ne_eq, beq_true, beq_false, bne_self_eq_false, not_true_eq_false, not_false_eq_true, gt_iff_lt, ge_iff_le, Int.not_lt, Int.not_le, Bool.true_eq_false, Bool.false_eq_true] <;> omega)); conv => whnf)
      | (refine ⟨le_rfl' ?_, ?_⟩; rfl; conv => whnf)
      | (refine ⟨⟨?_, ?_⟩, ?_⟩; omega; omega; conv => whnf)
      | (refine ⟨⟨?_, ?_, ?_⟩, ?_⟩; rfl; omega; omega; conv => whnf)
      | (refine ⟨rfl, ?_, ?_⟩; decide; conv => whnf))
    try exact rfl
    exact hq _ n ⟨rfl, rfl, rfl, trivial⟩ ⟨rfl, trivial⟩ rfl ⟨hn', hk, fun k h h' => by omega⟩
  | succ d ih =>
    intro n z hd hn' ht hh hz hk hq
    have hlt : n < l.length := by omega
    have g : decide ((n : Int) < (l.length : Int)) = true := decide_eq_true (by omega)
    have g' : (decide ((n : Int) < (l.length : Int)) == true) = true := by rw [g]; rfl
    have w1 := hw _ (List.getElem_mem hlt)
    have hE := rord hn o h0 h5 l[n] v w1.1 hv w1.2 ov
    have hb : (0 : Int) ≤ (n : Int) ∧ (n : Int) < (l.length : Int) := ⟨by omega, by omega⟩
    have e1 : IntKind.i64.wrap ((n : Int) + 1) = ((n + 1 : Nat) : Int) := wrapN (by omega) (by omega)
    have k1 : ordF ext o l[n] v < 0 → ∀ (k : Nat) (h : k < l.length), k < n + 1 → ordF ext o l[k] v < 0 := fun h k hkl hkn => by
      by_cases e : k = n
      · subst e; exact h
      · exact hk k hkl (by omega)
    have k2 : ¬ ordF ext o l[n] v < 0 → Ahd (ordF ext o) l v n := fun h => ⟨hn', hk, fun k hkl hkn => ahd_up (ord_line o) (fun a ha => shp_ok (hw a ha).2) hs (shp_ok ov) hlt h hkl hkn⟩
    generalize ordF ext o l[n] v = x at hE k1 k2
    rw [St.knows _ _ ht hz _ hh]
    refine Loop.round ?_
    conv => whnf
    refine sel_yes g' ?_
    conv => whnf
    refine sel_yes g' ?_
    conv => whnf
    refine sel_yes g' ?_
    conv => whnf
    refine sel_yes g' ?_
    conv => whnf
    refine ⟨hb, ?_⟩
    conv => whnf
    refine sel_yes g' ?_
    conv => whnf
    refine ldA (i := n) hlt ?_
    conv => whnf
    refine sel_yes g' ?_
    conv => whnf
    refine sel_yes g' ?_
    conv => whnf
    refine ⟨_, hE, ?_⟩
    conv => whnf
    refine sel_yes g' ?_
    conv => whnf
    refine sel_yes g ?_
    conv => whnf
    refine sel_split (fun h => ?_) (fun h => ?_)
    · conv => whnf
      refine ih (n + 1) _ (by omega) (by omega) ⟨rfl, rfl, rfl, ?_, trivial⟩ ⟨rfl, trivial⟩ rfl (k1 (of_decide_eq_true h)) hq
      conv => lhs; whnf
      exact vi e1
    · conv => whnf
      exact hq _ n ⟨rfl, rfl, rfl, trivial⟩ ⟨rfl, trivial⟩ rfl (k2 (of_decide_eq_false h))
theorem rsame (hn : Non ext) (a b : T) (ha : WfV a) : (cfg ext).Ev 33 [A a, A b] (.bool (cmpV a b == 0)) := by
  have h1 := rcmp hn a ha b
  have key : ∃ r, (cfg ext).Ev 33 [A a, A b] r ∧ r = .bool (cmpV a b == 0) := by
    refine Ev.ofE (hn 33 (by decide) (by decide)) Tryz.func33 rfl rfl ?_
    conv => whnf
    refine ⟨_, h1, ?_⟩
    conv => whnf
    try exact rfl
  obtain ⟨r, h, rfl⟩ := key
  exact h
end
end Go.Proofs.YtehajklneljbgaaGreatDoor.AB
end

section
set_option linter.unusedVariables false
set_option linter.unusedSimpArgs false
open Go Go.Ab Go.Proofs Go.Vl
namespace Go.Proofs.YtehajklneljbgaaGreatDoor.AB
set_option maxRecDepth 100000
set_option maxHeartbeats 8000000
set_option linter.unusedSimpArgs false
set_option linter.unusedVariables false
section
variable {ext : Exts}
/-- what both say -/
inductive PlaceR (ext : Exts) (o : Int) (l : List T) (v : T) : V → Prop where
  | bad (e : Int) (h : listedZ l = e) (h0 : e ≠ 0) : PlaceR ext o l v (.tup [.int .i64 0, .bool false, .int .i64 e])
  | val (h : listedZ l = 0) (hv : okB v = false) : PlaceR ext o l v (.tup [.int .i64 0, .bool false, .int .i64 3])
  | arg (h : listedZ l = 0) (hv : okB v = true) (hs : ¬ Srt (ordF ext o) l) : PlaceR ext o l v (.tup [.int .i64 0, .bool false, .int .i64 1])
  | ok (p : Nat) (h : listedZ l = 0) (hv : okB v = true) (hs : Srt (ordF ext o) l) (hp : Ahd (ordF ext o) l v p) : PlaceR ext o l v (.tup [.int .i64 p, .bool (hereB ext o l v p), .int .i64 0])
open Classical in
theorem pplace (hn : Non ext) (h26 : E26 ext) (h73 : E73 ext) (o : Nat) (h5 : o ≤ 5) (l : List T) (hw : ∀ a ∈ l, WfV a) (v : T) (hv : WfV v) :
    ∃ r, (cfg ext).Ev 10 [.int .i64 o, .sl false (encL l) l.length, A v] r ∧ PlaceR ext o l v r := by
  have hL := plisted hn h26 h73 o h5 l hw
  have hc := t22 hn h26 h73 v hv
  refine Ev.ofF (hn 10 (by decide) (by decide)) Tryz.func10 rfl rfl ?_
  have c6 : o = 0 ∨ o = 1 ∨ o = 2 ∨ o = 3 ∨ o = 4 ∨ o = 5 := by omega
  by_cases hz : listedZ l = 0
  · have hok := listed_ok hz
    rw [hz] at hL
    cases ov : okB v with
    | false =>
      rw [ov, if_neg (by decide)] at hc
      rcases c6 with rfl | rfl | rfl | rfl | rfl | rfl
      all_goals
        conv => whnf
        refine ⟨_, hL, ?_⟩
        conv => whnf
        refine ⟨_, hc, ?_⟩
        conv => whnf
        exact Fin.of_eq (v := .tup [.int .i64 0, .bool false, .int .i64 3]) rfl (.val hz ov)
    | true =>
      rw [ov, if_pos rfl] at hc
      have rows : Rows ext o l := fun a ha b hb => rowOrd hn h26 h73 o h5 a b (hw a ha) (hw b hb) (hok.2 a ha) (hok.2 b hb)
      have hS := tisS hn o h5 l hok.1 rows
      by_cases hs : Srt (ordF ext o) l
      · rw [decide_eq_true hs] at hS
        obtain ⟨p, hp, hB⟩ := tbin hn o h5 l hok.1 v (fun a ha => rowOrd hn h26 h73 o h5 a v (hw a ha) hv (hok.2 a ha) ov) (fun a ha => shp_ok (hok.2 a ha)) (shp_ok ov) hs
        have fin := PlaceR.ok p hz ov hs hp
        generalize hereB ext o l v p = x at hB fin
        rcases c6 with rfl | rfl | rfl | rfl | rfl | rfl
        all_goals
          conv => whnf
          refine ⟨_, hL, ?_⟩
          conv => whnf
          refine ⟨_, hc, ?_⟩
          conv => whnf
          refine ⟨_, hS, ?_⟩
          conv => whnf
          refine ⟨_, hB, ?_⟩
          conv => whnf
          exact Fin.of_eq (v := .tup [.int .i64 p, .bool x, .int .i64 0]) rfl fin
      · rw [decide_eq_false hs] at hS
        rcases c6 with rfl | rfl | rfl | rfl | rfl | rfl
        all_goals
          conv => whnf
          refine ⟨_, hL, ?_⟩
          conv => whnf
          refine ⟨_, hc, ?_⟩
          conv => whnf
          refine ⟨_, hS, ?_⟩
          conv => whnf
          exact Fin.of_eq (v := .tup [.int .i64 0, .bool false, .int .i64 1]) rfl (.arg hz ov hs)
  · have fin := PlaceR.bad (ext := ext) (o := o) (v := v) _ rfl hz
    generalize listedZ l = e at hL hz fin
    rcases c6 with rfl | rfl | rfl | rfl | rfl | rfl
    all_goals
      conv => whnf
      refine ⟨_, hL, ?_⟩
      conv => whnf
      refine sel_no (by simpa using hz) ?_
      conv => whnf
      refine sel_yes (by simpa using hz) ?_
      conv => whnf
      exact Fin.of_eq (v := .tup [.int .i64 0, .bool false, .int .i64 e]) rfl fin
theorem same_here (o : Int) (a v : T) (ha : Shp a) (hv : Shp v) : (cmpV a v == 0) = (ordF ext o a v == 0) := by
  rw [Bool.eq_iff_iff, beq_iff_eq, beq_iff_eq, cmpV_eq ha hv, (ord_line (ext := ext) o).2.1 a v ha hv]
open Classical in
theorem rplace (hn : Non ext) (o : Int) (h0 : 0 ≤ o) (h5 : o ≤ 5) (l : List T) (hl : l.length ≤ 9223372036854775807) (hw : ∀ a ∈ l, WfV a) (v : T) (hv : WfV v) :
    ∃ r, (cfg ext).Ev 11 [.int .i64 o, .sl false (encL l) l.length, A v] r ∧ PlaceR ext o l v r := by
  have hL := rfit hn o l ⟨h0, h5⟩ hl hw
  have hc := rright hn v hv
  refine Ev.ofF (hn 11 (by decide) (by decide)) Tryz.func11 rfl rfl ?_
  conv => whnf
  refine ⟨_, hL, ?_⟩
  by_cases hz : listedZ l = 0
  · have hok := listed_ok hz
    have hwo : ∀ a ∈ l, WfV a ∧ okB a = true := fun a ha => ⟨hw a ha, hok.2 a ha⟩
    rw [hz]
    conv => whnf
    refine ⟨_, hc, ?_⟩
    cases ov : okB v with
    | false =>
      conv => whnf
      exact Fin.of_eq (v := .tup [.int .i64 0, .bool false, .int .i64 3]) rfl (.val hz ov)
    | true =>
      conv => whnf
      refine ⟨_, rin hn o h0 h5 l hok.1 hwo, ?_⟩
      by_cases hs : Srt (ordF ext o) l
      · rw [decide_eq_true hs]
        conv => whnf
        refine lplace hn o h0 h5 l hok.1 v hwo hv ov hs _ l.length 0 _ rfl (by omega) ⟨rfl, rfl, rfl, rfl, trivial⟩ ⟨rfl, trivial⟩ rfl (fun k h hk => by omega) (fun z p a b c hp => ?_)
        have fin := PlaceR.ok p hz ov hs hp
        by_cases hlt : p < l.length
        · have g : decide ((p : Int) < (l.length : Int)) = true := decide_eq_true (by omega)
          have g' : (decide ((p : Int) < (l.length : Int)) == true) = true := by rw [g]; rfl
          have hE := rsame hn l[p] v (hw _ (List.getElem_mem hlt))
          have hb : (0 : Int) ≤ (p : Int) ∧ (p : Int) < (l.length : Int) := ⟨by omega, by omega⟩
          have hh : hereB ext o l v p = (cmpV l[p] v == 0) := by unfold hereB; rw [List.getElem?_eq_getElem hlt, same_here o _ _ (shp_ok (hok.2 _ (List.getElem_mem hlt))) (shp_ok ov)]
          rw [hh] at fin
          generalize (cmpV l[p] v == 0) = x at hE fin
          rw [St.knows _ _ a c _ b]
          conv => whnf
          refine sel_yes g' ?_
          conv => whnf
          refine sel_yes g' ?_
          conv => whnf
          refine sel_yes g' ?_
          conv => whnf
          refine ⟨hb, ?_⟩
          conv => whnf
          refine sel_yes g' ?_
          conv => whnf
          refine ldA (i := p) hlt ?_
          conv => whnf
          refine sel_yes g' ?_
          conv => whnf
          refine sel_yes g' ?_
          conv => whnf
          refine ⟨_, hE, ?_⟩
          conv => whnf
          refine sel_yes g ?_
          conv => whnf
          exact Fin.of_eq (v := .tup [.int .i64 p, .bool x, .int .i64 0]) rfl fin
        · have g : decide ((p : Int) < (l.length : Int)) = false := decide_eq_false (by omega)
          have g' : (decide ((p : Int) < (l.length : Int)) == true) = false := by rw [g]; rfl
          have hh : hereB ext o l v p = false := by unfold hereB; rw [List.getElem?_eq_none (by omega)]
          rw [hh] at fin
          rw [St.knows _ _ a c _ b]
          conv => whnf
          repeat (first
            | (refine sel_yes ?_ ?_; (first | assumption | (simp only [beq_iff_eq, bne_iff_ne, beq_eq_false_iff_ne, bne_eq_false_iff_eq, decide_eq_true_eq, decide_eq_false_iff_not, Bool.not_eq_true', Bool.not_eq_false', ne_eq, beq_true, beq_false, bne_self_eq_false, not_true_eq_false, not_false_eq_true, gt_iff_lt, ge_iff_le, Int.not_lt, Int.not_le, Bool.true_eq_false, Bool.false_eq_true] <;> omega)); conv => whnf)
            | (refine sel_no ?_ ?_; (first | assumption | (simp only [beq_iff_eq, bne_iff_ne, beq_eq_false_iff_ne, bne_eq_false_iff_eq, decide_eq_true_eq, decide_eq_false_iff_not, Bool.not_eq_true', Bool.not_eq_false', ne_eq, beq_true, beq_false, bne_self_eq_false, not_true_eq_false, not_false_eq_true, gt_iff_lt, ge_iff_le, Int.not_lt, Int.not_le, Bool.true_eq_false, Bool.false_eq_true] <;> omega)); conv => whnf)
            | (refine ⟨le_rfl' ?_, ?_⟩; rfl; conv => whnf)
            | (refine ⟨⟨?_, ?_⟩, ?_⟩; omega; omega; conv => whnf)
            | (refine ⟨⟨?_, ?_, ?_⟩, ?_⟩; rfl; omega; omega; conv => whnf)
            | (refine ⟨rfl, ?_, ?_⟩; decide; conv => whnf))
          try exact rfl
          exact Fin.of_eq (v := .tup [.int .i64 p, .bool false, .int .i64 0]) rfl fin
      · rw [decide_eq_false hs]
        conv => whnf
        exact Fin.of_eq (v := .tup [.int .i64 0, .bool false, .int .i64 1]) rfl (.arg hz ov hs)
  · have fin := PlaceR.bad (ext := ext) (o := o) (v := v) _ rfl hz
    generalize listedZ l = e at hz fin
    conv => whnf
    refine sel_yes (by simpa using hz) ?_
    conv => whnf
    exact Fin.of_eq (v := .tup [.int .i64 0, .bool false, .int .i64 e]) rfl fin
theorem placeK (hn : Non ext) (o : Int) (ho : o < 0 ∨ o > 5) (l : List T) (v : T) : (cfg ext).Ev 10 [.int .i64 o, .sl false (encL l) l.length, A v] (.tup [.int .i64 0, .bool false, .int .i64 4]) ∧ (cfg ext).Ev 11 [.int .i64 o, .sl false (encL l) l.length, A v] (.tup [.int .i64 0, .bool false, .int .i64 4]) := by
  refine ⟨?_, ?_⟩
  · refine Ev.of (hn 10 (by decide) (by decide)) Tryz.func10 rfl rfl ?_
    conv => whnf
    refine ⟨_, t11x hn o ho _ _, ?_⟩
    conv => whnf
    try exact rfl
  · refine Ev.of (hn 11 (by decide) (by decide)) Tryz.func11 rfl rfl ?_
    conv => whnf
    refine ⟨_, rfitK hn o l (by omega), ?_⟩
    conv => whnf
    try exact rfl
theorem place_one {o : Int} {l : List T} {v : T} {r r' : V} (h : PlaceR ext o l v r) (h' : PlaceR ext o l v r') : r = r' := by
  cases h with
  | bad e h h0 => cases h' with
    | bad e' h2 h3 => rw [← h, ← h2]
    | val h2 h3 => omega
    | arg h2 h3 h4 => omega
    | ok p h2 h3 h4 h5 => omega
  | val h0 h1 => cases h' with
    | bad e' h2 h3 => omega
    | val h2 h3 => rfl
    | arg h2 h3 h4 => rw [h1] at h3; cases h3
    | ok p h2 h3 h4 h5 => rw [h1] at h3; cases h3
  | arg h0 h1 hs => cases h' with
    | bad e' h2 h3 => omega
    | val h2 h3 => rw [h1] at h3; cases h3
    | arg h2 h3 h4 => rfl
    | ok p h2 h3 h4 h5 => exact absurd h4 hs
  | ok p h0 h1 hs hp => cases h' with
    | bad e' h2 h3 => omega
    | val h2 h3 => rw [h1] at h3; cases h3
    | arg h2 h3 h4 => exact absurd hs h4
    | ok p h2 h3 h4 h5 => rw [ahd_one hp h5]
theorem place_form {o : Int} {l : List T} {v : T} {r : V} (h : PlaceR ext o l v r) : ∃ (p : Int) (x : Bool) (e : Int), r = .tup [.int .i64 p, .bool x, .int .i64 e] := by
  cases h <;> exact ⟨_, _, _, rfl⟩
end
theorem OrderPlaces_ev (o : Int) (_ : In64 o) (l : List T) (hl : l.length ≤ 9223372036854775807) (hw : ∀ a ∈ l, WfV a) (v : T) (hv : WfV v) : (cfg ext0).Ev 4 [.int .i64 o, .sl false (encL l) l.length, A v] (.bool true) := by
  obtain ⟨p, x, e, h1, h2⟩ : ∃ (p : Int) (x : Bool) (e : Int), (cfg ext0).Ev 10 [.int .i64 o, .sl false (encL l) l.length, A v] (.tup [.int .i64 p, .bool x, .int .i64 e]) ∧ (cfg ext0).Ev 11 [.int .i64 o, .sl false (encL l) l.length, A v] (.tup [.int .i64 p, .bool x, .int .i64 e]) := by
    by_cases ho : o < 0 ∨ o > 5
    · have h := placeK non0 o ho l v
      exact ⟨_, _, _, h.1, h.2⟩
    · obtain ⟨k, rfl⟩ : ∃ k : Nat, o = k := ⟨o.toNat, by omega⟩
      obtain ⟨r, h1, h2⟩ := pplace non0 e26 e73 k (by omega) l hw v hv
      obtain ⟨r', h3, h4⟩ := rplace non0 k (by omega) (by omega) l hl hw v hv
      rw [← place_one h2 h4] at h3
      obtain ⟨p, x, e, rfl⟩ := place_form h2
      exact ⟨p, x, e, h1, h3⟩
  refine Ev.of rfl Tryz.func4 rfl rfl ?_
  have gp : (p == p) = true := by simp
  have ge : (e == e) = true := by simp
  have gx : (x == x) = true := by simp
  conv => whnf
  refine ⟨_, h1, ?_⟩
  conv => whnf
  refine ⟨_, h2, ?_⟩
  conv => whnf
  repeat (first
    | (refine sel_yes ?_ ?_; (first | assumption | (simp only [beq_iff_eq, bne_iff_ne, beq_eq_false_iff_ne, bne_eq_false_iff_eq, decide_eq_true_eq, decide_eq_false_iff_not, Bool.not_eq_true', Bool.not_eq_false', ne_eq, beq_true, beq_false, bne_self_eq_false, not_true_eq_false, not_false_eq_true, gt_iff_lt, ge_iff_le, Int.not_lt, Int.not_le, Bool.true_eq_false, Bool.false_eq_true] <;> omega)); conv => whnf)
    | (refine sel_no ?_ ?_; (first | assumption | (simp only [beq_iff_eq, bne_iff_ne, beq_eq_false_iff_ne, bne_eq_false_iff_eq, decide_eq_true_eq, decide_eq_false_iff_not, Bool.not_eq_true', Bool.not_eq_false', ne_eq, beq_true, beq_false, bne_self_eq_false, not_true_eq_false, not_false_eq_true, gt_iff_lt, ge_iff_le, Int.not_lt, Int.not_le, Bool.true_eq_false, Bool.false_eq_true] <;> omega)); conv => whnf)
    | (refine ⟨_, t6, ?_⟩; conv => whnf)
    | (refine ⟨le_rfl' ?_, ?_⟩; rfl; conv => whnf)
    | (refine ⟨⟨?_, ?_⟩, ?_⟩; omega; omega; conv => whnf)
    | (refine ⟨⟨?_, ?_, ?_⟩, ?_⟩; rfl; omega; omega; conv => whnf)
    | (refine ⟨rfl, ?_, ?_⟩; decide; conv => whnf))
  try exact rfl
end Go.Proofs.YtehajklneljbgaaGreatDoor.AB
end
