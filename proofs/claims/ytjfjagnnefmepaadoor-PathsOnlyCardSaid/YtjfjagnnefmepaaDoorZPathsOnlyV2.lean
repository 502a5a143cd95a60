/- What PathsOnly is proved with: what the program's functions make of their arguments, by the evaluator. -/
import Derived.Test.YtjfjagnnefmepaaDoorZPathsOnlyV1
import Derived.Test.YtjfjagnnefmepaaDoorZPathsOnlyV0
import Derived.Test.YtjfjagnnefmepaaDoorZPathsOnlyL0
section
set_option linter.unusedVariables false
set_option linter.unusedSimpArgs false
open Go Go.Ab Go.Proofs Go.Vl
namespace Go.Proofs.YtjfjagnnefmepaaDoor.AB
set_option maxRecDepth 100000
set_option maxHeartbeats 16000000
set_option linter.unusedSimpArgs false
section
variable {ext : Exts}
theorem rownLa (hn : Non ext) (k n : Int) (t : ByteArray) (l : List T) (hw : WfV ⟨k, n, t, l⟩) (hl : l.length ≤ 1024) (t0 : t = ⟨#[]⟩) (hk : k = 0) (hn0 : n = 0) (hl0 : l = []) :
    ∃ r, (cfg ext).Ev 81 [A ⟨k, n, t, l⟩] r ∧ r = .bool (propB (PlainV k n t ∧ FormV k l)) := by
  have hc := rcoll hn k
  rw [show decide (k = 4 ∨ k = 5 ∨ k = 6) = false from decide_eq_false (by omega)] at hc
  have h1 : Int.tmod (l.length : Int) 1 = 0 := Int.tmod_one _
  have hte : (!(t.toList == (⟨#[]⟩ : ByteArray).toList)) = false := by rw [t0, beq_self_eq_true]; rfl
  have hteF : ((!(t.toList == (⟨#[]⟩ : ByteArray).toList)) == false) = true := by rw [hte]; rfl
  have hw' := hw
  simp only [WfV] at hw'
  have E : ∀ a ∈ l, ∀ b ∈ l, (cfg ext).Ev 107 [A a, A b] (.int .i64 (cmpV a b)) := fun a ha b _ => rcmpL hn l hw'.2.2.2.2 a ha b
  have hlz : l.length = 0 := by rw [hl0]; rfl
  rw [propB_yes ⟨⟨.inr t0, by omega, by rw [if_neg (by omega), if_neg (by omega)]; omega⟩, by unfold FormV; rw [if_neg (by omega), if_neg (by omega), if_neg (by omega)]; exact hl0⟩]
  refine Ev.ofF (hn 81 (by decide) (by decide)) Tryd.func81 rfl rfl ?_
  conv => whnf
  repeat (first
    | (refine sel_yes ?_ ?_; (first | assumption | (simp only [beq_iff_eq, bne_iff_ne, beq_eq_false_iff_ne, bne_eq_false_iff_eq, decide_eq_true_eq, decide_eq_false_iff_not, Bool.not_eq_true', Bool.not_eq_false', ne_eq, beq_true, beq_false, bne_self_eq_false, not_true_eq_false, not_false_eq_true, gt_iff_lt, ge_iff_le, Int.not_lt, Int.not_le, Bool.true_eq_false, Bool.false_eq_true] <;> omega)); conv => whnf)
    | (refine sel_no ?_ ?_; (first | assumption | (simp only [beq_iff_eq, bne_iff_ne, beq_eq_false_iff_ne, bne_eq_false_iff_eq, decide_eq_true_eq, decide_eq_false_iff_not, Bool.not_eq_true', Bool.not_eq_false', ne_eq, beq_true, beq_false, bne_self_eq_false, not_true_eq_false, not_false_eq_true, gt_iff_lt, ge_iff_le, Int.not_lt, Int.not_le, Bool.true_eq_false, Bool.false_eq_true] <;> omega)); conv => whnf)
    | (refine ⟨_, hc, ?_⟩; conv => whnf)
    | (refine ⟨le_rfl' ?_, ?_⟩; rfl; conv => whnf)
    | (refine ⟨⟨?_, ?_⟩, ?_⟩; omega; omega; conv => whnf)
    | (refine ⟨⟨?_, ?_, ?_⟩, ?_⟩; rfl; omega; omega; conv => whnf)
    | (refine ⟨rfl, ?_, ?_⟩; decide; conv => whnf))
  try exact rfl
  refine lown01 k n t l hl E 1 (.inl rfl) _ _ l.length 1 _ (by omega) (by omega) (by decide) (by decide) ⟨rfl, rfl, rfl, trivial⟩ ⟨rfl, trivial⟩ rfl (fun z a b => absurd (fun j _ _ h4 _ => by omega) b) (fun z b => ?_)
  conv => whnf
  exact ⟨rfl⟩
theorem rownMa (hn : Non ext) (k n : Int) (t : ByteArray) (l : List T) (hw : WfV ⟨k, n, t, l⟩) (hl : l.length ≤ 1024) (t0 : t = ⟨#[]⟩) (hk : k = 0) (hn0 : n = 0) (hpos : 0 < l.length) :
    ∃ r, (cfg ext).Ev 81 [A ⟨k, n, t, l⟩] r ∧ r = .bool (propB (PlainV k n t ∧ FormV k l)) := by
  have hc := rcoll hn k
  rw [show decide (k = 4 ∨ k = 5 ∨ k = 6) = false from decide_eq_false (by omega)] at hc
  have h1 : Int.tmod (l.length : Int) 1 = 0 := Int.tmod_one _
  have hte : (!(t.toList == (⟨#[]⟩ : ByteArray).toList)) = false := by rw [t0, beq_self_eq_true]; rfl
  have hteF : ((!(t.toList == (⟨#[]⟩ : ByteArray).toList)) == false) = true := by rw [hte]; rfl
  have hw' := hw
  simp only [WfV] at hw'
  have E : ∀ a ∈ l, ∀ b ∈ l, (cfg ext).Ev 107 [A a, A b] (.int .i64 (cmpV a b)) := fun a ha b _ => rcmpL hn l hw'.2.2.2.2 a ha b
  rw [propB_no (fun h => by have := h.2; unfold FormV at this; rw [if_neg (by omega), if_neg (by omega), if_neg (by omega)] at this; rw [this] at hpos; simp at hpos)]
  refine Ev.ofF (hn 81 (by decide) (by decide)) Tryd.func81 rfl rfl ?_
  conv => whnf
  repeat (first
    | (refine sel_yes ?_ ?_; (first | assumption | (simp only [beq_iff_eq, bne_iff_ne, beq_eq_false_iff_ne, bne_eq_false_iff_eq, decide_eq_true_eq, decide_eq_false_iff_not, Bool.not_eq_true', Bool.not_eq_false', ne_eq, beq_true, beq_false, bne_self_eq_false, not_true_eq_false, not_false_eq_true, gt_iff_lt, ge_iff_le, Int.not_lt, Int.not_le, Bool.true_eq_false, Bool.false_eq_true] <;> omega)); conv => whnf)
    | (refine sel_no ?_ ?_; (first | assumption | (simp only [beq_iff_eq, bne_iff_ne, beq_eq_false_iff_ne, bne_eq_false_iff_eq, decide_eq_true_eq, decide_eq_false_iff_not, Bool.not_eq_true', Bool.not_eq_false', ne_eq, beq_true, beq_false, bne_self_eq_false, not_true_eq_false, not_false_eq_true, gt_iff_lt, ge_iff_le, Int.not_lt, Int.not_le, Bool.true_eq_false, Bool.false_eq_true] <;> omega)); conv => whnf)
    | (refine ⟨_, hc, ?_⟩; conv => whnf)
    | (refine ⟨le_rfl' ?_, ?_⟩; rfl; conv => whnf)
    | (refine ⟨⟨?_, ?_⟩, ?_⟩; omega; omega; conv => whnf)
    | (refine ⟨⟨?_, ?_, ?_⟩, ?_⟩; rfl; omega; omega; conv => whnf)
    | (refine ⟨rfl, ?_, ?_⟩; decide; conv => whnf))
  try exact rfl
  exact ⟨rfl⟩
theorem rownLb (hn : Non ext) (k n : Int) (t : ByteArray) (l : List T) (hw : WfV ⟨k, n, t, l⟩) (hl : l.length ≤ 1024) (t0 : t = ⟨#[]⟩) (hk : k = 1) (hn0 : n = 0) (hl0 : l = []) :
    ∃ r, (cfg ext).Ev 81 [A ⟨k, n, t, l⟩] r ∧ r = .bool (propB (PlainV k n t ∧ FormV k l)) := by
  have hc := rcoll hn k
  rw [show decide (k = 4 ∨ k = 5 ∨ k = 6) = false from decide_eq_false (by omega)] at hc
  have h1 : Int.tmod (l.length : Int) 1 = 0 := Int.tmod_one _
  have hte : (!(t.toList == (⟨#[]⟩ : ByteArray).toList)) = false := by rw [t0, beq_self_eq_true]; rfl
  have hteF : ((!(t.toList == (⟨#[]⟩ : ByteArray).toList)) == false) = true := by rw [hte]; rfl
  have hw' := hw
  simp only [WfV] at hw'
  have E : ∀ a ∈ l, ∀ b ∈ l, (cfg ext).Ev 107 [A a, A b] (.int .i64 (cmpV a b)) := fun a ha b _ => rcmpL hn l hw'.2.2.2.2 a ha b
  have hlz : l.length = 0 := by rw [hl0]; rfl
  rw [propB_yes ⟨⟨.inr t0, .inl hk, by rw [if_pos hk]; omega⟩, by unfold FormV; rw [if_neg (by omega), if_neg (by omega), if_neg (by omega)]; exact hl0⟩]
  refine Ev.ofF (hn 81 (by decide) (by decide)) Tryd.func81 rfl rfl ?_
  conv => whnf
  repeat (first
    | (refine sel_yes ?_ ?_; (first | assumption | (simp only [beq_iff_eq, bne_iff_ne, beq_eq_false_iff_ne, bne_eq_false_iff_eq, decide_eq_true_eq, decide_eq_false_iff_not, Bool.not_eq_true', Bool.not_eq_false', ne_eq, beq_true, beq_false, bne_self_eq_false, not_true_eq_false, not_false_eq_true, gt_iff_lt, ge_iff_le, Int.not_lt, Int.not_le, Bool.true_eq_false, Bool.false_eq_true] <;> omega)); conv => whnf)
    | (refine sel_no ?_ ?_; (first | assumption | (simp only [beq_iff_eq, bne_iff_ne, beq_eq_false_iff_ne, bne_eq_false_iff_eq, decide_eq_true_eq, decide_eq_false_iff_not, Bool.not_eq_true', Bool.not_eq_false', ne_eq, beq_true, beq_false, bne_self_eq_false, not_true_eq_false, not_false_eq_true, gt_iff_lt, ge_iff_le, Int.not_lt, Int.not_le, Bool.true_eq_false, Bool.false_eq_true] <;> omega)); conv => whnf)
    | (refine ⟨_, hc, ?_⟩; conv => whnf)
    | (refine ⟨le_rfl' ?_, ?_⟩; rfl; conv => whnf)
    | (refine ⟨⟨?_, ?_⟩, ?_⟩; omega; omega; conv => whnf)
    | (refine ⟨⟨?_, ?_, ?_⟩, ?_⟩; rfl; omega; omega; conv => whnf)
    | (refine ⟨rfl, ?_, ?_⟩; decide; conv => whnf))
  try exact rfl
  refine lown01 k n t l hl E 1 (.inl rfl) _ _ l.length 1 _ (by omega) (by omega) (by decide) (by decide) ⟨rfl, rfl, rfl, trivial⟩ ⟨rfl, trivial⟩ rfl (fun z a b => absurd (fun j _ _ h4 _ => by omega) b) (fun z b => ?_)
  conv => whnf
  exact ⟨rfl⟩
theorem rownMb (hn : Non ext) (k n : Int) (t : ByteArray) (l : List T) (hw : WfV ⟨k, n, t, l⟩) (hl : l.length ≤ 1024) (t0 : t = ⟨#[]⟩) (hk : k = 1) (hn0 : n = 0) (hpos : 0 < l.length) :
    ∃ r, (cfg ext).Ev 81 [A ⟨k, n, t, l⟩] r ∧ r = .bool (propB (PlainV k n t ∧ FormV k l)) := by
  have hc := rcoll hn k
  rw [show decide (k = 4 ∨ k = 5 ∨ k = 6) = false from decide_eq_false (by omega)] at hc
  have h1 : Int.tmod (l.length : Int) 1 = 0 := Int.tmod_one _
  have hte : (!(t.toList == (⟨#[]⟩ : ByteArray).toList)) = false := by rw [t0, beq_self_eq_true]; rfl
  have hteF : ((!(t.toList == (⟨#[]⟩ : ByteArray).toList)) == false) = true := by rw [hte]; rfl
  have hw' := hw
  simp only [WfV] at hw'
  have E : ∀ a ∈ l, ∀ b ∈ l, (cfg ext).Ev 107 [A a, A b] (.int .i64 (cmpV a b)) := fun a ha b _ => rcmpL hn l hw'.2.2.2.2 a ha b
  rw [propB_no (fun h => by have := h.2; unfold FormV at this; rw [if_neg (by omega), if_neg (by omega), if_neg (by omega)] at this; rw [this] at hpos; simp at hpos)]
  refine Ev.ofF (hn 81 (by decide) (by decide)) Tryd.func81 rfl rfl ?_
  conv => whnf
  repeat (first
    | (refine sel_yes ?_ ?_; (first | assumption | (simp only [beq_iff_eq, bne_iff_ne, beq_eq_false_iff_ne, bne_eq_false_iff_eq, decide_eq_true_eq, decide_eq_false_iff_not, Bool.not_eq_true', Bool.not_eq_false', ne_eq, beq_true, beq_false, bne_self_eq_false, not_true_eq_false, not_false_eq_true, gt_iff_lt, ge_iff_le, Int.not_lt, Int.not_le, Bool.true_eq_false, Bool.false_eq_true] <;> omega)); conv => whnf)
    | (refine sel_no ?_ ?_; (first | assumption | (simp only [beq_iff_eq, bne_iff_ne, beq_eq_false_iff_ne, bne_eq_false_iff_eq, decide_eq_true_eq, decide_eq_false_iff_not, Bool.not_eq_true', Bool.not_eq_false', ne_eq, beq_true, beq_false, bne_self_eq_false, not_true_eq_false, not_false_eq_true, gt_iff_lt, ge_iff_le, Int.not_lt, Int.not_le, Bool.true_eq_false, Bool.false_eq_true] <;> omega)); conv => whnf)
    | (refine ⟨_, hc, ?_⟩; conv => whnf)
    | (refine ⟨le_rfl' ?_, ?_⟩; rfl; conv => whnf)
    | (refine ⟨⟨?_, ?_⟩, ?_⟩; omega; omega; conv => whnf)
    | (refine ⟨⟨?_, ?_, ?_⟩, ?_⟩; rfl; omega; omega; conv => whnf)
    | (refine ⟨rfl, ?_, ?_⟩; decide; conv => whnf))
  try exact rfl
  exact ⟨rfl⟩
theorem rownLc (hn : Non ext) (k n : Int) (t : ByteArray) (l : List T) (hw : WfV ⟨k, n, t, l⟩) (hl : l.length ≤ 1024) (t0 : t = ⟨#[]⟩) (hk : k = 1) (hn0 : n = 1) (hl0 : l = []) :
    ∃ r, (cfg ext).Ev 81 [A ⟨k, n, t, l⟩] r ∧ r = .bool (propB (PlainV k n t ∧ FormV k l)) := by
  have hc := rcoll hn k
  rw [show decide (k = 4 ∨ k = 5 ∨ k = 6) = false from decide_eq_false (by omega)] at hc
  have h1 : Int.tmod (l.length : Int) 1 = 0 := Int.tmod_one _
  have hte : (!(t.toList == (⟨#[]⟩ : ByteArray).toList)) = false := by rw [t0, beq_self_eq_true]; rfl
  have hteF : ((!(t.toList == (⟨#[]⟩ : ByteArray).toList)) == false) = true := by rw [hte]; rfl
  have hw' := hw
  simp only [WfV] at hw'
  have E : ∀ a ∈ l, ∀ b ∈ l, (cfg ext).Ev 107 [A a, A b] (.int .i64 (cmpV a b)) := fun a ha b _ => rcmpL hn l hw'.2.2.2.2 a ha b
  have hlz : l.length = 0 := by rw [hl0]; rfl
  rw [propB_yes ⟨⟨.inr t0, .inl hk, by rw [if_pos hk]; omega⟩, by unfold FormV; rw [if_neg (by omega), if_neg (by omega), if_neg (by omega)]; exact hl0⟩]
  refine Ev.ofF (hn 81 (by decide) (by decide)) Tryd.func81 rfl rfl ?_
  conv => whnf
  repeat (first
    | (refine sel_yes ?_ ?_; (first | assumption | (simp only [beq_iff_eq, bne_iff_ne, beq_eq_false_iff_ne, bne_eq_false_iff_eq, decide_eq_true_eq, decide_eq_false_iff_not, Bool.not_eq_true', Bool.not_eq_false', ne_eq, beq_true, beq_false, bne_self_eq_false, not_true_eq_false, not_false_eq_true, gt_iff_lt, ge_iff_le, Int.not_lt, Int.not_le, Bool.true_eq_false, Bool.false_eq_true] <;> omega)); conv => whnf)
    | (refine sel_no ?_ ?_; (first | assumption | (simp only [beq_iff_eq, bne_iff_ne, beq_eq_false_iff_ne, bne_eq_false_iff_eq, decide_eq_true_eq, decide_eq_false_iff_not, Bool.not_eq_true', Bool.not_eq_false', ne_eq, beq_true, beq_false, bne_self_eq_false, not_true_eq_false, not_false_eq_true, gt_iff_lt, ge_iff_le, Int.not_lt, Int.not_le, Bool.true_eq_false, Bool.false_eq_true] <;> omega)); conv => whnf)
    | (refine ⟨_, hc, ?_⟩; conv => whnf)
    | (refine ⟨le_rfl' ?_, ?_⟩; rfl; conv => whnf)
    | (refine ⟨⟨?_, ?_⟩, ?_⟩; omega; omega; conv => whnf)
    | (refine ⟨⟨?_, ?_, ?_⟩, ?_⟩; rfl; omega; omega; conv => whnf)
    | (refine ⟨rfl, ?_, ?_⟩; decide; conv => whnf))
  try exact rfl
  refine lown01 k n t l hl E 1 (.inl rfl) _ _ l.length 1 _ (by omega) (by omega) (by decide) (by decide) ⟨rfl, rfl, rfl, trivial⟩ ⟨rfl, trivial⟩ rfl (fun z a b => absurd (fun j _ _ h4 _ => by omega) b) (fun z b => ?_)
  conv => whnf
  exact ⟨rfl⟩
theorem rownMc (hn : Non ext) (k n : Int) (t : ByteArray) (l : List T) (hw : WfV ⟨k, n, t, l⟩) (hl : l.length ≤ 1024) (t0 : t = ⟨#[]⟩) (hk : k = 1) (hn0 : n = 1) (hpos : 0 < l.length) :
    ∃ r, (cfg ext).Ev 81 [A ⟨k, n, t, l⟩] r ∧ r = .bool (propB (PlainV k n t ∧ FormV k l)) := by
  have hc := rcoll hn k
  rw [show decide (k = 4 ∨ k = 5 ∨ k = 6) = false from decide_eq_false (by omega)] at hc
  have h1 : Int.tmod (l.length : Int) 1 = 0 := Int.tmod_one _
  have hte : (!(t.toList == (⟨#[]⟩ : ByteArray).toList)) = false := by rw [t0, beq_self_eq_true]; rfl
  have hteF : ((!(t.toList == (⟨#[]⟩ : ByteArray).toList)) == false) = true := by rw [hte]; rfl
  have hw' := hw
  simp only [WfV] at hw'
  have E : ∀ a ∈ l, ∀ b ∈ l, (cfg ext).Ev 107 [A a, A b] (.int .i64 (cmpV a b)) := fun a ha b _ => rcmpL hn l hw'.2.2.2.2 a ha b
  rw [propB_no (fun h => by have := h.2; unfold FormV at this; rw [if_neg (by omega), if_neg (by omega), if_neg (by omega)] at this; rw [this] at hpos; simp at hpos)]
  refine Ev.ofF (hn 81 (by decide) (by decide)) Tryd.func81 rfl rfl ?_
  conv => whnf
  repeat (first
    | (refine sel_yes ?_ ?_; (first | assumption | (simp only [beq_iff_eq, bne_iff_ne, beq_eq_false_iff_ne, bne_eq_false_iff_eq, decide_eq_true_eq, decide_eq_false_iff_not, Bool.not_eq_true', Bool.not_eq_false', ne_eq, beq_true, beq_false, bne_self_eq_false, not_true_eq_false, not_false_eq_true, gt_iff_lt, ge_iff_le, Int.not_lt, Int.not_le, Bool.true_eq_false, Bool.false_eq_true] <;> omega)); conv => whnf)
    | (refine sel_no ?_ ?_; (first | assumption | (simp only [beq_iff_eq, bne_iff_ne, beq_eq_false_iff_ne, bne_eq_false_iff_eq, decide_eq_true_eq, decide_eq_false_iff_not, Bool.not_eq_true', Bool.not_eq_false', ne_eq, beq_true, beq_false, bne_self_eq_false, not_true_eq_false, not_false_eq_true, gt_iff_lt, ge_iff_le, Int.not_lt, Int.not_le, Bool.true_eq_false, Bool.false_eq_true] <;> omega)); conv => whnf)
    | (refine ⟨_, hc, ?_⟩; conv => whnf)
    | (refine ⟨le_rfl' ?_, ?_⟩; rfl; conv => whnf)
    | (refine ⟨⟨?_, ?_⟩, ?_⟩; omega; omega; conv => whnf)
    | (refine ⟨⟨?_, ?_, ?_⟩, ?_⟩; rfl; omega; omega; conv => whnf)
    | (refine ⟨rfl, ?_, ?_⟩; decide; conv => whnf))
  try exact rfl
  exact ⟨rfl⟩
theorem rownLd (hn : Non ext) (k n : Int) (t : ByteArray) (l : List T) (hw : WfV ⟨k, n, t, l⟩) (hl : l.length ≤ 1024) (t0 : t = ⟨#[]⟩) (hk : k = 2) (hl0 : l = []) :
    ∃ r, (cfg ext).Ev 81 [A ⟨k, n, t, l⟩] r ∧ r = .bool (propB (PlainV k n t ∧ FormV k l)) := by
  have hc := rcoll hn k
  rw [show decide (k = 4 ∨ k = 5 ∨ k = 6) = false from decide_eq_false (by omega)] at hc
  have h1 : Int.tmod (l.length : Int) 1 = 0 := Int.tmod_one _
  have hte : (!(t.toList == (⟨#[]⟩ : ByteArray).toList)) = false := by rw [t0, beq_self_eq_true]; rfl
  have hteF : ((!(t.toList == (⟨#[]⟩ : ByteArray).toList)) == false) = true := by rw [hte]; rfl
  have hw' := hw
  simp only [WfV] at hw'
  have E : ∀ a ∈ l, ∀ b ∈ l, (cfg ext).Ev 107 [A a, A b] (.int .i64 (cmpV a b)) := fun a ha b _ => rcmpL hn l hw'.2.2.2.2 a ha b
  have hlz : l.length = 0 := by rw [hl0]; rfl
  rw [propB_yes ⟨⟨.inr t0, by omega, by rw [if_neg (by omega), if_neg (by omega)]; omega⟩, by unfold FormV; rw [if_neg (by omega), if_neg (by omega), if_neg (by omega)]; exact hl0⟩]
  refine Ev.ofF (hn 81 (by decide) (by decide)) Tryd.func81 rfl rfl ?_
  conv => whnf
  repeat (first
    | (refine sel_yes ?_ ?_; (first | assumption | (simp only [beq_iff_eq, bne_iff_ne, beq_eq_false_iff_ne, bne_eq_false_iff_eq, decide_eq_true_eq, decide_eq_false_iff_not, Bool.not_eq_true', Bool.not_eq_false', ne_eq, beq_true, beq_false, bne_self_eq_false, not_true_eq_false, not_false_eq_true, gt_iff_lt, ge_iff_le, Int.not_lt, Int.not_le, Bool.true_eq_false, Bool.false_eq_true] <;> omega)); conv => whnf)
    | (refine sel_no ?_ ?_; (first | assumption | (simp only [beq_iff_eq, bne_iff_ne, beq_eq_false_iff_ne, bne_eq_false_iff_eq, decide_eq_true_eq, decide_eq_false_iff_not, Bool.not_eq_true', Bool.not_eq_false', ne_eq, beq_true, beq_false, bne_self_eq_false, not_true_eq_false, not_false_eq_true, gt_iff_lt, ge_iff_le, Int.not_lt, Int.not_le, Bool.true_eq_false, Bool.false_eq_true] <;> omega)); conv => whnf)
    | (refine ⟨_, hc, ?_⟩; conv => whnf)
    | (refine ⟨le_rfl' ?_, ?_⟩; rfl; conv => whnf)
    | (refine ⟨⟨?_, ?_⟩, ?_⟩; omega; omega; conv => whnf)
    | (refine ⟨⟨?_, ?_, ?_⟩, ?_⟩; rfl; omega; omega; conv => whnf)
    | (refine ⟨rfl, ?_, ?_⟩; decide; conv => whnf))
  try exact rfl
  refine lown01 k n t l hl E 1 (.inl rfl) _ _ l.length 1 _ (by omega) (by omega) (by decide) (by decide) ⟨rfl, rfl, rfl, trivial⟩ ⟨rfl, trivial⟩ rfl (fun z a b => absurd (fun j _ _ h4 _ => by omega) b) (fun z b => ?_)
  conv => whnf
  exact ⟨rfl⟩
theorem rownMd (hn : Non ext) (k n : Int) (t : ByteArray) (l : List T) (hw : WfV ⟨k, n, t, l⟩) (hl : l.length ≤ 1024) (t0 : t = ⟨#[]⟩) (hk : k = 2) (hpos : 0 < l.length) :
    ∃ r, (cfg ext).Ev 81 [A ⟨k, n, t, l⟩] r ∧ r = .bool (propB (PlainV k n t ∧ FormV k l)) := by
  have hc := rcoll hn k
  rw [show decide (k = 4 ∨ k = 5 ∨ k = 6) = false from decide_eq_false (by omega)] at hc
  have h1 : Int.tmod (l.length : Int) 1 = 0 := Int.tmod_one _
  have hte : (!(t.toList == (⟨#[]⟩ : ByteArray).toList)) = false := by rw [t0, beq_self_eq_true]; rfl
  have hteF : ((!(t.toList == (⟨#[]⟩ : ByteArray).toList)) == false) = true := by rw [hte]; rfl
  have hw' := hw
  simp only [WfV] at hw'
  have E : ∀ a ∈ l, ∀ b ∈ l, (cfg ext).Ev 107 [A a, A b] (.int .i64 (cmpV a b)) := fun a ha b _ => rcmpL hn l hw'.2.2.2.2 a ha b
  rw [propB_no (fun h => by have := h.2; unfold FormV at this; rw [if_neg (by omega), if_neg (by omega), if_neg (by omega)] at this; rw [this] at hpos; simp at hpos)]
  refine Ev.ofF (hn 81 (by decide) (by decide)) Tryd.func81 rfl rfl ?_
  conv => whnf
  repeat (first
    | (refine sel_yes ?_ ?_; (first | assumption | (simp only [beq_iff_eq, bne_iff_ne, beq_eq_false_iff_ne, bne_eq_false_iff_eq, decide_eq_true_eq, decide_eq_false_iff_not, Bool.not_eq_true', Bool.not_eq_false', ne_eq, beq_true, beq_false, bne_self_eq_false, not_true_eq_false, not_false_eq_true, gt_iff_lt, ge_iff_le, Int.not_lt, Int.not_le, Bool.true_eq_false, Bool.false_eq_true] <;> omega)); conv => whnf)
    | (refine sel_no ?_ ?_; (first | assumption | (simp only [beq_iff_eq, bne_iff_ne, beq_eq_false_iff_ne, bne_eq_false_iff_eq, decide_eq_true_eq, decide_eq_false_iff_not, Bool.not_eq_true', Bool.not_eq_false', ne_eq, beq_true, beq_false, bne_self_eq_false, not_true_eq_false, not_false_eq_true, gt_iff_lt, ge_iff_le, Int.not_lt, Int.not_le, Bool.true_eq_false, Bool.false_eq_true] <;> omega)); conv => whnf)
    | (refine ⟨_, hc, ?_⟩; conv => whnf)
    | (refine ⟨le_rfl' ?_, ?_⟩; rfl; conv => whnf)
    | (refine ⟨⟨?_, ?_⟩, ?_⟩; omega; omega; conv => whnf)
    | (refine ⟨⟨?_, ?_, ?_⟩, ?_⟩; rfl; omega; omega; conv => whnf)
    | (refine ⟨rfl, ?_, ?_⟩; decide; conv => whnf))
  try exact rfl
  exact ⟨rfl⟩
theorem rownN (hn : Non ext) (k n : Int) (t : ByteArray) (l : List T) (hw : WfV ⟨k, n, t, l⟩) (hl : l.length ≤ 1024) (t0 : t = ⟨#[]⟩) (low : k = 0 ∨ k = 1 ∨ k = 2) (hnk : ¬ (k = 2 ∨ n = 0 ∨ (k = 1 ∧ n = 1))) :
    ∃ r, (cfg ext).Ev 81 [A ⟨k, n, t, l⟩] r ∧ r = .bool (propB (PlainV k n t ∧ FormV k l)) := by
  rw [propB_no (fun h => by have := h.1; unfold PlainV at this; obtain ⟨_, h2, h3⟩ := this; by_cases hk1 : k = 1; rw [if_pos hk1] at h3; omega; omega)]
  refine Ev.ofF (hn 81 (by decide) (by decide)) Tryd.func81 rfl rfl ?_
  conv => whnf
  by_cases hk1 : k = 1
  · repeat (first
      | (refine sel_yes ?_ ?_; (first | assumption | (simp only [beq_iff_eq, bne_iff_ne, beq_eq_false_iff_ne, bne_eq_false_iff_eq, decide_eq_true_eq, decide_eq_false_iff_not, Bool.not_eq_true', Bool.not_eq_false', ne_eq, beq_true, beq_false, bne_self_eq_false, not_true_eq_false, not_false_eq_true, gt_iff_lt, ge_iff_le, Int.not_lt, Int.not_le, Bool.true_eq_false, Bool.false_eq_true] <;> omega)); conv => whnf)
      | (refine sel_no ?_ ?_; (first | assumption | (simp only [beq_iff_eq, bne_iff_ne, beq_eq_false_iff_ne, bne_eq_false_iff_eq, decide_eq_true_eq, decide_eq_false_iff_not, Bool.not_eq_true', Bool.not_eq_false', ne_eq, beq_true, beq_false, bne_self_eq_false, not_true_eq_false, not_false_eq_true, gt_iff_lt, ge_iff_le, Int.not_lt, Int.not_le, Bool.true_eq_false, Bool.false_eq_true] <;> omega)); conv => whnf)
      | (refine ⟨le_rfl' ?_, ?_⟩; rfl; conv => whnf)
      | (refine ⟨⟨?_, ?_⟩, ?_⟩; omega; omega; conv => whnf)
      | (refine ⟨⟨?_, ?_, ?_⟩, ?_⟩; rfl; omega; omega; conv => whnf)
      | (refine ⟨rfl, ?_, ?_⟩; decide; conv => whnf))
    try exact rfl
    exact ⟨rfl⟩
  · repeat (first
      | (refine sel_yes ?_ ?_; (first | assumption | (simp only [beq_iff_eq, bne_iff_ne, beq_eq_false_iff_ne, bne_eq_false_iff_eq, decide_eq_true_eq, decide_eq_false_iff_not, Bool.not_eq_true', Bool.not_eq_false', ne_eq, beq_true, beq_false, bne_self_eq_false, not_true_eq_false, not_false_eq_true, gt_iff_lt, ge_iff_le, Int.not_lt, Int.not_le, Bool.true_eq_false, Bool.false_eq_true] <;> omega)); conv => whnf)
      | (refine sel_no ?_ ?_; (first | assumption | (simp only [beq_iff_eq, bne_iff_ne, beq_eq_false_iff_ne, bne_eq_false_iff_eq, decide_eq_true_eq, decide_eq_false_iff_not, Bool.not_eq_true', Bool.not_eq_false', ne_eq, beq_true, beq_false, bne_self_eq_false, not_true_eq_false, not_false_eq_true, gt_iff_lt, ge_iff_le, Int.not_lt, Int.not_le, Bool.true_eq_false, Bool.false_eq_true] <;> omega)); conv => whnf)
      | (refine ⟨le_rfl' ?_, ?_⟩; rfl; conv => whnf)
      | (refine ⟨⟨?_, ?_⟩, ?_⟩; omega; omega; conv => whnf)
      | (refine ⟨⟨?_, ?_, ?_⟩, ?_⟩; rfl; omega; omega; conv => whnf)
      | (refine ⟨rfl, ?_, ?_⟩; decide; conv => whnf))
    try exact rfl
    exact ⟨rfl⟩
theorem rownL (hn : Non ext) (k n : Int) (t : ByteArray) (l : List T) (hw : WfV ⟨k, n, t, l⟩) (hl : l.length ≤ 1024) (t0 : t = ⟨#[]⟩) (low : k = 0 ∨ k = 1 ∨ k = 2) :
    ∃ r, (cfg ext).Ev 81 [A ⟨k, n, t, l⟩] r ∧ r = .bool (propB (PlainV k n t ∧ FormV k l)) := by
  have hlt0 : l = [] ∨ 0 < l.length := by cases l with | nil => exact .inl rfl | cons a l => exact .inr (by simp)
  by_cases hnk : (k = 2 ∨ n = 0 ∨ (k = 1 ∧ n = 1))
  · rcases hlt0 with h0 | hpos
    · by_cases k2 : k = 2
      · exact rownLd hn k n t l hw hl t0 k2 h0
      by_cases n0 : n = 0
      · by_cases k0 : k = 0
        · exact rownLa hn k n t l hw hl t0 k0 n0 h0
        · exact rownLb hn k n t l hw hl t0 (by omega) n0 h0
      · exact rownLc hn k n t l hw hl t0 (by omega) (by omega) h0
    · by_cases k2 : k = 2
      · exact rownMd hn k n t l hw hl t0 k2 hpos
      by_cases n0 : n = 0
      · by_cases k0 : k = 0
        · exact rownMa hn k n t l hw hl t0 k0 n0 hpos
        · exact rownMb hn k n t l hw hl t0 (by omega) n0 hpos
      · exact rownMc hn k n t l hw hl t0 (by omega) (by omega) hpos
  · exact rownN hn k n t l hw hl t0 low hnk
end
end Go.Proofs.YtjfjagnnefmepaaDoor.AB
end

section
set_option linter.unusedVariables false
set_option linter.unusedSimpArgs false
open Go Go.Ab Go.Proofs Go.Vl
namespace Go.Proofs.YtjfjagnnefmepaaDoor.AB
set_option maxRecDepth 100000
set_option maxHeartbeats 16000000
set_option linter.unusedSimpArgs false
section
variable {ext : Exts}
theorem rownR (hn : Non ext) (k n : Int) (t : ByteArray) (l : List T) (hw : WfV ⟨k, n, t, l⟩) (hl : l.length ≤ 1024) (h : k < 0 ∨ k > 6) :
    ∃ r, (cfg ext).Ev 81 [A ⟨k, n, t, l⟩] r ∧ r = .bool (propB (PlainV k n t ∧ FormV k l)) := by
  have hw' := hw
  simp only [WfV] at hw'
  have E : ∀ a ∈ l, ∀ b ∈ l, (cfg ext).Ev 107 [A a, A b] (.int .i64 (cmpV a b)) := fun a ha b _ => rcmpL hn l hw'.2.2.2.2 a ha b
  refine Ev.ofF (hn 81 (by decide) (by decide)) Tryd.func81 rfl rfl ?_
  conv => whnf
  by_cases k0 : k < 0
  · rw [propB_no (fun h => by have := h.1; unfold PlainV at this; obtain ⟨_, _, h3⟩ := this; rw [if_neg (by omega), if_neg (by omega)] at h3; omega)]
    repeat (first
      | (refine sel_yes ?_ ?_; (first | assumption | (simp only [beq_iff_eq, bne_iff_ne, beq_eq_false_iff_ne, bne_eq_false_iff_eq, decide_eq_true_eq, decide_eq_false_iff_not, Bool.not_eq_true', Bool.not_eq_false', ne_eq, beq_true, beq_false, bne_self_eq_false, not_true_eq_false, not_false_eq_true, gt_iff_lt, ge_iff_le, Int.not_lt, Int.not_le, Bool.true_eq_false, Bool.false_eq_true] <;> omega)); conv => whnf)
      | (refine sel_no ?_ ?_; (first | assumption | (simp only [beq_iff_eq, bne_iff_ne, beq_eq_false_iff_ne, bne_eq_false_iff_eq, decide_eq_true_eq, decide_eq_false_iff_not, Bool.not_eq_true', Bool.not_eq_false', ne_eq, beq_true, beq_false, bne_self_eq_false, not_true_eq_false, not_false_eq_true, gt_iff_lt, ge_iff_le, Int.not_lt, Int.not_le, Bool.true_eq_false, Bool.false_eq_true] <;> omega)); conv => whnf)
      | (refine ⟨le_rfl' ?_, ?_⟩; rfl; conv => whnf)
      | (refine ⟨⟨?_, ?_⟩, ?_⟩; omega; omega; conv => whnf)
      | (refine ⟨⟨?_, ?_, ?_⟩, ?_⟩; rfl; omega; omega; conv => whnf)
      | (refine ⟨rfl, ?_, ?_⟩; decide; conv => whnf))
    try exact rfl
    exact ⟨rfl⟩
  by_cases k7 : k > 6
  · rw [propB_no (fun h => by have := h.1; unfold PlainV at this; obtain ⟨_, _, h3⟩ := this; rw [if_neg (by omega), if_neg (by omega)] at h3; omega)]
    repeat (first
      | (refine sel_yes ?_ ?_; (first | assumption | (simp only [beq_iff_eq, bne_iff_ne, beq_eq_false_iff_ne, bne_eq_false_iff_eq, decide_eq_true_eq, decide_eq_false_iff_not, Bool.not_eq_true', Bool.not_eq_false', ne_eq, beq_true, beq_false, bne_self_eq_false, not_true_eq_false, not_false_eq_true, gt_iff_lt, ge_iff_le, Int.not_lt, Int.not_le, Bool.true_eq_false, Bool.false_eq_true] <;> omega)); conv => whnf)
      | (refine sel_no ?_ ?_; (first | assumption | (simp only [beq_iff_eq, bne_iff_ne, beq_eq_false_iff_ne, bne_eq_false_iff_eq, decide_eq_true_eq, decide_eq_false_iff_not, Bool.not_eq_true', Bool.not_eq_false', ne_eq, beq_true, beq_false, bne_self_eq_false, not_true_eq_false, not_false_eq_true, gt_iff_lt, ge_iff_le, Int.not_lt, Int.not_le, Bool.true_eq_false, Bool.false_eq_true] <;> omega)); conv => whnf)
      | (refine ⟨le_rfl' ?_, ?_⟩; rfl; conv => whnf)
      | (refine ⟨⟨?_, ?_⟩, ?_⟩; omega; omega; conv => whnf)
      | (refine ⟨⟨?_, ?_, ?_⟩, ?_⟩; rfl; omega; omega; conv => whnf)
      | (refine ⟨rfl, ?_, ?_⟩; decide; conv => whnf))
    try exact rfl
    exact ⟨rfl⟩
  exact absurd h (by omega)
theorem rown3 (hn : Non ext) (k n : Int) (t : ByteArray) (l : List T) (hw : WfV ⟨k, n, t, l⟩) (hl : l.length ≤ 1024) (k3 : k = 3) :
    ∃ r, (cfg ext).Ev 81 [A ⟨k, n, t, l⟩] r ∧ r = .bool (propB (PlainV k n t ∧ FormV k l)) := by
  have hw' := hw
  simp only [WfV] at hw'
  have E : ∀ a ∈ l, ∀ b ∈ l, (cfg ext).Ev 107 [A a, A b] (.int .i64 (cmpV a b)) := fun a ha b _ => rcmpL hn l hw'.2.2.2.2 a ha b
  refine Ev.ofF (hn 81 (by decide) (by decide)) Tryd.func81 rfl rfl ?_
  conv => whnf
  subst k3
  by_cases n0 : n = 0
  · subst n0
    by_cases hz : t.size ≤ 256
    · have hlt := rletters hn t (by omega)
      have hz' : decide ((t.size : Int) ≤ 256) = true := decide_eq_true (by omega)
      by_cases hu : lettersZ t ≥ 0
      · have hu' : decide (lettersZ t ≥ 0) = true := decide_eq_true hu
        have hub : utfB t = true := by rw [← letters_ok]; exact hu'
        by_cases hl0 : l = []
        · subst hl0
          rw [propB_yes (⟨⟨.inl rfl, .inr (.inr rfl), by rw [if_neg (by decide), if_pos rfl]; exact ⟨hz, hub⟩⟩, by unfold FormV; rw [if_neg (by decide), if_neg (by decide), if_neg (by decide)]⟩)]
          repeat (first
            | (refine sel_yes ?_ ?_; (first | assumption | (simp only [beq_iff_eq, bne_iff_ne, beq_eq_false_iff_ne, bne_eq_false_iff_eq, decide_eq_true_eq, decide_eq_false_iff_not, Bool.not_eq_true', Bool.not_eq_false', ne_eq, beq_true, beq_false, bne_self_eq_false, not_true_eq_false, not_false_eq_true, gt_iff_lt, ge_iff_le, Int.not_lt, Int.not_le, Bool.true_eq_false, Bool.false_eq_true] <;> omega)); conv => whnf)
            | (refine sel_no ?_ ?_; (first | assumption | (simp only [beq_iff_eq, bne_iff_ne, beq_eq_false_iff_ne, bne_eq_false_iff_eq, decide_eq_true_eq, decide_eq_false_iff_not, Bool.not_eq_true', Bool.not_eq_false', ne_eq, beq_true, beq_false, bne_self_eq_false, not_true_eq_false, not_false_eq_true, gt_iff_lt, ge_iff_le, Int.not_lt, Int.not_le, Bool.true_eq_false, Bool.false_eq_true] <;> omega)); conv => whnf)
            | (refine ⟨_, hlt, ?_⟩; conv => whnf)
            | (refine ⟨le_rfl' ?_, ?_⟩; rfl; conv => whnf)
            | (refine ⟨⟨?_, ?_⟩, ?_⟩; omega; omega; conv => whnf)
            | (refine ⟨⟨?_, ?_, ?_⟩, ?_⟩; rfl; omega; omega; conv => whnf)
            | (refine ⟨rfl, ?_, ?_⟩; decide; conv => whnf))
          try exact rfl
          exact ⟨rfl⟩
        · have hl1 : l.length ≠ 0 := fun h => hl0 (List.eq_nil_of_length_eq_zero h)
          rw [propB_no (fun h => by have := h.2; unfold FormV at this; rw [if_neg (by decide), if_neg (by decide), if_neg (by decide)] at this; exact hl0 this)]
          repeat (first
            | (refine sel_yes ?_ ?_; (first | assumption | (simp only [beq_iff_eq, bne_iff_ne, beq_eq_false_iff_ne, bne_eq_false_iff_eq, decide_eq_true_eq, decide_eq_false_iff_not, Bool.not_eq_true', Bool.not_eq_false', ne_eq, beq_true, beq_false, bne_self_eq_false, not_true_eq_false, not_false_eq_true, gt_iff_lt, ge_iff_le, Int.not_lt, Int.not_le, Bool.true_eq_false, Bool.false_eq_true] <;> omega)); conv => whnf)
            | (refine sel_no ?_ ?_; (first | assumption | (simp only [beq_iff_eq, bne_iff_ne, beq_eq_false_iff_ne, bne_eq_false_iff_eq, decide_eq_true_eq, decide_eq_false_iff_not, Bool.not_eq_true', Bool.not_eq_false', ne_eq, beq_true, beq_false, bne_self_eq_false, not_true_eq_false, not_false_eq_true, gt_iff_lt, ge_iff_le, Int.not_lt, Int.not_le, Bool.true_eq_false, Bool.false_eq_true] <;> omega)); conv => whnf)
            | (refine ⟨_, hlt, ?_⟩; conv => whnf)
            | (refine ⟨le_rfl' ?_, ?_⟩; rfl; conv => whnf)
            | (refine ⟨⟨?_, ?_⟩, ?_⟩; omega; omega; conv => whnf)
            | (refine ⟨⟨?_, ?_, ?_⟩, ?_⟩; rfl; omega; omega; conv => whnf)
            | (refine ⟨rfl, ?_, ?_⟩; decide; conv => whnf))
          try exact rfl
          refine ⟨congrArg V.bool ?_⟩
          show ((l.length : Int) == 0) = false
          rw [beq_eq_false_iff_ne]; omega
      · have hu' : decide (lettersZ t ≥ 0) = false := decide_eq_false hu
        have hub : utfB t = false := by rw [← letters_ok]; exact hu'
        rw [propB_no (fun h => by have := h.1; unfold PlainV at this; obtain ⟨_, _, h3⟩ := this; rw [if_neg (by decide), if_pos rfl, hub] at h3; cases h3.2)]
        repeat (first
          | (refine sel_yes ?_ ?_; (first | assumption | (simp only [beq_iff_eq, bne_iff_ne, beq_eq_false_iff_ne, bne_eq_false_iff_eq, decide_eq_true_eq, decide_eq_false_iff_not, Bool.not_eq_true', Bool.not_eq_false', ne_eq, beq_true, beq_false, bne_self_eq_false, not_true_eq_false, not_false_eq_true, gt_iff_lt, ge_iff_le, Int.not_lt, Int.not_le, Bool.true_eq_false, Bool.false_eq_true] <;> omega)); conv => whnf)
          | (refine sel_no ?_ ?_; (first | assumption | (simp only [beq_iff_eq, bne_iff_ne, beq_eq_false_iff_ne, bne_eq_false_iff_eq, decide_eq_true_eq, decide_eq_false_iff_not, Bool.not_eq_true', Bool.not_eq_false', ne_eq, beq_true, beq_false, bne_self_eq_false, not_true_eq_false, not_false_eq_true, gt_iff_lt, ge_iff_le, Int.not_lt, Int.not_le, Bool.true_eq_false, Bool.false_eq_true] <;> omega)); conv => whnf)
          | (refine ⟨_, hlt, ?_⟩; conv => whnf)
          | (refine ⟨le_rfl' ?_, ?_⟩; rfl; conv => whnf)
          | (refine ⟨⟨?_, ?_⟩, ?_⟩; omega; omega; conv => whnf)
          | (refine ⟨⟨?_, ?_, ?_⟩, ?_⟩; rfl; omega; omega; conv => whnf)
          | (refine ⟨rfl, ?_, ?_⟩; decide; conv => whnf))
        try exact rfl
        exact ⟨rfl⟩
    · have hz' : decide ((t.size : Int) ≤ 256) = false := decide_eq_false (by omega)
      rw [propB_no (fun h => by have := h.1; unfold PlainV at this; obtain ⟨_, _, h3⟩ := this; rw [if_neg (by decide), if_pos rfl] at h3; exact hz h3.1)]
      repeat (first
        | (refine sel_yes ?_ ?_; (first | assumption | (simp only [beq_iff_eq, bne_iff_ne, beq_eq_false_iff_ne, bne_eq_false_iff_eq, decide_eq_true_eq, decide_eq_false_iff_not, Bool.not_eq_true', Bool.not_eq_false', ne_eq, beq_true, beq_false, bne_self_eq_false, not_true_eq_false, not_false_eq_true, gt_iff_lt, ge_iff_le, Int.not_lt, Int.not_le, Bool.true_eq_false, Bool.false_eq_true] <;> omega)); conv => whnf)
        | (refine sel_no ?_ ?_; (first | assumption | (simp only [beq_iff_eq, bne_iff_ne, beq_eq_false_iff_ne, bne_eq_false_iff_eq, decide_eq_true_eq, decide_eq_false_iff_not, Bool.not_eq_true', Bool.not_eq_false', ne_eq, beq_true, beq_false, bne_self_eq_false, not_true_eq_false, not_false_eq_true, gt_iff_lt, ge_iff_le, Int.not_lt, Int.not_le, Bool.true_eq_false, Bool.false_eq_true] <;> omega)); conv => whnf)
        | (refine ⟨le_rfl' ?_, ?_⟩; rfl; conv => whnf)
        | (refine ⟨⟨?_, ?_⟩, ?_⟩; omega; omega; conv => whnf)
        | (refine ⟨⟨?_, ?_, ?_⟩, ?_⟩; rfl; omega; omega; conv => whnf)
        | (refine ⟨rfl, ?_, ?_⟩; decide; conv => whnf))
      try exact rfl
      exact ⟨rfl⟩
  · rw [propB_no (fun h => by have := h.1; unfold PlainV at this; obtain ⟨_, h2, _⟩ := this; omega)]
    repeat (first
      | (refine sel_yes ?_ ?_; (first | assumption | (simp only [beq_iff_eq, bne_iff_ne, beq_eq_false_iff_ne, bne_eq_false_iff_eq, decide_eq_true_eq, decide_eq_false_iff_not, Bool.not_eq_true', Bool.not_eq_false', ne_eq, beq_true, beq_false, bne_self_eq_false, not_true_eq_false, not_false_eq_true, gt_iff_lt, ge_iff_le, Int.not_lt, Int.not_le, Bool.true_eq_false, Bool.false_eq_true] <;> omega)); conv => whnf)
      | (refine sel_no ?_ ?_; (first | assumption | (simp only [beq_iff_eq, bne_iff_ne, beq_eq_false_iff_ne, bne_eq_false_iff_eq, decide_eq_true_eq, decide_eq_false_iff_not, Bool.not_eq_true', Bool.not_eq_false', ne_eq, beq_true, beq_false, bne_self_eq_false, not_true_eq_false, not_false_eq_true, gt_iff_lt, ge_iff_le, Int.not_lt, Int.not_le, Bool.true_eq_false, Bool.false_eq_true] <;> omega)); conv => whnf)
      | (refine ⟨le_rfl' ?_, ?_⟩; rfl; conv => whnf)
      | (refine ⟨⟨?_, ?_⟩, ?_⟩; omega; omega; conv => whnf)
      | (refine ⟨⟨?_, ?_, ?_⟩, ?_⟩; rfl; omega; omega; conv => whnf)
      | (refine ⟨rfl, ?_, ?_⟩; decide; conv => whnf))
    try exact rfl
    exact ⟨rfl⟩
theorem rownC (hn : Non ext) (k n : Int) (t : ByteArray) (l : List T) (hw : WfV ⟨k, n, t, l⟩) (hl : l.length ≤ 1024) (t0 : t = ⟨#[]⟩) (hi : k = 4 ∨ k = 5 ∨ k = 6) :
    ∃ r, (cfg ext).Ev 81 [A ⟨k, n, t, l⟩] r ∧ r = .bool (propB (PlainV k n t ∧ FormV k l)) := by
  have hw' := hw
  simp only [WfV] at hw'
  have E : ∀ a ∈ l, ∀ b ∈ l, (cfg ext).Ev 107 [A a, A b] (.int .i64 (cmpV a b)) := fun a ha b _ => rcmpL hn l hw'.2.2.2.2 a ha b
  refine Ev.ofF (hn 81 (by decide) (by decide)) Tryd.func81 rfl rfl ?_
  conv => whnf
  have hte : (!(t.toList == (⟨#[]⟩ : ByteArray).toList)) = false := by rw [t0, beq_self_eq_true]; rfl
  have hteF : ((!(t.toList == (⟨#[]⟩ : ByteArray).toList)) == false) = true := by rw [hte]; rfl
  have k3 : ¬ k = 3 := by omega
  have hlt0 : l = [] ∨ 0 < l.length := by cases l with | nil => exact .inl rfl | cons a l => exact .inr (by simp)
  have h1 : Int.tmod (l.length : Int) 1 = 0 := Int.tmod_one _
  have plain (h1 : k = 1 ∨ k = 2 ∨ n = 0) (h2 : k = 1 → n = 0 ∨ n = 1) : PlainV k n t := ⟨.inr t0, h1, by
    split
    · exact h2 ‹_›
    · omega⟩
  · by_cases n0 : n = 0
    · subst n0
      have hpl : PlainV k 0 t := plain (.inr (.inr rfl)) (by omega)
      have hc := rcoll hn k
      rw [show decide (k = 4 ∨ k = 5 ∨ k = 6) = true from decide_eq_true (by omega)] at hc
      rcases (show k = 4 ∨ k = 5 ∨ k = 6 by omega) with rfl | rfl | rfl
      · rw [propB_yes ⟨hpl, by unfold FormV; rw [if_pos rfl]; trivial⟩]
        repeat (first
          | (refine sel_yes ?_ ?_; (first | assumption | (simp only [beq_iff_eq, bne_iff_ne, beq_eq_false_iff_ne, bne_eq_false_iff_eq, decide_eq_true_eq, decide_eq_false_iff_not, Bool.not_eq_true', Bool.not_eq_false', ne_eq, beq_true, beq_false, bne_self_eq_false, not_true_eq_false, not_false_eq_true, gt_iff_lt, ge_iff_le, Int.not_lt, Int.not_le, Bool.true_eq_false, Bool.false_eq_true] <;> omega)); conv => whnf)
          | (refine sel_no ?_ ?_; (first | assumption | (simp only [beq_iff_eq, bne_iff_ne, beq_eq_false_iff_ne, bne_eq_false_iff_eq, decide_eq_true_eq, decide_eq_false_iff_not, Bool.not_eq_true', Bool.not_eq_false', ne_eq, beq_true, beq_false, bne_self_eq_false, not_true_eq_false, not_false_eq_true, gt_iff_lt, ge_iff_le, Int.not_lt, Int.not_le, Bool.true_eq_false, Bool.false_eq_true] <;> omega)); conv => whnf)
          | (refine ⟨_, hc, ?_⟩; conv => whnf)
          | (refine ⟨le_rfl' ?_, ?_⟩; rfl; conv => whnf)
          | (refine ⟨⟨?_, ?_⟩, ?_⟩; omega; omega; conv => whnf)
          | (refine ⟨⟨?_, ?_, ?_⟩, ?_⟩; rfl; omega; omega; conv => whnf)
          | (refine ⟨rfl, ?_, ?_⟩; decide; conv => whnf))
        try exact rfl
        exact ⟨rfl⟩
      · have ef : PlainV 5 0 t ∧ FormV 5 l ↔ RiseF 1 l 1 := by
          rw [rise_F (by decide)]; unfold FormV; rw [if_neg (by decide), if_neg (by decide), if_pos rfl]; exact ⟨fun h => h.2, fun h => ⟨hpl, h⟩⟩
        repeat (first
          | (refine sel_yes ?_ ?_; (first | assumption | (simp only [beq_iff_eq, bne_iff_ne, beq_eq_false_iff_ne, bne_eq_false_iff_eq, decide_eq_true_eq, decide_eq_false_iff_not, Bool.not_eq_true', Bool.not_eq_false', ne_eq, beq_true, beq_false, bne_self_eq_false, not_true_eq_false, not_false_eq_true, gt_iff_lt, ge_iff_le, Int.not_lt, Int.not_le, Bool.true_eq_false, Bool.false_eq_true] <;> omega)); conv => whnf)
          | (refine sel_no ?_ ?_; (first | assumption | (simp only [beq_iff_eq, bne_iff_ne, beq_eq_false_iff_ne, bne_eq_false_iff_eq, decide_eq_true_eq, decide_eq_false_iff_not, Bool.not_eq_true', Bool.not_eq_false', ne_eq, beq_true, beq_false, bne_self_eq_false, not_true_eq_false, not_false_eq_true, gt_iff_lt, ge_iff_le, Int.not_lt, Int.not_le, Bool.true_eq_false, Bool.false_eq_true] <;> omega)); conv => whnf)
          | (refine ⟨_, hc, ?_⟩; conv => whnf)
          | (refine ⟨le_rfl' ?_, ?_⟩; rfl; conv => whnf)
          | (refine ⟨⟨?_, ?_⟩, ?_⟩; omega; omega; conv => whnf)
          | (refine ⟨⟨?_, ?_, ?_⟩, ?_⟩; rfl; omega; omega; conv => whnf)
          | (refine ⟨rfl, ?_, ?_⟩; decide; conv => whnf))
        try exact rfl
        refine lown01 5 0 t l hl E 1 (.inl rfl) _ _ l.length 1 _ (by omega) (by omega) (by decide) (by decide) ⟨rfl, rfl, rfl, trivial⟩ ⟨rfl, trivial⟩ rfl (fun z a b => ?_) (fun z b => ?_)
        · exact Fin.tmpB (i := 2) rfl a (by rw [propB_no (fun h => b (ef.1 h))])
        · rw [propB_yes (ef.2 b)]
          conv => whnf
          exact ⟨rfl⟩
      · by_cases hev : l.length % 2 = 0
        · have h2 : Int.tmod (l.length : Int) 2 = 0 := by rw [Int.tmod_eq_emod_of_nonneg (by omega)]; omega
          have ef : PlainV 6 0 t ∧ FormV 6 l ↔ RiseF 2 l 2 := by
            rw [rise_F (by decide)]; unfold FormV; rw [if_neg (by decide), if_pos rfl]; exact ⟨fun h => h.2.2, fun h => ⟨hpl, hev, h⟩⟩
          repeat (first
            | (refine sel_yes ?_ ?_; (first | assumption | (simp only [beq_iff_eq, bne_iff_ne, beq_eq_false_iff_ne, bne_eq_false_iff_eq, decide_eq_true_eq, decide_eq_false_iff_not, Bool.not_eq_true', Bool.not_eq_false', ne_eq, beq_true, beq_false, bne_self_eq_false, not_true_eq_false, not_false_eq_true, gt_iff_lt, ge_iff_le, Int.not_lt, Int.not_le, Bool.true_eq_false, Bool.false_eq_true] <;> omega)); conv => whnf)
            | (refine sel_no ?_ ?_; (first | assumption | (simp only [beq_iff_eq, bne_iff_ne, beq_eq_false_iff_ne, bne_eq_false_iff_eq, decide_eq_true_eq, decide_eq_false_iff_not, Bool.not_eq_true', Bool.not_eq_false', ne_eq, beq_true, beq_false, bne_self_eq_false, not_true_eq_false, not_false_eq_true, gt_iff_lt, ge_iff_le, Int.not_lt, Int.not_le, Bool.true_eq_false, Bool.false_eq_true] <;> omega)); conv => whnf)
            | (refine ⟨_, hc, ?_⟩; conv => whnf)
            | (refine ⟨le_rfl' ?_, ?_⟩; rfl; conv => whnf)
            | (refine ⟨⟨?_, ?_⟩, ?_⟩; omega; omega; conv => whnf)
            | (refine ⟨⟨?_, ?_, ?_⟩, ?_⟩; rfl; omega; omega; conv => whnf)
            | (refine ⟨rfl, ?_, ?_⟩; decide; conv => whnf))
          try exact rfl
          refine lown01 6 0 t l hl E 2 (.inr rfl) _ _ l.length 2 _ (by omega) (by omega) (by decide) (by decide) ⟨rfl, rfl, rfl, trivial⟩ ⟨rfl, trivial⟩ rfl (fun z a b => ?_) (fun z b => ?_)
          · exact Fin.tmpB (i := 2) rfl a (by rw [propB_no (fun h => b (ef.1 h))])
          · rw [propB_yes (ef.2 b)]
            conv => whnf
            exact ⟨rfl⟩
        · have h2 : Int.tmod (l.length : Int) 2 ≠ 0 := by rw [Int.tmod_eq_emod_of_nonneg (by omega)]; omega
          rw [propB_no (fun h => by have := h.2; unfold FormV at this; rw [if_neg (by decide), if_pos rfl] at this; exact hev this.1)]
          repeat (first
            | (refine sel_yes ?_ ?_; (first | assumption | (simp only [beq_iff_eq, bne_iff_ne, beq_eq_false_iff_ne, bne_eq_false_iff_eq, decide_eq_true_eq, decide_eq_false_iff_not, Bool.not_eq_true', Bool.not_eq_false', ne_eq, beq_true, beq_false, bne_self_eq_false, not_true_eq_false, not_false_eq_true, gt_iff_lt, ge_iff_le, Int.not_lt, Int.not_le, Bool.true_eq_false, Bool.false_eq_true] <;> omega)); conv => whnf)
            | (refine sel_no ?_ ?_; (first | assumption | (simp only [beq_iff_eq, bne_iff_ne, beq_eq_false_iff_ne, bne_eq_false_iff_eq, decide_eq_true_eq, decide_eq_false_iff_not, Bool.not_eq_true', Bool.not_eq_false', ne_eq, beq_true, beq_false, bne_self_eq_false, not_true_eq_false, not_false_eq_true, gt_iff_lt, ge_iff_le, Int.not_lt, Int.not_le, Bool.true_eq_false, Bool.false_eq_true] <;> omega)); conv => whnf)
            | (refine ⟨_, hc, ?_⟩; conv => whnf)
            | (refine ⟨le_rfl' ?_, ?_⟩; rfl; conv => whnf)
            | (refine ⟨⟨?_, ?_⟩, ?_⟩; omega; omega; conv => whnf)
            | (refine ⟨⟨?_, ?_, ?_⟩, ?_⟩; rfl; omega; omega; conv => whnf)
            | (refine ⟨rfl, ?_, ?_⟩; decide; conv => whnf))
          try exact rfl
          exact ⟨rfl⟩
    · rw [propB_no (fun h => by have := h.1; unfold PlainV at this; obtain ⟨_, h2, h3⟩ := this; omega)]
      repeat (first
        | (refine sel_yes ?_ ?_; (first | assumption | (simp only [beq_iff_eq, bne_iff_ne, beq_eq_false_iff_ne, bne_eq_false_iff_eq, decide_eq_true_eq, decide_eq_false_iff_not, Bool.not_eq_true', Bool.not_eq_false', ne_eq, beq_true, beq_false, bne_self_eq_false, not_true_eq_false, not_false_eq_true, gt_iff_lt, ge_iff_le, Int.not_lt, Int.not_le, Bool.true_eq_false, Bool.false_eq_true] <;> omega)); conv => whnf)
        | (refine sel_no ?_ ?_; (first | assumption | (simp only [beq_iff_eq, bne_iff_ne, beq_eq_false_iff_ne, bne_eq_false_iff_eq, decide_eq_true_eq, decide_eq_false_iff_not, Bool.not_eq_true', Bool.not_eq_false', ne_eq, beq_true, beq_false, bne_self_eq_false, not_true_eq_false, not_false_eq_true, gt_iff_lt, ge_iff_le, Int.not_lt, Int.not_le, Bool.true_eq_false, Bool.false_eq_true] <;> omega)); conv => whnf)
        | (refine ⟨le_rfl' ?_, ?_⟩; rfl; conv => whnf)
        | (refine ⟨⟨?_, ?_⟩, ?_⟩; omega; omega; conv => whnf)
        | (refine ⟨⟨?_, ?_, ?_⟩, ?_⟩; rfl; omega; omega; conv => whnf)
        | (refine ⟨rfl, ?_, ?_⟩; decide; conv => whnf))
      try exact rfl
      exact ⟨rfl⟩
theorem rownT (hn : Non ext) (k n : Int) (t : ByteArray) (l : List T) (hw : WfV ⟨k, n, t, l⟩) (hl : l.length ≤ 1024) (t0 : t ≠ ⟨#[]⟩) (k3 : k ≠ 3) (h : ¬ (k < 0 ∨ k > 6)) :
    ∃ r, (cfg ext).Ev 81 [A ⟨k, n, t, l⟩] r ∧ r = .bool (propB (PlainV k n t ∧ FormV k l)) := by
  have hw' := hw
  simp only [WfV] at hw'
  have E : ∀ a ∈ l, ∀ b ∈ l, (cfg ext).Ev 107 [A a, A b] (.int .i64 (cmpV a b)) := fun a ha b _ => rcmpL hn l hw'.2.2.2.2 a ha b
  refine Ev.ofF (hn 81 (by decide) (by decide)) Tryd.func81 rfl rfl ?_
  conv => whnf
  have hte : (!(t.toList == (⟨#[]⟩ : ByteArray).toList)) = true := by
    rw [Bool.not_eq_true', beq_eq_false_iff_ne]
    intro h
    exact t0 (Go.WideShapes.bytes_inj (by rw [ByteArray.toList_eq, ByteArray.toList_eq] at h; exact h))
  have hteF : ((!(t.toList == (⟨#[]⟩ : ByteArray).toList)) == false) = false := by rw [hte]; rfl
  rw [propB_no (fun h => by have := h.1; unfold PlainV at this; obtain ⟨h1, _, _⟩ := this; rcases h1 with h1 | h1; exact k3 h1; exact t0 h1)]
  by_cases k2 : k = 2
  · repeat (first
      | (refine sel_yes ?_ ?_; (first | assumption | (simp only [beq_iff_eq, bne_iff_ne, beq_eq_false_iff_ne, bne_eq_false_iff_eq, decide_eq_true_eq, decide_eq_false_iff_not, Bool.not_eq_true', Bool.not_eq_false', ne_eq, beq_true, beq_false, bne_self_eq_false, not_true_eq_false, not_false_eq_true, gt_iff_lt, ge_iff_le, Int.not_lt, Int.not_le, Bool.true_eq_false, Bool.false_eq_true] <;> omega)); conv => whnf)
      | (refine sel_no ?_ ?_; (first | assumption | (simp only [beq_iff_eq, bne_iff_ne, beq_eq_false_iff_ne, bne_eq_false_iff_eq, decide_eq_true_eq, decide_eq_false_iff_not, Bool.not_eq_true', Bool.not_eq_false', ne_eq, beq_true, beq_false, bne_self_eq_false, not_true_eq_false, not_false_eq_true, gt_iff_lt, ge_iff_le, Int.not_lt, Int.not_le, Bool.true_eq_false, Bool.false_eq_true] <;> omega)); conv => whnf)
      | (refine ⟨le_rfl' ?_, ?_⟩; rfl; conv => whnf)
      | (refine ⟨⟨?_, ?_⟩, ?_⟩; omega; omega; conv => whnf)
      | (refine ⟨⟨?_, ?_, ?_⟩, ?_⟩; rfl; omega; omega; conv => whnf)
      | (refine ⟨rfl, ?_, ?_⟩; decide; conv => whnf))
    try exact rfl
    exact ⟨rfl⟩
  by_cases n0 : n = 0
  · repeat (first
      | (refine sel_yes ?_ ?_; (first | assumption | (simp only [beq_iff_eq, bne_iff_ne, beq_eq_false_iff_ne, bne_eq_false_iff_eq, decide_eq_true_eq, decide_eq_false_iff_not, Bool.not_eq_true', Bool.not_eq_false', ne_eq, beq_true, beq_false, bne_self_eq_false, not_true_eq_false, not_false_eq_true, gt_iff_lt, ge_iff_le, Int.not_lt, Int.not_le, Bool.true_eq_false, Bool.false_eq_true] <;> omega)); conv => whnf)
      | (refine sel_no ?_ ?_; (first | assumption | (simp only [beq_iff_eq, bne_iff_ne, beq_eq_false_iff_ne, bne_eq_false_iff_eq, decide_eq_true_eq, decide_eq_false_iff_not, Bool.not_eq_true', Bool.not_eq_false', ne_eq, beq_true, beq_false, bne_self_eq_false, not_true_eq_false, not_false_eq_true, gt_iff_lt, ge_iff_le, Int.not_lt, Int.not_le, Bool.true_eq_false, Bool.false_eq_true] <;> omega)); conv => whnf)
      | (refine ⟨le_rfl' ?_, ?_⟩; rfl; conv => whnf)
      | (refine ⟨⟨?_, ?_⟩, ?_⟩; omega; omega; conv => whnf)
      | (refine ⟨⟨?_, ?_, ?_⟩, ?_⟩; rfl; omega; omega; conv => whnf)
      | (refine ⟨rfl, ?_, ?_⟩; decide; conv => whnf))
    try exact rfl
    exact ⟨rfl⟩
  by_cases hk1 : k = 1
  · by_cases n1 : n = 1
    · repeat (first
        | (refine sel_yes ?_ ?_; (first | assumption | (simp only [beq_iff_eq, bne_iff_ne, beq_eq_false_iff_ne, bne_eq_false_iff_eq, decide_eq_true_eq, decide_eq_false_iff_not, Bool.not_eq_true', Bool.not_eq_false', ne_eq, beq_true, beq_false, bne_self_eq_false, not_true_eq_false, not_false_eq_true, gt_iff_lt, ge_iff_le, Int.not_lt, Int.not_le, Bool.true_eq_false, Bool.false_eq_true] <;> omega)); conv => whnf)
        | (refine sel_no ?_ ?_; (first | assumption | (simp only [beq_iff_eq, bne_iff_ne, beq_eq_false_iff_ne, bne_eq_false_iff_eq, decide_eq_true_eq, decide_eq_false_iff_not, Bool.not_eq_true', Bool.not_eq_false', ne_eq, beq_true, beq_false, bne_self_eq_false, not_true_eq_false, not_false_eq_true, gt_iff_lt, ge_iff_le, Int.not_lt, Int.not_le, Bool.true_eq_false, Bool.false_eq_true] <;> omega)); conv => whnf)
        | (refine ⟨le_rfl' ?_, ?_⟩; rfl; conv => whnf)
        | (refine ⟨⟨?_, ?_⟩, ?_⟩; omega; omega; conv => whnf)
        | (refine ⟨⟨?_, ?_, ?_⟩, ?_⟩; rfl; omega; omega; conv => whnf)
        | (refine ⟨rfl, ?_, ?_⟩; decide; conv => whnf))
      try exact rfl
      exact ⟨rfl⟩
    · repeat (first
        | (refine sel_yes ?_ ?_; (first | assumption | (simp only [beq_iff_eq, bne_iff_ne, beq_eq_false_iff_ne, bne_eq_false_iff_eq, decide_eq_true_eq, decide_eq_false_iff_not, Bool.not_eq_true', Bool.not_eq_false', ne_eq, beq_true, beq_false, bne_self_eq_false, not_true_eq_false, not_false_eq_true, gt_iff_lt, ge_iff_le, Int.not_lt, Int.not_le, Bool.true_eq_false, Bool.false_eq_true] <;> omega)); conv => whnf)
        | (refine sel_no ?_ ?_; (first | assumption | (simp only [beq_iff_eq, bne_iff_ne, beq_eq_false_iff_ne, bne_eq_false_iff_eq, decide_eq_true_eq, decide_eq_false_iff_not, Bool.not_eq_true', Bool.not_eq_false', ne_eq, beq_true, beq_false, bne_self_eq_false, not_true_eq_false, not_false_eq_true, gt_iff_lt, ge_iff_le, Int.not_lt, Int.not_le, Bool.true_eq_false, Bool.false_eq_true] <;> omega)); conv => whnf)
        | (refine ⟨le_rfl' ?_, ?_⟩; rfl; conv => whnf)
        | (refine ⟨⟨?_, ?_⟩, ?_⟩; omega; omega; conv => whnf)
        | (refine ⟨⟨?_, ?_, ?_⟩, ?_⟩; rfl; omega; omega; conv => whnf)
        | (refine ⟨rfl, ?_, ?_⟩; decide; conv => whnf))
      try exact rfl
      exact ⟨rfl⟩
  · repeat (first
      | (refine sel_yes ?_ ?_; (first | assumption | (simp only [beq_iff_eq, bne_iff_ne, beq_eq_false_iff_ne, bne_eq_false_iff_eq, decide_eq_true_eq, decide_eq_false_iff_not, Bool.not_eq_true', Bool.not_eq_false', ne_eq, beq_true, beq_false, bne_self_eq_false, not_true_eq_false, not_false_eq_true, gt_iff_lt, ge_iff_le, Int.not_lt, Int.not_le, Bool.true_eq_false, Bool.false_eq_true] <;> omega)); conv => whnf)
      | (refine sel_no ?_ ?_; (first | assumption | (simp only [beq_iff_eq, bne_iff_ne, beq_eq_false_iff_ne, bne_eq_false_iff_eq, decide_eq_true_eq, decide_eq_false_iff_not, Bool.not_eq_true', Bool.not_eq_false', ne_eq, beq_true, beq_false, bne_self_eq_false, not_true_eq_false, not_false_eq_true, gt_iff_lt, ge_iff_le, Int.not_lt, Int.not_le, Bool.true_eq_false, Bool.false_eq_true] <;> omega)); conv => whnf)
      | (refine ⟨le_rfl' ?_, ?_⟩; rfl; conv => whnf)
      | (refine ⟨⟨?_, ?_⟩, ?_⟩; omega; omega; conv => whnf)
      | (refine ⟨⟨?_, ?_, ?_⟩, ?_⟩; rfl; omega; omega; conv => whnf)
      | (refine ⟨rfl, ?_, ?_⟩; decide; conv => whnf))
    try exact rfl
    exact ⟨rfl⟩
theorem rown (hn : Non ext) (k n : Int) (t : ByteArray) (l : List T) (hw : WfV ⟨k, n, t, l⟩) (hl : l.length ≤ 1024) :
    (cfg ext).Ev 81 [A ⟨k, n, t, l⟩] (.bool (propB (PlainV k n t ∧ FormV k l))) := by
  have key : ∃ r, (cfg ext).Ev 81 [A ⟨k, n, t, l⟩] r ∧ r = .bool (propB (PlainV k n t ∧ FormV k l)) := by
    by_cases h : k < 0 ∨ k > 6
    · exact rownR hn k n t l hw hl h
    by_cases k3 : k = 3
    · exact rown3 hn k n t l hw hl k3
    by_cases t0 : t = ⟨#[]⟩
    · by_cases low : k = 0 ∨ k = 1 ∨ k = 2
      · exact rownL hn k n t l hw hl t0 low
      · exact rownC hn k n t l hw hl t0 (by omega)
    · exact rownT hn k n t l hw hl t0 k3 h
  obtain ⟨r, h, rfl⟩ := key
  exact h
end
end Go.Proofs.YtjfjagnnefmepaaDoor.AB
end

section
set_option linter.unusedVariables false
set_option linter.unusedSimpArgs false
open Go Go.Ab Go.Proofs Go.Vl
namespace Go.Proofs.YtjfjagnnefmepaaDoor.AB
set_option maxRecDepth 100000
set_option maxHeartbeats 16000000
set_option linter.unusedSimpArgs false
section
variable {ext : Exts}
open Classical in
/-- how many parts a value has that is right below some depth, with at most so many; below 0: it is not -/
noncomputable def fitZ (v : T) (d m : Int) : Int := if OkV v ∧ (deepV v : Int) ≤ d ∧ (partsV v : Int) ≤ m then (partsV v : Int) else -1
def FitE (ext : Exts) (a : T) : Prop := ∀ d m : Int, 0 ≤ d → d ≤ 16 → m ≤ 1024 → -1024 ≤ m → (cfg ext).Ev 59 [A a, .int .i64 d, .int .i64 m] (.int .i64 (fitZ a d m))
theorem fitZ_yes {v : T} {d m : Int} (h : OkV v ∧ (deepV v : Int) ≤ d ∧ (partsV v : Int) ≤ m) : fitZ v d m = partsV v := if_pos h
theorem fitZ_no {v : T} {d m : Int} (h : ¬ (OkV v ∧ (deepV v : Int) ≤ d ∧ (partsV v : Int) ≤ m)) : fitZ v d m = -1 := if_neg h
theorem lfits (k n : Int) (t : ByteArray) (l : List T) (hl : l.length ≤ 1024) (E : ∀ a ∈ l, FitE ext a) (d m : Int) (hd0 : l = [] ∨ 1 ≤ d) (hdp : 0 ≤ d) (hd : d ≤ 16) (hm : m ≤ 1024) (Q : Ex → St → Prop) (f : Nat) :
    ∀ (i : Nat) (c : Nat) (z : St), l.length - i = f → i ≤ l.length → (c : Int) ≤ m → Has z.t [(33, .int .i64 i), (32, .int .i64 l.length), (31, .sl false (encL l) l.length), (7, .int .i64 c), (1, .int .i64 d), (2, .int .i64 m), (3, .ref 0 0)] → Has z.hp.h [(0, some (.cells (encX' k n t l) false))] → z.hp.n = 26 →
      (∀ z' : St, z'.t 6 = .int .i64 (-1) → ¬ (OkL (l.drop i) ∧ (deepL (l.drop i) : Int) ≤ d ∧ (c : Int) + partsL (l.drop i) ≤ m) → Q .ret z') →
      (∀ z' : St, Has z'.t [(7, .int .i64 ((c : Int) + partsL (l.drop i))), (3, .ref 0 0)] → Has z'.hp.h [(0, some (.cells (encX' k n t l) false))] → (OkL (l.drop i) ∧ (deepL (l.drop i) : Int) ≤ d ∧ (c : Int) + partsL (l.drop i) ≤ m) → Q (.exit 0) z') →
      Go.Ab.Loop (cfg ext) (lpOf Tryd.f59) 26 z Q := by
  induction f with
  | zero =>
    intro i c z hf hi hc ht hh hz hr hq
    obtain rfl : i = l.length := by omega
    have g : decide ((l.length : Int) < (l.length : Int)) = false := decide_eq_false (by omega)
    have e : l.drop l.length = [] := List.drop_length
    rw [e] at hq
    rw [St.knows _ _ ht hz _ hh]
    refine Loop.round ?_
    conv => whnf
    repeat (first
      | (refine sel_yes ?_ ?_; (first | assumption | (simp only [beq_iff_eq, bne_iff_ne, beq_eq_false_iff_ne, bne_eq_false_iff_eq, decide_eq_true_eq, decide_eq_false_iff_not, Bool.not_eq_true', Bool.not_eq_false', ne_eq, beq_true, beq_false, bne_self_eq_false, not_true_eq_false, not_false_eq_true, gt_iff_lt, ge_iff_le, Int.not_lt, Int.not_le, Bool.true_eq_false, Bool.false_eq_true] <;> omega)); conv => whnf)
      | (refine sel_no ?_ ?_; (first | assumption | (simp only [beq_iff_eq, bne_iff_ne, beq_eq_false_iff_ne, bne_eq_false_iff_eq, decide_eq_true_eq, decide_eq_false_iff_not, Bool.not_eq_true', Bool.not_eq_false', ne_eq, beq_true, beq_false, bne_self_eq_false, not_true_eq_false, not_false_eq_true, gt_iff_lt, ge_iff_le, Int.not_lt, Int.not_le, Bool.true_eq_false, Bool.false_eq_true] <;> omega)); conv => whnf)
      | (refine ⟨le_rfl' ?_, ?_⟩; rfl; conv => whnf)
      | (refine ⟨⟨?_, ?_⟩, ?_⟩; omega; omega; conv => whnf)
      | (refine ⟨⟨?_, ?_, ?_⟩, ?_⟩; rfl; omega; omega; conv => whnf)
      | (refine ⟨rfl, ?_, ?_⟩; decide; conv => whnf))
    try exact rfl
    refine hq _ ⟨?_, rfl, trivial⟩ ⟨rfl, trivial⟩ ⟨by simp only [OkL], ?_, by simpa [partsL] using hc⟩
    · simp only [partsL]; exact vi (by simp)
    · simp only [deepL]; omega
  | succ f ih =>
    intro i c z hf hi hc ht hh hz hr hq
    have h1 : i < l.length := by omega
    have hd1 : 1 ≤ d := by rcases hd0 with rfl | h; simp at h1; exact h
    have g : decide ((i : Int) < (l.length : Int)) = true := decide_eq_true (by omega)
    have eD := List.drop_eq_getElem_cons h1
    have hw1 : IntKind.i64.wrap (d - 1) = d - 1 := by rw [IntKind.wrap_i64]; omega
    have hw2 : IntKind.i64.wrap (m - (c : Int)) = m - (c : Int) := by rw [IntKind.wrap_i64]; omega
    have hE := E _ (List.getElem_mem h1) (d - 1) (m - (c : Int)) (by omega) (by omega) (by omega) (by omega)
    rw [← hw1, ← hw2] at hE
    rw [eD] at hr hq
    simp only [OkL, deepL, partsL] at hr hq
    by_cases hok : OkV l[i] ∧ (deepV l[i] : Int) ≤ d - 1 ∧ (partsV l[i] : Int) ≤ m - c
    · rw [hw1, hw2, fitZ_yes hok] at hE
      rw [← hw1, ← hw2] at hE
      have hpp := partsV_pos l[i]
      have g2 : decide ((partsV l[i] : Int) < 0) = false := decide_eq_false (by omega)
      have hw3 : IntKind.i64.wrap ((c : Int) + (partsV l[i] : Int)) = ((c + partsV l[i] : Nat) : Int) := by rw [IntKind.wrap_i64]; omega
      rw [St.knows _ _ ht hz _ hh]
      refine Loop.round ?_
      conv => whnf
      repeat (first
        | (refine sel_yes ?_ ?_; (first | assumption | (simp only [beq_iff_eq, bne_iff_ne, beq_eq_false_iff_ne, bne_eq_false_iff_eq, decide_eq_true_eq, decide_eq_false_iff_not, Bool.not_eq_true', Bool.not_eq_false', ne_eq, beq_true, beq_false, bne_self_eq_false, not_true_eq_false, not_false_eq_true, gt_iff_lt, ge_iff_le, Int.not_lt, Int.not_le, Bool.true_eq_false, Bool.false_eq_true] <;> omega)); conv => whnf)
        | (refine sel_no ?_ ?_; (first | assumption | (simp only [beq_iff_eq, bne_iff_ne, beq_eq_false_iff_ne, bne_eq_false_iff_eq, decide_eq_true_eq, decide_eq_false_iff_not, Bool.not_eq_true', Bool.not_eq_false', ne_eq, beq_true, beq_false, bne_self_eq_false, not_true_eq_false, not_false_eq_true, gt_iff_lt, ge_iff_le, Int.not_lt, Int.not_le, Bool.true_eq_false, Bool.false_eq_true] <;> omega)); conv => whnf)
        | (refine ⟨le_rfl' ?_, ?_⟩; rfl; conv => whnf)
        | (refine ⟨⟨?_, ?_⟩, ?_⟩; omega; omega; conv => whnf)
        | (refine ⟨⟨?_, ?_, ?_⟩, ?_⟩; rfl; omega; omega; conv => whnf)
        | (refine ⟨rfl, ?_, ?_⟩; decide; conv => whnf))
      try exact rfl
      refine ldA (i := i) h1 ?_
      conv => whnf
      refine ⟨_, hE, ?_⟩
      conv => whnf
      repeat (first
        | (refine sel_yes ?_ ?_; (first | assumption | (simp only [beq_iff_eq, bne_iff_ne, beq_eq_false_iff_ne, bne_eq_false_iff_eq, decide_eq_true_eq, decide_eq_false_iff_not, Bool.not_eq_true', Bool.not_eq_false', ne_eq, beq_true, beq_false, bne_self_eq_false, not_true_eq_false, not_false_eq_true, gt_iff_lt, ge_iff_le, Int.not_lt, Int.not_le, Bool.true_eq_false, Bool.false_eq_true] <;> omega)); conv => whnf)
        | (refine sel_no ?_ ?_; (first | assumption | (simp only [beq_iff_eq, bne_iff_ne, beq_eq_false_iff_ne, bne_eq_false_iff_eq, decide_eq_true_eq, decide_eq_false_iff_not, Bool.not_eq_true', Bool.not_eq_false', ne_eq, beq_true, beq_false, bne_self_eq_false, not_true_eq_false, not_false_eq_true, gt_iff_lt, ge_iff_le, Int.not_lt, Int.not_le, Bool.true_eq_false, Bool.false_eq_true] <;> omega)); conv => whnf)
        | (refine ⟨le_rfl' ?_, ?_⟩; rfl; conv => whnf)
        | (refine ⟨⟨?_, ?_⟩, ?_⟩; omega; omega; conv => whnf)
        | (refine ⟨⟨?_, ?_, ?_⟩, ?_⟩; rfl; omega; omega; conv => whnf)
        | (refine ⟨rfl, ?_, ?_⟩; decide; conv => whnf))
      try exact rfl
      refine ih (i + 1) (c + partsV l[i]) _ (by omega) (by omega) (by omega) ⟨?_, rfl, rfl, ?_, rfl, rfl, rfl, trivial⟩ ⟨rfl, trivial⟩ rfl (fun z' a b => hr z' a (fun g => b ⟨g.1.2, by omega, by omega⟩)) (fun z' a b c' => hq z' ⟨?_, a.2⟩ b ⟨⟨hok.1, c'.1⟩, by omega, by omega⟩)
      · conv => lhs; whnf
        exact wrapN1 (by omega)
      · conv => lhs; whnf
        exact vi hw3
      · rw [a.1]; exact vi (by omega)
    · rw [hw1, hw2, fitZ_no hok] at hE
      rw [← hw1, ← hw2] at hE
      rw [St.knows _ _ ht hz _ hh]
      refine Loop.round ?_
      conv => whnf
      repeat (first
        | (refine sel_yes ?_ ?_; (first | assumption | (simp only [beq_iff_eq, bne_iff_ne, beq_eq_false_iff_ne, bne_eq_false_iff_eq, decide_eq_true_eq, decide_eq_false_iff_not, Bool.not_eq_true', Bool.not_eq_false', ne_eq, beq_true, beq_false, bne_self_eq_false, not_true_eq_false, not_false_eq_true, gt_iff_lt, ge_iff_le, Int.not_lt, Int.not_le, Bool.true_eq_false, Bool.false_eq_true] <;> omega)); conv => whnf)
        | (refine sel_no ?_ ?_; (first | assumption | (simp only [beq_iff_eq, bne_iff_ne, beq_eq_false_iff_ne, bne_eq_false_iff_eq, decide_eq_true_eq, decide_eq_false_iff_not, Bool.not_eq_true', Bool.not_eq_false', ne_eq, beq_true, beq_false, bne_self_eq_false, not_true_eq_false, not_false_eq_true, gt_iff_lt, ge_iff_le, Int.not_lt, Int.not_le, Bool.true_eq_false, Bool.false_eq_true] <;> omega)); conv => whnf)
        | (refine ⟨le_rfl' ?_, ?_⟩; rfl; conv => whnf)
        | (refine ⟨⟨?_, ?_⟩, ?_⟩; omega; omega; conv => whnf)
        | (refine ⟨⟨?_, ?_, ?_⟩, ?_⟩; rfl; omega; omega; conv => whnf)
        | (refine ⟨rfl, ?_, ?_⟩; decide; conv => whnf))
      try exact rfl
      refine ldA (i := i) h1 ?_
      conv => whnf
      refine ⟨_, hE, ?_⟩
      conv => whnf
      exact hr _ rfl (fun g => hok ⟨g.1.1, by omega, by omega⟩)
theorem deepV_pos {a : T} {l : List T} : 1 ≤ deepL (a :: l) := by simp only [deepL]; omega
theorem fits_one (hn : Non ext) (k n : Int) (t : ByteArray) (l : List T) (hw : WfV ⟨k, n, t, l⟩) (E : ∀ a ∈ l, FitE ext a) : FitE ext ⟨k, n, t, l⟩ := by
  intro d m hd0 hd hm hm0
  have hlp := partsL_len l
  have eO : OkV ⟨k, n, t, l⟩ ↔ PlainV k n t ∧ FormV k l ∧ OkL l := by simp only [OkV]
  have eDp : deepV ⟨k, n, t, l⟩ = deepL l := by simp only [deepV]
  have eP : partsV ⟨k, n, t, l⟩ = 1 + partsL l := by simp only [partsV]
  have key : ∃ r, (cfg ext).Ev 59 [A ⟨k, n, t, l⟩, .int .i64 d, .int .i64 m] r ∧ r = .int .i64 (fitZ ⟨k, n, t, l⟩ d m) := by
    refine Ev.ofF (hn 59 (by decide) (by decide)) Tryd.func59 rfl rfl ?_
    conv => whnf
    by_cases m1 : m < 1
    · rw [fitZ_no (fun h => by rw [eP] at h; omega)]
      repeat (first
        | (refine sel_yes ?_ ?_; (first | assumption | (simp only [beq_iff_eq, bne_iff_ne, beq_eq_false_iff_ne, bne_eq_false_iff_eq, decide_eq_true_eq, decide_eq_false_iff_not, Bool.not_eq_true', Bool.not_eq_false', ne_eq, beq_true, beq_false, bne_self_eq_false, not_true_eq_false, not_false_eq_true, gt_iff_lt, ge_iff_le, Int.not_lt, Int.not_le, Bool.true_eq_false, Bool.false_eq_true] <;> omega)); conv => whnf)
        | (refine sel_no ?_ ?_; (first | assumption | (simp only [beq_iff_eq, bne_iff_ne, beq_eq_false_iff_ne, bne_eq_false_iff_eq, decide_eq_true_eq, decide_eq_false_iff_not, Bool.not_eq_true', Bool.not_eq_false', ne_eq, beq_true, beq_false, bne_self_eq_false, not_true_eq_false, not_false_eq_true, gt_iff_lt, ge_iff_le, Int.not_lt, Int.not_le, Bool.true_eq_false, Bool.false_eq_true] <;> omega)); conv => whnf)
        | (refine ⟨le_rfl' ?_, ?_⟩; rfl; conv => whnf)
        | (refine ⟨⟨?_, ?_⟩, ?_⟩; omega; omega; conv => whnf)
        | (refine ⟨⟨?_, ?_, ?_⟩, ?_⟩; rfl; omega; omega; conv => whnf)
        | (refine ⟨rfl, ?_, ?_⟩; decide; conv => whnf))
      try exact rfl
      exact ⟨rfl⟩
    rcases l with _ | ⟨a, l⟩
    · have ho := rown hn k n t [] hw (by decide)
      have g : decide (((([] : List T).length : Nat) : Int) > m) = false := decide_eq_false (by simp; omega)
      repeat (first
        | (refine sel_yes ?_ ?_; (first | assumption | (simp only [beq_iff_eq, bne_iff_ne, beq_eq_false_iff_ne, bne_eq_false_iff_eq, decide_eq_true_eq, decide_eq_false_iff_not, Bool.not_eq_true', Bool.not_eq_false', ne_eq, beq_true, beq_false, bne_self_eq_false, not_true_eq_false, not_false_eq_true, gt_iff_lt, ge_iff_le, Int.not_lt, Int.not_le, Bool.true_eq_false, Bool.false_eq_true] <;> omega)); conv => whnf)
        | (refine sel_no ?_ ?_; (first | assumption | (simp only [beq_iff_eq, bne_iff_ne, beq_eq_false_iff_ne, bne_eq_false_iff_eq, decide_eq_true_eq, decide_eq_false_iff_not, Bool.not_eq_true', Bool.not_eq_false', ne_eq, beq_true, beq_false, bne_self_eq_false, not_true_eq_false, not_false_eq_true, gt_iff_lt, ge_iff_le, Int.not_lt, Int.not_le, Bool.true_eq_false, Bool.false_eq_true] <;> omega)); conv => whnf)
        | (refine ⟨le_rfl' ?_, ?_⟩; rfl; conv => whnf)
        | (refine ⟨⟨?_, ?_⟩, ?_⟩; omega; omega; conv => whnf)
        | (refine ⟨⟨?_, ?_, ?_⟩, ?_⟩; rfl; omega; omega; conv => whnf)
        | (refine ⟨rfl, ?_, ?_⟩; decide; conv => whnf))
      try exact rfl
      have hE0 : ∀ a ∈ ([] : List T), FitE ext a := fun a ha => by cases ha
      refine lfits k n t [] (Nat.zero_le _) hE0 d m (.inl rfl) hd0 hd hm _ 0 0 1 _ rfl (Nat.le_refl _) (by omega) ⟨rfl, rfl, rfl, rfl, rfl, rfl, rfl, trivial⟩ ⟨rfl, trivial⟩ (by rfl) (fun z a b => ?_) (fun z a b c => ?_)
      · exact absurd ⟨by simp only [List.drop_nil, OkL], by simp only [List.drop_nil, deepL]; omega, by simp only [List.drop_nil, partsL]; omega⟩ b
      · rw [St.knows _ z.hp.n a rfl _ b]
        conv => whnf
        refine ⟨_, ho, ?_⟩
        by_cases hp : PlainV k n t ∧ FormV k []
        · rw [propB_yes hp] at *
          rw [fitZ_yes ⟨eO.2 ⟨hp.1, hp.2, by simp only [OkL]⟩, by rw [eDp]; simp only [deepL]; omega, by rw [eP]; simp only [partsL]; omega⟩, eP]
          conv => whnf
          exact ⟨vi (by simp [partsL])⟩
        · rw [propB_no hp] at *
          rw [fitZ_no (fun h => hp ⟨(eO.1 h.1).1, (eO.1 h.1).2.1⟩)]
          conv => whnf
          exact ⟨rfl⟩
    · have hpos : (((a :: l).length : Nat) : Int) > 0 := by simp
      by_cases d0 : d = 0
      · rw [fitZ_no (fun h => by rw [eDp] at h; have := @deepV_pos a l; omega)]
        repeat (first
          | (refine sel_yes ?_ ?_; (first | assumption | (simp only [beq_iff_eq, bne_iff_ne, beq_eq_false_iff_ne, bne_eq_false_iff_eq, decide_eq_true_eq, decide_eq_false_iff_not, Bool.not_eq_true', Bool.not_eq_false', ne_eq, beq_true, beq_false, bne_self_eq_false, not_true_eq_false, not_false_eq_true, gt_iff_lt, ge_iff_le, Int.not_lt, Int.not_le, Bool.true_eq_false, Bool.false_eq_true] <;> omega)); conv => whnf)
          | (refine sel_no ?_ ?_; (first | assumption | (simp only [beq_iff_eq, bne_iff_ne, beq_eq_false_iff_ne, bne_eq_false_iff_eq, decide_eq_true_eq, decide_eq_false_iff_not, Bool.not_eq_true', Bool.not_eq_false', ne_eq, beq_true, beq_false, bne_self_eq_false, not_true_eq_false, not_false_eq_true, gt_iff_lt, ge_iff_le, Int.not_lt, Int.not_le, Bool.true_eq_false, Bool.false_eq_true] <;> omega)); conv => whnf)
          | (refine ⟨le_rfl' ?_, ?_⟩; rfl; conv => whnf)
          | (refine ⟨⟨?_, ?_⟩, ?_⟩; omega; omega; conv => whnf)
          | (refine ⟨⟨?_, ?_, ?_⟩, ?_⟩; rfl; omega; omega; conv => whnf)
          | (refine ⟨rfl, ?_, ?_⟩; decide; conv => whnf))
        try exact rfl
        exact ⟨rfl⟩
      by_cases hlm : (((a :: l).length : Nat) : Int) > m
      · rw [fitZ_no (fun h => by rw [eP] at h; omega)]
        repeat (first
          | (refine sel_yes ?_ ?_; (first | assumption | (simp only [beq_iff_eq, bne_iff_ne, beq_eq_false_iff_ne, bne_eq_false_iff_eq, decide_eq_true_eq, decide_eq_false_iff_not, Bool.not_eq_true', Bool.not_eq_false', ne_eq, beq_true, beq_false, bne_self_eq_false, not_true_eq_false, not_false_eq_true, gt_iff_lt, ge_iff_le, Int.not_lt, Int.not_le, Bool.true_eq_false, Bool.false_eq_true] <;> omega)); conv => whnf)
          | (refine sel_no ?_ ?_; (first | assumption | (simp only [beq_iff_eq, bne_iff_ne, beq_eq_false_iff_ne, bne_eq_false_iff_eq, decide_eq_true_eq, decide_eq_false_iff_not, Bool.not_eq_true', Bool.not_eq_false', ne_eq, beq_true, beq_false, bne_self_eq_false, not_true_eq_false, not_false_eq_true, gt_iff_lt, ge_iff_le, Int.not_lt, Int.not_le, Bool.true_eq_false, Bool.false_eq_true] <;> omega)); conv => whnf)
          | (refine ⟨le_rfl' ?_, ?_⟩; rfl; conv => whnf)
          | (refine ⟨⟨?_, ?_⟩, ?_⟩; omega; omega; conv => whnf)
          | (refine ⟨⟨?_, ?_, ?_⟩, ?_⟩; rfl; omega; omega; conv => whnf)
          | (refine ⟨rfl, ?_, ?_⟩; decide; conv => whnf))
        try exact rfl
        exact ⟨rfl⟩
      have ho := rown hn k n t (a :: l) hw (by omega)
      repeat (first
        | (refine sel_yes ?_ ?_; (first | assumption | (simp only [beq_iff_eq, bne_iff_ne, beq_eq_false_iff_ne, bne_eq_false_iff_eq, decide_eq_true_eq, decide_eq_false_iff_not, Bool.not_eq_true', Bool.not_eq_false', ne_eq, beq_true, beq_false, bne_self_eq_false, not_true_eq_false, not_false_eq_true, gt_iff_lt, ge_iff_le, Int.not_lt, Int.not_le, Bool.true_eq_false, Bool.false_eq_true] <;> omega)); conv => whnf)
        | (refine sel_no ?_ ?_; (first | assumption | (simp only [beq_iff_eq, bne_iff_ne, beq_eq_false_iff_ne, bne_eq_false_iff_eq, decide_eq_true_eq, decide_eq_false_iff_not, Bool.not_eq_true', Bool.not_eq_false', ne_eq, beq_true, beq_false, bne_self_eq_false, not_true_eq_false, not_false_eq_true, gt_iff_lt, ge_iff_le, Int.not_lt, Int.not_le, Bool.true_eq_false, Bool.false_eq_true] <;> omega)); conv => whnf)
        | (refine ⟨le_rfl' ?_, ?_⟩; rfl; conv => whnf)
        | (refine ⟨⟨?_, ?_⟩, ?_⟩; omega; omega; conv => whnf)
        | (refine ⟨⟨?_, ?_, ?_⟩, ?_⟩; rfl; omega; omega; conv => whnf)
        | (refine ⟨rfl, ?_, ?_⟩; decide; conv => whnf))
      try exact rfl
      refine lfits k n t (a :: l) (by omega) E d m (.inr (by omega)) hd0 hd hm _ (a :: l).length 0 1 _ rfl (Nat.zero_le _) (by omega) ⟨rfl, rfl, rfl, rfl, rfl, rfl, rfl, trivial⟩ ⟨rfl, trivial⟩ rfl (fun z b c => ?_) (fun z b c e => ?_)
      · refine Fin.tmp (i := 6) rfl b (vi ?_)
        rw [fitZ_no (fun h => c ?_)]
        rw [List.drop_zero]
        exact ⟨(eO.1 h.1).2.2, by rw [← eDp]; exact h.2.1, by have := h.2.2; rw [eP] at this; omega⟩
      · rw [List.drop_zero] at b e
        rw [St.knows _ z.hp.n b rfl _ c]
        conv => whnf
        refine ⟨_, ho, ?_⟩
        by_cases hp : PlainV k n t ∧ FormV k (a :: l)
        · rw [propB_yes hp] at *
          rw [fitZ_yes ⟨eO.2 ⟨hp.1, hp.2, e.1⟩, by rw [eDp]; exact e.2.1, by rw [eP]; have := e.2.2; omega⟩, eP]
          conv => whnf
          exact ⟨vi (by omega)⟩
        · rw [propB_no hp] at *
          rw [fitZ_no (fun h => hp ⟨(eO.1 h.1).1, (eO.1 h.1).2.1⟩)]
          conv => whnf
          exact ⟨rfl⟩
  obtain ⟨r, h, rfl⟩ := key
  exact h
mutual
theorem rfits (hn : Non ext) : (v : T) → WfV v → FitE ext v
  | ⟨k, n, t, l⟩, hw => by
    have hw' := hw
    simp only [WfV] at hw'
    exact fits_one hn k n t l hw (rfitsL hn l hw'.2.2.2.2)
theorem rfitsL (hn : Non ext) : (l : List T) → WfL l → ∀ a ∈ l, FitE ext a
  | [], _, a, ha => by cases ha
  | v :: l, hw, a, ha => by
    simp only [WfL] at hw
    rcases List.mem_cons.1 ha with e | h
    · rw [e]; exact rfits hn v hw.1
    · exact rfitsL hn l hw.2 a h
end
theorem rright (hn : Non ext) (v : T) (hw : WfV v) : (cfg ext).Ev 30 [A v] (.bool (okB v)) := by
  have h := rfits hn v hw 16 1024 (by decide) (by decide) (by decide) (by decide)
  cases ho : okB v with
  | true =>
    have hO := okB_iff.1 ho
    rw [fitZ_yes ⟨hO.1, by have := hO.2.1; omega, by have := hO.2.2; omega⟩] at h
    refine Ev.of (hn 30 (by decide) (by decide)) Tryd.func30 rfl rfl ?_
    conv => whnf
    refine ⟨_, h, ?_⟩
    conv => whnf
    try exact rfl
  | false =>
    have hO : ¬ OK v := fun h => by rw [okB_iff.2 h] at ho; cases ho
    rw [fitZ_no (fun g => hO ⟨g.1, by have := g.2.1; omega, by have := g.2.2; omega⟩)] at h
    refine Ev.of (hn 30 (by decide) (by decide)) Tryd.func30 rfl rfl ?_
    conv => whnf
    refine ⟨_, h, ?_⟩
    conv => whnf
    try exact rfl
end
end Go.Proofs.YtjfjagnnefmepaaDoor.AB
end

section
set_option linter.unusedVariables false
set_option linter.unusedSimpArgs false
open Go Go.Ab Go.Proofs Go.Vl
namespace Go.Proofs.YtjfjagnnefmepaaDoor.AB
set_option maxRecDepth 100000
set_option maxHeartbeats 8000000
set_option linter.unusedSimpArgs false
set_option linter.unusedVariables false
theorem Good.shp {v : T} (h : Good v) : Shp v := shp_of v (okB_iff.1 h.ok).1
theorem Good.rise {v : T} (h : Good v) (h6 : v.f0 = 6) : Rise 2 v.f3 := by
  have h1 := (okB_iff.1 h.ok).1
  rw [okV_eq] at h1
  have hf := h1.2.1
  unfold FormV at hf
  rw [h6] at hf
  simp at hf
  exact hf.2
def numV (o : Option Nat) : V := match o with | some i => .tup [.int .i64 i, .bool true] | none => .tup [.int .i64 0, .bool false]
section
variable {ext : Exts}
theorem rsame (hn : Non ext) (a b : T) (ha : WfV a) : (cfg ext).Ev 86 [A a, A b] (.bool (decide (cmpV a b = 0))) := by
  have h1 := rcmp hn a ha b
  refine Ev.of (hn 86 (by decide) (by decide)) Tryd.func86 rfl rfl ?_
  conv => whnf
  refine ⟨_, h1, ?_⟩
  conv => whnf
  exact vb (by by_cases h : cmpV a b = 0 <;> simp [h])
/-- a step's place in a list, by the reference -/
theorem rindex (hn : Non ext) (v s : T) : (cfg ext).Ev 61 [A v, A s] (numV (if v.f0 = 4 then idxF v.f3.length s else none)) := by
  have key : ∃ r, (cfg ext).Ev 61 [A v, A s] r ∧ r = numV (if v.f0 = 4 then idxF v.f3.length s else none) := by
    refine Ev.ofE (hn 61 (by decide) (by decide)) Tryd.func61 rfl rfl ?_
    conv => whnf
    by_cases h0 : v.f0 = 4
    · have g0 : (v.f0 != 4) = false := by simp [h0]
      rw [if_pos h0]
      by_cases h1 : s.f0 = 2
      · have g1 : (s.f0 != 2) = false := by simp [h1]
        by_cases h2 : s.f1 < 0
        · have g2 : decide (s.f1 < 0) = true := decide_eq_true h2
          have e : idxF v.f3.length s = none := if_neg (by omega)
          repeat (first
            | (refine sel_yes ?_ ?_; (first | assumption | (simp only [beq_iff_eq, bne_iff_ne, beq_eq_false_iff_ne, bne_eq_false_iff_eq, decide_eq_true_eq, decide_eq_false_iff_not, Bool.not_eq_true', Bool.not_eq_false', ne_eq, beq_true, beq_false, bne_self_eq_false, not_true_eq_false, not_false_eq_true, gt_iff_lt, ge_iff_le, Int.not_lt, Int.not_le, Bool.true_eq_false, Bool.false_eq_true] <;> omega)); conv => whnf)
            | (refine sel_no ?_ ?_; (first | assumption | (simp only [beq_iff_eq, bne_iff_ne, beq_eq_false_iff_ne, bne_eq_false_iff_eq, decide_eq_true_eq, decide_eq_false_iff_not, Bool.not_eq_true', Bool.not_eq_false', ne_eq, beq_true, beq_false, bne_self_eq_false, not_true_eq_false, not_false_eq_true, gt_iff_lt, ge_iff_le, Int.not_lt, Int.not_le, Bool.true_eq_false, Bool.false_eq_true] <;> omega)); conv => whnf)
            | (refine ⟨le_rfl' ?_, ?_⟩; rfl; conv => whnf)
            | (refine ⟨⟨?_, ?_⟩, ?_⟩; omega; omega; conv => whnf)
            | (refine ⟨⟨?_, ?_, ?_⟩, ?_⟩; rfl; omega; omega; conv => whnf)
            | (refine ⟨rfl, ?_, ?_⟩; decide; conv => whnf))
          try exact rfl
          rw [e]; rfl
        · have g2 : decide (s.f1 < 0) = false := decide_eq_false h2
          by_cases h3 : s.f1 ≥ (v.f3.length : Int)
          · have g3 : decide (s.f1 ≥ (v.f3.length : Int)) = true := decide_eq_true h3
            have e : idxF v.f3.length s = none := if_neg (by omega)
            repeat (first
              | (refine sel_yes ?_ ?_; (first | assumption | (simp only [beq_iff_eq, bne_iff_ne, beq_eq_false_iff_ne, bne_eq_false_iff_eq, decide_eq_true_eq, decide_eq_false_iff_not, Bool.not_eq_true', Bool.not_eq_false', ne_eq, beq_true, beq_false, bne_self_eq_false, not_true_eq_false, not_false_eq_true, gt_iff_lt, ge_iff_le, Int.not_lt, Int.not_le, Bool.true_eq_false, Bool.false_eq_true] <;> omega)); conv => whnf)
              | (refine sel_no ?_ ?_; (first | assumption | (simp only [beq_iff_eq, bne_iff_ne, beq_eq_false_iff_ne, bne_eq_false_iff_eq, decide_eq_true_eq, decide_eq_false_iff_not, Bool.not_eq_true', Bool.not_eq_false', ne_eq, beq_true, beq_false, bne_self_eq_false, not_true_eq_false, not_false_eq_true, gt_iff_lt, ge_iff_le, Int.not_lt, Int.not_le, Bool.true_eq_false, Bool.false_eq_true] <;> omega)); conv => whnf)
              | (refine ⟨le_rfl' ?_, ?_⟩; rfl; conv => whnf)
              | (refine ⟨⟨?_, ?_⟩, ?_⟩; omega; omega; conv => whnf)
              | (refine ⟨⟨?_, ?_, ?_⟩, ?_⟩; rfl; omega; omega; conv => whnf)
              | (refine ⟨rfl, ?_, ?_⟩; decide; conv => whnf))
            try exact rfl
            rw [e]; rfl
          · have g3 : decide (s.f1 ≥ (v.f3.length : Int)) = false := decide_eq_false h3
            have e : idxF v.f3.length s = some s.f1.toNat := if_pos (by omega)
            repeat (first
              | (refine sel_yes ?_ ?_; (first | assumption | (simp only [beq_iff_eq, bne_iff_ne, beq_eq_false_iff_ne, bne_eq_false_iff_eq, decide_eq_true_eq, decide_eq_false_iff_not, Bool.not_eq_true', Bool.not_eq_false', ne_eq, beq_true, beq_false, bne_self_eq_false, not_true_eq_false, not_false_eq_true, gt_iff_lt, ge_iff_le, Int.not_lt, Int.not_le, Bool.true_eq_false, Bool.false_eq_true] <;> omega)); conv => whnf)
              | (refine sel_no ?_ ?_; (first | assumption | (simp only [beq_iff_eq, bne_iff_ne, beq_eq_false_iff_ne, bne_eq_false_iff_eq, decide_eq_true_eq, decide_eq_false_iff_not, Bool.not_eq_true', Bool.not_eq_false', ne_eq, beq_true, beq_false, bne_self_eq_false, not_true_eq_false, not_false_eq_true, gt_iff_lt, ge_iff_le, Int.not_lt, Int.not_le, Bool.true_eq_false, Bool.false_eq_true] <;> omega)); conv => whnf)
              | (refine ⟨le_rfl' ?_, ?_⟩; rfl; conv => whnf)
              | (refine ⟨⟨?_, ?_⟩, ?_⟩; omega; omega; conv => whnf)
              | (refine ⟨⟨?_, ?_, ?_⟩, ?_⟩; rfl; omega; omega; conv => whnf)
              | (refine ⟨rfl, ?_, ?_⟩; decide; conv => whnf))
            try exact rfl
            rw [e]
            show V.tup [.int .i64 s.f1, .bool true] = V.tup [.int .i64 (s.f1.toNat : Int), .bool true]
            rw [Int.toNat_of_nonneg (by omega)]
      · have g1 : (s.f0 != 2) = true := by simp [h1]
        have e : idxF v.f3.length s = none := if_neg (by omega)
        repeat (first
          | (refine sel_yes ?_ ?_; (first | assumption | (simp only [beq_iff_eq, bne_iff_ne, beq_eq_false_iff_ne, bne_eq_false_iff_eq, decide_eq_true_eq, decide_eq_false_iff_not, Bool.not_eq_true', Bool.not_eq_false', ne_eq, beq_true, beq_false, bne_self_eq_false, not_true_eq_false, not_false_eq_true, gt_iff_lt, ge_iff_le, Int.not_lt, Int.not_le, Bool.true_eq_false, Bool.false_eq_true] <;> omega)); conv => whnf)
          | (refine sel_no ?_ ?_; (first | assumption | (simp only [beq_iff_eq, bne_iff_ne, beq_eq_false_iff_ne, bne_eq_false_iff_eq, decide_eq_true_eq, decide_eq_false_iff_not, Bool.not_eq_true', Bool.not_eq_false', ne_eq, beq_true, beq_false, bne_self_eq_false, not_true_eq_false, not_false_eq_true, gt_iff_lt, ge_iff_le, Int.not_lt, Int.not_le, Bool.true_eq_false, Bool.false_eq_true] <;> omega)); conv => whnf)
          | (refine ⟨le_rfl' ?_, ?_⟩; rfl; conv => whnf)
          | (refine ⟨⟨?_, ?_⟩, ?_⟩; omega; omega; conv => whnf)
          | (refine ⟨⟨?_, ?_, ?_⟩, ?_⟩; rfl; omega; omega; conv => whnf)
          | (refine ⟨rfl, ?_, ?_⟩; decide; conv => whnf))
        try exact rfl
        rw [e]; rfl
    · have g0 : (v.f0 != 4) = true := by simp [h0]
      rw [if_neg h0]
      repeat (first
        | (refine sel_yes ?_ ?_; (first | assumption | (simp only [beq_iff_eq, bne_iff_ne, beq_eq_false_iff_ne, bne_eq_false_iff_eq, decide_eq_true_eq, decide_eq_false_iff_not, Bool.not_eq_true', Bool.not_eq_false', ne_eq, beq_true, beq_false, bne_self_eq_false, not_true_eq_false, not_false_eq_true, gt_iff_lt, ge_iff_le, Int.not_lt, Int.not_le, Bool.true_eq_false, Bool.false_eq_true] <;> omega)); conv => whnf)
        | (refine sel_no ?_ ?_; (first | assumption | (simp only [beq_iff_eq, bne_iff_ne, beq_eq_false_iff_ne, bne_eq_false_iff_eq, decide_eq_true_eq, decide_eq_false_iff_not, Bool.not_eq_true', Bool.not_eq_false', ne_eq, beq_true, beq_false, bne_self_eq_false, not_true_eq_false, not_false_eq_true, gt_iff_lt, ge_iff_le, Int.not_lt, Int.not_le, Bool.true_eq_false, Bool.false_eq_true] <;> omega)); conv => whnf)
        | (refine ⟨le_rfl' ?_, ?_⟩; rfl; conv => whnf)
        | (refine ⟨⟨?_, ?_⟩, ?_⟩; omega; omega; conv => whnf)
        | (refine ⟨⟨?_, ?_, ?_⟩, ?_⟩; rfl; omega; omega; conv => whnf)
        | (refine ⟨rfl, ?_, ?_⟩; decide; conv => whnf))
      try exact rfl
  obtain ⟨r, h, rfl⟩ := key
  exact h
/-- a key's place, by the reference -/
theorem lrkey (hn : Non ext) (v s : T) (hl : v.f3.length ≤ 1048576) (hw : ∀ a ∈ v.f3, WfV a) (h6 : v.f0 = 6) (h2 : v.f3.length % 2 = 0) (Q : Ex → St → Prop) (d : Nat) :
    ∀ (i : Nat) (z : St), v.f3.length - i = d → i ≤ v.f3.length → i % 2 = 0 → Has z.t [(2, .ref 0 0), (3, .ref 1 0), (6, .int .i64 i)] → z.hp.n = 5 → Has z.hp.h [(0, some (.cells (cellsV v) false)), (1, some (.cells (cellsV s) false))] →
      (∀ (z' : St) (j : Nat), Has z'.t [(4, .int .i64 (j : Int)), (5, .bool true)] → linK (v.f3.drop i) s i = some j → Q .ret z') →
      (∀ z' : St, linK (v.f3.drop i) s i = none → Q (.exit 0) z') →
      Go.Ab.Loop (cfg ext) (lpOf Tryd.f71) 5 z Q := by
  induction d using Nat.strongRecOn with
  | ind d ih =>
    intro i z hd hi h2i ht hz hb hr hq
    have g0 : (v.f0 == 6) = true := by simp [h6]
    have e1 : IntKind.i64.wrap ((i : Int) + 1) = ((i + 1 : Nat) : Int) := wrapN (by omega) (by omega)
    rw [St.knows _ _ ht hz _ hb]
    by_cases hlt : i < v.f3.length
    · have hlt1 : i + 1 < v.f3.length := by omega
      have g : decide (IntKind.i64.wrap ((i : Int) + 1) < (v.f3.length : Int)) = true := decide_eq_true (by rw [e1]; omega)
      have eD : v.f3.drop i = v.f3[i] :: v.f3[i + 1] :: v.f3.drop (i + 2) := by rw [List.drop_eq_getElem_cons hlt, List.drop_eq_getElem_cons hlt1]
      have e2 : IntKind.i64.wrap ((i : Int) + 2) = ((i + 2 : Nat) : Int) := wrapN (by omega) (by omega)
      have hE := rsame hn v.f3[i] s (hw _ (List.getElem_mem hlt))
      refine Loop.round ?_
      conv => whnf
      repeat (first
        | (refine sel_yes ?_ ?_; (first | assumption | (simp only [beq_iff_eq, bne_iff_ne, beq_eq_false_iff_ne, bne_eq_false_iff_eq, decide_eq_true_eq, decide_eq_false_iff_not, Bool.not_eq_true', Bool.not_eq_false', ne_eq, beq_true, beq_false, bne_self_eq_false, not_true_eq_false, not_false_eq_true, gt_iff_lt, ge_iff_le, Int.not_lt, Int.not_le, Bool.true_eq_false, Bool.false_eq_true] <;> omega)); conv => whnf)
        | (refine sel_no ?_ ?_; (first | assumption | (simp only [beq_iff_eq, bne_iff_ne, beq_eq_false_iff_ne, bne_eq_false_iff_eq, decide_eq_true_eq, decide_eq_false_iff_not, Bool.not_eq_true', Bool.not_eq_false', ne_eq, beq_true, beq_false, bne_self_eq_false, not_true_eq_false, not_false_eq_true, gt_iff_lt, ge_iff_le, Int.not_lt, Int.not_le, Bool.true_eq_false, Bool.false_eq_true] <;> omega)); conv => whnf)
        | (refine ⟨le_rfl' ?_, ?_⟩; rfl; conv => whnf)
        | (refine ⟨⟨?_, ?_⟩, ?_⟩; omega; omega; conv => whnf)
        | (refine ⟨⟨?_, ?_, ?_⟩, ?_⟩; rfl; omega; omega; conv => whnf)
        | (refine ⟨rfl, ?_, ?_⟩; decide; conv => whnf))
      try exact rfl
      refine ldA (i := i) hlt ?_
      conv => whnf
      refine ⟨_, hE, ?_⟩
      conv => whnf
      by_cases hc : cmpV v.f3[i] s = 0
      · refine sel_yes (decide_eq_true hc) ?_
        conv => whnf
        refine hr _ i ⟨rfl, rfl, trivial⟩ ?_
        rw [eD]; unfold linK; rw [if_pos hc]
      · refine sel_no (decide_eq_false hc) ?_
        conv => whnf
        have eK : linK (v.f3.drop i) s i = linK (v.f3.drop (i + 2)) s (i + 2) := by
          conv => lhs; rw [eD]; unfold linK
          rw [if_neg hc]
        refine ih (v.f3.length - (i + 2)) (by omega) (i + 2) _ rfl (by omega) (by omega) ⟨rfl, rfl, ?_, trivial⟩ rfl ⟨rfl, rfl, trivial⟩ (fun z' j a b => hr z' j a (by rw [eK]; exact b)) (fun z' a => hq z' (by rw [eK]; exact a))
        conv => lhs; whnf
        exact vi e2
    · have g : decide (IntKind.i64.wrap ((i : Int) + 1) < (v.f3.length : Int)) = false := decide_eq_false (by rw [e1]; omega)
      have eN : v.f3.drop i = [] := List.drop_eq_nil_of_le (by omega)
      refine Loop.round ?_
      conv => whnf
      repeat (first
        | (refine sel_yes ?_ ?_; (first | assumption | (simp only [beq_iff_eq, bne_iff_ne, beq_eq_false_iff_ne, bne_eq_false_iff_eq, decide_eq_true_eq, decide_eq_false_iff_not, Bool.not_eq_true', Bool.not_eq_false', ne_eq, beq_true, beq_false, bne_self_eq_false, not_true_eq_false, not_false_eq_true, gt_iff_lt, ge_iff_le, Int.not_lt, Int.not_le, Bool.true_eq_false, Bool.false_eq_true] <;> omega)); conv => whnf)
        | (refine sel_no ?_ ?_; (first | assumption | (simp only [beq_iff_eq, bne_iff_ne, beq_eq_false_iff_ne, bne_eq_false_iff_eq, decide_eq_true_eq, decide_eq_false_iff_not, Bool.not_eq_true', Bool.not_eq_false', ne_eq, beq_true, beq_false, bne_self_eq_false, not_true_eq_false, not_false_eq_true, gt_iff_lt, ge_iff_le, Int.not_lt, Int.not_le, Bool.true_eq_false, Bool.false_eq_true] <;> omega)); conv => whnf)
        | (refine ⟨le_rfl' ?_, ?_⟩; rfl; conv => whnf)
        | (refine ⟨⟨?_, ?_⟩, ?_⟩; omega; omega; conv => whnf)
        | (refine ⟨⟨?_, ?_, ?_⟩, ?_⟩; rfl; omega; omega; conv => whnf)
        | (refine ⟨rfl, ?_, ?_⟩; decide; conv => whnf))
      try exact rfl
      exact hq _ (by rw [eN]; rfl)
theorem rkey6 (hn : Non ext) (v s : T) (hl : v.f3.length ≤ 1048576) (hw : ∀ a ∈ v.f3, WfV a) (h6 : v.f0 = 6) (h2 : v.f3.length % 2 = 0) : (cfg ext).Ev 71 [A v, A s] (numV (linK v.f3 s 0)) := by
  have key : ∃ r, (cfg ext).Ev 71 [A v, A s] r ∧ r = numV (linK v.f3 s 0) := by
    refine Ev.ofE (hn 71 (by decide) (by decide)) Tryd.func71 rfl rfl ?_
    conv => whnf
    refine lrkey hn v s hl hw h6 h2 _ v.f3.length 0 _ (by omega) (by omega) rfl ⟨rfl, rfl, rfl, trivial⟩ rfl ⟨rfl, rfl, trivial⟩ (fun z j a b => ?_) (fun z a => ?_)
    · simp only [List.drop_zero] at b
      obtain ⟨a1, a2, _⟩ := a
      obtain ⟨t, h⟩ := z
      simp only at a1 a2
      rw [St.knowsT0 (s := ⟨t, h⟩) [(4, _), (5, _)] ⟨a1, a2, trivial⟩]
      conv => whnf
      rw [b]; rfl
    · simp only [List.drop_zero] at a
      conv => whnf
      rw [a]; rfl
  obtain ⟨r, h, rfl⟩ := key
  exact h
theorem rkeyN (hn : Non ext) (v s : T) (h6 : v.f0 ≠ 6) : (cfg ext).Ev 71 [A v, A s] (numV none) := by
  have key : ∃ r, (cfg ext).Ev 71 [A v, A s] r ∧ r = numV none := by
    have g0 : (v.f0 == 6) = false := by simp [h6]
    refine Ev.ofE (hn 71 (by decide) (by decide)) Tryd.func71 rfl rfl ?_
    conv => whnf
    refine Loop.round ?_
    conv => whnf
    repeat (first
      | (refine sel_yes ?_ ?_; (first | assumption | (simp only [beq_iff_eq, bne_iff_ne, beq_eq_false_iff_ne, bne_eq_false_iff_eq, decide_eq_true_eq, decide_eq_false_iff_not, Bool.not_eq_true', Bool.not_eq_false', ne_eq, beq_true, beq_false, bne_self_eq_false, not_true_eq_false, not_false_eq_true, gt_iff_lt, ge_iff_le, Int.not_lt, Int.not_le, Bool.true_eq_false, Bool.false_eq_true] <;> omega)); conv => whnf)
      | (refine sel_no ?_ ?_; (first | assumption | (simp only [beq_iff_eq, bne_iff_ne, beq_eq_false_iff_ne, bne_eq_false_iff_eq, decide_eq_true_eq, decide_eq_false_iff_not, Bool.not_eq_true', Bool.not_eq_false', ne_eq, beq_true, beq_false, bne_self_eq_false, not_true_eq_false, not_false_eq_true, gt_iff_lt, ge_iff_le, Int.not_lt, Int.not_le, Bool.true_eq_false, Bool.false_eq_true] <;> omega)); conv => whnf)
      | (refine ⟨le_rfl' ?_, ?_⟩; rfl; conv => whnf)
      | (refine ⟨⟨?_, ?_⟩, ?_⟩; omega; omega; conv => whnf)
      | (refine ⟨⟨?_, ?_, ?_⟩, ?_⟩; rfl; omega; omega; conv => whnf)
      | (refine ⟨rfl, ?_, ?_⟩; decide; conv => whnf))
    try exact rfl
  obtain ⟨r, h, rfl⟩ := key
  exact h
/-- a member's place, by the reference -/
theorem lrmem (hn : Non ext) (v s : T) (hl : v.f3.length ≤ 1048576) (hw : ∀ a ∈ v.f3, WfV a) (h5 : v.f0 = 5) (Q : Ex → St → Prop) (d : Nat) :
    ∀ (i : Nat) (z : St), v.f3.length - i = d → i ≤ v.f3.length → Has z.t [(2, .ref 0 0), (3, .ref 1 0), (6, .int .i64 i)] → z.hp.n = 5 → Has z.hp.h [(0, some (.cells (cellsV v) false)), (1, some (.cells (cellsV s) false))] →
      (∀ (z' : St) (j : Nat), Has z'.t [(4, .int .i64 (j : Int)), (5, .bool true)] → linM (v.f3.drop i) s i = some j → Q .ret z') →
      (∀ z' : St, linM (v.f3.drop i) s i = none → Q (.exit 0) z') →
      Go.Ab.Loop (cfg ext) (lpOf Tryd.f72) 5 z Q := by
  induction d with
  | zero =>
    intro i z hd hi ht hz hb hr hq
    have g0 : (v.f0 == 5) = true := by simp [h5]
    have g : decide ((i : Int) < (v.f3.length : Int)) = false := decide_eq_false (by omega)
    have eN : v.f3.drop i = [] := List.drop_eq_nil_of_le (by omega)
    rw [St.knows _ _ ht hz _ hb]
    refine Loop.round ?_
    conv => whnf
    repeat (first
      | (refine sel_yes ?_ ?_; (first | assumption | (simp only [beq_iff_eq, bne_iff_ne, beq_eq_false_iff_ne, bne_eq_false_iff_eq, decide_eq_true_eq, decide_eq_false_iff_not, Bool.not_eq_true', Bool.not_eq_false', ne_eq, beq_true, beq_false, bne_self_eq_false, not_true_eq_false, not_false_eq_true, gt_iff_lt, ge_iff_le, Int.not_lt, Int.not_le, Bool.true_eq_false, Bool.false_eq_true] <;> omega)); conv => whnf)
      | (refine sel_no ?_ ?_; (first | assumption | (simp only [beq_iff_eq, bne_iff_ne, beq_eq_false_iff_ne, bne_eq_false_iff_eq, decide_eq_true_eq, decide_eq_false_iff_not, Bool.not_eq_true', Bool.not_eq_false', ne_eq, beq_true, beq_false, bne_self_eq_false, not_true_eq_false, not_false_eq_true, gt_iff_lt, ge_iff_le, Int.not_lt, Int.not_le, Bool.true_eq_false, Bool.false_eq_true] <;> omega)); conv => whnf)
      | (refine ⟨le_rfl' ?_, ?_⟩; rfl; conv => whnf)
      | (refine ⟨⟨?_, ?_⟩, ?_⟩; omega; omega; conv => whnf)
      | (refine ⟨⟨?_, ?_, ?_⟩, ?_⟩; rfl; omega; omega; conv => whnf)
      | (refine ⟨rfl, ?_, ?_⟩; decide; conv => whnf))
    try exact rfl
    exact hq _ (by rw [eN]; rfl)
  | succ d ih =>
    intro i z hd hi ht hz hb hr hq
    have g0 : (v.f0 == 5) = true := by simp [h5]
    have hlt : i < v.f3.length := by omega
    have g : decide ((i : Int) < (v.f3.length : Int)) = true := decide_eq_true (by omega)
    have eD := List.drop_eq_getElem_cons hlt
    have e2 : IntKind.i64.wrap ((i : Int) + 1) = ((i + 1 : Nat) : Int) := wrapN (by omega) (by omega)
    have hE := rsame hn v.f3[i] s (hw _ (List.getElem_mem hlt))
    rw [St.knows _ _ ht hz _ hb]
    refine Loop.round ?_
    conv => whnf
    repeat (first
      | (refine sel_yes ?_ ?_; (first | assumption | (simp only [beq_iff_eq, bne_iff_ne, beq_eq_false_iff_ne, bne_eq_false_iff_eq, decide_eq_true_eq, decide_eq_false_iff_not, Bool.not_eq_true', Bool.not_eq_false', ne_eq, beq_true, beq_false, bne_self_eq_false, not_true_eq_false, not_false_eq_true, gt_iff_lt, ge_iff_le, Int.not_lt, Int.not_le, Bool.true_eq_false, Bool.false_eq_true] <;> omega)); conv => whnf)
      | (refine sel_no ?_ ?_; (first | assumption | (simp only [beq_iff_eq, bne_iff_ne, beq_eq_false_iff_ne, bne_eq_false_iff_eq, decide_eq_true_eq, decide_eq_false_iff_not, Bool.not_eq_true', Bool.not_eq_false', ne_eq, beq_true, beq_false, bne_self_eq_false, not_true_eq_false, not_false_eq_true, gt_iff_lt, ge_iff_le, Int.not_lt, Int.not_le, Bool.true_eq_false, Bool.false_eq_true] <;> omega)); conv => whnf)
      | (refine ⟨le_rfl' ?_, ?_⟩; rfl; conv => whnf)
      | (refine ⟨⟨?_, ?_⟩, ?_⟩; omega; omega; conv => whnf)
      | (refine ⟨⟨?_, ?_, ?_⟩, ?_⟩; rfl; omega; omega; conv => whnf)
      | (refine ⟨rfl, ?_, ?_⟩; decide; conv => whnf))
    try exact rfl
    refine ldA (i := i) hlt ?_
    conv => whnf
    refine ⟨_, hE, ?_⟩
    conv => whnf
    by_cases hc : cmpV v.f3[i] s = 0
    · refine sel_yes (decide_eq_true hc) ?_
      conv => whnf
      refine hr _ i ⟨rfl, rfl, trivial⟩ ?_
      rw [eD]; unfold linM; rw [if_pos hc]
    · refine sel_no (decide_eq_false hc) ?_
      conv => whnf
      have eK : linM (v.f3.drop i) s i = linM (v.f3.drop (i + 1)) s (i + 1) := by
        conv => lhs; rw [eD]; unfold linM
        rw [if_neg hc]
      refine ih (i + 1) _ (by omega) (by omega) ⟨rfl, rfl, ?_, trivial⟩ rfl ⟨rfl, rfl, trivial⟩ (fun z' j a b => hr z' j a (by rw [eK]; exact b)) (fun z' a => hq z' (by rw [eK]; exact a))
      conv => lhs; whnf
      exact vi e2
theorem rmem5 (hn : Non ext) (v s : T) (hl : v.f3.length ≤ 1048576) (hw : ∀ a ∈ v.f3, WfV a) (h5 : v.f0 = 5) : (cfg ext).Ev 72 [A v, A s] (numV (linM v.f3 s 0)) := by
  have key : ∃ r, (cfg ext).Ev 72 [A v, A s] r ∧ r = numV (linM v.f3 s 0) := by
    refine Ev.ofE (hn 72 (by decide) (by decide)) Tryd.func72 rfl rfl ?_
    conv => whnf
    refine lrmem hn v s hl hw h5 _ v.f3.length 0 _ (by omega) (by omega) ⟨rfl, rfl, rfl, trivial⟩ rfl ⟨rfl, rfl, trivial⟩ (fun z j a b => ?_) (fun z a => ?_)
    · simp only [List.drop_zero] at b
      obtain ⟨a1, a2, _⟩ := a
      obtain ⟨t, h⟩ := z
      simp only at a1 a2
      rw [St.knowsT0 (s := ⟨t, h⟩) [(4, _), (5, _)] ⟨a1, a2, trivial⟩]
      conv => whnf
      rw [b]; rfl
    · simp only [List.drop_zero] at a
      conv => whnf
      rw [a]; rfl
  obtain ⟨r, h, rfl⟩ := key
  exact h
theorem rmemN (hn : Non ext) (v s : T) (h5 : v.f0 ≠ 5) : (cfg ext).Ev 72 [A v, A s] (numV none) := by
  have key : ∃ r, (cfg ext).Ev 72 [A v, A s] r ∧ r = numV none := by
    have g0 : (v.f0 == 5) = false := by simp [h5]
    refine Ev.ofE (hn 72 (by decide) (by decide)) Tryd.func72 rfl rfl ?_
    conv => whnf
    refine Loop.round ?_
    conv => whnf
    repeat (first
      | (refine sel_yes ?_ ?_; (first | assumption | (simp only [beq_iff_eq, bne_iff_ne, beq_eq_false_iff_ne, bne_eq_false_iff_eq, decide_eq_true_eq, decide_eq_false_iff_not, Bool.not_eq_true', Bool.not_eq_false', ne_eq, beq_true, beq_false, bne_self_eq_false, not_true_eq_false, not_false_eq_true, gt_iff_lt, ge_iff_le, Int.not_lt, Int.not_le, Bool.true_eq_false, Bool.false_eq_true] <;> omega)); conv => whnf)
      | (refine sel_no ?_ ?_; (first | assumption | (simp only [beq_iff_eq, bne_iff_ne, beq_eq_false_iff_ne, bne_eq_false_iff_eq, decide_eq_true_eq, decide_eq_false_iff_not, Bool.not_eq_true', Bool.not_eq_false', ne_eq, beq_true, beq_false, bne_self_eq_false, not_true_eq_false, not_false_eq_true, gt_iff_lt, ge_iff_le, Int.not_lt, Int.not_le, Bool.true_eq_false, Bool.false_eq_true] <;> omega)); conv => whnf)
      | (refine ⟨le_rfl' ?_, ?_⟩; rfl; conv => whnf)
      | (refine ⟨⟨?_, ?_⟩, ?_⟩; omega; omega; conv => whnf)
      | (refine ⟨⟨?_, ?_, ?_⟩, ?_⟩; rfl; omega; omega; conv => whnf)
      | (refine ⟨rfl, ?_, ?_⟩; decide; conv => whnf))
    try exact rfl
  obtain ⟨r, h, rfl⟩ := key
  exact h
end
end Go.Proofs.YtjfjagnnefmepaaDoor.AB
end

section
set_option linter.unusedVariables false
set_option linter.unusedSimpArgs false
open Go Go.Ab Go.Proofs Go.Vl
namespace Go.Proofs.YtjfjagnnefmepaaDoor.AB
set_option maxRecDepth 100000
set_option maxHeartbeats 8000000
set_option linter.unusedSimpArgs false
set_option linter.unusedVariables false
section
variable {ext : Exts}
/-- the reference's part of a value -/
theorem rpart (hn : Non ext) (v s : T) (hv : Good v) (hs : Good s) : (cfg ext).Ev 62 [A v, A s] (optV (partF v s)) := by
  have hI := rindex (ext := ext) hn v s
  have hl := hv.row.len
  have key : ∃ r, (cfg ext).Ev 62 [A v, A s] r ∧ r = optV (partF v s) := by
    refine Ev.ofE (hn 62 (by decide) (by decide)) Tryd.func62 rfl rfl ?_
    by_cases h4 : v.f0 = 4
    · have hk := rkeyN (ext := ext) hn v s (by omega)
      have hm := rmemN (ext := ext) hn v s (by omega)
      rw [if_pos h4] at hI
      have e0 : partF v s = match idxF v.f3.length s with | some i => v.f3[i]? | none => none := by unfold partF; rw [if_neg (by omega), if_pos h4]; rfl
      cases hx : idxF v.f3.length s with
      | none =>
        rw [hx] at hI e0
        conv => whnf
        repeat (first
          | (refine sel_yes ?_ ?_; (first | assumption | (simp only [beq_iff_eq, bne_iff_ne, beq_eq_false_iff_ne, bne_eq_false_iff_eq, decide_eq_true_eq, decide_eq_false_iff_not, Bool.not_eq_true', Bool.not_eq_false', ne_eq, beq_true, beq_false, bne_self_eq_false, not_true_eq_false, not_false_eq_true, gt_iff_lt, ge_iff_le, Int.not_lt, Int.not_le, Bool.true_eq_false, Bool.false_eq_true] <;> omega)); conv => whnf)
          | (refine sel_no ?_ ?_; (first | assumption | (simp only [beq_iff_eq, bne_iff_ne, beq_eq_false_iff_ne, bne_eq_false_iff_eq, decide_eq_true_eq, decide_eq_false_iff_not, Bool.not_eq_true', Bool.not_eq_false', ne_eq, beq_true, beq_false, bne_self_eq_false, not_true_eq_false, not_false_eq_true, gt_iff_lt, ge_iff_le, Int.not_lt, Int.not_le, Bool.true_eq_false, Bool.false_eq_true] <;> omega)); conv => whnf)
          | (refine ⟨_, hI, ?_⟩; conv => whnf)
          | (refine ⟨_, hk, ?_⟩; conv => whnf)
          | (refine ⟨_, hm, ?_⟩; conv => whnf)
          | (refine ⟨le_rfl' ?_, ?_⟩; rfl; conv => whnf)
          | (refine ⟨⟨?_, ?_⟩, ?_⟩; omega; omega; conv => whnf)
          | (refine ⟨⟨?_, ?_, ?_⟩, ?_⟩; rfl; omega; omega; conv => whnf)
          | (refine ⟨rfl, ?_, ?_⟩; decide; conv => whnf))
        try exact rfl
        exact congrArg optV e0.symm
      | some i =>
        rw [hx] at hI e0
        have hb : i < v.f3.length := by
          unfold idxF at hx
          split at hx <;> cases hx
          omega
        have e : partF v s = some v.f3[i] := e0.trans (List.getElem?_eq_getElem hb)
        conv => whnf
        repeat (first
          | (refine sel_yes ?_ ?_; (first | assumption | (simp only [beq_iff_eq, bne_iff_ne, beq_eq_false_iff_ne, bne_eq_false_iff_eq, decide_eq_true_eq, decide_eq_false_iff_not, Bool.not_eq_true', Bool.not_eq_false', ne_eq, beq_true, beq_false, bne_self_eq_false, not_true_eq_false, not_false_eq_true, gt_iff_lt, ge_iff_le, Int.not_lt, Int.not_le, Bool.true_eq_false, Bool.false_eq_true] <;> omega)); conv => whnf)
          | (refine sel_no ?_ ?_; (first | assumption | (simp only [beq_iff_eq, bne_iff_ne, beq_eq_false_iff_ne, bne_eq_false_iff_eq, decide_eq_true_eq, decide_eq_false_iff_not, Bool.not_eq_true', Bool.not_eq_false', ne_eq, beq_true, beq_false, bne_self_eq_false, not_true_eq_false, not_false_eq_true, gt_iff_lt, ge_iff_le, Int.not_lt, Int.not_le, Bool.true_eq_false, Bool.false_eq_true] <;> omega)); conv => whnf)
          | (refine ⟨_, hI, ?_⟩; conv => whnf)
          | (refine ⟨le_rfl' ?_, ?_⟩; rfl; conv => whnf)
          | (refine ⟨⟨?_, ?_⟩, ?_⟩; omega; omega; conv => whnf)
          | (refine ⟨⟨?_, ?_, ?_⟩, ?_⟩; rfl; omega; omega; conv => whnf)
          | (refine ⟨rfl, ?_, ?_⟩; decide; conv => whnf))
        try exact rfl
        refine ldAx rfl hb ?_
        conv => whnf
        exact congrArg optV e.symm
    · rw [if_neg h4] at hI
      by_cases h6 : v.f0 = 6
      · have h2 := hv.row.even h6
        have hm := rmemN (ext := ext) hn v s (by omega)
        have hk := rkey6 hn v s hl hv.row.wfl h6 h2
        rw [linK_key s hs.shp v.f3 0 (fun a ha => (hv.item ha).shp) h2 (rise_inc _ (fun a ha => (hv.item ha).shp) (hv.rise h6))] at hk
        cases hx : (keyF v.f3 s).2 with
        | false =>
          rw [hx] at hk
          have e : partF v s = none := by unfold partF; rw [if_pos h6, hx]; rfl
          conv => whnf
          repeat (first
            | (refine sel_yes ?_ ?_; (first | assumption | (simp only [beq_iff_eq, bne_iff_ne, beq_eq_false_iff_ne, bne_eq_false_iff_eq, decide_eq_true_eq, decide_eq_false_iff_not, Bool.not_eq_true', Bool.not_eq_false', ne_eq, beq_true, beq_false, bne_self_eq_false, not_true_eq_false, not_false_eq_true, gt_iff_lt, ge_iff_le, Int.not_lt, Int.not_le, Bool.true_eq_false, Bool.false_eq_true] <;> omega)); conv => whnf)
            | (refine sel_no ?_ ?_; (first | assumption | (simp only [beq_iff_eq, bne_iff_ne, beq_eq_false_iff_ne, bne_eq_false_iff_eq, decide_eq_true_eq, decide_eq_false_iff_not, Bool.not_eq_true', Bool.not_eq_false', ne_eq, beq_true, beq_false, bne_self_eq_false, not_true_eq_false, not_false_eq_true, gt_iff_lt, ge_iff_le, Int.not_lt, Int.not_le, Bool.true_eq_false, Bool.false_eq_true] <;> omega)); conv => whnf)
            | (refine ⟨_, hI, ?_⟩; conv => whnf)
            | (refine ⟨_, hk, ?_⟩; conv => whnf)
            | (refine ⟨_, hm, ?_⟩; conv => whnf)
            | (refine ⟨le_rfl' ?_, ?_⟩; rfl; conv => whnf)
            | (refine ⟨⟨?_, ?_⟩, ?_⟩; omega; omega; conv => whnf)
            | (refine ⟨⟨?_, ?_, ?_⟩, ?_⟩; rfl; omega; omega; conv => whnf)
            | (refine ⟨rfl, ?_, ?_⟩; decide; conv => whnf))
          try exact rfl
          exact congrArg optV e.symm
        | true =>
          rw [hx, if_pos rfl] at hk
          have hb : (keyF v.f3 s).1 + 1 < v.f3.length := keyF_lt v.f3 s hx
          have e : partF v s = some (v.f3[(keyF v.f3 s).1 + 1]) := by
            unfold partF; rw [if_pos h6, hx, if_pos rfl, List.getElem?_eq_getElem hb]
          rw [Nat.zero_add] at hk
          have e1 : IntKind.i64.wrap ((((keyF v.f3 s).1 : Nat) : Int) + 1) = (((keyF v.f3 s).1 + 1 : Nat) : Int) := wrapN (by omega) (by omega)
          conv => whnf
          repeat (first
            | (refine sel_yes ?_ ?_; (first | assumption | (simp only [beq_iff_eq, bne_iff_ne, beq_eq_false_iff_ne, bne_eq_false_iff_eq, decide_eq_true_eq, decide_eq_false_iff_not, Bool.not_eq_true', Bool.not_eq_false', ne_eq, beq_true, beq_false, bne_self_eq_false, not_true_eq_false, not_false_eq_true, gt_iff_lt, ge_iff_le, Int.not_lt, Int.not_le, Bool.true_eq_false, Bool.false_eq_true] <;> omega)); conv => whnf)
            | (refine sel_no ?_ ?_; (first | assumption | (simp only [beq_iff_eq, bne_iff_ne, beq_eq_false_iff_ne, bne_eq_false_iff_eq, decide_eq_true_eq, decide_eq_false_iff_not, Bool.not_eq_true', Bool.not_eq_false', ne_eq, beq_true, beq_false, bne_self_eq_false, not_true_eq_false, not_false_eq_true, gt_iff_lt, ge_iff_le, Int.not_lt, Int.not_le, Bool.true_eq_false, Bool.false_eq_true] <;> omega)); conv => whnf)
            | (refine ⟨_, hI, ?_⟩; conv => whnf)
            | (refine ⟨_, hk, ?_⟩; conv => whnf)
            | (refine ⟨le_rfl' ?_, ?_⟩; rfl; conv => whnf)
            | (refine ⟨⟨?_, ?_⟩, ?_⟩; omega; omega; conv => whnf)
            | (refine ⟨⟨?_, ?_, ?_⟩, ?_⟩; rfl; omega; omega; conv => whnf)
            | (refine ⟨rfl, ?_, ?_⟩; decide; conv => whnf))
          try exact rfl
          refine ldAx e1 hb ?_
          conv => whnf
          exact congrArg optV e.symm
      · have hk := rkeyN (ext := ext) hn v s h6
        by_cases h5 : v.f0 = 5
        · have hm := rmem5 hn v s hl hv.row.wfl h5
          have ha := linM_any s v.f3 0
          have e0 : partF v s = if (v.f3.any fun x => decide (cmpV x s = 0)) = true then some s else none := by unfold partF; rw [if_neg h6, if_neg h4, if_pos h5]
          rw [← ha] at e0
          cases hx : linM v.f3 s 0 with
          | none =>
            rw [hx] at hm e0
            conv => whnf
            repeat (first
              | (refine sel_yes ?_ ?_; (first | assumption | (simp only [beq_iff_eq, bne_iff_ne, beq_eq_false_iff_ne, bne_eq_false_iff_eq, decide_eq_true_eq, decide_eq_false_iff_not, Bool.not_eq_true', Bool.not_eq_false', ne_eq, beq_true, beq_false, bne_self_eq_false, not_true_eq_false, not_false_eq_true, gt_iff_lt, ge_iff_le, Int.not_lt, Int.not_le, Bool.true_eq_false, Bool.false_eq_true] <;> omega)); conv => whnf)
              | (refine sel_no ?_ ?_; (first | assumption | (simp only [beq_iff_eq, bne_iff_ne, beq_eq_false_iff_ne, bne_eq_false_iff_eq, decide_eq_true_eq, decide_eq_false_iff_not, Bool.not_eq_true', Bool.not_eq_false', ne_eq, beq_true, beq_false, bne_self_eq_false, not_true_eq_false, not_false_eq_true, gt_iff_lt, ge_iff_le, Int.not_lt, Int.not_le, Bool.true_eq_false, Bool.false_eq_true] <;> omega)); conv => whnf)
              | (refine ⟨_, hI, ?_⟩; conv => whnf)
              | (refine ⟨_, hk, ?_⟩; conv => whnf)
              | (refine ⟨_, hm, ?_⟩; conv => whnf)
              | (refine ⟨le_rfl' ?_, ?_⟩; rfl; conv => whnf)
              | (refine ⟨⟨?_, ?_⟩, ?_⟩; omega; omega; conv => whnf)
              | (refine ⟨⟨?_, ?_, ?_⟩, ?_⟩; rfl; omega; omega; conv => whnf)
              | (refine ⟨rfl, ?_, ?_⟩; decide; conv => whnf))
            try exact rfl
            exact congrArg optV e0.symm
          | some j =>
            obtain ⟨_, x, hj, h0⟩ := linM_some s v.f3 0 j hx
            rw [Nat.sub_zero] at hj
            have hb : j < v.f3.length := (List.getElem?_eq_some_iff.1 hj).1
            have ex : v.f3[j] = x := (List.getElem?_eq_some_iff.1 hj).2
            have es : v.f3[j] = s := by
              rw [ex]
              exact cmpV_zero _ _ ((hv.item (List.mem_of_getElem? hj)).shp) hs.shp h0
            rw [hx] at hm e0
            have e : partF v s = some v.f3[j] := by rw [es]; exact e0
            conv => whnf
            repeat (first
              | (refine sel_yes ?_ ?_; (first | assumption | (simp only [beq_iff_eq, bne_iff_ne, beq_eq_false_iff_ne, bne_eq_false_iff_eq, decide_eq_true_eq, decide_eq_false_iff_not, Bool.not_eq_true', Bool.not_eq_false', ne_eq, beq_true, beq_false, bne_self_eq_false, not_true_eq_false, not_false_eq_true, gt_iff_lt, ge_iff_le, Int.not_lt, Int.not_le, Bool.true_eq_false, Bool.false_eq_true] <;> omega)); conv => whnf)
              | (refine sel_no ?_ ?_; (first | assumption | (simp only [beq_iff_eq, bne_iff_ne, beq_eq_false_iff_ne, bne_eq_false_iff_eq, decide_eq_true_eq, decide_eq_false_iff_not, Bool.not_eq_true', Bool.not_eq_false', ne_eq, beq_true, beq_false, bne_self_eq_false, not_true_eq_false, not_false_eq_true, gt_iff_lt, ge_iff_le, Int.not_lt, Int.not_le, Bool.true_eq_false, Bool.false_eq_true] <;> omega)); conv => whnf)
              | (refine ⟨_, hI, ?_⟩; conv => whnf)
              | (refine ⟨_, hk, ?_⟩; conv => whnf)
              | (refine ⟨_, hm, ?_⟩; conv => whnf)
              | (refine ⟨le_rfl' ?_, ?_⟩; rfl; conv => whnf)
              | (refine ⟨⟨?_, ?_⟩, ?_⟩; omega; omega; conv => whnf)
              | (refine ⟨⟨?_, ?_, ?_⟩, ?_⟩; rfl; omega; omega; conv => whnf)
              | (refine ⟨rfl, ?_, ?_⟩; decide; conv => whnf))
            try exact rfl
            refine ldAx rfl hb ?_
            conv => whnf
            exact congrArg optV e.symm
        · have hm := rmemN (ext := ext) hn v s h5
          have e : partF v s = none := by unfold partF; rw [if_neg h6, if_neg h4, if_neg h5]
          conv => whnf
          repeat (first
            | (refine sel_yes ?_ ?_; (first | assumption | (simp only [beq_iff_eq, bne_iff_ne, beq_eq_false_iff_ne, bne_eq_false_iff_eq, decide_eq_true_eq, decide_eq_false_iff_not, Bool.not_eq_true', Bool.not_eq_false', ne_eq, beq_true, beq_false, bne_self_eq_false, not_true_eq_false, not_false_eq_true, gt_iff_lt, ge_iff_le, Int.not_lt, Int.not_le, Bool.true_eq_false, Bool.false_eq_true] <;> omega)); conv => whnf)
            | (refine sel_no ?_ ?_; (first | assumption | (simp only [beq_iff_eq, bne_iff_ne, beq_eq_false_iff_ne, bne_eq_false_iff_eq, decide_eq_true_eq, decide_eq_false_iff_not, Bool.not_eq_true', Bool.not_eq_false', ne_eq, beq_true, beq_false, bne_self_eq_false, not_true_eq_false, not_false_eq_true, gt_iff_lt, ge_iff_le, Int.not_lt, Int.not_le, Bool.true_eq_false, Bool.false_eq_true] <;> omega)); conv => whnf)
            | (refine ⟨_, hI, ?_⟩; conv => whnf)
            | (refine ⟨_, hk, ?_⟩; conv => whnf)
            | (refine ⟨_, hm, ?_⟩; conv => whnf)
            | (refine ⟨le_rfl' ?_, ?_⟩; rfl; conv => whnf)
            | (refine ⟨⟨?_, ?_⟩, ?_⟩; omega; omega; conv => whnf)
            | (refine ⟨⟨?_, ?_, ?_⟩, ?_⟩; rfl; omega; omega; conv => whnf)
            | (refine ⟨rfl, ?_, ?_⟩; decide; conv => whnf))
          try exact rfl
          exact congrArg optV e.symm
  obtain ⟨r, h, rfl⟩ := key
  exact h
theorem two_cold (x y : T) : ∀ c ∈ [V.int .i64 x.f0, .int .i64 x.f1, .str x.f2, .sl false (encL x.f3) x.f3.length, .int .i64 y.f0, .int .i64 y.f1, .str y.f2, .sl false (encL y.f3) y.f3.length], cold c = true := fun c hc => encC [x, y] c (by simp only [encL, enc_eq, List.append_nil]; exact hc)
theorem two_one (D : List T) (x y : T) : encL D ++ [V.int .i64 x.f0, .int .i64 x.f1, .str x.f2, .sl false (encL x.f3) x.f3.length, .int .i64 y.f0, .int .i64 y.f1, .str y.f2, .sl false (encL y.f3) y.f3.length] = encL (D ++ [x, y]) := by
  rw [encL_app]
  simp only [encL, enc_eq, List.append_nil]; rfl
theorem appP {hp : Hp} {ida m n : Nat} {S : V} {D : List T} {x y : T} {c : Bool} {Q : V × Hp → Prop} (h : Gro 8 hp.a m S (encL D) n) (hm : m ≤ hp.m) (hi : ida < hp.m) (hb : n ≤ 1048576)
    (q : ∀ b v a', Gro 8 a' hp.m (.rsl false b v 0 (n + 1)) (encL (D ++ [x, y])) (n + 1) → Q (.rsl false b v 0 (n + 1), ⟨hp.h, hp.n, a', hp.m⟩)) :
    opt (appendV 8 112 hp ida S (.sl c [V.int .i64 x.f0, .int .i64 x.f1, .str x.f2, .sl false (encL x.f3) x.f3.length, .int .i64 y.f0, .int .i64 y.f1, .str y.f2, .sl false (encL y.f3) y.f3.length] 1)) Q :=
  Gro.app h (xs := [V.int .i64 x.f0, .int .i64 x.f1, .str x.f2, .sl false (encL x.f3) x.f3.length, .int .i64 y.f0, .int .i64 y.f1, .str y.f2, .sl false (encL y.f3) y.f3.length]) (k := 1) rfl (by decide) rfl (two_cold x y) ⟨by unfold maxRoom; omega, by unfold maxRoom; omega⟩ hi hm
    fun b v a' h1 _ _ => q b v a' (h1.to (two_one D x y) rfl)
/-- a map's pairs -/
theorem lprs (v : T) (hl : v.f3.length ≤ 1048576) (h2 : v.f3.length % 2 = 0) (Q : Ex → St → Prop) (d : Nat) :
    ∀ (j : Nat) (S : V) (z : St), v.f3.length - 2 * j = d → 2 * j ≤ v.f3.length → Has z.t [(1, .ref 0 0), (3, S), (4, .int .i64 ((2 * j : Nat) : Int))] → z.hp.n = 4 → Has z.hp.h [(0, some (.cells (cellsV v) false))] → Gro 8 z.hp.a z.hp.m S (encL (v.f3.take (2 * j))) j →
      (∀ (S' : V) (z' : St), Has z'.t [(3, S')] → Gro 8 z'.hp.a z'.hp.m S' (encL v.f3) (v.f3.length / 2) → Q (.exit 0) z') →
      Go.Ab.Loop (cfg ext) (lpOf Tryd.f65) 4 z Q := by
  induction d using Nat.strongRecOn with
  | ind d ih =>
    intro j S z hd hj ht hz hb hg hq
    have e1 : IntKind.i64.wrap (((2 * j : Nat) : Int) + 1) = ((2 * j + 1 : Nat) : Int) := wrapN (by omega) (by omega)
    by_cases hlt : 2 * j < v.f3.length
    · have hlt1 : 2 * j + 1 < v.f3.length := by omega
      have g : decide (IntKind.i64.wrap (((2 * j : Nat) : Int) + 1) < (v.f3.length : Int)) = true := decide_eq_true (by rw [e1]; omega)
      have e2 : IntKind.i64.wrap (((2 * j : Nat) : Int) + 2) = ((2 * (j + 1) : Nat) : Int) := by rw [IntKind.wrap_i64]; omega
      obtain ⟨x, hx⟩ : ∃ x, v.f3[2 * j] = x := ⟨_, rfl⟩
      obtain ⟨y, hy⟩ : ∃ y, v.f3[2 * j + 1] = y := ⟨_, rfl⟩
      have eT : v.f3.take (2 * j) ++ [x, y] = v.f3.take (2 * (j + 1)) := by
        rw [show 2 * (j + 1) = 2 * j + 1 + 1 by omega, List.take_add_one, List.take_add_one, List.getElem?_eq_getElem hlt, List.getElem?_eq_getElem hlt1, hx, hy]
        simp
      have hlx : ∀ {Q : V → Prop}, Q (A x) → (2 * j) * 4 + 4 ≤ (encL v.f3).length ∧ opt (one (some true) (sub (encL v.f3) ((2 * j) * 4) 4)) fun v => fv v Q := fun h => ldA hlt (by rw [hx]; exact h)
      have hly : ∀ {Q : V → Prop}, Q (A y) → (IntKind.i64.wrap (((2 * j : Nat) : Int) + 1)).toNat * 4 + 4 ≤ (encL v.f3).length ∧ opt (one (some true) (sub (encL v.f3) ((IntKind.i64.wrap (((2 * j : Nat) : Int) + 1)).toNat * 4) 4)) fun v => fv v Q := fun h => ldAx e1 hlt1 (by rw [hy]; exact h)
      rcases hg.form with ⟨eS, _⟩ | ⟨bS, vS, eS⟩ <;> subst eS
      all_goals
        rw [St.knows _ _ ht hz _ hb]
        refine Loop.round ?_
        conv => whnf
        refine sel_yes g ?_
        conv => whnf
        refine ⟨⟨by omega, by omega⟩, ?_⟩
        conv => whnf
        refine hlx ?_
        conv => whnf
        refine ⟨bnd e1 hlt1, ?_⟩
        conv => whnf
        refine hly ?_
        conv => whnf
        refine ⟨rfl, ?_⟩
        conv => whnf
        refine ⟨⟨rfl, (show (8 : Nat) ≠ 0 by decide)⟩, ?_⟩
        refine appP hg (by (conv => lhs; whnf); (repeat ((conv => rhs; whnf); first | with_reducible exact Nat.le_refl _ | refine Nat.le_trans ?_ (Nat.le_add_right _ _) | refine Nat.le_succ_of_le ?_ | exact Nat.le_refl _))) (Nat.add_lt_add_left (by decide) _) (by omega) (fun b1 v1 a1 h1 => ?_)
        rw [eT] at h1
        conv => whnf
        refine ih (v.f3.length - 2 * (j + 1)) (by omega) (j + 1) (.rsl false b1 v1 0 (j + 1)) _ rfl (by omega) ⟨rfl, rfl, ?_, trivial⟩ rfl ⟨rfl, trivial⟩ ?_ hq
        · conv => lhs; whnf
          exact vi e2
        · refine Gro.truncR h1 ?_
          (conv => lhs; whnf); (repeat ((conv => rhs; whnf); first | with_reducible exact Nat.le_refl _ | refine Nat.le_trans ?_ (Nat.le_add_right _ _) | refine Nat.le_succ_of_le ?_ | exact Nat.le_refl _))
    · have g : decide (IntKind.i64.wrap (((2 * j : Nat) : Int) + 1) < (v.f3.length : Int)) = false := decide_eq_false (by rw [e1]; omega)
      rcases hg.form with ⟨eS, _⟩ | ⟨bS, vS, eS⟩ <;> subst eS
      all_goals
        rw [St.knows _ _ ht hz _ hb]
        refine Loop.round ?_
        conv => whnf
        refine sel_no g ?_
        conv => whnf
        refine hq _ _ ⟨rfl, trivial⟩ ?_
        refine Gro.to (Gro.mono hg (fun _ _ => rfl) ?_) (by rw [List.take_of_length_le (by omega)]) (by omega)
        (conv => lhs; whnf); (repeat ((conv => rhs; whnf); first | with_reducible exact Nat.le_refl _ | refine Nat.le_trans ?_ (Nat.le_add_right _ _) | refine Nat.le_succ_of_le ?_ | exact Nat.le_refl _))
theorem rprs (hn : Non ext) (v : T) (hl : v.f3.length ≤ 1048576) (h2 : v.f3.length % 2 = 0) : (cfg ext).Ev 65 [A v] (.sl false (encL v.f3) (v.f3.length / 2)) := by
  have key : ∃ r, (cfg ext).Ev 65 [A v] r ∧ r = .sl false (encL v.f3) (v.f3.length / 2) := by
    refine Ev.ofF (hn 65 (by decide) (by decide)) Tryd.func65 rfl rfl ?_
    conv => whnf
    refine lprs v hl h2 _ _ 0 (.sl true [] 0) _ rfl (by omega) ⟨rfl, rfl, rfl, trivial⟩ rfl ⟨rfl, trivial⟩ (by simp only [Nat.mul_zero, List.take_zero, encL]; exact Gro.nil _ _ _) (fun S z q1 c => ?_)
    rcases c.form with ⟨eS, e0⟩ | ⟨bS, vS, eS⟩
    · subst eS
      rw [St.knows (s := z) _ z.hp.n q1 rfl]
      conv => whnf
      exact Fin.gro rfl c rfl
    · subst eS
      rw [St.knows (s := z) _ z.hp.n q1 rfl]
      conv => whnf
      exact Fin.gro rfl c rfl
  obtain ⟨r, h, rfl⟩ := key
  exact h
end
end Go.Proofs.YtjfjagnnefmepaaDoor.AB
end

section
set_option linter.unusedVariables false
set_option linter.unusedSimpArgs false
open Go Go.Ab Go.Proofs Go.Vl
namespace Go.Proofs.YtjfjagnnefmepaaDoor.AB
set_option maxRecDepth 100000
set_option maxHeartbeats 16000000
set_option linter.unusedSimpArgs false
set_option linter.unusedVariables false
theorem encK_cons (p : T × T) (a : List (T × T)) : encL (flatK (p :: a)) = [V.int .i64 p.1.f0, .int .i64 p.1.f1, .str p.1.f2, .sl false (encL p.1.f3) p.1.f3.length, .int .i64 p.2.f0, .int .i64 p.2.f1, .str p.2.f2, .sl false (encL p.2.f3) p.2.f3.length] ++ encL (flatK a) := by
  simp only [flatK, encL, enc_eq, List.cons_append, List.nil_append]
theorem encK_len (a : List (T × T)) : (encL (flatK a)).length = a.length * 8 := by rw [encL_len, flat_len]; omega
theorem ldKey {p : T × T} {a : List (T × T)} {ca : List V} (hc : ca = encL (flatK (p :: a))) {Q : V → Prop} (hq : Q (A p.1)) : (0 : Int).toNat * 8 + 0 + 4 ≤ ca.length ∧ opt (one (some true) (sub ca ((0 : Int).toNat * 8 + 0) 4)) fun v => fv v Q := by
  subst hc
  rw [encK_cons]
  exact ⟨by simp only [List.length_append, List.length_cons, List.length_nil]; show 4 ≤ _; omega, hq⟩
theorem ldPair {p : T × T} {a : List (T × T)} {ca : List V} (hc : ca = encL (flatK (p :: a))) {Q : V → Prop} (hq : Q (.agg [V.int .i64 p.1.f0, .int .i64 p.1.f1, .str p.1.f2, .sl false (encL p.1.f3) p.1.f3.length, .int .i64 p.2.f0, .int .i64 p.2.f1, .str p.2.f2, .sl false (encL p.2.f3) p.2.f3.length])) : (0 : Int).toNat * 8 + 8 ≤ ca.length ∧ opt (one (some true) (sub ca ((0 : Int).toNat * 8) 8)) fun v => fv v Q := by
  subst hc
  rw [encK_cons]
  exact ⟨by simp only [List.length_append, List.length_cons, List.length_nil]; show 8 ≤ _; omega, hq⟩
theorem slK {P : Program} {t e : Nat} {p : T × T} {a : List (T × T)} {ca : List V} {n : Nat} (hc : ca = encL (flatK (p :: a))) (hn : n = a.length + 1) (ht : tslice P t = some e) (h8 : tsize P e = 8) : sliceV P t (.sl false ca n) (some (.int .i64 1)) none none = some (.sl false (encL (flatK a)) a.length) := by
  subst hc hn
  have hb : (0 : Int) ≤ 1 ∧ (1 : Int) ≤ ((a.length + 1 : Nat) : Int) := by omega
  simp only [sliceV, ht, bounds, boundO, bound, if_pos hb, Option.bind_some, h8, clip, Bool.false_and]
  have e1 : sub (encL (flatK (p :: a))) ((1 : Int).toNat * 8) ((a.length + 1 - (1 : Int).toNat) * 8) = encL (flatK a) := by
    have : (1 : Int).toNat = 1 := rfl
    rw [this, encK_cons]
    unfold sub
    rw [show 1 * 8 = 8 from rfl]
    show ((encL (flatK a)).take _) = _
    rw [List.take_of_length_le]
    rw [encK_len]; omega
  rw [e1]
  simp
section
variable {ext : Exts}
theorem lmrg (hn : Non ext) (Q : Ex → St → Prop) (d : Nat) :
    ∀ (a b : List (T × T)) (ca cb : List V) (na nb n : Nat) (D : List T) (S : V) (z : St), a.length + b.length = d → ca = encL (flatK a) → na = a.length → cb = encL (flatK b) → nb = b.length → D.length = 2 * n → n + d ≤ 1048576 → (∀ p ∈ a, WfV p.1) →
      Has z.t [(4, .sl false ca na), (5, .sl false cb nb), (6, S)] → z.hp.n = 19 → Gro 8 z.hp.a z.hp.m S (encL D) n →
      (∀ (a' b' : List (T × T)) (n' : Nat) (D' : List T) (S' : V) (z' : St), Has z'.t [(4, .sl false (encL (flatK a')) a'.length), (5, .sl false (encL (flatK b')) b'.length), (6, S')] → z'.hp.n = 27 → Gro 8 z'.hp.a z'.hp.m S' (encL D') n' → D'.length = 2 * n' → (a' = [] ∨ b' = []) → n' + a'.length + b'.length ≤ 1048576 → D' ++ flatK (a' ++ b') = D ++ flatK (mrgK a b) → Q (.exit 0) z') →
      Go.Ab.Loop (cfg ext) (lpOf Tryd.f108) 19 z Q := by
  induction d using Nat.strongRecOn with
  | ind d ih =>
    intro a b ca cb na nb n D S z hd hca hna hcb hnb hD hlim hw ht hz hg hq
    cases a with
    | nil =>
      have hna' : na = 0 := hna
      have hq' := hq [] b n D
      rw [show mrgK [] b = b from by simp [mrgK], ← hca, ← hcb, ← hna, ← hnb] at hq'
      rcases hg.form with ⟨eS, _⟩ | ⟨bS, vS, eS⟩ <;> subst eS
      all_goals
        rw [St.knows _ _ ht hz]
        refine Loop.round ?_
        conv => whnf
        repeat (first
          | (refine sel_yes ?_ ?_; (first | assumption | (simp only [beq_iff_eq, bne_iff_ne, beq_eq_false_iff_ne, bne_eq_false_iff_eq, decide_eq_true_eq, decide_eq_false_iff_not, Bool.not_eq_true', Bool.not_eq_false', ne_eq, beq_true, beq_false, bne_self_eq_false, not_true_eq_false, not_false_eq_true, gt_iff_lt, ge_iff_le, Int.not_lt, Int.not_le, Bool.true_eq_false, Bool.false_eq_true] <;> omega)); conv => whnf)
          | (refine sel_no ?_ ?_; (first | assumption | (simp only [beq_iff_eq, bne_iff_ne, beq_eq_false_iff_ne, bne_eq_false_iff_eq, decide_eq_true_eq, decide_eq_false_iff_not, Bool.not_eq_true', Bool.not_eq_false', ne_eq, beq_true, beq_false, bne_self_eq_false, not_true_eq_false, not_false_eq_true, gt_iff_lt, ge_iff_le, Int.not_lt, Int.not_le, Bool.true_eq_false, Bool.false_eq_true] <;> omega)); conv => whnf)
          | (refine ⟨le_rfl' ?_, ?_⟩; rfl; conv => whnf)
          | (refine ⟨⟨?_, ?_⟩, ?_⟩; omega; omega; conv => whnf)
          | (refine ⟨⟨?_, ?_, ?_⟩, ?_⟩; rfl; omega; omega; conv => whnf)
          | (refine ⟨rfl, ?_, ?_⟩; decide; conv => whnf))
        try exact rfl
        refine hq' _ _ ⟨rfl, rfl, rfl, trivial⟩ ?_ ?_ hD (.inl rfl) (by simp at hd hna; omega) rfl
        · rfl
        refine Gro.mono hg (fun _ _ => rfl) ?_
        (conv => lhs; whnf); (repeat ((conv => rhs; whnf); first | with_reducible exact Nat.le_refl _ | refine Nat.le_trans ?_ (Nat.le_add_right _ _) | refine Nat.le_succ_of_le ?_ | exact Nat.le_refl _))
    | cons p a =>
      have hna' : na = a.length + 1 := hna
      cases b with
      | nil =>
        have hnb' : nb = 0 := hnb
        have hq' := hq (p :: a) [] n D
        rw [mrgK_nil, ← hca, ← hcb, ← hna, ← hnb] at hq'
        rcases hg.form with ⟨eS, _⟩ | ⟨bS, vS, eS⟩ <;> subst eS
        all_goals
          rw [St.knows _ _ ht hz]
          refine Loop.round ?_
          conv => whnf
          repeat (first
            | (refine sel_yes ?_ ?_; (first | assumption | (simp only [beq_iff_eq, bne_iff_ne, beq_eq_false_iff_ne, bne_eq_false_iff_eq, decide_eq_true_eq, decide_eq_false_iff_not, Bool.not_eq_true', Bool.not_eq_false', ne_eq, beq_true, beq_false, bne_self_eq_false, not_true_eq_false, not_false_eq_true, gt_iff_lt, ge_iff_le, Int.not_lt, Int.not_le, Bool.true_eq_false, Bool.false_eq_true] <;> omega)); conv => whnf)
            | (refine sel_no ?_ ?_; (first | assumption | (simp only [beq_iff_eq, bne_iff_ne, beq_eq_false_iff_ne, bne_eq_false_iff_eq, decide_eq_true_eq, decide_eq_false_iff_not, Bool.not_eq_true', Bool.not_eq_false', ne_eq, beq_true, beq_false, bne_self_eq_false, not_true_eq_false, not_false_eq_true, gt_iff_lt, ge_iff_le, Int.not_lt, Int.not_le, Bool.true_eq_false, Bool.false_eq_true] <;> omega)); conv => whnf)
            | (refine ⟨le_rfl' ?_, ?_⟩; rfl; conv => whnf)
            | (refine ⟨⟨?_, ?_⟩, ?_⟩; omega; omega; conv => whnf)
            | (refine ⟨⟨?_, ?_, ?_⟩, ?_⟩; rfl; omega; omega; conv => whnf)
            | (refine ⟨rfl, ?_, ?_⟩; decide; conv => whnf))
          try exact rfl
          refine hq' _ _ ⟨rfl, rfl, rfl, trivial⟩ ?_ ?_ hD (.inr rfl) (by simp at hd hna hnb; omega) (by rw [List.append_nil])
          · rfl
          refine Gro.mono hg (fun _ _ => rfl) ?_
          (conv => lhs; whnf); (repeat ((conv => rhs; whnf); first | with_reducible exact Nat.le_refl _ | refine Nat.le_trans ?_ (Nat.le_add_right _ _) | refine Nat.le_succ_of_le ?_ | exact Nat.le_refl _))
      | cons q b =>
        have hE := rcmp hn p.1 (hw p (by simp)) q.1
        have w1 : mrgK (p :: a) (q :: b) = if cmpV p.1 q.1 < 0 then p :: mrgK a (q :: b) else if cmpV p.1 q.1 = 0 then q :: mrgK a b else q :: mrgK (p :: a) b := by rw [mrgK]
        rw [w1] at hq
        clear w1
        have hwa : ∀ r ∈ a, WfV r.1 := fun r hr => hw r (by simp [hr])
        simp only [List.length_cons] at hd hna hnb
        have s1 := slK (P := Tryd.prog) (t := 84) (e := 87) hca hna (by kernel_rfl) (by kernel_rfl)
        have s2 := slK (P := Tryd.prog) (t := 84) (e := 87) hcb hnb (by kernel_rfl) (by kernel_rfl)
        have eD1 : ∀ m : List (T × T), D ++ flatK (p :: m) = (D ++ [p.1, p.2]) ++ flatK m := fun m => by simp [flatK]
        have eD2 : ∀ m : List (T × T), D ++ flatK (q :: m) = (D ++ [q.1, q.2]) ++ flatK m := fun m => by simp [flatK]
        have two1 := two_one D p.1 p.2
        have two2 := two_one D q.1 q.2
        have bn1 : (0 : Int) ≤ 0 ∧ (0 : Int) < (na : Int) := ⟨by omega, by omega⟩
        have bn2 : (0 : Int) ≤ 0 ∧ (0 : Int) < (nb : Int) := ⟨by omega, by omega⟩
        generalize cmpV p.1 q.1 = c at hE hq
        rcases hg.form with ⟨eS, _⟩ | ⟨bS, vS, eS⟩ <;> subst eS
        all_goals
          rw [St.knows _ _ ht hz]
          refine Loop.round ?_
          conv => whnf
          repeat (first
            | (refine sel_yes ?_ ?_; (first | assumption | (simp only [beq_iff_eq, bne_iff_ne, beq_eq_false_iff_ne, bne_eq_false_iff_eq, decide_eq_true_eq, decide_eq_false_iff_not, Bool.not_eq_true', Bool.not_eq_false', ne_eq, beq_true, beq_false, bne_self_eq_false, not_true_eq_false, not_false_eq_true, gt_iff_lt, ge_iff_le, Int.not_lt, Int.not_le, Bool.true_eq_false, Bool.false_eq_true] <;> omega)); conv => whnf)
            | (refine sel_no ?_ ?_; (first | assumption | (simp only [beq_iff_eq, bne_iff_ne, beq_eq_false_iff_ne, bne_eq_false_iff_eq, decide_eq_true_eq, decide_eq_false_iff_not, Bool.not_eq_true', Bool.not_eq_false', ne_eq, beq_true, beq_false, bne_self_eq_false, not_true_eq_false, not_false_eq_true, gt_iff_lt, ge_iff_le, Int.not_lt, Int.not_le, Bool.true_eq_false, Bool.false_eq_true] <;> omega)); conv => whnf)
            | (refine ⟨le_rfl' ?_, ?_⟩; rfl; conv => whnf)
            | (refine ⟨⟨?_, ?_⟩, ?_⟩; omega; omega; conv => whnf)
            | (refine ⟨⟨?_, ?_, ?_⟩, ?_⟩; rfl; omega; omega; conv => whnf)
            | (refine ⟨rfl, ?_, ?_⟩; decide; conv => whnf))
          try exact rfl
          refine ldKey hca ?_
          conv => whnf
          repeat (first
            | (refine sel_yes ?_ ?_; (first | assumption | (simp only [beq_iff_eq, bne_iff_ne, beq_eq_false_iff_ne, bne_eq_false_iff_eq, decide_eq_true_eq, decide_eq_false_iff_not, Bool.not_eq_true', Bool.not_eq_false', ne_eq, beq_true, beq_false, bne_self_eq_false, not_true_eq_false, not_false_eq_true, gt_iff_lt, ge_iff_le, Int.not_lt, Int.not_le, Bool.true_eq_false, Bool.false_eq_true] <;> omega)); conv => whnf)
            | (refine sel_no ?_ ?_; (first | assumption | (simp only [beq_iff_eq, bne_iff_ne, beq_eq_false_iff_ne, bne_eq_false_iff_eq, decide_eq_true_eq, decide_eq_false_iff_not, Bool.not_eq_true', Bool.not_eq_false', ne_eq, beq_true, beq_false, bne_self_eq_false, not_true_eq_false, not_false_eq_true, gt_iff_lt, ge_iff_le, Int.not_lt, Int.not_le, Bool.true_eq_false, Bool.false_eq_true] <;> omega)); conv => whnf)
            | (refine ⟨le_rfl' ?_, ?_⟩; rfl; conv => whnf)
            | (refine ⟨⟨?_, ?_⟩, ?_⟩; omega; omega; conv => whnf)
            | (refine ⟨⟨?_, ?_, ?_⟩, ?_⟩; rfl; omega; omega; conv => whnf)
            | (refine ⟨rfl, ?_, ?_⟩; decide; conv => whnf))
          try exact rfl
          refine ldKey hcb ?_
          conv => whnf
          refine ⟨_, hE, ?_⟩
          conv => whnf
          by_cases h1 : c < 0
          · rw [if_pos h1] at hq
            refine sel_yes (decide_eq_true h1) ?_
            conv => whnf
            refine ⟨bn1, ?_⟩
            conv => whnf
            refine ldPair hca ?_
            conv => whnf
            refine ⟨rfl, ?_⟩
            conv => whnf
            refine ⟨⟨rfl, (show (8 : Nat) ≠ 0 by decide)⟩, ?_⟩
            refine Gro.one hg ⟨_, _, _, _, rfl, upd_is _ _ _⟩ ?_ ?_ ?_ ?_ ?_ ?_ (fun b1 v1 a1 k1 => ?_)
            · intro b0 hb0
              exact upd_lt (Nat.lt_of_lt_of_le hb0 (by ((conv => lhs; whnf); (repeat ((conv => rhs; whnf); first | with_reducible exact Nat.le_refl _ | refine Nat.le_trans ?_ (Nat.le_add_right _ _) | refine Nat.le_succ_of_le ?_)))))
            · rfl
            · exact (two_cold p.1 p.2)
            · exact ⟨by show (_ + 1) * 112 ≤ 140737488355328; (try simp only [List.length_append, List.length_cons, List.length_nil]); omega, by show _ + 1 ≤ 140737488355328; (try simp only [List.length_append, List.length_cons, List.length_nil]); omega⟩
            · exact Nat.add_lt_add_left (by decide) _
            · ((conv => lhs; whnf); (repeat ((conv => rhs; whnf); first | with_reducible exact Nat.le_refl _ | refine Nat.le_trans ?_ (Nat.le_add_right _ _) | refine Nat.le_succ_of_le ?_)))
            conv => whnf
            refine ⟨_, s1, ?_⟩
            conv => whnf
            refine ih (a.length + (b.length + 1)) (by omega) a (q :: b) _ _ _ _ (n + 1) (D ++ [p.1, p.2]) (.rsl false b1 v1 0 (n + 1)) _ (by simp) rfl rfl hcb hnb (by simp; omega) (by omega) hwa ⟨rfl, rfl, rfl, trivial⟩ rfl ?_ ?_
            · refine Gro.to (Gro.truncR k1 ?_) two1 rfl
              (conv => lhs; whnf); (repeat ((conv => rhs; whnf); first | with_reducible exact Nat.le_refl _ | refine Nat.le_trans ?_ (Nat.le_add_right _ _) | refine Nat.le_succ_of_le ?_ | exact Nat.le_refl _))
            · rw [eD1] at hq; exact hq
          · rw [if_neg h1] at hq
            refine sel_no (decide_eq_false h1) ?_
            conv => whnf
            refine ⟨bn2, ?_⟩
            conv => whnf
            refine ldPair hcb ?_
            conv => whnf
            refine ⟨rfl, ?_⟩
            conv => whnf
            refine ⟨⟨rfl, (show (8 : Nat) ≠ 0 by decide)⟩, ?_⟩
            refine Gro.one hg ⟨_, _, _, _, rfl, upd_is _ _ _⟩ ?_ ?_ ?_ ?_ ?_ ?_ (fun b1 v1 a1 k1 => ?_)
            · intro b0 hb0
              exact upd_lt (Nat.lt_of_lt_of_le hb0 (by ((conv => lhs; whnf); (repeat ((conv => rhs; whnf); first | with_reducible exact Nat.le_refl _ | refine Nat.le_trans ?_ (Nat.le_add_right _ _) | refine Nat.le_succ_of_le ?_)))))
            · rfl
            · exact (two_cold q.1 q.2)
            · exact ⟨by show (_ + 1) * 112 ≤ 140737488355328; (try simp only [List.length_append, List.length_cons, List.length_nil]); omega, by show _ + 1 ≤ 140737488355328; (try simp only [List.length_append, List.length_cons, List.length_nil]); omega⟩
            · exact Nat.add_lt_add_left (by decide) _
            · ((conv => lhs; whnf); (repeat ((conv => rhs; whnf); first | with_reducible exact Nat.le_refl _ | refine Nat.le_trans ?_ (Nat.le_add_right _ _) | refine Nat.le_succ_of_le ?_)))
            conv => whnf
            refine ⟨_, s2, ?_⟩
            conv => whnf
            by_cases h0 : c = 0
            · rw [if_pos h0] at hq
              have g0 : (c == 0) = true := by simp [h0]
              refine sel_yes g0 ?_
              conv => whnf
              refine ⟨_, s1, ?_⟩
              conv => whnf
              refine ih (a.length + b.length) (by omega) a b _ _ _ _ (n + 1) (D ++ [q.1, q.2]) (.rsl false b1 v1 0 (n + 1)) _ rfl rfl rfl rfl rfl (by simp; omega) (by omega) hwa ⟨rfl, rfl, rfl, trivial⟩ rfl ?_ ?_
              · refine Gro.to (Gro.truncR k1 ?_) two2 rfl
                (conv => lhs; whnf); (repeat ((conv => rhs; whnf); first | with_reducible exact Nat.le_refl _ | refine Nat.le_trans ?_ (Nat.le_add_right _ _) | refine Nat.le_succ_of_le ?_ | exact Nat.le_refl _))
              · rw [eD2] at hq; exact hq
            · rw [if_neg h0] at hq
              have g0 : (c == 0) = false := by simp [h0]
              refine sel_no g0 ?_
              conv => whnf
              refine ih (a.length + 1 + b.length) (by omega) (p :: a) b _ _ _ _ (n + 1) (D ++ [q.1, q.2]) (.rsl false b1 v1 0 (n + 1)) _ (by simp only [List.length_cons]) hca hna rfl rfl (by simp; omega) (by omega) hw ⟨rfl, rfl, rfl, trivial⟩ rfl ?_ ?_
              · refine Gro.to (Gro.truncR k1 ?_) two2 rfl
                (conv => lhs; whnf); (repeat ((conv => rhs; whnf); first | with_reducible exact Nat.le_refl _ | refine Nat.le_trans ?_ (Nat.le_add_right _ _) | refine Nat.le_succ_of_le ?_ | exact Nat.le_refl _))
              · rw [eD2] at hq; exact hq
end
end Go.Proofs.YtjfjagnnefmepaaDoor.AB
end

section
set_option linter.unusedVariables false
set_option linter.unusedSimpArgs false
open Go Go.Ab Go.Proofs Go.Vl
namespace Go.Proofs.YtjfjagnnefmepaaDoor.AB
set_option maxRecDepth 100000
set_option maxHeartbeats 16000000
set_option linter.unusedSimpArgs false
set_option linter.unusedVariables false
theorem slKLo {P : Program} {t e : Nat} {l : List (T × T)} {x : Int} {i : Nat} (ht : tslice P t = some e) (h8 : tsize P e = 8) (hx : x = (i : Int)) (h : i ≤ l.length) : sliceV P t (.sl false (encL (flatK l)) l.length) none (some (.int .i64 x)) none = some (.sl false (encL (flatK (l.take i))) (l.take i).length) := by
  subst hx
  have hb : (0 : Int) ≤ (i : Int) ∧ (i : Int) ≤ (l.length : Int) := ⟨by omega, by omega⟩
  simp only [sliceV, ht, bounds, boundO, bound, if_pos hb, Option.bind_some, Int.toNat_natCast, h8, clip, Bool.false_and, Nat.sub_zero, Nat.zero_mul]
  have e1 : sub (encL (flatK l)) 0 (i * 8) = encL (flatK (l.take i)) := by
    unfold sub
    rw [List.drop_zero, show i * 8 = 2 * i * 4 by omega, encL_take, flat_take]
  have e2 : (l.take i).length = i := by rw [List.length_take]; omega
  rw [e1, e2]
theorem slKHi {P : Program} {t e : Nat} {l : List (T × T)} {x : Int} {i : Nat} (ht : tslice P t = some e) (h8 : tsize P e = 8) (hx : x = (i : Int)) (h : i ≤ l.length) : sliceV P t (.sl false (encL (flatK l)) l.length) (some (.int .i64 x)) none none = some (.sl false (encL (flatK (l.drop i))) (l.drop i).length) := by
  subst hx
  have hb : (0 : Int) ≤ (i : Int) ∧ (i : Int) ≤ (l.length : Int) := ⟨by omega, by omega⟩
  simp only [sliceV, ht, bounds, boundO, bound, if_pos hb, Option.bind_some, Int.toNat_natCast, h8, clip, Bool.false_and]
  have e2 : (l.drop i).length = l.length - i := by rw [List.length_drop]
  have e1 : sub (encL (flatK l)) (i * 8) ((l.length - i) * 8) = encL (flatK (l.drop i)) := by
    unfold sub; rw [show i * 8 = 2 * i * 4 by omega, encL_drop, flat_drop, ← e2, List.take_of_length_le]; rw [encK_len]; exact Nat.le_refl _
  rw [e1, e2]
/-- append of a row of pairs -/
theorem appKs {a : List (T × T)} {D : List T} {hp : Hp} {ida m n : Nat} {S : V} {Q : V × Hp → Prop} (h : Gro 8 hp.a m S (encL D) n) (hm : m ≤ hp.m) (hi : ida < hp.m) (hb : n + a.length ≤ 1048576)
    (q : ∀ S' a', Gro 8 a' hp.m S' (encL (D ++ flatK a)) (n + a.length) → Q (S', ⟨hp.h, hp.n, a', hp.m⟩)) : opt (appendV 8 112 hp ida S (.sl false (encL (flatK a)) a.length)) Q := by
  have hc : content none hp 8 (.sl false (encL (flatK a)) a.length) = some (encL (flatK a), a.length) := by
    simp only [content]; rw [if_pos (encK_len a)]
  cases a with
  | nil =>
    refine Gro.app0 h (by rw [hc]; rfl) ?_
    exact q S hp.a ((h.mono (fun _ _ => rfl) hm).to (by simp [flatK]) (by simp))
  | cons x l =>
    refine Gro.app h hc (by simp) (encK_len _) (encC _) (by unfold maxRoom; omega) hi hm (fun b v a' h1 _ _ => ?_)
    exact q _ a' (h1.to (by rw [encL_app]) rfl)
theorem tsK : tslice Tryd.prog 84 = some 87 := by kernel_rfl
theorem szK : tsize Tryd.prog 87 = 8 := by kernel_rfl
theorem mrg_mem : ∀ (n : Nat) (a b : List (T × T)), a.length + b.length ≤ n → ∀ p ∈ mrgK a b, p ∈ a ∨ p ∈ b
  | _, [], b, _, p, h => by simp [mrgK] at h; exact .inr h
  | _, p0 :: a, [], _, p, h => by rw [mrgK_nil] at h; exact .inl h
  | 0, p0 :: a, q :: b, hn, p, h => by simp at hn
  | n + 1, p0 :: a, q :: b, hn, p, h => by
    simp only [List.length_cons] at hn
    rw [mrgK] at h
    split at h
    · rcases List.mem_cons.1 h with rfl | h
      · exact .inl (by simp)
      · rcases mrg_mem n a (q :: b) (by simp only [List.length_cons]; omega) p h with h | h
        · exact .inl (by simp [h])
        · exact .inr h
    · split at h
      · rcases List.mem_cons.1 h with rfl | h
        · exact .inr (by simp)
        · rcases mrg_mem n a b (by omega) p h with h | h
          · exact .inl (by simp [h])
          · exact .inr (by simp [h])
      · rcases List.mem_cons.1 h with rfl | h
        · exact .inr (by simp)
        · rcases mrg_mem n (p0 :: a) b (by simp only [List.length_cons]; omega) p h with h | h
          · exact .inl h
          · exact .inr (by simp [h])
theorem mrg_len : ∀ (n : Nat) (a b : List (T × T)), a.length + b.length ≤ n → (mrgK a b).length ≤ a.length + b.length
  | _, [], b, _ => by simp [mrgK]
  | _, p0 :: a, [], _ => by rw [mrgK_nil]; simp
  | 0, p0 :: a, q :: b, hn => by simp at hn
  | n + 1, p0 :: a, q :: b, hn => by
    simp only [List.length_cons] at hn
    rw [mrgK]
    split
    · have := mrg_len n a (q :: b) (by simp only [List.length_cons]; omega)
      simp only [List.length_cons] at this ⊢; omega
    · split
      · have := mrg_len n a b (by omega)
        simp only [List.length_cons]; omega
      · have := mrg_len n (p0 :: a) b (by simp only [List.length_cons]; omega)
        simp only [List.length_cons] at this ⊢; omega
theorem keyed_all : ∀ (n : Nat) (l : List (T × T)), (∀ p ∈ keyedK n l, p ∈ l) ∧ (keyedK n l).length ≤ l.length
  | 0, l => ⟨fun p h => h, Nat.le_refl _⟩
  | n + 1, l => by
    unfold keyedK
    split
    · exact ⟨fun p h => h, Nat.le_refl _⟩
    · obtain ⟨a1, a2⟩ := keyed_all n (l.take (l.length / 2))
      obtain ⟨b1, b2⟩ := keyed_all n (l.drop (l.length / 2))
      refine ⟨fun p h => ?_, ?_⟩
      · rcases mrg_mem _ _ _ (Nat.le_refl _) p h with h | h
        · exact List.mem_of_mem_take (a1 p h)
        · exact List.mem_of_mem_drop (b1 p h)
      · have := mrg_len _ (keyedK n (l.take (l.length / 2))) (keyedK n (l.drop (l.length / 2))) (Nat.le_refl _)
        rw [List.length_take] at a2
        rw [List.length_drop] at b2
        omega
section
variable {ext : Exts}
theorem rkeyed (hn : Non ext) : ∀ (n : Nat) (l : List (T × T)), l.length ≤ n + 1 → l.length ≤ 100000 → (∀ p ∈ l, WfV p.1) →
    (cfg ext).Ev 108 [.sl false (encL (flatK l)) l.length] (.sl false (encL (flatK (keyedK n l))) (keyedK n l).length) := by
  have base : ∀ l : List (T × T), l.length < 2 → (cfg ext).Ev 108 [.sl false (encL (flatK l)) l.length] (.sl false (encL (flatK l)) l.length) := by
    intro l h2
    match l, h2 with
    | [], _ =>
      have key : ∃ r, (cfg ext).Ev 108 [.sl false (encL (flatK [])) ([] : List (T × T)).length] r ∧ r = .sl false [] 0 := by
        refine Ev.ofF (hn 108 (by decide) (by decide)) Tryd.func108 rfl rfl ?_
        simp only [flatK, encL]
        conv => whnf
        refine ⟨rfl, ?_⟩
        conv => whnf
        refine ⟨⟨rfl, (show (8 : Nat) ≠ 0 by decide)⟩, ?_⟩
        conv => whnf
        exact Fin.of_eq (v := .sl false [] 0) rfl rfl
      obtain ⟨r, h, rfl⟩ := key
      simp only [flatK, encL] at h ⊢
      exact h
    | [p], _ =>
      have key : ∃ r, (cfg ext).Ev 108 [.sl false (encL (flatK [p])) [p].length] r ∧ r = .sl false (encL (flatK [p])) [p].length := by
        refine Ev.ofF (hn 108 (by decide) (by decide)) Tryd.func108 rfl rfl ?_
        simp only [flatK, encL, enc_eq, List.append_nil, List.cons_append, List.nil_append]
        conv => whnf
        refine ⟨rfl, ?_⟩
        conv => whnf
        refine ⟨⟨rfl, (show (8 : Nat) ≠ 0 by decide)⟩, ?_⟩
        conv => whnf
        exact Fin.of_eq (v := .sl false [.int .i64 p.1.f0, .int .i64 p.1.f1, .str p.1.f2, .sl false (encL p.1.f3) p.1.f3.length, .int .i64 p.2.f0, .int .i64 p.2.f1, .str p.2.f2, .sl false (encL p.2.f3) p.2.f3.length] 1) rfl rfl
      obtain ⟨r, h, rfl⟩ := key
      exact h
    | x :: y :: l, h2 => exfalso; simp only [List.length_cons] at h2; omega
  intro n
  induction n with
  | zero => intro l hn0 hl hw; exact base l (by omega)
  | succ n ih =>
    intro l hnl hl hw
    unfold keyedK
    by_cases h2 : l.length < 2
    · rw [if_pos h2]; exact base l h2
    · rw [if_neg h2]
      have hk : l.length / 2 ≤ l.length := by omega
      have e1 := ih (l.take (l.length / 2)) (by rw [List.length_take]; omega) (by rw [List.length_take]; omega) (fun x hx => hw x (List.mem_of_mem_take hx))
      have e2 := ih (l.drop (l.length / 2)) (by rw [List.length_drop]; omega) (by rw [List.length_drop]; omega) (fun x hx => hw x (List.mem_of_mem_drop hx))
      obtain ⟨a1, a2⟩ := keyed_all n (l.take (l.length / 2))
      obtain ⟨b1, b2⟩ := keyed_all n (l.drop (l.length / 2))
      rw [List.length_take] at a2
      rw [List.length_drop] at b2
      have hwa : ∀ p ∈ keyedK n (l.take (l.length / 2)), WfV p.1 := fun p hp => hw p (List.mem_of_mem_take (a1 p hp))
      have g : decide ((l.length : Int) < 2) = false := decide_eq_false (by omega)
      have w : IntKind.i64.wrap ((l.length : Int).tdiv 2) = ((l.length / 2 : Nat) : Int) := by
        rw [show ((l.length : Int).tdiv 2) = ((l.length / 2 : Nat) : Int) from rfl, IntKind.wrap_i64]; omega
      have s1 := slKLo (l := l) (i := l.length / 2) tsK szK w hk
      have s2 := slKHi (l := l) (i := l.length / 2) tsK szK w hk
      generalize keyedK n (l.take (l.length / 2)) = LA at *
      generalize keyedK n (l.drop (l.length / 2)) = LB at *
      have key : ∃ r, (cfg ext).Ev 108 [.sl false (encL (flatK l)) l.length] r ∧ r = .sl false (encL (flatK (mrgK LA LB))) (mrgK LA LB).length := by
        refine Ev.ofF (hn 108 (by decide) (by decide)) Tryd.func108 rfl rfl ?_
        conv => whnf
        refine sel_no g ?_
        conv => whnf
        refine ⟨rfl, by decide, ?_⟩
        conv => whnf
        refine ⟨_, s1, ?_⟩
        conv => whnf
        refine ⟨_, e1, ?_⟩
        conv => whnf
        refine ⟨_, s2, ?_⟩
        conv => whnf
        refine ⟨_, e2, ?_⟩
        conv => whnf
        refine lmrg hn _ _ LA LB _ _ _ _ 0 [] (.sl true [] 0) _ rfl rfl rfl rfl rfl rfl (by omega) hwa ⟨rfl, rfl, rfl, trivial⟩ rfl (by simp only [encL]; exact Gro.nil _ _ _) (fun a' b' n' D' S z ht hz hg hD he hlim heq => ?_)
        rw [List.nil_append] at heq
        have hlen : n' + a'.length + b'.length = (mrgK LA LB).length := by
          have := congrArg List.length heq
          rw [List.length_append, flat_len, flat_len, List.length_append, hD] at this
          omega
        rcases hg.form with ⟨eS, _⟩ | ⟨bS, vS, eS⟩ <;> subst eS
        all_goals
          rw [St.knows _ _ ht hz]
          conv => whnf
          refine ⟨rfl, ?_⟩
          conv => whnf
          refine ⟨⟨rfl, (show (8 : Nat) ≠ 0 by decide)⟩, ?_⟩
          refine appKs hg (by (conv => lhs; whnf); (repeat ((conv => rhs; whnf); first | with_reducible exact Nat.le_refl _ | refine Nat.le_trans ?_ (Nat.le_add_right _ _) | refine Nat.le_succ_of_le ?_ | exact Nat.le_refl _))) (Nat.add_lt_add_left (by decide) _) (by omega) (fun S1 a1 h1 => ?_)
          rcases h1.form with ⟨eS, _⟩ | ⟨bS1, vS1, eS⟩ <;> subst eS
        all_goals
          conv => whnf
          refine ⟨rfl, ?_⟩
          conv => whnf
          refine ⟨⟨rfl, (show (8 : Nat) ≠ 0 by decide)⟩, ?_⟩
          refine appKs h1 (by (conv => lhs; whnf); (repeat ((conv => rhs; whnf); first | with_reducible exact Nat.le_refl _ | refine Nat.le_trans ?_ (Nat.le_add_right _ _) | refine Nat.le_succ_of_le ?_ | exact Nat.le_refl _))) (Nat.add_lt_add_left (by decide) _) (by omega) (fun S2 a2 k2 => ?_)
          have k3 := k2.to (cs' := encL (flatK (mrgK LA LB))) (n' := (mrgK LA LB).length) (by rw [List.append_assoc, ← flat_app, heq]) hlen
          rcases k3.form with ⟨eS, _⟩ | ⟨bS2, vS2, eS⟩ <;> subst eS
        all_goals
          conv => whnf
          exact Fin.gro rfl k3 rfl
      obtain ⟨r, h, rfl⟩ := key
      exact h
end
end Go.Proofs.YtjfjagnnefmepaaDoor.AB
end

section
set_option linter.unusedVariables false
set_option linter.unusedSimpArgs false
open Go Go.Ab Go.Proofs Go.Vl
namespace Go.Proofs.YtjfjagnnefmepaaDoor.AB
set_option maxRecDepth 100000
set_option maxHeartbeats 16000000
set_option linter.unusedSimpArgs false
set_option linter.unusedVariables false
theorem Gro_fz2 {sz d : Nat} {hp : Hp} {m : Nat} {s : V} {cs : List V} {n : Nat} (h : Gro sz hp.a m s cs n) : ∃ a', Go.Ab.fz (d + 2) hp s = some (.sl false cs n, ⟨hp.h, hp.n, a', hp.m⟩) := by
  rcases h.is with ⟨rfl, rfl⟩ | ⟨b, v, _, rfl, ha⟩
  · have := h.len
    simp at this
    subst this
    exact ⟨hp.a, rfl⟩
  · have e : sub cs 0 (n * sz) = cs := by simp [sub, List.take_of_length_le, h.len]
    refine ⟨upd hp.a b (some ⟨v, sz, cs, none, max 0 (0 + n * sz)⟩), ?_⟩
    rw [fz_rsl, ha]
    dsimp only
    rw [if_pos ⟨rfl, by rw [h.len]; omega⟩, e, fzL_cold d _ cs h.cold]
theorem asGro {d : Bool} {hp : Hp} {xs : List V} {m n sz : Nat} {S : V} {cs : List V} {Q : List V × Hp → Prop} (h : Gro sz hp.a m S cs n) (hd : d = false) (hx : xs = [S]) (hq : ∀ a', Q ([.sl false cs n], ⟨hp.h, hp.n, a', hp.m⟩)) : opt (asData d hp xs) Q := by
  subst hd hx
  obtain ⟨a', e⟩ := Gro_fz2 (d := 4) h
  have : asData false hp [S] = some ([.sl false cs n], ⟨hp.h, hp.n, a', hp.m⟩) := by
    show fzL (fz 6) hp [S] = _
    exact fzL_cons e rfl
  rw [this]
  exact hq a'
theorem ldFK {l : List T} {X k : Nat} {Q : V → Prop} (he : X = k * 4) (h : k < l.length) (hq : Q (A l[k])) : X + 4 ≤ (encL l).length ∧ opt (one (some true) (sub (encL l) X 4)) fun v => fv v Q := by
  subst he
  exact ldA h hq
theorem appT {hp : Hp} {ida m n : Nat} {S : V} {D : List T} {x y : T} {c : Bool} {Q : V × Hp → Prop} (h : Gro 4 hp.a m S (encL D) n) (hm : m ≤ hp.m) (hi : ida < hp.m) (hb : n ≤ 1048576)
    (q : ∀ b v a', Gro 4 a' hp.m (.rsl false b v 0 (n + 2)) (encL (D ++ [x, y])) (n + 2) → Q (.rsl false b v 0 (n + 2), ⟨hp.h, hp.n, a', hp.m⟩)) :
    opt (appendV 4 56 hp ida S (.sl c [V.int .i64 x.f0, .int .i64 x.f1, .str x.f2, .sl false (encL x.f3) x.f3.length, .int .i64 y.f0, .int .i64 y.f1, .str y.f2, .sl false (encL y.f3) y.f3.length] 2)) Q :=
  Gro.app h (xs := [V.int .i64 x.f0, .int .i64 x.f1, .str x.f2, .sl false (encL x.f3) x.f3.length, .int .i64 y.f0, .int .i64 y.f1, .str y.f2, .sl false (encL y.f3) y.f3.length]) (k := 2) rfl (by decide) rfl (two_cold x y) ⟨by unfold maxRoom; omega, by unfold maxRoom; omega⟩ hi hm
    fun b v a' h1 _ _ => q b v a' (h1.to (two_one D x y) rfl)
theorem appE {hp : Hp} {ida b k sz bytes : Nat} {cs : List V} {cp : Option Nat} {Q : V × Hp → Prop} (hA : hp.a b = some ⟨0, sz, [], cp, 0⟩) (hcp : cp = some 0) (hz : sz ≠ 0) (hl : cs.length = k * sz) (hk : k ≠ 0) (hc : ∀ c ∈ cs, cold c = true) (hb : k * bytes ≤ 140737488355328 ∧ k ≤ 140737488355328) (hi : ida < hp.m)
    (q : ∀ a', Gro sz a' hp.m (.rsl false ida 0 0 (0 + k)) cs (0 + k) → Q (.rsl false ida 0 0 (0 + k), ⟨hp.h, hp.n, a', hp.m⟩)) :
    opt (appendV sz bytes hp ida (.rsl false b 0 0 0) (.sl false cs k)) Q := by
  subst hcp
  have hm : maxRoom = 140737488355328 := rfl
  have c1 : content none hp sz (.rsl false b 0 0 0) = some ([], 0) := by
    simp [content, hA, sub]
  have c2 : content none hp sz (.sl false cs k) = some (cs, k) := by simp only [content]; rw [if_pos hl]
  have : appendV sz bytes hp ida (.rsl false b 0 0 0) (.sl false cs k) = some (.rsl false ida 0 0 (0 + k), ⟨hp.h, hp.n, upd hp.a ida (some ⟨0, sz, [] ++ cs, none, 0⟩), hp.m⟩) := by
    unfold appendV
    rw [c1, c2]
    simp only
    rw [if_neg hk, if_pos (by rw [Nat.zero_add]; omega), hA]
    simp only
    rw [if_neg (by have := Nat.mul_pos (Nat.pos_of_ne_zero hk) (Nat.pos_of_ne_zero hz); simp only [Nat.zero_add, Nat.zero_mul]; omega)]
  rw [this]
  refine q _ ⟨by rw [Nat.zero_add]; exact hl, hc, .inr ⟨ida, 0, hi, rfl, ?_⟩⟩
  rw [upd_is]; rfl
theorem insF_len (l : List T) (s w : T) : 0 < (insF l s w).length ∧ (insF l s w).length ≤ l.length + 2 := by
  have := keyF_le l s
  unfold insF
  by_cases h : (keyF l s).2 = true
  · have := keyF_lt l s h
    rw [if_pos h, List.length_set]; omega
  · rw [if_neg h]
    simp only [List.length_append, List.length_take, List.length_drop, List.length_cons, List.length_nil]; omega
section
variable {ext : Exts}
theorem rKeyed (hn : Non ext) (n : Nat) (l : List (T × T)) (h1 : l.length ≤ n + 1) (h2 : l.length ≤ 100000) (hw : ∀ p ∈ l, WfV p.1) :
    (cfg ext).Ev 82 [.sl false (encL (flatK l)) l.length] (.sl false (encL (flatK (keyedK n l))) (keyedK n l).length) := by
  have h := rkeyed hn n l h1 h2 hw
  refine Ev.of (hn 82 (by decide) (by decide)) Tryd.func82 rfl rfl ?_
  conv => whnf
  refine ⟨_, h, ?_⟩
  conv => whnf
theorem lund (L : List (T × T)) (hl : L.length ≤ 100000) (B N : Nat) (hB : (B = 22 ∧ N = 25) ∨ (B = 19 ∧ N = 22)) (Q : Ex → St → Prop) (d : Nat) :
    ∀ (i : Nat) (S : V) (z : St), L.length - i = d → i ≤ L.length → Has z.t [(6, .ref 3 0), (7, .sl false (encL (flatK L)) L.length), (8, .ref B 0), (9, .int .i64 i)] → z.hp.n = N → Has z.hp.h [(3, some (.cells zC false)), (B, some (.cells [.int .i64 6, .int .i64 0, .str ⟨#[]⟩, S] false))] → Gro 4 z.hp.a z.hp.m S (encL ((flatK L).take (2 * i))) (2 * i) →
      (∀ (S' : V) (z' : St), Has z'.t [(6, .ref 3 0), (8, .ref B 0)] → z'.hp.n = z'.hp.n → Has z'.hp.h [(3, some (.cells zC false)), (B, some (.cells [.int .i64 6, .int .i64 0, .str ⟨#[]⟩, S'] false))] → Gro 4 z'.hp.a z'.hp.m S' (encL (flatK L)) (2 * L.length) → Q (.exit 0) z') →
      Go.Ab.Loop (cfg ext) (lpOf Tryd.f63) N z Q := by
  have hfl := flat_len L
  induction d with
  | zero =>
    intro i S z hd hi ht hz hb hg hq
    obtain rfl : i = L.length := by omega
    have g : decide ((L.length : Int) < (L.length : Int)) = false := decide_eq_false (by omega)
    rw [List.take_of_length_le (by omega)] at hg
    rcases hB with ⟨rfl, rfl⟩ | ⟨rfl, rfl⟩
    all_goals
      rcases hg.form with ⟨eS, _⟩ | ⟨bS, vS, eS⟩ <;> subst eS
    all_goals
      rw [St.knows _ _ ht hz _ hb]
      refine Loop.round ?_
      conv => whnf
      refine sel_no g ?_
      conv => whnf
      refine hq _ _ ⟨rfl, rfl, trivial⟩ rfl ⟨rfl, rfl, trivial⟩ ?_
      refine Gro.mono hg (fun _ _ => rfl) ?_
      (conv => lhs; whnf); (repeat ((conv => rhs; whnf); first | with_reducible exact Nat.le_refl _ | refine Nat.le_trans ?_ (Nat.le_add_right _ _) | refine Nat.le_succ_of_le ?_ | exact Nat.le_refl _))
  | succ d ih =>
    intro i S z hd hi ht hz hb hg hq
    have hlt : i < L.length := by omega
    have g : decide ((i : Int) < (L.length : Int)) = true := decide_eq_true (by omega)
    have e1 : IntKind.i64.wrap ((i : Int) + 1) = ((i + 1 : Nat) : Int) := wrapN (by omega) (by omega)
    have h1 : 2 * i < (flatK L).length := by omega
    have h2 : 2 * i + 1 < (flatK L).length := by omega
    obtain ⟨x, hx⟩ : ∃ x, (flatK L)[2 * i] = x := ⟨_, rfl⟩
    obtain ⟨y, hy⟩ : ∃ y, (flatK L)[2 * i + 1] = y := ⟨_, rfl⟩
    have eT : (flatK L).take (2 * i) ++ [x, y] = (flatK L).take (2 * (i + 1)) := by
      rw [show 2 * (i + 1) = 2 * i + 1 + 1 by omega, List.take_add_one, List.take_add_one, List.getElem?_eq_getElem h1, List.getElem?_eq_getElem h2, hx, hy]
      simp
    have hlx : ∀ {Q : V → Prop}, Q (A x) → (i : Int).toNat * 8 + 0 + 4 ≤ (encL (flatK L)).length ∧ opt (one (some true) (sub (encL (flatK L)) ((i : Int).toNat * 8 + 0) 4)) fun v => fv v Q := fun h => ldFK (by simp; omega) h1 (by rw [hx]; exact h)
    have hly : ∀ {Q : V → Prop}, Q (A y) → (i : Int).toNat * 8 + 4 + 4 ≤ (encL (flatK L)).length ∧ opt (one (some true) (sub (encL (flatK L)) ((i : Int).toNat * 8 + 4) 4)) fun v => fv v Q := fun h => ldFK (by simp; omega) h2 (by rw [hy]; exact h)
    rcases hB with ⟨rfl, rfl⟩ | ⟨rfl, rfl⟩
    all_goals
      rcases hg.form with ⟨eS, _⟩ | ⟨bS, vS, eS⟩ <;> subst eS
    all_goals
      rw [St.knows _ _ ht hz _ hb]
      refine Loop.round ?_
      conv => whnf
      refine sel_yes g ?_
      conv => whnf
      refine ⟨⟨by omega, by omega⟩, ?_⟩
      conv => whnf
      refine hlx ?_
      conv => whnf
      refine ⟨⟨by omega, by omega⟩, ?_⟩
      conv => whnf
      refine hly ?_
      conv => whnf
      refine ⟨rfl, ?_⟩
      conv => whnf
      refine ⟨⟨rfl, (show (4 : Nat) ≠ 0 by decide)⟩, ?_⟩
      refine appT hg (by (conv => lhs; whnf); (repeat ((conv => rhs; whnf); first | with_reducible exact Nat.le_refl _ | refine Nat.le_trans ?_ (Nat.le_add_right _ _) | refine Nat.le_succ_of_le ?_ | exact Nat.le_refl _))) (Nat.add_lt_add_left (by decide) _) (by omega) (fun b1 v1 a1 k1 => ?_)
      rw [eT] at k1
      conv => whnf
      refine ih (i + 1) (.rsl false b1 v1 0 (2 * i + 2)) _ (by omega) (by omega) ⟨rfl, rfl, rfl, ?_, trivial⟩ rfl ⟨rfl, rfl, trivial⟩ ?_ hq
      · conv => lhs; whnf
        exact vi e1
      · refine Gro.truncR k1 ?_
        (conv => lhs; whnf); (repeat ((conv => rhs; whnf); first | with_reducible exact Nat.le_refl _ | refine Nat.le_trans ?_ (Nat.le_add_right _ _) | refine Nat.le_succ_of_le ?_ | exact Nat.le_refl _))
theorem runder (hn : Non ext) (v s w : T) (hv : Good v) (hs : Good s) (h06 : v.f0 = 0 ∨ v.f0 = 6) : (cfg ext).Ev 63 [A v, A s, A w] (A ⟨6, 0, ⟨#[]⟩, insF v.f3 s w⟩) := by
  have hlen := (OK.row (okB_iff.1 hv.ok)).1
  have hev : v.f3.length % 2 = 0 := by
    rcases h06 with h0 | h6
    · rw [hv.nil h0]; rfl
    · exact hv.row.even h6
  have hR : Rise 2 v.f3 := by
    rcases h06 with h0 | h6
    · rw [hv.nil h0]; intro i _ h; simp at h
    · exact hv.rise h6
  have hS : ∀ a ∈ v.f3, Shp a := fun a ha => (hv.item ha).shp
  have hfl := flat_len (prsK v.f3)
  rw [flat_prs v.f3 hev] at hfl
  have hK := rKeyed (ext := ext) hn 2000 (prsK v.f3 ++ [(s, w)]) (by simp; omega) (by simp; omega) (fun p hp => by
    rcases List.mem_append.1 hp with h | h
    · exact (hv.item (prs_mem v.f3 hev p h).1).wf
    · rw [List.mem_singleton.1 h]; exact hs.wf)
  have hM := keyed_map v.f3 s w hev hS hs.shp hR 2000 (by omega)
  have eI : flatK (prsK v.f3 ++ [(s, w)]) = v.f3 ++ [s, w] := by rw [flat_app, flat_prs v.f3 hev]; rfl
  rw [eI] at hK
  obtain ⟨L, hL⟩ : ∃ L, keyedK 2000 (prsK v.f3 ++ [(s, w)]) = L := ⟨_, rfl⟩
  rw [hL] at hK hM
  have hLf := flat_len L
  have hi := insF_len v.f3 s w
  rw [hM] at hLf
  have hpos : (prsK v.f3 ++ [(s, w)]).length = v.f3.length / 2 + 1 := by simp; omega
  rw [hpos] at hK
  have fin : ∀ (S : V) (z : St) (B : Nat), Has z.hp.h [(3, some (.cells zC false)), (B, some (.cells [.int .i64 6, .int .i64 0, .str ⟨#[]⟩, S] false))] → Gro 4 z.hp.a z.hp.m S (encL (flatK L)) (2 * L.length) → ∃ b v, S = .rsl false b v 0 (2 * L.length) ∧ z.hp.a b = some ⟨v, 4, encL (flatK L), none, 0⟩ := by
    intro S z B hb hg
    rcases hg.is with ⟨_, h0⟩ | ⟨b, v, _, e, ha⟩
    · omega
    · exact ⟨b, v, e, ha⟩
  have hr : V.agg [.int .i64 6, .int .i64 0, .str ⟨#[]⟩, .sl false (encL (flatK L)) (2 * L.length)] = A ⟨6, 0, ⟨#[]⟩, insF v.f3 s w⟩ := by
    rw [hM, ← hLf]; rfl
  have key : ∃ r, (cfg ext).Ev 63 [A v, A s, A w] r ∧ r = A ⟨6, 0, ⟨#[]⟩, insF v.f3 s w⟩ := by
    refine Ev.ofF (hn 63 (by decide) (by decide)) Tryd.func63 rfl rfl ?_
    by_cases h6 : v.f0 = 6
    · have hP := rprs (ext := ext) hn v (by omega) hev
      have g : (v.f0 == 6) = true := by simp [h6]
      by_cases hnil : v.f3 = []
      · rw [hnil] at hP hK
        simp only [encL, enc_eq, List.append_nil, List.cons_append, List.nil_append] at hP hK
        conv => whnf
        repeat (first
          | (refine sel_yes ?_ ?_; (first | assumption | (simp only [beq_iff_eq, bne_iff_ne, beq_eq_false_iff_ne, bne_eq_false_iff_eq, decide_eq_true_eq, decide_eq_false_iff_not, Bool.not_eq_true', Bool.not_eq_false', ne_eq, beq_true, beq_false, bne_self_eq_false, not_true_eq_false, not_false_eq_true, gt_iff_lt, ge_iff_le, Int.not_lt, Int.not_le, Bool.true_eq_false, Bool.false_eq_true] <;> omega)); conv => whnf)
          | (refine sel_no ?_ ?_; (first | assumption | (simp only [beq_iff_eq, bne_iff_ne, beq_eq_false_iff_ne, bne_eq_false_iff_eq, decide_eq_true_eq, decide_eq_false_iff_not, Bool.not_eq_true', Bool.not_eq_false', ne_eq, beq_true, beq_false, bne_self_eq_false, not_true_eq_false, not_false_eq_true, gt_iff_lt, ge_iff_le, Int.not_lt, Int.not_le, Bool.true_eq_false, Bool.false_eq_true] <;> omega)); conv => whnf)
          | (refine ⟨_, hP, ?_⟩; conv => whnf)
          | (refine ⟨le_rfl' ?_, ?_⟩; rfl; conv => whnf)
          | (refine ⟨⟨?_, ?_⟩, ?_⟩; omega; omega; conv => whnf)
          | (refine ⟨⟨?_, ?_, ?_⟩, ?_⟩; rfl; omega; omega; conv => whnf)
          | (refine ⟨rfl, ?_, ?_⟩; decide; conv => whnf))
        try exact rfl
        refine ⟨rfl, ?_⟩
        conv => whnf
        refine ⟨⟨rfl, (show (8 : Nat) ≠ 0 by decide)⟩, ?_⟩
        conv => whnf
        refine ⟨rfl, ?_⟩
        conv => whnf
        refine ⟨⟨rfl, (show (8 : Nat) ≠ 0 by decide)⟩, ?_⟩
        conv => whnf
        refine ⟨_, hK, ?_⟩
        conv => whnf
        refine lund L (by omega) 22 25 (.inl ⟨rfl, rfl⟩) _ L.length 0 (.sl true [] 0) _ (by omega) (by omega) ⟨rfl, rfl, rfl, rfl, trivial⟩ rfl ⟨rfl, rfl, trivial⟩ (by simp only [Nat.mul_zero, List.take_zero, encL]; exact Gro.nil _ _ _) (fun S z q1 q2 q3 q4 => ?_)
        obtain ⟨b, u, rfl, ha⟩ := fin S z 22 q3 q4
        rw [St.knows (s := z) _ z.hp.n q1 rfl _ q3]
        conv => whnf
        exact Fin.row (k1 := .i64) (k2 := .i64) rfl ha (by rw [encL_len, flat_len]) (encC _) hr
      · have hk : v.f3.length / 2 ≠ 0 := by have := List.length_pos_iff.2 hnil; omega
        have hK' := hK
        rw [show v.f3.length / 2 + 1 = 0 + v.f3.length / 2 + 1 by omega] at hK'
        conv => whnf
        repeat (first
          | (refine sel_yes ?_ ?_; (first | assumption | (simp only [beq_iff_eq, bne_iff_ne, beq_eq_false_iff_ne, bne_eq_false_iff_eq, decide_eq_true_eq, decide_eq_false_iff_not, Bool.not_eq_true', Bool.not_eq_false', ne_eq, beq_true, beq_false, bne_self_eq_false, not_true_eq_false, not_false_eq_true, gt_iff_lt, ge_iff_le, Int.not_lt, Int.not_le, Bool.true_eq_false, Bool.false_eq_true] <;> omega)); conv => whnf)
          | (refine sel_no ?_ ?_; (first | assumption | (simp only [beq_iff_eq, bne_iff_ne, beq_eq_false_iff_ne, bne_eq_false_iff_eq, decide_eq_true_eq, decide_eq_false_iff_not, Bool.not_eq_true', Bool.not_eq_false', ne_eq, beq_true, beq_false, bne_self_eq_false, not_true_eq_false, not_false_eq_true, gt_iff_lt, ge_iff_le, Int.not_lt, Int.not_le, Bool.true_eq_false, Bool.false_eq_true] <;> omega)); conv => whnf)
          | (refine ⟨_, hP, ?_⟩; conv => whnf)
          | (refine ⟨le_rfl' ?_, ?_⟩; rfl; conv => whnf)
          | (refine ⟨⟨?_, ?_⟩, ?_⟩; omega; omega; conv => whnf)
          | (refine ⟨⟨?_, ?_, ?_⟩, ?_⟩; rfl; omega; omega; conv => whnf)
          | (refine ⟨rfl, ?_, ?_⟩; decide; conv => whnf))
        try exact rfl
        refine ⟨rfl, ?_⟩
        conv => whnf
        refine ⟨⟨rfl, (show (8 : Nat) ≠ 0 by decide)⟩, ?_⟩
        refine appE (sz := 8) (bytes := 112) (cs := encL v.f3) (k := v.f3.length / 2) ?_ rfl (by decide) (by rw [encL_len]; omega) hk (encC _) ⟨by omega, by omega⟩ (Nat.add_lt_add_left (by decide) _) (fun a1 k1 => ?_)
        · rfl
        conv => whnf
        refine ⟨rfl, ?_⟩
        conv => whnf
        refine ⟨⟨rfl, (show (8 : Nat) ≠ 0 by decide)⟩, ?_⟩
        refine appP k1 (Nat.le_refl _) (Nat.add_lt_add_left (by decide) _) (by omega) (fun b2 v2 a2 k2 => ?_)
        conv => whnf
        refine asGro k2 rfl rfl (fun a3 => ?_)
        refine ⟨_, hK', ?_⟩
        conv => whnf
        refine lund L (by omega) 22 25 (.inl ⟨rfl, rfl⟩) _ L.length 0 (.sl true [] 0) _ (by omega) (by omega) ⟨rfl, rfl, rfl, rfl, trivial⟩ rfl ⟨rfl, rfl, trivial⟩ (by simp only [Nat.mul_zero, List.take_zero, encL]; exact Gro.nil _ _ _) (fun S z q1 q2 q3 q4 => ?_)
        obtain ⟨b, u, rfl, ha⟩ := fin S z 22 q3 q4
        rw [St.knows (s := z) _ z.hp.n q1 rfl _ q3]
        conv => whnf
        exact Fin.row (k1 := .i64) (k2 := .i64) rfl ha (by rw [encL_len, flat_len]) (encC _) hr
    · have g : (v.f0 == 6) = false := by simp [h6]
      have hnil : v.f3 = [] := hv.nil (by omega)
      rw [hnil] at hK
      simp only [encL, enc_eq, List.append_nil, List.cons_append, List.nil_append] at hK
      conv => whnf
      repeat (first
        | (refine sel_yes ?_ ?_; (first | assumption | (simp only [beq_iff_eq, bne_iff_ne, beq_eq_false_iff_ne, bne_eq_false_iff_eq, decide_eq_true_eq, decide_eq_false_iff_not, Bool.not_eq_true', Bool.not_eq_false', ne_eq, beq_true, beq_false, bne_self_eq_false, not_true_eq_false, not_false_eq_true, gt_iff_lt, ge_iff_le, Int.not_lt, Int.not_le, Bool.true_eq_false, Bool.false_eq_true] <;> omega)); conv => whnf)
        | (refine sel_no ?_ ?_; (first | assumption | (simp only [beq_iff_eq, bne_iff_ne, beq_eq_false_iff_ne, bne_eq_false_iff_eq, decide_eq_true_eq, decide_eq_false_iff_not, Bool.not_eq_true', Bool.not_eq_false', ne_eq, beq_true, beq_false, bne_self_eq_false, not_true_eq_false, not_false_eq_true, gt_iff_lt, ge_iff_le, Int.not_lt, Int.not_le, Bool.true_eq_false, Bool.false_eq_true] <;> omega)); conv => whnf)
        | (refine ⟨le_rfl' ?_, ?_⟩; rfl; conv => whnf)
        | (refine ⟨⟨?_, ?_⟩, ?_⟩; omega; omega; conv => whnf)
        | (refine ⟨⟨?_, ?_, ?_⟩, ?_⟩; rfl; omega; omega; conv => whnf)
        | (refine ⟨rfl, ?_, ?_⟩; decide; conv => whnf))
      try exact rfl
      refine ⟨rfl, ?_⟩
      conv => whnf
      refine ⟨⟨rfl, (show (8 : Nat) ≠ 0 by decide)⟩, ?_⟩
      conv => whnf
      refine ⟨rfl, ?_⟩
      conv => whnf
      refine ⟨⟨rfl, (show (8 : Nat) ≠ 0 by decide)⟩, ?_⟩
      conv => whnf
      refine ⟨_, hK, ?_⟩
      conv => whnf
      refine lund L (by omega) 19 22 (.inr ⟨rfl, rfl⟩) _ L.length 0 (.sl true [] 0) _ (by omega) (by omega) ⟨rfl, rfl, rfl, rfl, trivial⟩ rfl ⟨rfl, rfl, trivial⟩ (by simp only [Nat.mul_zero, List.take_zero, encL]; exact Gro.nil _ _ _) (fun S z q1 q2 q3 q4 => ?_)
      obtain ⟨b, u, rfl, ha⟩ := fin S z 19 q3 q4
      rw [St.knows (s := z) _ z.hp.n q1 rfl _ q3]
      conv => whnf
      exact Fin.row (k1 := .i64) (k2 := .i64) rfl ha (by rw [encL_len, flat_len]) (encC _) hr
  obtain ⟨r, h, rfl⟩ := key
  exact h
end
end Go.Proofs.YtjfjagnnefmepaaDoor.AB
end

section
set_option linter.unusedVariables false
set_option linter.unusedSimpArgs false
open Go Go.Ab Go.Proofs Go.Vl
namespace Go.Proofs.YtjfjagnnefmepaaDoor.AB
set_option maxRecDepth 100000
set_option maxHeartbeats 16000000
set_option linter.unusedSimpArgs false
set_option linter.unusedVariables false
theorem optV_eq (o : Option T) : optV o = .tup [A (o.getD nilT), .bool o.isSome] := by cases o <;> rfl
theorem one_cold (v : T) : ∀ c ∈ [V.int .i64 v.f0, .int .i64 v.f1, .str v.f2, .sl false (encL v.f3) v.f3.length], cold c = true := fun c hc => encC [v] c (by simp only [encL, enc_eq, List.append_nil]; exact hc)
theorem one_one (D : List T) (v : T) : encL D ++ [V.int .i64 v.f0, .int .i64 v.f1, .str v.f2, .sl false (encL v.f3) v.f3.length] = encL (D ++ [v]) := by
  rw [encL_app]
  simp only [encL, enc_eq, List.append_nil]
theorem appE2 {hp : Hp} {ida b k sz bytes : Nat} {cs : List V} {cp : Option Nat} {Q : V × Hp → Prop} (hA : hp.a b = some ⟨0, sz, [], cp, 0⟩) (hcp : cp = some 0) (hz : sz ≠ 0) (hl : cs.length = k * sz) (hk : k ≠ 0) (hc : ∀ c ∈ cs, cold c = true) (hb : k * bytes ≤ 140737488355328 ∧ k ≤ 140737488355328) (hi : ida < hp.m)
    (q : ∀ a', a' ida = some ⟨0, sz, cs, none, 0⟩ → Q (.rsl false ida 0 0 (0 + k), ⟨hp.h, hp.n, a', hp.m⟩)) :
    opt (appendV sz bytes hp ida (.rsl false b 0 0 0) (.sl false cs k)) Q := by
  refine appE hA hcp hz hl hk hc hb hi (fun a' h => ?_)
  rcases h.is with ⟨e, _⟩ | ⟨b', v', _, e, ha⟩
  · cases e
  · cases e
    exact q a' ha
theorem slRest {P : Program} {t e : Nat} {s : T} {p : List T} (ht : tslice P t = some e) (h4 : tsize P e = 4) : sliceV P t (.sl false (encL (s :: p)) (s :: p).length) (some (.int .i64 1)) none none = some (.sl false (encL p) p.length) := by
  have hb : (0 : Int) ≤ 1 ∧ (1 : Int) ≤ (((s :: p).length : Nat) : Int) := by simp only [List.length_cons]; omega
  simp only [sliceV, ht, bounds, boundO, bound, if_pos hb, Option.bind_some, h4, clip, Bool.false_and]
  have e1 : sub (encL (s :: p)) ((1 : Int).toNat * 4) (((s :: p).length - (1 : Int).toNat) * 4) = encL p := by
    have : (1 : Int).toNat = 1 := rfl
    rw [this]
    unfold sub
    rw [encL_drop, List.drop_succ_cons, List.drop_zero, List.take_of_length_le]
    rw [encL_len, List.length_cons]; omega
  rw [e1]
  simp
section
variable {ext : Exts}
theorem rput0 (hn : Non ext) (v x : T) : (cfg ext).Ev 33 [A v, .sl false [] 0, A x] (.tup [A x, .bool true]) := by
  refine Ev.of (hn 33 (by decide) (by decide)) Tryd.func33 rfl rfl ?_
  conv => whnf
  repeat (first
    | (refine sel_yes ?_ ?_; (first | assumption | (simp only [beq_iff_eq, bne_iff_ne, beq_eq_false_iff_ne, bne_eq_false_iff_eq, decide_eq_true_eq, decide_eq_false_iff_not, Bool.not_eq_true', Bool.not_eq_false', ne_eq, beq_true, beq_false, bne_self_eq_false, not_true_eq_false, not_false_eq_true, gt_iff_lt, ge_iff_le, Int.not_lt, Int.not_le, Bool.true_eq_false, Bool.false_eq_true] <;> omega)); conv => whnf)
    | (refine sel_no ?_ ?_; (first | assumption | (simp only [beq_iff_eq, bne_iff_ne, beq_eq_false_iff_ne, bne_eq_false_iff_eq, decide_eq_true_eq, decide_eq_false_iff_not, Bool.not_eq_true', Bool.not_eq_false', ne_eq, beq_true, beq_false, bne_self_eq_false, not_true_eq_false, not_false_eq_true, gt_iff_lt, ge_iff_le, Int.not_lt, Int.not_le, Bool.true_eq_false, Bool.false_eq_true] <;> omega)); conv => whnf)
    | (refine ⟨le_rfl' ?_, ?_⟩; rfl; conv => whnf)
    | (refine ⟨⟨?_, ?_⟩, ?_⟩; omega; omega; conv => whnf)
    | (refine ⟨⟨?_, ?_, ?_⟩, ?_⟩; rfl; omega; omega; conv => whnf)
    | (refine ⟨rfl, ?_, ?_⟩; decide; conv => whnf))
  try exact rfl
theorem rputD (hn : Non ext) (v s x : T) (p : List T) (hv : Good v) (hs : Good s) (h06 : v.f0 = 0 ∨ v.f0 = 6) (o : Option T)
    (hE : (cfg ext).Ev 33 [A ((partF v s).getD nilT), .sl false (encL p) p.length, A x] (optV o)) :
    (cfg ext).Ev 33 [A v, .sl false (encL (s :: p)) (s :: p).length, A x] (optV (o.map fun w => ⟨6, 0, ⟨#[]⟩, insF v.f3 s w⟩)) := by
  have hl0 : ((s :: p).length : Int) ≠ 0 := by simp only [List.length_cons]; omega
  have hI := rindex (ext := ext) hn v s
  rw [if_neg (by omega)] at hI
  have hP := rpart (ext := ext) hn v s hv hs
  rw [optV_eq] at hP
  have g1 : (v.f0 == 4) = false := by simp; omega
  have g2 : (v.f0 != 4) = true := by simp; omega
  generalize (partF v s).getD nilT = old at *
  generalize (partF v s).isSome = b at *
  rcases h06 with h0 | h6
  · have g3 : (v.f0 != 0) = false := by simp [h0]
    cases o with
    | none =>
      have key : ∃ r, (cfg ext).Ev 33 [A v, .sl false (encL (s :: p)) (s :: p).length, A x] r ∧ r = optV none := by
        refine Ev.ofE (hn 33 (by decide) (by decide)) Tryd.func33 rfl rfl ?_
        conv => whnf
        repeat (first
          | (refine sel_yes ?_ ?_; (first | assumption | (simp only [beq_iff_eq, bne_iff_ne, beq_eq_false_iff_ne, bne_eq_false_iff_eq, decide_eq_true_eq, decide_eq_false_iff_not, Bool.not_eq_true', Bool.not_eq_false', ne_eq, beq_true, beq_false, bne_self_eq_false, not_true_eq_false, not_false_eq_true, gt_iff_lt, ge_iff_le, Int.not_lt, Int.not_le, Bool.true_eq_false, Bool.false_eq_true] <;> omega)); conv => whnf)
          | (refine sel_no ?_ ?_; (first | assumption | (simp only [beq_iff_eq, bne_iff_ne, beq_eq_false_iff_ne, bne_eq_false_iff_eq, decide_eq_true_eq, decide_eq_false_iff_not, Bool.not_eq_true', Bool.not_eq_false', ne_eq, beq_true, beq_false, bne_self_eq_false, not_true_eq_false, not_false_eq_true, gt_iff_lt, ge_iff_le, Int.not_lt, Int.not_le, Bool.true_eq_false, Bool.false_eq_true] <;> omega)); conv => whnf)
          | (refine ⟨le_rfl' ?_, ?_⟩; rfl; conv => whnf)
          | (refine ⟨⟨?_, ?_⟩, ?_⟩; omega; omega; conv => whnf)
          | (refine ⟨⟨?_, ?_, ?_⟩, ?_⟩; rfl; omega; omega; conv => whnf)
          | (refine ⟨rfl, ?_, ?_⟩; decide; conv => whnf))
        try exact rfl
        refine ld0 ?_
        conv => whnf
        repeat (first
          | (refine sel_yes ?_ ?_; (first | assumption | (simp only [beq_iff_eq, bne_iff_ne, beq_eq_false_iff_ne, bne_eq_false_iff_eq, decide_eq_true_eq, decide_eq_false_iff_not, Bool.not_eq_true', Bool.not_eq_false', ne_eq, beq_true, beq_false, bne_self_eq_false, not_true_eq_false, not_false_eq_true, gt_iff_lt, ge_iff_le, Int.not_lt, Int.not_le, Bool.true_eq_false, Bool.false_eq_true] <;> omega)); conv => whnf)
          | (refine sel_no ?_ ?_; (first | assumption | (simp only [beq_iff_eq, bne_iff_ne, beq_eq_false_iff_ne, bne_eq_false_iff_eq, decide_eq_true_eq, decide_eq_false_iff_not, Bool.not_eq_true', Bool.not_eq_false', ne_eq, beq_true, beq_false, bne_self_eq_false, not_true_eq_false, not_false_eq_true, gt_iff_lt, ge_iff_le, Int.not_lt, Int.not_le, Bool.true_eq_false, Bool.false_eq_true] <;> omega)); conv => whnf)
          | (refine ⟨_, hI, ?_⟩; conv => whnf)
          | (refine ⟨_, hP, ?_⟩; conv => whnf)
          | (refine ⟨le_rfl' ?_, ?_⟩; rfl; conv => whnf)
          | (refine ⟨⟨?_, ?_⟩, ?_⟩; omega; omega; conv => whnf)
          | (refine ⟨⟨?_, ?_, ?_⟩, ?_⟩; rfl; omega; omega; conv => whnf)
          | (refine ⟨rfl, ?_, ?_⟩; decide; conv => whnf))
        try exact rfl
        refine ⟨_, slRest tsV szV, ?_⟩
        conv => whnf
        repeat (first
          | (refine sel_yes ?_ ?_; (first | assumption | (simp only [beq_iff_eq, bne_iff_ne, beq_eq_false_iff_ne, bne_eq_false_iff_eq, decide_eq_true_eq, decide_eq_false_iff_not, Bool.not_eq_true', Bool.not_eq_false', ne_eq, beq_true, beq_false, bne_self_eq_false, not_true_eq_false, not_false_eq_true, gt_iff_lt, ge_iff_le, Int.not_lt, Int.not_le, Bool.true_eq_false, Bool.false_eq_true] <;> omega)); conv => whnf)
          | (refine sel_no ?_ ?_; (first | assumption | (simp only [beq_iff_eq, bne_iff_ne, beq_eq_false_iff_ne, bne_eq_false_iff_eq, decide_eq_true_eq, decide_eq_false_iff_not, Bool.not_eq_true', Bool.not_eq_false', ne_eq, beq_true, beq_false, bne_self_eq_false, not_true_eq_false, not_false_eq_true, gt_iff_lt, ge_iff_le, Int.not_lt, Int.not_le, Bool.true_eq_false, Bool.false_eq_true] <;> omega)); conv => whnf)
          | (refine ⟨_, hE, ?_⟩; conv => whnf)
          | (refine ⟨le_rfl' ?_, ?_⟩; rfl; conv => whnf)
          | (refine ⟨⟨?_, ?_⟩, ?_⟩; omega; omega; conv => whnf)
          | (refine ⟨⟨?_, ?_, ?_⟩, ?_⟩; rfl; omega; omega; conv => whnf)
          | (refine ⟨rfl, ?_, ?_⟩; decide; conv => whnf))
        try exact rfl
      obtain ⟨r, h, rfl⟩ := key
      exact h
    | some w =>
      have hU := runder hn v s w hv hs (.inl h0)
      have key : ∃ r, (cfg ext).Ev 33 [A v, .sl false (encL (s :: p)) (s :: p).length, A x] r ∧ r = optV (some ⟨6, 0, ⟨#[]⟩, insF v.f3 s w⟩) := by
        refine Ev.ofE (hn 33 (by decide) (by decide)) Tryd.func33 rfl rfl ?_
        conv => whnf
        repeat (first
          | (refine sel_yes ?_ ?_; (first | assumption | (simp only [beq_iff_eq, bne_iff_ne, beq_eq_false_iff_ne, bne_eq_false_iff_eq, decide_eq_true_eq, decide_eq_false_iff_not, Bool.not_eq_true', Bool.not_eq_false', ne_eq, beq_true, beq_false, bne_self_eq_false, not_true_eq_false, not_false_eq_true, gt_iff_lt, ge_iff_le, Int.not_lt, Int.not_le, Bool.true_eq_false, Bool.false_eq_true] <;> omega)); conv => whnf)
          | (refine sel_no ?_ ?_; (first | assumption | (simp only [beq_iff_eq, bne_iff_ne, beq_eq_false_iff_ne, bne_eq_false_iff_eq, decide_eq_true_eq, decide_eq_false_iff_not, Bool.not_eq_true', Bool.not_eq_false', ne_eq, beq_true, beq_false, bne_self_eq_false, not_true_eq_false, not_false_eq_true, gt_iff_lt, ge_iff_le, Int.not_lt, Int.not_le, Bool.true_eq_false, Bool.false_eq_true] <;> omega)); conv => whnf)
          | (refine ⟨le_rfl' ?_, ?_⟩; rfl; conv => whnf)
          | (refine ⟨⟨?_, ?_⟩, ?_⟩; omega; omega; conv => whnf)
          | (refine ⟨⟨?_, ?_, ?_⟩, ?_⟩; rfl; omega; omega; conv => whnf)
          | (refine ⟨rfl, ?_, ?_⟩; decide; conv => whnf))
        try exact rfl
        refine ld0 ?_
        conv => whnf
        repeat (first
          | (refine sel_yes ?_ ?_; (first | assumption | (simp only [beq_iff_eq, bne_iff_ne, beq_eq_false_iff_ne, bne_eq_false_iff_eq, decide_eq_true_eq, decide_eq_false_iff_not, Bool.not_eq_true', Bool.not_eq_false', ne_eq, beq_true, beq_false, bne_self_eq_false, not_true_eq_false, not_false_eq_true, gt_iff_lt, ge_iff_le, Int.not_lt, Int.not_le, Bool.true_eq_false, Bool.false_eq_true] <;> omega)); conv => whnf)
          | (refine sel_no ?_ ?_; (first | assumption | (simp only [beq_iff_eq, bne_iff_ne, beq_eq_false_iff_ne, bne_eq_false_iff_eq, decide_eq_true_eq, decide_eq_false_iff_not, Bool.not_eq_true', Bool.not_eq_false', ne_eq, beq_true, beq_false, bne_self_eq_false, not_true_eq_false, not_false_eq_true, gt_iff_lt, ge_iff_le, Int.not_lt, Int.not_le, Bool.true_eq_false, Bool.false_eq_true] <;> omega)); conv => whnf)
          | (refine ⟨_, hI, ?_⟩; conv => whnf)
          | (refine ⟨_, hP, ?_⟩; conv => whnf)
          | (refine ⟨le_rfl' ?_, ?_⟩; rfl; conv => whnf)
          | (refine ⟨⟨?_, ?_⟩, ?_⟩; omega; omega; conv => whnf)
          | (refine ⟨⟨?_, ?_, ?_⟩, ?_⟩; rfl; omega; omega; conv => whnf)
          | (refine ⟨rfl, ?_, ?_⟩; decide; conv => whnf))
        try exact rfl
        refine ⟨_, slRest tsV szV, ?_⟩
        conv => whnf
        repeat (first
          | (refine sel_yes ?_ ?_; (first | assumption | (simp only [beq_iff_eq, bne_iff_ne, beq_eq_false_iff_ne, bne_eq_false_iff_eq, decide_eq_true_eq, decide_eq_false_iff_not, Bool.not_eq_true', Bool.not_eq_false', ne_eq, beq_true, beq_false, bne_self_eq_false, not_true_eq_false, not_false_eq_true, gt_iff_lt, ge_iff_le, Int.not_lt, Int.not_le, Bool.true_eq_false, Bool.false_eq_true] <;> omega)); conv => whnf)
          | (refine sel_no ?_ ?_; (first | assumption | (simp only [beq_iff_eq, bne_iff_ne, beq_eq_false_iff_ne, bne_eq_false_iff_eq, decide_eq_true_eq, decide_eq_false_iff_not, Bool.not_eq_true', Bool.not_eq_false', ne_eq, beq_true, beq_false, bne_self_eq_false, not_true_eq_false, not_false_eq_true, gt_iff_lt, ge_iff_le, Int.not_lt, Int.not_le, Bool.true_eq_false, Bool.false_eq_true] <;> omega)); conv => whnf)
          | (refine ⟨_, hE, ?_⟩; conv => whnf)
          | (refine ⟨_, hU, ?_⟩; conv => whnf)
          | (refine ⟨le_rfl' ?_, ?_⟩; rfl; conv => whnf)
          | (refine ⟨⟨?_, ?_⟩, ?_⟩; omega; omega; conv => whnf)
          | (refine ⟨⟨?_, ?_, ?_⟩, ?_⟩; rfl; omega; omega; conv => whnf)
          | (refine ⟨rfl, ?_, ?_⟩; decide; conv => whnf))
        try exact rfl
      obtain ⟨r, h, rfl⟩ := key
      exact h
  · have g3 : (v.f0 != 0) = true := by simp [h6]
    have g4 : (v.f0 != 6) = false := by simp [h6]
    cases o with
    | none =>
      have key : ∃ r, (cfg ext).Ev 33 [A v, .sl false (encL (s :: p)) (s :: p).length, A x] r ∧ r = optV none := by
        refine Ev.ofE (hn 33 (by decide) (by decide)) Tryd.func33 rfl rfl ?_
        conv => whnf
        repeat (first
          | (refine sel_yes ?_ ?_; (first | assumption | (simp only [beq_iff_eq, bne_iff_ne, beq_eq_false_iff_ne, bne_eq_false_iff_eq, decide_eq_true_eq, decide_eq_false_iff_not, Bool.not_eq_true', Bool.not_eq_false', ne_eq, beq_true, beq_false, bne_self_eq_false, not_true_eq_false, not_false_eq_true, gt_iff_lt, ge_iff_le, Int.not_lt, Int.not_le, Bool.true_eq_false, Bool.false_eq_true] <;> omega)); conv => whnf)
          | (refine sel_no ?_ ?_; (first | assumption | (simp only [beq_iff_eq, bne_iff_ne, beq_eq_false_iff_ne, bne_eq_false_iff_eq, decide_eq_true_eq, decide_eq_false_iff_not, Bool.not_eq_true', Bool.not_eq_false', ne_eq, beq_true, beq_false, bne_self_eq_false, not_true_eq_false, not_false_eq_true, gt_iff_lt, ge_iff_le, Int.not_lt, Int.not_le, Bool.true_eq_false, Bool.false_eq_true] <;> omega)); conv => whnf)
          | (refine ⟨le_rfl' ?_, ?_⟩; rfl; conv => whnf)
          | (refine ⟨⟨?_, ?_⟩, ?_⟩; omega; omega; conv => whnf)
          | (refine ⟨⟨?_, ?_, ?_⟩, ?_⟩; rfl; omega; omega; conv => whnf)
          | (refine ⟨rfl, ?_, ?_⟩; decide; conv => whnf))
        try exact rfl
        refine ld0 ?_
        conv => whnf
        repeat (first
          | (refine sel_yes ?_ ?_; (first | assumption | (simp only [beq_iff_eq, bne_iff_ne, beq_eq_false_iff_ne, bne_eq_false_iff_eq, decide_eq_true_eq, decide_eq_false_iff_not, Bool.not_eq_true', Bool.not_eq_false', ne_eq, beq_true, beq_false, bne_self_eq_false, not_true_eq_false, not_false_eq_true, gt_iff_lt, ge_iff_le, Int.not_lt, Int.not_le, Bool.true_eq_false, Bool.false_eq_true] <;> omega)); conv => whnf)
          | (refine sel_no ?_ ?_; (first | assumption | (simp only [beq_iff_eq, bne_iff_ne, beq_eq_false_iff_ne, bne_eq_false_iff_eq, decide_eq_true_eq, decide_eq_false_iff_not, Bool.not_eq_true', Bool.not_eq_false', ne_eq, beq_true, beq_false, bne_self_eq_false, not_true_eq_false, not_false_eq_true, gt_iff_lt, ge_iff_le, Int.not_lt, Int.not_le, Bool.true_eq_false, Bool.false_eq_true] <;> omega)); conv => whnf)
          | (refine ⟨_, hI, ?_⟩; conv => whnf)
          | (refine ⟨_, hP, ?_⟩; conv => whnf)
          | (refine ⟨le_rfl' ?_, ?_⟩; rfl; conv => whnf)
          | (refine ⟨⟨?_, ?_⟩, ?_⟩; omega; omega; conv => whnf)
          | (refine ⟨⟨?_, ?_, ?_⟩, ?_⟩; rfl; omega; omega; conv => whnf)
          | (refine ⟨rfl, ?_, ?_⟩; decide; conv => whnf))
        try exact rfl
        refine ⟨_, slRest tsV szV, ?_⟩
        conv => whnf
        repeat (first
          | (refine sel_yes ?_ ?_; (first | assumption | (simp only [beq_iff_eq, bne_iff_ne, beq_eq_false_iff_ne, bne_eq_false_iff_eq, decide_eq_true_eq, decide_eq_false_iff_not, Bool.not_eq_true', Bool.not_eq_false', ne_eq, beq_true, beq_false, bne_self_eq_false, not_true_eq_false, not_false_eq_true, gt_iff_lt, ge_iff_le, Int.not_lt, Int.not_le, Bool.true_eq_false, Bool.false_eq_true] <;> omega)); conv => whnf)
          | (refine sel_no ?_ ?_; (first | assumption | (simp only [beq_iff_eq, bne_iff_ne, beq_eq_false_iff_ne, bne_eq_false_iff_eq, decide_eq_true_eq, decide_eq_false_iff_not, Bool.not_eq_true', Bool.not_eq_false', ne_eq, beq_true, beq_false, bne_self_eq_false, not_true_eq_false, not_false_eq_true, gt_iff_lt, ge_iff_le, Int.not_lt, Int.not_le, Bool.true_eq_false, Bool.false_eq_true] <;> omega)); conv => whnf)
          | (refine ⟨_, hE, ?_⟩; conv => whnf)
          | (refine ⟨le_rfl' ?_, ?_⟩; rfl; conv => whnf)
          | (refine ⟨⟨?_, ?_⟩, ?_⟩; omega; omega; conv => whnf)
          | (refine ⟨⟨?_, ?_, ?_⟩, ?_⟩; rfl; omega; omega; conv => whnf)
          | (refine ⟨rfl, ?_, ?_⟩; decide; conv => whnf))
        try exact rfl
      obtain ⟨r, h, rfl⟩ := key
      exact h
    | some w =>
      have hU := runder hn v s w hv hs (.inr h6)
      have key : ∃ r, (cfg ext).Ev 33 [A v, .sl false (encL (s :: p)) (s :: p).length, A x] r ∧ r = optV (some ⟨6, 0, ⟨#[]⟩, insF v.f3 s w⟩) := by
        refine Ev.ofE (hn 33 (by decide) (by decide)) Tryd.func33 rfl rfl ?_
        conv => whnf
        repeat (first
          | (refine sel_yes ?_ ?_; (first | assumption | (simp only [beq_iff_eq, bne_iff_ne, beq_eq_false_iff_ne, bne_eq_false_iff_eq, decide_eq_true_eq, decide_eq_false_iff_not, Bool.not_eq_true', Bool.not_eq_false', ne_eq, beq_true, beq_false, bne_self_eq_false, not_true_eq_false, not_false_eq_true, gt_iff_lt, ge_iff_le, Int.not_lt, Int.not_le, Bool.true_eq_false, Bool.false_eq_true] <;> omega)); conv => whnf)
          | (refine sel_no ?_ ?_; (first | assumption | (simp only [beq_iff_eq, bne_iff_ne, beq_eq_false_iff_ne, bne_eq_false_iff_eq, decide_eq_true_eq, decide_eq_false_iff_not, Bool.not_eq_true', Bool.not_eq_false', ne_eq, beq_true, beq_false, bne_self_eq_false, not_true_eq_false, not_false_eq_true, gt_iff_lt, ge_iff_le, Int.not_lt, Int.not_le, Bool.true_eq_false, Bool.false_eq_true] <;> omega)); conv => whnf)
          | (refine ⟨le_rfl' ?_, ?_⟩; rfl; conv => whnf)
          | (refine ⟨⟨?_, ?_⟩, ?_⟩; omega; omega; conv => whnf)
          | (refine ⟨⟨?_, ?_, ?_⟩, ?_⟩; rfl; omega; omega; conv => whnf)
          | (refine ⟨rfl, ?_, ?_⟩; decide; conv => whnf))
        try exact rfl
        refine ld0 ?_
        conv => whnf
        repeat (first
          | (refine sel_yes ?_ ?_; (first | assumption | (simp only [beq_iff_eq, bne_iff_ne, beq_eq_false_iff_ne, bne_eq_false_iff_eq, decide_eq_true_eq, decide_eq_false_iff_not, Bool.not_eq_true', Bool.not_eq_false', ne_eq, beq_true, beq_false, bne_self_eq_false, not_true_eq_false, not_false_eq_true, gt_iff_lt, ge_iff_le, Int.not_lt, Int.not_le, Bool.true_eq_false, Bool.false_eq_true] <;> omega)); conv => whnf)
          | (refine sel_no ?_ ?_; (first | assumption | (simp only [beq_iff_eq, bne_iff_ne, beq_eq_false_iff_ne, bne_eq_false_iff_eq, decide_eq_true_eq, decide_eq_false_iff_not, Bool.not_eq_true', Bool.not_eq_false', ne_eq, beq_true, beq_false, bne_self_eq_false, not_true_eq_false, not_false_eq_true, gt_iff_lt, ge_iff_le, Int.not_lt, Int.not_le, Bool.true_eq_false, Bool.false_eq_true] <;> omega)); conv => whnf)
          | (refine ⟨_, hI, ?_⟩; conv => whnf)
          | (refine ⟨_, hP, ?_⟩; conv => whnf)
          | (refine ⟨le_rfl' ?_, ?_⟩; rfl; conv => whnf)
          | (refine ⟨⟨?_, ?_⟩, ?_⟩; omega; omega; conv => whnf)
          | (refine ⟨⟨?_, ?_, ?_⟩, ?_⟩; rfl; omega; omega; conv => whnf)
          | (refine ⟨rfl, ?_, ?_⟩; decide; conv => whnf))
        try exact rfl
        refine ⟨_, slRest tsV szV, ?_⟩
        conv => whnf
        repeat (first
          | (refine sel_yes ?_ ?_; (first | assumption | (simp only [beq_iff_eq, bne_iff_ne, beq_eq_false_iff_ne, bne_eq_false_iff_eq, decide_eq_true_eq, decide_eq_false_iff_not, Bool.not_eq_true', Bool.not_eq_false', ne_eq, beq_true, beq_false, bne_self_eq_false, not_true_eq_false, not_false_eq_true, gt_iff_lt, ge_iff_le, Int.not_lt, Int.not_le, Bool.true_eq_false, Bool.false_eq_true] <;> omega)); conv => whnf)
          | (refine sel_no ?_ ?_; (first | assumption | (simp only [beq_iff_eq, bne_iff_ne, beq_eq_false_iff_ne, bne_eq_false_iff_eq, decide_eq_true_eq, decide_eq_false_iff_not, Bool.not_eq_true', Bool.not_eq_false', ne_eq, beq_true, beq_false, bne_self_eq_false, not_true_eq_false, not_false_eq_true, gt_iff_lt, ge_iff_le, Int.not_lt, Int.not_le, Bool.true_eq_false, Bool.false_eq_true] <;> omega)); conv => whnf)
          | (refine ⟨_, hE, ?_⟩; conv => whnf)
          | (refine ⟨_, hU, ?_⟩; conv => whnf)
          | (refine ⟨le_rfl' ?_, ?_⟩; rfl; conv => whnf)
          | (refine ⟨⟨?_, ?_⟩, ?_⟩; omega; omega; conv => whnf)
          | (refine ⟨⟨?_, ?_, ?_⟩, ?_⟩; rfl; omega; omega; conv => whnf)
          | (refine ⟨rfl, ?_, ?_⟩; decide; conv => whnf))
        try exact rfl
      obtain ⟨r, h, rfl⟩ := key
      exact h
end
end Go.Proofs.YtjfjagnnefmepaaDoor.AB
end

section
set_option linter.unusedVariables false
set_option linter.unusedSimpArgs false
open Go Go.Ab Go.Proofs Go.Vl
namespace Go.Proofs.YtjfjagnnefmepaaDoor.AB
set_option maxRecDepth 100000
set_option maxHeartbeats 16000000
set_option linter.unusedSimpArgs false
set_option linter.unusedVariables false
theorem Gro_at {sz : Nat} {a : Nat → Option Arr} {m b v n l : Nat} {cs : List V} (h : Gro sz a m (.rsl false b v 0 l) cs n) : a b = some ⟨v, sz, cs, none, 0⟩ := by
  rcases h.is with ⟨e, _⟩ | ⟨b', v', _, e, ha⟩
  · cases e
  · cases e; exact ha
theorem FinRowT {P : Program} {fn : Func} {s : St} {R : V → Prop} {a b : Int} {t : ByteArray} {i n v : Nat} {cs : List V} {cap : Option Nat} {k1 k2 : IntKind} {o : Bool} (h : resOf P fn s = some (.tup [.agg [.int k1 a, .int k2 b, .str t, .rsl false i v 0 n], .bool o])) (ha : s.hp.a i = some ⟨v, 4, cs, cap, 0⟩) (hl : cs.length = n * 4) (hc : ∀ c ∈ cs, cold c = true)
    (hR : R (.tup [.agg [.int k1 a, .int k2 b, .str t, .sl false cs n], .bool o])) : Fin P fn s R := by
  refine ⟨?_⟩
  rw [h]
  have e := fz_full (d := 2) ha hl hc
  have e2 : fz 5 s.hp (.agg [.int k1 a, .int k2 b, .str t, .rsl false i v 0 n]) = some (.agg [.int k1 a, .int k2 b, .str t, .sl false cs n], { s.hp with a := upd s.hp.a i (some ⟨v, 4, cs, cap, max 0 (0 + n * 4)⟩) }) := by
    show (match fzL (fz 4) s.hp [.int k1 a, .int k2 b, .str t, .rsl false i v 0 n] with
      | some (cs', hp') => some (V.agg cs', hp')
      | none => none) = _
    simp only [fzL, fz_cold 3 s.hp (c := .int k1 a) rfl, fz_cold 3 s.hp (c := .int k2 b) rfl, fz_cold 3 s.hp (c := .str t) rfl, e]
  have : fz 6 s.hp (.tup [.agg [.int k1 a, .int k2 b, .str t, .rsl false i v 0 n], .bool o]) = some (.tup [.agg [.int k1 a, .int k2 b, .str t, .sl false cs n], .bool o], { s.hp with a := upd s.hp.a i (some ⟨v, 4, cs, cap, max 0 (0 + n * 4)⟩) }) := by
    show (match fzL (fz 5) s.hp [.agg [.int k1 a, .int k2 b, .str t, .rsl false i v 0 n], .bool o] with
      | some (cs', hp') => some (V.tup cs', hp')
      | none => none) = _
    rw [show fzL (fz 5) s.hp [.agg [.int k1 a, .int k2 b, .str t, .rsl false i v 0 n], .bool o] = some ([.agg [.int k1 a, .int k2 b, .str t, .sl false cs n], .bool o], { s.hp with a := upd s.hp.a i (some ⟨v, 4, cs, cap, max 0 (0 + n * 4)⟩) }) from fzL_cons e2 rfl]
  show opt (fz 6 s.hp _) fun p => R p.1
  rw [this]
  exact hR
section
variable {ext : Exts}
/-- in place -/
theorem rputA (hn : Non ext) (v s x : T) (p : List T) (hv : Good v) (hs : Good s) (h4 : v.f0 = 4) {i : Nat} (hi : idxF v.f3.length s = some i) (o : Option T)
    (hE : (cfg ext).Ev 33 [A ((partF v s).getD nilT), .sl false (encL p) p.length, A x] (optV o)) :
    (cfg ext).Ev 33 [A v, .sl false (encL (s :: p)) (s :: p).length, A x] (optV (o.map fun w => ⟨4, 0, ⟨#[]⟩, v.f3.set i w⟩)) := by
  have hl0 : ((s :: p).length : Int) ≠ 0 := by simp only [List.length_cons]; omega
  have hlen := (OK.row (okB_iff.1 hv.ok)).1
  have hb : s.f0 = 2 ∧ i < v.f3.length ∧ s.f1 = (i : Int) := by
    unfold idxF at hi
    split at hi <;> cases hi
    omega
  have hI := rindex (ext := ext) hn v s
  rw [if_pos h4, hi] at hI
  have hP := rpart (ext := ext) hn v s hv hs
  rw [optV_eq] at hP
  have g1 : (v.f0 == 4) = true := by simp [h4]
  have g2 : (v.f0 != 4) = false := by simp [h4]
  have g3 : (v.f0 != 0) = true := by simp [h4]
  have g4 : (v.f0 != 6) = true := by simp [h4]
  have g5 : (s.f0 == 2) = true := by simp [hb.1]
  have g6 : (s.f1 == (v.f3.length : Int)) = false := by simp; omega
  have hk : v.f3.length ≠ 0 := by omega
  generalize (partF v s).getD nilT = old at *
  generalize (partF v s).isSome = b at *
  cases o with
  | none =>
    have key : ∃ r, (cfg ext).Ev 33 [A v, .sl false (encL (s :: p)) (s :: p).length, A x] r ∧ r = optV none := by
      refine Ev.ofE (hn 33 (by decide) (by decide)) Tryd.func33 rfl rfl ?_
      conv => whnf
      repeat (first
        | (refine sel_yes ?_ ?_; (first | assumption | (simp only [beq_iff_eq, bne_iff_ne, beq_eq_false_iff_ne, bne_eq_false_iff_eq, decide_eq_true_eq, decide_eq_false_iff_not, Bool.not_eq_true', Bool.not_eq_false', ne_eq, beq_true, beq_false, bne_self_eq_false, not_true_eq_false, not_false_eq_true, gt_iff_lt, ge_iff_le, Int.not_lt, Int.not_le, Bool.true_eq_false, Bool.false_eq_true] <;> omega)); conv => whnf)
        | (refine sel_no ?_ ?_; (first | assumption | (simp only [beq_iff_eq, bne_iff_ne, beq_eq_false_iff_ne, bne_eq_false_iff_eq, decide_eq_true_eq, decide_eq_false_iff_not, Bool.not_eq_true', Bool.not_eq_false', ne_eq, beq_true, beq_false, bne_self_eq_false, not_true_eq_false, not_false_eq_true, gt_iff_lt, ge_iff_le, Int.not_lt, Int.not_le, Bool.true_eq_false, Bool.false_eq_true] <;> omega)); conv => whnf)
        | (refine ⟨le_rfl' ?_, ?_⟩; rfl; conv => whnf)
        | (refine ⟨⟨?_, ?_⟩, ?_⟩; omega; omega; conv => whnf)
        | (refine ⟨⟨?_, ?_, ?_⟩, ?_⟩; rfl; omega; omega; conv => whnf)
        | (refine ⟨rfl, ?_, ?_⟩; decide; conv => whnf))
      try exact rfl
      refine ld0 ?_
      conv => whnf
      repeat (first
        | (refine sel_yes ?_ ?_; (first | assumption | (simp only [beq_iff_eq, bne_iff_ne, beq_eq_false_iff_ne, bne_eq_false_iff_eq, decide_eq_true_eq, decide_eq_false_iff_not, Bool.not_eq_true', Bool.not_eq_false', ne_eq, beq_true, beq_false, bne_self_eq_false, not_true_eq_false, not_false_eq_true, gt_iff_lt, ge_iff_le, Int.not_lt, Int.not_le, Bool.true_eq_false, Bool.false_eq_true] <;> omega)); conv => whnf)
        | (refine sel_no ?_ ?_; (first | assumption | (simp only [beq_iff_eq, bne_iff_ne, beq_eq_false_iff_ne, bne_eq_false_iff_eq, decide_eq_true_eq, decide_eq_false_iff_not, Bool.not_eq_true', Bool.not_eq_false', ne_eq, beq_true, beq_false, bne_self_eq_false, not_true_eq_false, not_false_eq_true, gt_iff_lt, ge_iff_le, Int.not_lt, Int.not_le, Bool.true_eq_false, Bool.false_eq_true] <;> omega)); conv => whnf)
        | (refine ⟨_, hI, ?_⟩; conv => whnf)
        | (refine ⟨_, hP, ?_⟩; conv => whnf)
        | (refine ⟨le_rfl' ?_, ?_⟩; rfl; conv => whnf)
        | (refine ⟨⟨?_, ?_⟩, ?_⟩; omega; omega; conv => whnf)
        | (refine ⟨⟨?_, ?_, ?_⟩, ?_⟩; rfl; omega; omega; conv => whnf)
        | (refine ⟨rfl, ?_, ?_⟩; decide; conv => whnf))
      try exact rfl
      refine ⟨_, slRest tsV szV, ?_⟩
      conv => whnf
      repeat (first
        | (refine sel_yes ?_ ?_; (first | assumption | (simp only [beq_iff_eq, bne_iff_ne, beq_eq_false_iff_ne, bne_eq_false_iff_eq, decide_eq_true_eq, decide_eq_false_iff_not, Bool.not_eq_true', Bool.not_eq_false', ne_eq, beq_true, beq_false, bne_self_eq_false, not_true_eq_false, not_false_eq_true, gt_iff_lt, ge_iff_le, Int.not_lt, Int.not_le, Bool.true_eq_false, Bool.false_eq_true] <;> omega)); conv => whnf)
        | (refine sel_no ?_ ?_; (first | assumption | (simp only [beq_iff_eq, bne_iff_ne, beq_eq_false_iff_ne, bne_eq_false_iff_eq, decide_eq_true_eq, decide_eq_false_iff_not, Bool.not_eq_true', Bool.not_eq_false', ne_eq, beq_true, beq_false, bne_self_eq_false, not_true_eq_false, not_false_eq_true, gt_iff_lt, ge_iff_le, Int.not_lt, Int.not_le, Bool.true_eq_false, Bool.false_eq_true] <;> omega)); conv => whnf)
        | (refine ⟨_, hE, ?_⟩; conv => whnf)
        | (refine ⟨le_rfl' ?_, ?_⟩; rfl; conv => whnf)
        | (refine ⟨⟨?_, ?_⟩, ?_⟩; omega; omega; conv => whnf)
        | (refine ⟨⟨?_, ?_, ?_⟩, ?_⟩; rfl; omega; omega; conv => whnf)
        | (refine ⟨rfl, ?_, ?_⟩; decide; conv => whnf))
      try exact rfl
    obtain ⟨r, h, rfl⟩ := key
    exact h
  | some w =>
    have hr : V.tup [.agg [.int .i64 4, .int .i64 0, .str ⟨#[]⟩, .sl false (encL (v.f3.set i w)) (0 + v.f3.length)], .bool true] = optV (some ⟨4, 0, ⟨#[]⟩, v.f3.set i w⟩) := by
      rw [Nat.zero_add]
      show _ = V.tup [.agg [.int .i64 4, .int .i64 0, .str ⟨#[]⟩, .sl false (encL (v.f3.set i w)) (v.f3.set i w).length], .bool true]
      rw [List.length_set]
    have key : ∃ r, (cfg ext).Ev 33 [A v, .sl false (encL (s :: p)) (s :: p).length, A x] r ∧ r = optV (some ⟨4, 0, ⟨#[]⟩, v.f3.set i w⟩) := by
      refine Ev.ofF (hn 33 (by decide) (by decide)) Tryd.func33 rfl rfl ?_
      conv => whnf
      repeat (first
        | (refine sel_yes ?_ ?_; (first | assumption | (simp only [beq_iff_eq, bne_iff_ne, beq_eq_false_iff_ne, bne_eq_false_iff_eq, decide_eq_true_eq, decide_eq_false_iff_not, Bool.not_eq_true', Bool.not_eq_false', ne_eq, beq_true, beq_false, bne_self_eq_false, not_true_eq_false, not_false_eq_true, gt_iff_lt, ge_iff_le, Int.not_lt, Int.not_le, Bool.true_eq_false, Bool.false_eq_true] <;> omega)); conv => whnf)
        | (refine sel_no ?_ ?_; (first | assumption | (simp only [beq_iff_eq, bne_iff_ne, beq_eq_false_iff_ne, bne_eq_false_iff_eq, decide_eq_true_eq, decide_eq_false_iff_not, Bool.not_eq_true', Bool.not_eq_false', ne_eq, beq_true, beq_false, bne_self_eq_false, not_true_eq_false, not_false_eq_true, gt_iff_lt, ge_iff_le, Int.not_lt, Int.not_le, Bool.true_eq_false, Bool.false_eq_true] <;> omega)); conv => whnf)
        | (refine ⟨le_rfl' ?_, ?_⟩; rfl; conv => whnf)
        | (refine ⟨⟨?_, ?_⟩, ?_⟩; omega; omega; conv => whnf)
        | (refine ⟨⟨?_, ?_, ?_⟩, ?_⟩; rfl; omega; omega; conv => whnf)
        | (refine ⟨rfl, ?_, ?_⟩; decide; conv => whnf))
      try exact rfl
      refine ld0 ?_
      conv => whnf
      repeat (first
        | (refine sel_yes ?_ ?_; (first | assumption | (simp only [beq_iff_eq, bne_iff_ne, beq_eq_false_iff_ne, bne_eq_false_iff_eq, decide_eq_true_eq, decide_eq_false_iff_not, Bool.not_eq_true', Bool.not_eq_false', ne_eq, beq_true, beq_false, bne_self_eq_false, not_true_eq_false, not_false_eq_true, gt_iff_lt, ge_iff_le, Int.not_lt, Int.not_le, Bool.true_eq_false, Bool.false_eq_true] <;> omega)); conv => whnf)
        | (refine sel_no ?_ ?_; (first | assumption | (simp only [beq_iff_eq, bne_iff_ne, beq_eq_false_iff_ne, bne_eq_false_iff_eq, decide_eq_true_eq, decide_eq_false_iff_not, Bool.not_eq_true', Bool.not_eq_false', ne_eq, beq_true, beq_false, bne_self_eq_false, not_true_eq_false, not_false_eq_true, gt_iff_lt, ge_iff_le, Int.not_lt, Int.not_le, Bool.true_eq_false, Bool.false_eq_true] <;> omega)); conv => whnf)
        | (refine ⟨_, hI, ?_⟩; conv => whnf)
        | (refine ⟨_, hP, ?_⟩; conv => whnf)
        | (refine ⟨le_rfl' ?_, ?_⟩; rfl; conv => whnf)
        | (refine ⟨⟨?_, ?_⟩, ?_⟩; omega; omega; conv => whnf)
        | (refine ⟨⟨?_, ?_, ?_⟩, ?_⟩; rfl; omega; omega; conv => whnf)
        | (refine ⟨rfl, ?_, ?_⟩; decide; conv => whnf))
      try exact rfl
      refine ⟨_, slRest tsV szV, ?_⟩
      conv => whnf
      repeat (first
        | (refine sel_yes ?_ ?_; (first | assumption | (simp only [beq_iff_eq, bne_iff_ne, beq_eq_false_iff_ne, bne_eq_false_iff_eq, decide_eq_true_eq, decide_eq_false_iff_not, Bool.not_eq_true', Bool.not_eq_false', ne_eq, beq_true, beq_false, bne_self_eq_false, not_true_eq_false, not_false_eq_true, gt_iff_lt, ge_iff_le, Int.not_lt, Int.not_le, Bool.true_eq_false, Bool.false_eq_true] <;> omega)); conv => whnf)
        | (refine sel_no ?_ ?_; (first | assumption | (simp only [beq_iff_eq, bne_iff_ne, beq_eq_false_iff_ne, bne_eq_false_iff_eq, decide_eq_true_eq, decide_eq_false_iff_not, Bool.not_eq_true', Bool.not_eq_false', ne_eq, beq_true, beq_false, bne_self_eq_false, not_true_eq_false, not_false_eq_true, gt_iff_lt, ge_iff_le, Int.not_lt, Int.not_le, Bool.true_eq_false, Bool.false_eq_true] <;> omega)); conv => whnf)
        | (refine ⟨_, hE, ?_⟩; conv => whnf)
        | (refine ⟨le_rfl' ?_, ?_⟩; rfl; conv => whnf)
        | (refine ⟨⟨?_, ?_⟩, ?_⟩; omega; omega; conv => whnf)
        | (refine ⟨⟨?_, ?_, ?_⟩, ?_⟩; rfl; omega; omega; conv => whnf)
        | (refine ⟨rfl, ?_, ?_⟩; decide; conv => whnf))
      try exact rfl
      refine ⟨rfl, ?_⟩
      conv => whnf
      refine ⟨⟨rfl, (show (4 : Nat) ≠ 0 by decide)⟩, ?_⟩
      refine appE2 (sz := 4) (bytes := 56) (cs := encL v.f3) (k := v.f3.length) ?_ rfl (by decide) (encL_len _) hk (encC _) ⟨by omega, by omega⟩ (Nat.add_lt_add_left (by decide) _) (fun a1 k1 => ?_)
      · rfl
      conv => whnf
      refine sel_no g6 ?_
      conv => whnf
      refine ⟨⟨by omega, by omega⟩, ?_⟩
      conv => whnf
      refine stR (x := w) (l := v.f3) (k := i) k1 hb.2.2 hb.2.1 (fun a2 k2 => ?_)
      conv => whnf
      exact FinRowT (k1 := .i64) (k2 := .i64) rfl k2 (by rw [encL_len, List.length_set, Nat.zero_add]) (encC _) hr
    obtain ⟨r, h, rfl⟩ := key
    exact h
/-- at the end -/
theorem rputB (hn : Non ext) (v s x : T) (p : List T) (hv : Good v) (hs : Good s) (h4 : v.f0 = 4) (h2 : s.f0 = 2) (h1 : s.f1 = (v.f3.length : Int)) (o : Option T)
    (hE : (cfg ext).Ev 33 [A ((partF v s).getD nilT), .sl false (encL p) p.length, A x] (optV o)) :
    (cfg ext).Ev 33 [A v, .sl false (encL (s :: p)) (s :: p).length, A x] (optV (o.map fun w => ⟨4, 0, ⟨#[]⟩, v.f3 ++ [w]⟩)) := by
  have hl0 : ((s :: p).length : Int) ≠ 0 := by simp only [List.length_cons]; omega
  have hlen := (OK.row (okB_iff.1 hv.ok)).1
  have hI := rindex (ext := ext) hn v s
  have hi : idxF v.f3.length s = none := if_neg (by omega)
  rw [if_pos h4, hi] at hI
  have hP := rpart (ext := ext) hn v s hv hs
  rw [optV_eq] at hP
  have g1 : (v.f0 == 4) = true := by simp [h4]
  have g2 : (v.f0 != 4) = false := by simp [h4]
  have g3 : (v.f0 != 0) = true := by simp [h4]
  have g4 : (v.f0 != 6) = true := by simp [h4]
  have g5 : (s.f0 == 2) = true := by simp [h2]
  have g6 : (s.f1 == (v.f3.length : Int)) = true := by simp [h1]
  generalize (partF v s).getD nilT = old at *
  generalize (partF v s).isSome = b at *
  cases o with
  | none =>
    have key : ∃ r, (cfg ext).Ev 33 [A v, .sl false (encL (s :: p)) (s :: p).length, A x] r ∧ r = optV none := by
      refine Ev.ofE (hn 33 (by decide) (by decide)) Tryd.func33 rfl rfl ?_
      conv => whnf
      repeat (first
        | (refine sel_yes ?_ ?_; (first | assumption | (simp only [beq_iff_eq, bne_iff_ne, beq_eq_false_iff_ne, bne_eq_false_iff_eq, decide_eq_true_eq, decide_eq_false_iff_not, Bool.not_eq_true', Bool.not_eq_false', ne_eq, beq_true, beq_false, bne_self_eq_false, not_true_eq_false, not_false_eq_true, gt_iff_lt, ge_iff_le, Int.not_lt, Int.not_le, Bool.true_eq_false, Bool.false_eq_true] <;> omega)); conv => whnf)
        | (refine sel_no ?_ ?_; (first | assumption | (simp only [beq_iff_eq, bne_iff_ne, beq_eq_false_iff_ne, bne_eq_false_iff_eq, decide_eq_true_eq, decide_eq_false_iff_not, Bool.not_eq_true', Bool.not_eq_false', ne_eq, beq_true, beq_false, bne_self_eq_false, not_true_eq_false, not_false_eq_true, gt_iff_lt, ge_iff_le, Int.not_lt, Int.not_le, Bool.true_eq_false, Bool.false_eq_true] <;> omega)); conv => whnf)
        | (refine ⟨le_rfl' ?_, ?_⟩; rfl; conv => whnf)
        | (refine ⟨⟨?_, ?_⟩, ?_⟩; omega; omega; conv => whnf)
        | (refine ⟨⟨?_, ?_, ?_⟩, ?_⟩; rfl; omega; omega; conv => whnf)
        | (refine ⟨rfl, ?_, ?_⟩; decide; conv => whnf))
      try exact rfl
      refine ld0 ?_
      conv => whnf
      repeat (first
        | (refine sel_yes ?_ ?_; (first | assumption | (simp only [beq_iff_eq, bne_iff_ne, beq_eq_false_iff_ne, bne_eq_false_iff_eq, decide_eq_true_eq, decide_eq_false_iff_not, Bool.not_eq_true', Bool.not_eq_false', ne_eq, beq_true, beq_false, bne_self_eq_false, not_true_eq_false, not_false_eq_true, gt_iff_lt, ge_iff_le, Int.not_lt, Int.not_le, Bool.true_eq_false, Bool.false_eq_true] <;> omega)); conv => whnf)
        | (refine sel_no ?_ ?_; (first | assumption | (simp only [beq_iff_eq, bne_iff_ne, beq_eq_false_iff_ne, bne_eq_false_iff_eq, decide_eq_true_eq, decide_eq_false_iff_not, Bool.not_eq_true', Bool.not_eq_false', ne_eq, beq_true, beq_false, bne_self_eq_false, not_true_eq_false, not_false_eq_true, gt_iff_lt, ge_iff_le, Int.not_lt, Int.not_le, Bool.true_eq_false, Bool.false_eq_true] <;> omega)); conv => whnf)
        | (refine ⟨_, hI, ?_⟩; conv => whnf)
        | (refine ⟨_, hP, ?_⟩; conv => whnf)
        | (refine ⟨le_rfl' ?_, ?_⟩; rfl; conv => whnf)
        | (refine ⟨⟨?_, ?_⟩, ?_⟩; omega; omega; conv => whnf)
        | (refine ⟨⟨?_, ?_, ?_⟩, ?_⟩; rfl; omega; omega; conv => whnf)
        | (refine ⟨rfl, ?_, ?_⟩; decide; conv => whnf))
      try exact rfl
      refine ⟨_, slRest tsV szV, ?_⟩
      conv => whnf
      repeat (first
        | (refine sel_yes ?_ ?_; (first | assumption | (simp only [beq_iff_eq, bne_iff_ne, beq_eq_false_iff_ne, bne_eq_false_iff_eq, decide_eq_true_eq, decide_eq_false_iff_not, Bool.not_eq_true', Bool.not_eq_false', ne_eq, beq_true, beq_false, bne_self_eq_false, not_true_eq_false, not_false_eq_true, gt_iff_lt, ge_iff_le, Int.not_lt, Int.not_le, Bool.true_eq_false, Bool.false_eq_true] <;> omega)); conv => whnf)
        | (refine sel_no ?_ ?_; (first | assumption | (simp only [beq_iff_eq, bne_iff_ne, beq_eq_false_iff_ne, bne_eq_false_iff_eq, decide_eq_true_eq, decide_eq_false_iff_not, Bool.not_eq_true', Bool.not_eq_false', ne_eq, beq_true, beq_false, bne_self_eq_false, not_true_eq_false, not_false_eq_true, gt_iff_lt, ge_iff_le, Int.not_lt, Int.not_le, Bool.true_eq_false, Bool.false_eq_true] <;> omega)); conv => whnf)
        | (refine ⟨_, hE, ?_⟩; conv => whnf)
        | (refine ⟨le_rfl' ?_, ?_⟩; rfl; conv => whnf)
        | (refine ⟨⟨?_, ?_⟩, ?_⟩; omega; omega; conv => whnf)
        | (refine ⟨⟨?_, ?_, ?_⟩, ?_⟩; rfl; omega; omega; conv => whnf)
        | (refine ⟨rfl, ?_, ?_⟩; decide; conv => whnf))
      try exact rfl
    obtain ⟨r, h, rfl⟩ := key
    exact h
  | some w =>
    have hr : V.tup [.agg [.int .i64 4, .int .i64 0, .str ⟨#[]⟩, .sl false (encL (v.f3 ++ [w])) (0 + v.f3.length + 1)], .bool true] = optV (some ⟨4, 0, ⟨#[]⟩, v.f3 ++ [w]⟩) := by
      show _ = V.tup [.agg [.int .i64 4, .int .i64 0, .str ⟨#[]⟩, .sl false (encL (v.f3 ++ [w])) (v.f3 ++ [w]).length], .bool true]
      rw [List.length_append, Nat.zero_add]; rfl
    have key : ∃ r, (cfg ext).Ev 33 [A v, .sl false (encL (s :: p)) (s :: p).length, A x] r ∧ r = optV (some ⟨4, 0, ⟨#[]⟩, v.f3 ++ [w]⟩) := by
      refine Ev.ofF (hn 33 (by decide) (by decide)) Tryd.func33 rfl rfl ?_
      by_cases hk : v.f3.length = 0
      · have hnil : v.f3 = [] := List.eq_nil_of_length_eq_zero hk
        have eA : A v = .agg [.int .i64 v.f0, .int .i64 v.f1, .str v.f2, .sl false [] 0] := by unfold A; rw [hnil]; simp only [encL]; rfl
        have hr' : V.tup [.agg [.int .i64 4, .int .i64 0, .str ⟨#[]⟩, .sl false [.int .i64 w.f0, .int .i64 w.f1, .str w.f2, .sl false (encL w.f3) w.f3.length] 1], .bool true] = optV (some ⟨4, 0, ⟨#[]⟩, v.f3 ++ [w]⟩) := by
          rw [← hr, hnil]; simp only [encL, enc_eq, List.append_nil, List.nil_append]; rfl
        rw [hnil] at g6
        rw [eA] at hI hP ⊢
        conv => whnf
        repeat (first
          | (refine sel_yes ?_ ?_; (first | assumption | (simp only [beq_iff_eq, bne_iff_ne, beq_eq_false_iff_ne, bne_eq_false_iff_eq, decide_eq_true_eq, decide_eq_false_iff_not, Bool.not_eq_true', Bool.not_eq_false', ne_eq, beq_true, beq_false, bne_self_eq_false, not_true_eq_false, not_false_eq_true, gt_iff_lt, ge_iff_le, Int.not_lt, Int.not_le, Bool.true_eq_false, Bool.false_eq_true] <;> omega)); conv => whnf)
          | (refine sel_no ?_ ?_; (first | assumption | (simp only [beq_iff_eq, bne_iff_ne, beq_eq_false_iff_ne, bne_eq_false_iff_eq, decide_eq_true_eq, decide_eq_false_iff_not, Bool.not_eq_true', Bool.not_eq_false', ne_eq, beq_true, beq_false, bne_self_eq_false, not_true_eq_false, not_false_eq_true, gt_iff_lt, ge_iff_le, Int.not_lt, Int.not_le, Bool.true_eq_false, Bool.false_eq_true] <;> omega)); conv => whnf)
          | (refine ⟨le_rfl' ?_, ?_⟩; rfl; conv => whnf)
          | (refine ⟨⟨?_, ?_⟩, ?_⟩; omega; omega; conv => whnf)
          | (refine ⟨⟨?_, ?_, ?_⟩, ?_⟩; rfl; omega; omega; conv => whnf)
          | (refine ⟨rfl, ?_, ?_⟩; decide; conv => whnf))
        try exact rfl
        refine ld0 ?_
        conv => whnf
        repeat (first
          | (refine sel_yes ?_ ?_; (first | assumption | (simp only [beq_iff_eq, bne_iff_ne, beq_eq_false_iff_ne, bne_eq_false_iff_eq, decide_eq_true_eq, decide_eq_false_iff_not, Bool.not_eq_true', Bool.not_eq_false', ne_eq, beq_true, beq_false, bne_self_eq_false, not_true_eq_false, not_false_eq_true, gt_iff_lt, ge_iff_le, Int.not_lt, Int.not_le, Bool.true_eq_false, Bool.false_eq_true] <;> omega)); conv => whnf)
          | (refine sel_no ?_ ?_; (first | assumption | (simp only [beq_iff_eq, bne_iff_ne, beq_eq_false_iff_ne, bne_eq_false_iff_eq, decide_eq_true_eq, decide_eq_false_iff_not, Bool.not_eq_true', Bool.not_eq_false', ne_eq, beq_true, beq_false, bne_self_eq_false, not_true_eq_false, not_false_eq_true, gt_iff_lt, ge_iff_le, Int.not_lt, Int.not_le, Bool.true_eq_false, Bool.false_eq_true] <;> omega)); conv => whnf)
          | (refine ⟨_, hI, ?_⟩; conv => whnf)
          | (refine ⟨_, hP, ?_⟩; conv => whnf)
          | (refine ⟨le_rfl' ?_, ?_⟩; rfl; conv => whnf)
          | (refine ⟨⟨?_, ?_⟩, ?_⟩; omega; omega; conv => whnf)
          | (refine ⟨⟨?_, ?_, ?_⟩, ?_⟩; rfl; omega; omega; conv => whnf)
          | (refine ⟨rfl, ?_, ?_⟩; decide; conv => whnf))
        try exact rfl
        refine ⟨_, slRest tsV szV, ?_⟩
        conv => whnf
        repeat (first
          | (refine sel_yes ?_ ?_; (first | assumption | (simp only [beq_iff_eq, bne_iff_ne, beq_eq_false_iff_ne, bne_eq_false_iff_eq, decide_eq_true_eq, decide_eq_false_iff_not, Bool.not_eq_true', Bool.not_eq_false', ne_eq, beq_true, beq_false, bne_self_eq_false, not_true_eq_false, not_false_eq_true, gt_iff_lt, ge_iff_le, Int.not_lt, Int.not_le, Bool.true_eq_false, Bool.false_eq_true] <;> omega)); conv => whnf)
          | (refine sel_no ?_ ?_; (first | assumption | (simp only [beq_iff_eq, bne_iff_ne, beq_eq_false_iff_ne, bne_eq_false_iff_eq, decide_eq_true_eq, decide_eq_false_iff_not, Bool.not_eq_true', Bool.not_eq_false', ne_eq, beq_true, beq_false, bne_self_eq_false, not_true_eq_false, not_false_eq_true, gt_iff_lt, ge_iff_le, Int.not_lt, Int.not_le, Bool.true_eq_false, Bool.false_eq_true] <;> omega)); conv => whnf)
          | (refine ⟨_, hE, ?_⟩; conv => whnf)
          | (refine ⟨le_rfl' ?_, ?_⟩; rfl; conv => whnf)
          | (refine ⟨⟨?_, ?_⟩, ?_⟩; omega; omega; conv => whnf)
          | (refine ⟨⟨?_, ?_, ?_⟩, ?_⟩; rfl; omega; omega; conv => whnf)
          | (refine ⟨rfl, ?_, ?_⟩; decide; conv => whnf))
        try exact rfl
        refine ⟨rfl, ?_⟩
        conv => whnf
        refine ⟨⟨rfl, (show (4 : Nat) ≠ 0 by decide)⟩, ?_⟩
        conv => whnf
        refine sel_yes g6 ?_
        conv => whnf
        refine ⟨rfl, ?_⟩
        conv => whnf
        refine ⟨⟨rfl, (show (4 : Nat) ≠ 0 by decide)⟩, ?_⟩
        conv => whnf
        exact Fin.of_eq (v := .tup [.agg [.int .i64 4, .int .i64 0, .str ⟨#[]⟩, .sl false [.int .i64 w.f0, .int .i64 w.f1, .str w.f2, .sl false (encL w.f3) w.f3.length] 1], .bool true]) rfl hr'
      · conv => whnf
        repeat (first
          | (refine sel_yes ?_ ?_; (first | assumption | (simp only [beq_iff_eq, bne_iff_ne, beq_eq_false_iff_ne, bne_eq_false_iff_eq, decide_eq_true_eq, decide_eq_false_iff_not, Bool.not_eq_true', Bool.not_eq_false', ne_eq, beq_true, beq_false, bne_self_eq_false, not_true_eq_false, not_false_eq_true, gt_iff_lt, ge_iff_le, Int.not_lt, Int.not_le, Bool.true_eq_false, Bool.false_eq_true] <;> omega)); conv => whnf)
          | (refine sel_no ?_ ?_; (first | assumption | (simp only [beq_iff_eq, bne_iff_ne, beq_eq_false_iff_ne, bne_eq_false_iff_eq, decide_eq_true_eq, decide_eq_false_iff_not, Bool.not_eq_true', Bool.not_eq_false', ne_eq, beq_true, beq_false, bne_self_eq_false, not_true_eq_false, not_false_eq_true, gt_iff_lt, ge_iff_le, Int.not_lt, Int.not_le, Bool.true_eq_false, Bool.false_eq_true] <;> omega)); conv => whnf)
          | (refine ⟨le_rfl' ?_, ?_⟩; rfl; conv => whnf)
          | (refine ⟨⟨?_, ?_⟩, ?_⟩; omega; omega; conv => whnf)
          | (refine ⟨⟨?_, ?_, ?_⟩, ?_⟩; rfl; omega; omega; conv => whnf)
          | (refine ⟨rfl, ?_, ?_⟩; decide; conv => whnf))
        try exact rfl
        refine ld0 ?_
        conv => whnf
        repeat (first
          | (refine sel_yes ?_ ?_; (first | assumption | (simp only [beq_iff_eq, bne_iff_ne, beq_eq_false_iff_ne, bne_eq_false_iff_eq, decide_eq_true_eq, decide_eq_false_iff_not, Bool.not_eq_true', Bool.not_eq_false', ne_eq, beq_true, beq_false, bne_self_eq_false, not_true_eq_false, not_false_eq_true, gt_iff_lt, ge_iff_le, Int.not_lt, Int.not_le, Bool.true_eq_false, Bool.false_eq_true] <;> omega)); conv => whnf)
          | (refine sel_no ?_ ?_; (first | assumption | (simp only [beq_iff_eq, bne_iff_ne, beq_eq_false_iff_ne, bne_eq_false_iff_eq, decide_eq_true_eq, decide_eq_false_iff_not, Bool.not_eq_true', Bool.not_eq_false', ne_eq, beq_true, beq_false, bne_self_eq_false, not_true_eq_false, not_false_eq_true, gt_iff_lt, ge_iff_le, Int.not_lt, Int.not_le, Bool.true_eq_false, Bool.false_eq_true] <;> omega)); conv => whnf)
          | (refine ⟨_, hI, ?_⟩; conv => whnf)
          | (refine ⟨_, hP, ?_⟩; conv => whnf)
          | (refine ⟨le_rfl' ?_, ?_⟩; rfl; conv => whnf)
          | (refine ⟨⟨?_, ?_⟩, ?_⟩; omega; omega; conv => whnf)
          | (refine ⟨⟨?_, ?_, ?_⟩, ?_⟩; rfl; omega; omega; conv => whnf)
          | (refine ⟨rfl, ?_, ?_⟩; decide; conv => whnf))
        try exact rfl
        refine ⟨_, slRest tsV szV, ?_⟩
        conv => whnf
        repeat (first
          | (refine sel_yes ?_ ?_; (first | assumption | (simp only [beq_iff_eq, bne_iff_ne, beq_eq_false_iff_ne, bne_eq_false_iff_eq, decide_eq_true_eq, decide_eq_false_iff_not, Bool.not_eq_true', Bool.not_eq_false', ne_eq, beq_true, beq_false, bne_self_eq_false, not_true_eq_false, not_false_eq_true, gt_iff_lt, ge_iff_le, Int.not_lt, Int.not_le, Bool.true_eq_false, Bool.false_eq_true] <;> omega)); conv => whnf)
          | (refine sel_no ?_ ?_; (first | assumption | (simp only [beq_iff_eq, bne_iff_ne, beq_eq_false_iff_ne, bne_eq_false_iff_eq, decide_eq_true_eq, decide_eq_false_iff_not, Bool.not_eq_true', Bool.not_eq_false', ne_eq, beq_true, beq_false, bne_self_eq_false, not_true_eq_false, not_false_eq_true, gt_iff_lt, ge_iff_le, Int.not_lt, Int.not_le, Bool.true_eq_false, Bool.false_eq_true] <;> omega)); conv => whnf)
          | (refine ⟨_, hE, ?_⟩; conv => whnf)
          | (refine ⟨le_rfl' ?_, ?_⟩; rfl; conv => whnf)
          | (refine ⟨⟨?_, ?_⟩, ?_⟩; omega; omega; conv => whnf)
          | (refine ⟨⟨?_, ?_, ?_⟩, ?_⟩; rfl; omega; omega; conv => whnf)
          | (refine ⟨rfl, ?_, ?_⟩; decide; conv => whnf))
        try exact rfl
        refine ⟨rfl, ?_⟩
        conv => whnf
        refine ⟨⟨rfl, (show (4 : Nat) ≠ 0 by decide)⟩, ?_⟩
        refine appE (sz := 4) (bytes := 56) (cs := encL v.f3) (k := v.f3.length) ?_ rfl (by decide) (encL_len _) hk (encC _) ⟨by omega, by omega⟩ (Nat.add_lt_add_left (by decide) _) (fun a1 k1 => ?_)
        · rfl
        conv => whnf
        refine sel_yes g6 ?_
        conv => whnf
        refine ⟨rfl, ?_⟩
        conv => whnf
        refine ⟨⟨rfl, (show (4 : Nat) ≠ 0 by decide)⟩, ?_⟩
        refine Gro.one (val := [V.int .i64 w.f0, .int .i64 w.f1, .str w.f2, .sl false (encL w.f3) w.f3.length]) k1 ⟨_, _, _, _, rfl, rfl⟩ ?_ rfl (one_cold w) ⟨?_, ?_⟩ ?_ ?_ (fun b1 v1 a2 k2 => ?_)
        · intro b0 hb0
          exact upd_lt (Nat.lt_of_lt_of_le hb0 (by ((conv => lhs; whnf); (repeat ((conv => rhs; whnf); first | with_reducible exact Nat.le_refl _ | refine Nat.le_trans ?_ (Nat.le_add_right _ _) | refine Nat.le_succ_of_le ?_)))))
        · show (0 + v.f3.length + 1) * 56 ≤ 140737488355328
          omega
        · show 0 + v.f3.length + 1 ≤ 140737488355328
          omega
        · exact Nat.add_lt_add_left (by decide) _
        · ((conv => lhs; whnf); (repeat ((conv => rhs; whnf); first | with_reducible exact Nat.le_refl _ | refine Nat.le_trans ?_ (Nat.le_add_right _ _) | refine Nat.le_succ_of_le ?_)))
        have ha := Gro_at (k2.to (one_one v.f3 w) rfl)
        conv => whnf
        exact FinRowT (k1 := .i64) (k2 := .i64) rfl ha (by rw [encL_len, List.length_append, Nat.zero_add]; rfl) (encC _) hr
    obtain ⟨r, h, rfl⟩ := key
    exact h
theorem rputC (hn : Non ext) (v s x : T) (p : List T) (h4 : v.f0 = 4) (hi : idxF v.f3.length s = none) (he : ¬ (s.f0 = 2 ∧ s.f1 = (v.f3.length : Int))) :
    (cfg ext).Ev 33 [A v, .sl false (encL (s :: p)) (s :: p).length, A x] (optV none) := by
  have hl0 : ((s :: p).length : Int) ≠ 0 := by simp only [List.length_cons]; omega
  have hI := rindex (ext := ext) hn v s
  rw [if_pos h4, hi] at hI
  have g1 : (v.f0 == 4) = true := by simp [h4]
  have g3 : (v.f0 != 0) = true := by simp [h4]
  have g4 : (v.f0 != 6) = true := by simp [h4]
  have key : ∃ r, (cfg ext).Ev 33 [A v, .sl false (encL (s :: p)) (s :: p).length, A x] r ∧ r = optV none := by
    refine Ev.ofE (hn 33 (by decide) (by decide)) Tryd.func33 rfl rfl ?_
    by_cases h2 : s.f0 = 2
    · have g5 : (s.f0 == 2) = true := by simp [h2]
      have g6 : (s.f1 == (v.f3.length : Int)) = false := by simp; omega
      conv => whnf
      repeat (first
        | (refine sel_yes ?_ ?_; (first | assumption | (simp only [beq_iff_eq, bne_iff_ne, beq_eq_false_iff_ne, bne_eq_false_iff_eq, decide_eq_true_eq, decide_eq_false_iff_not, Bool.not_eq_true', Bool.not_eq_false', ne_eq, beq_true, beq_false, bne_self_eq_false, not_true_eq_false, not_false_eq_true, gt_iff_lt, ge_iff_le, Int.not_lt, Int.not_le, Bool.true_eq_false, Bool.false_eq_true] <;> omega)); conv => whnf)
        | (refine sel_no ?_ ?_; (first | assumption | (simp only [beq_iff_eq, bne_iff_ne, beq_eq_false_iff_ne, bne_eq_false_iff_eq, decide_eq_true_eq, decide_eq_false_iff_not, Bool.not_eq_true', Bool.not_eq_false', ne_eq, beq_true, beq_false, bne_self_eq_false, not_true_eq_false, not_false_eq_true, gt_iff_lt, ge_iff_le, Int.not_lt, Int.not_le, Bool.true_eq_false, Bool.false_eq_true] <;> omega)); conv => whnf)
        | (refine ⟨le_rfl' ?_, ?_⟩; rfl; conv => whnf)
        | (refine ⟨⟨?_, ?_⟩, ?_⟩; omega; omega; conv => whnf)
        | (refine ⟨⟨?_, ?_, ?_⟩, ?_⟩; rfl; omega; omega; conv => whnf)
        | (refine ⟨rfl, ?_, ?_⟩; decide; conv => whnf))
      try exact rfl
      refine ld0 ?_
      conv => whnf
      repeat (first
        | (refine sel_yes ?_ ?_; (first | assumption | (simp only [beq_iff_eq, bne_iff_ne, beq_eq_false_iff_ne, bne_eq_false_iff_eq, decide_eq_true_eq, decide_eq_false_iff_not, Bool.not_eq_true', Bool.not_eq_false', ne_eq, beq_true, beq_false, bne_self_eq_false, not_true_eq_false, not_false_eq_true, gt_iff_lt, ge_iff_le, Int.not_lt, Int.not_le, Bool.true_eq_false, Bool.false_eq_true] <;> omega)); conv => whnf)
        | (refine sel_no ?_ ?_; (first | assumption | (simp only [beq_iff_eq, bne_iff_ne, beq_eq_false_iff_ne, bne_eq_false_iff_eq, decide_eq_true_eq, decide_eq_false_iff_not, Bool.not_eq_true', Bool.not_eq_false', ne_eq, beq_true, beq_false, bne_self_eq_false, not_true_eq_false, not_false_eq_true, gt_iff_lt, ge_iff_le, Int.not_lt, Int.not_le, Bool.true_eq_false, Bool.false_eq_true] <;> omega)); conv => whnf)
        | (refine ⟨_, hI, ?_⟩; conv => whnf)
        | (refine ⟨le_rfl' ?_, ?_⟩; rfl; conv => whnf)
        | (refine ⟨⟨?_, ?_⟩, ?_⟩; omega; omega; conv => whnf)
        | (refine ⟨⟨?_, ?_, ?_⟩, ?_⟩; rfl; omega; omega; conv => whnf)
        | (refine ⟨rfl, ?_, ?_⟩; decide; conv => whnf))
      try exact rfl
    · have g5 : (s.f0 == 2) = false := by simp [h2]
      conv => whnf
      repeat (first
        | (refine sel_yes ?_ ?_; (first | assumption | (simp only [beq_iff_eq, bne_iff_ne, beq_eq_false_iff_ne, bne_eq_false_iff_eq, decide_eq_true_eq, decide_eq_false_iff_not, Bool.not_eq_true', Bool.not_eq_false', ne_eq, beq_true, beq_false, bne_self_eq_false, not_true_eq_false, not_false_eq_true, gt_iff_lt, ge_iff_le, Int.not_lt, Int.not_le, Bool.true_eq_false, Bool.false_eq_true] <;> omega)); conv => whnf)
        | (refine sel_no ?_ ?_; (first | assumption | (simp only [beq_iff_eq, bne_iff_ne, beq_eq_false_iff_ne, bne_eq_false_iff_eq, decide_eq_true_eq, decide_eq_false_iff_not, Bool.not_eq_true', Bool.not_eq_false', ne_eq, beq_true, beq_false, bne_self_eq_false, not_true_eq_false, not_false_eq_true, gt_iff_lt, ge_iff_le, Int.not_lt, Int.not_le, Bool.true_eq_false, Bool.false_eq_true] <;> omega)); conv => whnf)
        | (refine ⟨le_rfl' ?_, ?_⟩; rfl; conv => whnf)
        | (refine ⟨⟨?_, ?_⟩, ?_⟩; omega; omega; conv => whnf)
        | (refine ⟨⟨?_, ?_, ?_⟩, ?_⟩; rfl; omega; omega; conv => whnf)
        | (refine ⟨rfl, ?_, ?_⟩; decide; conv => whnf))
      try exact rfl
      refine ld0 ?_
      conv => whnf
      repeat (first
        | (refine sel_yes ?_ ?_; (first | assumption | (simp only [beq_iff_eq, bne_iff_ne, beq_eq_false_iff_ne, bne_eq_false_iff_eq, decide_eq_true_eq, decide_eq_false_iff_not, Bool.not_eq_true', Bool.not_eq_false', ne_eq, beq_true, beq_false, bne_self_eq_false, not_true_eq_false, not_false_eq_true, gt_iff_lt, ge_iff_le, Int.not_lt, Int.not_le, Bool.true_eq_false, Bool.false_eq_true] <;> omega)); conv => whnf)
        | (refine sel_no ?_ ?_; (first | assumption | (simp only [beq_iff_eq, bne_iff_ne, beq_eq_false_iff_ne, bne_eq_false_iff_eq, decide_eq_true_eq, decide_eq_false_iff_not, Bool.not_eq_true', Bool.not_eq_false', ne_eq, beq_true, beq_false, bne_self_eq_false, not_true_eq_false, not_false_eq_true, gt_iff_lt, ge_iff_le, Int.not_lt, Int.not_le, Bool.true_eq_false, Bool.false_eq_true] <;> omega)); conv => whnf)
        | (refine ⟨_, hI, ?_⟩; conv => whnf)
        | (refine ⟨le_rfl' ?_, ?_⟩; rfl; conv => whnf)
        | (refine ⟨⟨?_, ?_⟩, ?_⟩; omega; omega; conv => whnf)
        | (refine ⟨⟨?_, ?_, ?_⟩, ?_⟩; rfl; omega; omega; conv => whnf)
        | (refine ⟨rfl, ?_, ?_⟩; decide; conv => whnf))
      try exact rfl
  obtain ⟨r, h, rfl⟩ := key
  exact h
theorem rputE (hn : Non ext) (v s x : T) (p : List T) (h4 : v.f0 ≠ 4) (h0 : v.f0 ≠ 0) (h6 : v.f0 ≠ 6) :
    (cfg ext).Ev 33 [A v, .sl false (encL (s :: p)) (s :: p).length, A x] (optV none) := by
  have hl0 : ((s :: p).length : Int) ≠ 0 := by simp only [List.length_cons]; omega
  have hI := rindex (ext := ext) hn v s
  rw [if_neg h4] at hI
  have g1 : (v.f0 == 4) = false := by simp [h4]
  have g3 : (v.f0 != 0) = true := by simp [h0]
  have g4 : (v.f0 != 6) = true := by simp [h6]
  have key : ∃ r, (cfg ext).Ev 33 [A v, .sl false (encL (s :: p)) (s :: p).length, A x] r ∧ r = optV none := by
    refine Ev.ofE (hn 33 (by decide) (by decide)) Tryd.func33 rfl rfl ?_
    conv => whnf
    repeat (first
      | (refine sel_yes ?_ ?_; (first | assumption | (simp only [beq_iff_eq, bne_iff_ne, beq_eq_false_iff_ne, bne_eq_false_iff_eq, decide_eq_true_eq, decide_eq_false_iff_not, Bool.not_eq_true', Bool.not_eq_false', ne_eq, beq_true, beq_false, bne_self_eq_false, not_true_eq_false, not_false_eq_true, gt_iff_lt, ge_iff_le, Int.not_lt, Int.not_le, Bool.true_eq_false, Bool.false_eq_true] <;> omega)); conv => whnf)
      | (refine sel_no ?_ ?_; (first | assumption | (simp only [beq_iff_eq, bne_iff_ne, beq_eq_false_iff_ne, bne_eq_false_iff_eq, decide_eq_true_eq, decide_eq_false_iff_not, Bool.not_eq_true', Bool.not_eq_false', ne_eq, beq_true, beq_false, bne_self_eq_false, not_true_eq_false, not_false_eq_true, gt_iff_lt, ge_iff_le, Int.not_lt, Int.not_le, Bool.true_eq_false, Bool.false_eq_true] <;> omega)); conv => whnf)
      | (refine ⟨le_rfl' ?_, ?_⟩; rfl; conv => whnf)
      | (refine ⟨⟨?_, ?_⟩, ?_⟩; omega; omega; conv => whnf)
      | (refine ⟨⟨?_, ?_, ?_⟩, ?_⟩; rfl; omega; omega; conv => whnf)
      | (refine ⟨rfl, ?_, ?_⟩; decide; conv => whnf))
    try exact rfl
    refine ld0 ?_
    conv => whnf
    repeat (first
      | (refine sel_yes ?_ ?_; (first | assumption | (simp only [beq_iff_eq, bne_iff_ne, beq_eq_false_iff_ne, bne_eq_false_iff_eq, decide_eq_true_eq, decide_eq_false_iff_not, Bool.not_eq_true', Bool.not_eq_false', ne_eq, beq_true, beq_false, bne_self_eq_false, not_true_eq_false, not_false_eq_true, gt_iff_lt, ge_iff_le, Int.not_lt, Int.not_le, Bool.true_eq_false, Bool.false_eq_true] <;> omega)); conv => whnf)
      | (refine sel_no ?_ ?_; (first | assumption | (simp only [beq_iff_eq, bne_iff_ne, beq_eq_false_iff_ne, bne_eq_false_iff_eq, decide_eq_true_eq, decide_eq_false_iff_not, Bool.not_eq_true', Bool.not_eq_false', ne_eq, beq_true, beq_false, bne_self_eq_false, not_true_eq_false, not_false_eq_true, gt_iff_lt, ge_iff_le, Int.not_lt, Int.not_le, Bool.true_eq_false, Bool.false_eq_true] <;> omega)); conv => whnf)
      | (refine ⟨_, hI, ?_⟩; conv => whnf)
      | (refine ⟨le_rfl' ?_, ?_⟩; rfl; conv => whnf)
      | (refine ⟨⟨?_, ?_⟩, ?_⟩; omega; omega; conv => whnf)
      | (refine ⟨⟨?_, ?_, ?_⟩, ?_⟩; rfl; omega; omega; conv => whnf)
      | (refine ⟨rfl, ?_, ?_⟩; decide; conv => whnf))
    try exact rfl
  obtain ⟨r, h, rfl⟩ := key
  exact h
/-- the reference's put, whole -/
theorem rput (hn : Non ext) (x : T) : ∀ (p : List T) (v : T), Good v → (∀ s ∈ p, Good s) → (cfg ext).Ev 33 [A v, .sl false (encL p) p.length, A x] (optV (putF v p x))
  | [], v, hv, hp => rput0 hn v x
  | s :: p, v, hv, hp => by
    have hs : Good s := hp s (by simp)
    have ih := rput hn x p ((partF v s).getD nilT) (old_good hv hs) (fun s' h => hp s' (by simp [h]))
    by_cases h4 : v.f0 = 4
    · cases hi : idxF v.f3.length s with
      | some i =>
        have e : putF v (s :: p) x = (putF ((partF v s).getD nilT) p x).map fun w => ⟨4, 0, ⟨#[]⟩, v.f3.set i w⟩ := by
          conv => lhs; unfold putF
          rw [if_pos h4, hi]
        rw [e]
        exact rputA hn v s x p hv hs h4 hi _ ih
      | none =>
        by_cases he : s.f0 = 2 ∧ s.f1 = (v.f3.length : Int)
        · have e : putF v (s :: p) x = (putF ((partF v s).getD nilT) p x).map fun w => ⟨4, 0, ⟨#[]⟩, v.f3 ++ [w]⟩ := by
            conv => lhs; unfold putF
            rw [if_pos h4, hi]
            simp only
            rw [if_pos he]
          rw [e]
          exact rputB hn v s x p hv hs h4 he.1 he.2 _ ih
        · have e : putF v (s :: p) x = none := by
            conv => lhs; unfold putF
            rw [if_pos h4, hi]
            simp only
            rw [if_neg he]
          rw [e]
          exact rputC hn v s x p h4 hi he
    · by_cases h06 : v.f0 = 0 ∨ v.f0 = 6
      · have e : putF v (s :: p) x = (putF ((partF v s).getD nilT) p x).map fun w => ⟨6, 0, ⟨#[]⟩, insF v.f3 s w⟩ := by
          conv => lhs; unfold putF
          rw [if_neg h4, if_pos h06]
        rw [e]
        exact rputD hn v s x p hv hs h06 _ ih
      · have e : putF v (s :: p) x = none := by
          conv => lhs; unfold putF
          rw [if_neg h4, if_neg h06]
        rw [e]
        exact rputE hn v s x p h4 (fun h => h06 (.inl h)) (fun h => h06 (.inr h))
/-- what the reference's Put says is right -/
noncomputable def doneZ : Option T → V
  | none => .tup [A nilT, .int .i64 260]
  | some w => if okB w = true then .tup [A w, .int .i64 0] else .tup [A nilT, .int .i64 2]
theorem rdone (hn : Non ext) (o : Option T) (hw : ∀ w, o = some w → WfV w) : (cfg ext).Ev 32 [A (o.getD nilT), .bool o.isSome] (doneZ o) := by
  cases o with
  | none =>
    refine Ev.of (hn 32 (by decide) (by decide)) Tryd.func32 rfl rfl ?_
    conv => whnf
    rfl
  | some w =>
    have h1 := rright hn w (hw w rfl)
    by_cases hk : okB w = true
    · rw [hk] at h1
      unfold doneZ
      simp only [hk, if_true]
      refine Ev.of (hn 32 (by decide) (by decide)) Tryd.func32 rfl rfl ?_
      conv => whnf
      repeat (first
        | (refine sel_yes ?_ ?_; (first | assumption | (simp only [beq_iff_eq, bne_iff_ne, beq_eq_false_iff_ne, bne_eq_false_iff_eq, decide_eq_true_eq, decide_eq_false_iff_not, Bool.not_eq_true', Bool.not_eq_false', ne_eq, beq_true, beq_false, bne_self_eq_false, not_true_eq_false, not_false_eq_true, gt_iff_lt, ge_iff_le, Int.not_lt, Int.not_le, Bool.true_eq_false, Bool.false_eq_true] <;> omega)); conv => whnf)
        | (refine sel_no ?_ ?_; (first | assumption | (simp only [beq_iff_eq, bne_iff_ne, beq_eq_false_iff_ne, bne_eq_false_iff_eq, decide_eq_true_eq, decide_eq_false_iff_not, Bool.not_eq_true', Bool.not_eq_false', ne_eq, beq_true, beq_false, bne_self_eq_false, not_true_eq_false, not_false_eq_true, gt_iff_lt, ge_iff_le, Int.not_lt, Int.not_le, Bool.true_eq_false, Bool.false_eq_true] <;> omega)); conv => whnf)
        | (refine ⟨_, h1, ?_⟩; conv => whnf)
        | (refine ⟨le_rfl' ?_, ?_⟩; rfl; conv => whnf)
        | (refine ⟨⟨?_, ?_⟩, ?_⟩; omega; omega; conv => whnf)
        | (refine ⟨⟨?_, ?_, ?_⟩, ?_⟩; rfl; omega; omega; conv => whnf)
        | (refine ⟨rfl, ?_, ?_⟩; decide; conv => whnf))
      try exact rfl
    · have hk' : okB w = false := by simpa using hk
      rw [hk'] at h1
      unfold doneZ
      simp only [hk', if_false, Bool.false_eq_true]
      refine Ev.of (hn 32 (by decide) (by decide)) Tryd.func32 rfl rfl ?_
      conv => whnf
      repeat (first
        | (refine sel_yes ?_ ?_; (first | assumption | (simp only [beq_iff_eq, bne_iff_ne, beq_eq_false_iff_ne, bne_eq_false_iff_eq, decide_eq_true_eq, decide_eq_false_iff_not, Bool.not_eq_true', Bool.not_eq_false', ne_eq, beq_true, beq_false, bne_self_eq_false, not_true_eq_false, not_false_eq_true, gt_iff_lt, ge_iff_le, Int.not_lt, Int.not_le, Bool.true_eq_false, Bool.false_eq_true] <;> omega)); conv => whnf)
        | (refine sel_no ?_ ?_; (first | assumption | (simp only [beq_iff_eq, bne_iff_ne, beq_eq_false_iff_ne, bne_eq_false_iff_eq, decide_eq_true_eq, decide_eq_false_iff_not, Bool.not_eq_true', Bool.not_eq_false', ne_eq, beq_true, beq_false, bne_self_eq_false, not_true_eq_false, not_false_eq_true, gt_iff_lt, ge_iff_le, Int.not_lt, Int.not_le, Bool.true_eq_false, Bool.false_eq_true] <;> omega)); conv => whnf)
        | (refine ⟨_, h1, ?_⟩; conv => whnf)
        | (refine ⟨le_rfl' ?_, ?_⟩; rfl; conv => whnf)
        | (refine ⟨⟨?_, ?_⟩, ?_⟩; omega; omega; conv => whnf)
        | (refine ⟨⟨?_, ?_, ?_⟩, ?_⟩; rfl; omega; omega; conv => whnf)
        | (refine ⟨rfl, ?_, ?_⟩; decide; conv => whnf))
      try exact rfl
end
end Go.Proofs.YtjfjagnnefmepaaDoor.AB
end
