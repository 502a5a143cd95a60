/- What PathsGet is proved with: what the program's functions make of their arguments, by the evaluator. -/
import Derived.Test.YtjfjagnnefmepaaDoorZPathsGetV2
import Derived.Test.YtjfjagnnefmepaaDoorZPathsGetV1
import Derived.Test.YtjfjagnnefmepaaDoorZPathsGetL0
import Derived.Test.YtjfjagnnefmepaaDoorZPathsGetV0
import Derived.Test.YtjfjagnnefmepaaDoorZPathsGetA1
section
set_option linter.unusedVariables false
set_option linter.unusedSimpArgs false
open Go Go.Ab Go.Proofs Go.Vl Go.RowKit
namespace Go.Proofs.YtjfjagnnefmepaaDoor.AB
set_option maxRecDepth 100000
set_option maxHeartbeats 8000000
set_option linter.unusedSimpArgs false
set_option linter.unusedVariables false
section
variable {ext : Exts}
theorem rFit (hn : Non ext) (p : List T) (hl : p.length ≤ 9223372036854775807) (hp : ∀ s ∈ p, WfV s) : (cfg ext).Ev 31 [.sl false (encL p) p.length] (.int .i64 (askZ p)) := by
  have h1 := rlisted hn p hl hp
  have key : ∃ r, (cfg ext).Ev 31 [.sl false (encL p) p.length] r ∧ r = .int .i64 (askZ p) := by
    refine Ev.ofE (hn 31 (by decide) (by decide)) Tryd.func31 rfl rfl ?_
    conv => whnf
    by_cases h : 16 < p.length
    · have g : decide ((p.length : Int) > 16) = true := decide_eq_true (by omega)
      repeat (first
        | (refine sel_yes ?_ ?_; (first | assumption | (simp only [beq_iff_eq, bne_iff_ne, beq_eq_false_iff_ne, bne_eq_false_iff_eq, decide_eq_true_eq, decide_eq_false_iff_not, Bool.not_eq_true', Bool.not_eq_false', ne_eq, beq_true, beq_false, bne_self_eq_false, not_true_eq_false, not_false_eq_true, gt_iff_lt, ge_iff_le, Int.not_lt, Int.not_le, Bool.true_eq_false, Bool.false_eq_true] <;> omega)); conv => whnf)
        | (refine sel_no ?_ ?_; (first | assumption | (simp only [beq_iff_eq, bne_iff_ne, beq_eq_false_iff_ne, bne_eq_false_iff_eq, decide_eq_true_eq, decide_eq_false_iff_not, Bool.not_eq_true', Bool.not_eq_false', ne_eq, beq_true, beq_false, bne_self_eq_false, not_true_eq_false, not_false_eq_true, gt_iff_lt, ge_iff_le, Int.not_lt, Int.not_le, Bool.true_eq_false, Bool.false_eq_true] <;> omega)); conv => whnf)
        | (refine ⟨le_rfl' ?_, ?_⟩; rfl; conv => whnf)
        | (refine ⟨⟨?_, ?_⟩, ?_⟩; omega; omega; conv => whnf)
        | (refine ⟨⟨?_, ?_, ?_⟩, ?_⟩; rfl; omega; omega; conv => whnf)
        | (refine ⟨rfl, ?_, ?_⟩; decide; conv => whnf))
      try exact rfl
      exact vi (by unfold askZ; rw [if_pos (by omega)])
    · have g : decide ((p.length : Int) > 16) = false := decide_eq_false (by omega)
      repeat (first
        | (refine sel_yes ?_ ?_; (first | assumption | (simp only [beq_iff_eq, bne_iff_ne, beq_eq_false_iff_ne, bne_eq_false_iff_eq, decide_eq_true_eq, decide_eq_false_iff_not, Bool.not_eq_true', Bool.not_eq_false', ne_eq, beq_true, beq_false, bne_self_eq_false, not_true_eq_false, not_false_eq_true, gt_iff_lt, ge_iff_le, Int.not_lt, Int.not_le, Bool.true_eq_false, Bool.false_eq_true] <;> omega)); conv => whnf)
        | (refine sel_no ?_ ?_; (first | assumption | (simp only [beq_iff_eq, bne_iff_ne, beq_eq_false_iff_ne, bne_eq_false_iff_eq, decide_eq_true_eq, decide_eq_false_iff_not, Bool.not_eq_true', Bool.not_eq_false', ne_eq, beq_true, beq_false, bne_self_eq_false, not_true_eq_false, not_false_eq_true, gt_iff_lt, ge_iff_le, Int.not_lt, Int.not_le, Bool.true_eq_false, Bool.false_eq_true] <;> omega)); conv => whnf)
        | (refine ⟨_, h1, ?_⟩; conv => whnf)
        | (refine ⟨le_rfl' ?_, ?_⟩; rfl; conv => whnf)
        | (refine ⟨⟨?_, ?_⟩, ?_⟩; omega; omega; conv => whnf)
        | (refine ⟨⟨?_, ?_, ?_⟩, ?_⟩; rfl; omega; omega; conv => whnf)
        | (refine ⟨rfl, ?_, ?_⟩; decide; conv => whnf))
      try exact rfl
      exact vi (by unfold askZ listedZ; rw [if_neg (show ¬ 65536 < p.length by omega), if_neg (show ¬ 16 < p.length by omega)])
  obtain ⟨r, h, rfl⟩ := key
  exact h
/-- the reference's Put -/
theorem rPut (hn : Non ext) (v x : T) (p : List T) (hv : WfV v) (hp : ∀ s ∈ p, WfV s) (hx : WfV x) (hl : p.length ≤ 9223372036854775807) : (cfg ext).Ev 10 [A v, .sl false (encL p) p.length, A x] (putAll v p x) := by
  have h1 := rright hn v hv
  have h2 := rFit hn p hl hp
  have h3 := rright hn x hx
  have key : ∃ r, (cfg ext).Ev 10 [A v, .sl false (encL p) p.length, A x] r ∧ r = putAll v p x := by
    refine Ev.ofE (hn 10 (by decide) (by decide)) Tryd.func10 rfl rfl ?_
    unfold putAll
    cases hv' : okB v with
    | false =>
      rw [hv'] at h1
      conv => whnf
      repeat (first
        | (refine sel_yes ?_ ?_; (first | assumption | (simp only [beq_iff_eq, bne_iff_ne, beq_eq_false_iff_ne, bne_eq_false_iff_eq, decide_eq_true_eq, decide_eq_false_iff_not, Bool.not_eq_true', Bool.not_eq_false', ne_eq, beq_true, beq_false, bne_self_eq_false, not_true_eq_false, not_false_eq_true, gt_iff_lt, ge_iff_le, Int.not_lt, Int.not_le, Bool.true_eq_false, Bool.false_eq_true] <;> omega)); conv => whnf)
        | (refine sel_no ?_ ?_; (first | assumption | (simp only [beq_iff_eq, bne_iff_ne, beq_eq_false_iff_ne, bne_eq_false_iff_eq, decide_eq_true_eq, decide_eq_false_iff_not, Bool.not_eq_true', Bool.not_eq_false', ne_eq, beq_true, beq_false, bne_self_eq_false, not_true_eq_false, not_false_eq_true, gt_iff_lt, ge_iff_le, Int.not_lt, Int.not_le, Bool.true_eq_false, Bool.false_eq_true] <;> omega)); conv => whnf)
        | (refine ⟨_, h1, ?_⟩; conv => whnf)
        | (refine ⟨le_rfl' ?_, ?_⟩; rfl; conv => whnf)
        | (refine ⟨⟨?_, ?_⟩, ?_⟩; omega; omega; conv => whnf)
        | (refine ⟨⟨?_, ?_, ?_⟩, ?_⟩; rfl; omega; omega; conv => whnf)
        | (refine ⟨rfl, ?_, ?_⟩; decide; conv => whnf))
      try exact rfl
    | true =>
      rw [hv'] at h1
      rw [if_pos rfl]
      by_cases ha : askZ p = 0
      · rw [ha] at h2
        rw [if_pos ha]
        cases hx' : okB x with
        | false =>
          rw [hx'] at h3
          conv => whnf
          repeat (first
            | (refine sel_yes ?_ ?_; (first | assumption | (simp only [beq_iff_eq, bne_iff_ne, beq_eq_false_iff_ne, bne_eq_false_iff_eq, decide_eq_true_eq, decide_eq_false_iff_not, Bool.not_eq_true', Bool.not_eq_false', ne_eq, beq_true, beq_false, bne_self_eq_false, not_true_eq_false, not_false_eq_true, gt_iff_lt, ge_iff_le, Int.not_lt, Int.not_le, Bool.true_eq_false, Bool.false_eq_true] <;> omega)); conv => whnf)
            | (refine sel_no ?_ ?_; (first | assumption | (simp only [beq_iff_eq, bne_iff_ne, beq_eq_false_iff_ne, bne_eq_false_iff_eq, decide_eq_true_eq, decide_eq_false_iff_not, Bool.not_eq_true', Bool.not_eq_false', ne_eq, beq_true, beq_false, bne_self_eq_false, not_true_eq_false, not_false_eq_true, gt_iff_lt, ge_iff_le, Int.not_lt, Int.not_le, Bool.true_eq_false, Bool.false_eq_true] <;> omega)); conv => whnf)
            | (refine ⟨_, h1, ?_⟩; conv => whnf)
            | (refine ⟨_, h2, ?_⟩; conv => whnf)
            | (refine ⟨_, h3, ?_⟩; conv => whnf)
            | (refine ⟨le_rfl' ?_, ?_⟩; rfl; conv => whnf)
            | (refine ⟨⟨?_, ?_⟩, ?_⟩; omega; omega; conv => whnf)
            | (refine ⟨⟨?_, ?_, ?_⟩, ?_⟩; rfl; omega; omega; conv => whnf)
            | (refine ⟨rfl, ?_, ?_⟩; decide; conv => whnf))
          try exact rfl
        | true =>
          rw [hx'] at h3
          have gp : ∀ s ∈ p, Good s := fun s hs => ⟨hp s hs, (ask0 ha).2 s hs⟩
          have h4 := rput hn x p v ⟨hv, hv'⟩ gp
          rw [optV_eq] at h4
          have h5 := rdone hn (putF v p x) (fun w hw => put_wf p v x w ⟨hv, hv'⟩ gp hx hw)
          rw [if_pos rfl, show putRes v p x = doneZ (putF v p x) from rfl]
          cases ho : putF v p x with
          | none =>
            rw [ho] at h4 h5
            conv => whnf
            repeat (first
              | (refine sel_yes ?_ ?_; (first | assumption | (simp only [beq_iff_eq, bne_iff_ne, beq_eq_false_iff_ne, bne_eq_false_iff_eq, decide_eq_true_eq, decide_eq_false_iff_not, Bool.not_eq_true', Bool.not_eq_false', ne_eq, beq_true, beq_false, bne_self_eq_false, not_true_eq_false, not_false_eq_true, gt_iff_lt, ge_iff_le, Int.not_lt, Int.not_le, Bool.true_eq_false, Bool.false_eq_true] <;> omega)); conv => whnf)
              | (refine sel_no ?_ ?_; (first | assumption | (simp only [beq_iff_eq, bne_iff_ne, beq_eq_false_iff_ne, bne_eq_false_iff_eq, decide_eq_true_eq, decide_eq_false_iff_not, Bool.not_eq_true', Bool.not_eq_false', ne_eq, beq_true, beq_false, bne_self_eq_false, not_true_eq_false, not_false_eq_true, gt_iff_lt, ge_iff_le, Int.not_lt, Int.not_le, Bool.true_eq_false, Bool.false_eq_true] <;> omega)); conv => whnf)
              | (refine ⟨_, h1, ?_⟩; conv => whnf)
              | (refine ⟨_, h2, ?_⟩; conv => whnf)
              | (refine ⟨_, h3, ?_⟩; conv => whnf)
              | (refine ⟨_, h4, ?_⟩; conv => whnf)
              | (refine ⟨_, h5, ?_⟩; conv => whnf)
              | (refine ⟨le_rfl' ?_, ?_⟩; rfl; conv => whnf)
              | (refine ⟨⟨?_, ?_⟩, ?_⟩; omega; omega; conv => whnf)
              | (refine ⟨⟨?_, ?_, ?_⟩, ?_⟩; rfl; omega; omega; conv => whnf)
              | (refine ⟨rfl, ?_, ?_⟩; decide; conv => whnf))
            try exact rfl
          | some w =>
            rw [ho] at h4 h5
            unfold doneZ at h5 ⊢
            simp only at h5 ⊢
            cases hk : okB w with
            | true =>
              rw [hk] at h5
              conv => whnf
              repeat (first
                | (refine sel_yes ?_ ?_; (first | assumption | (simp only [beq_iff_eq, bne_iff_ne, beq_eq_false_iff_ne, bne_eq_false_iff_eq, decide_eq_true_eq, decide_eq_false_iff_not, Bool.not_eq_true', Bool.not_eq_false', ne_eq, beq_true, beq_false, bne_self_eq_false, not_true_eq_false, not_false_eq_true, gt_iff_lt, ge_iff_le, Int.not_lt, Int.not_le, Bool.true_eq_false, Bool.false_eq_true] <;> omega)); conv => whnf)
                | (refine sel_no ?_ ?_; (first | assumption | (simp only [beq_iff_eq, bne_iff_ne, beq_eq_false_iff_ne, bne_eq_false_iff_eq, decide_eq_true_eq, decide_eq_false_iff_not, Bool.not_eq_true', Bool.not_eq_false', ne_eq, beq_true, beq_false, bne_self_eq_false, not_true_eq_false, not_false_eq_true, gt_iff_lt, ge_iff_le, Int.not_lt, Int.not_le, Bool.true_eq_false, Bool.false_eq_true] <;> omega)); conv => whnf)
                | (refine ⟨_, h1, ?_⟩; conv => whnf)
                | (refine ⟨_, h2, ?_⟩; conv => whnf)
                | (refine ⟨_, h3, ?_⟩; conv => whnf)
                | (refine ⟨_, h4, ?_⟩; conv => whnf)
                | (refine ⟨_, h5, ?_⟩; conv => whnf)
                | (refine ⟨le_rfl' ?_, ?_⟩; rfl; conv => whnf)
                | (refine ⟨⟨?_, ?_⟩, ?_⟩; omega; omega; conv => whnf)
                | (refine ⟨⟨?_, ?_, ?_⟩, ?_⟩; rfl; omega; omega; conv => whnf)
                | (refine ⟨rfl, ?_, ?_⟩; decide; conv => whnf))
              try exact rfl
            | false =>
              rw [hk] at h5
              conv => whnf
              repeat (first
                | (refine sel_yes ?_ ?_; (first | assumption | (simp only [beq_iff_eq, bne_iff_ne, beq_eq_false_iff_ne, bne_eq_false_iff_eq, decide_eq_true_eq, decide_eq_false_iff_not, Bool.not_eq_true', Bool.not_eq_false', ne_eq, beq_true, beq_false, bne_self_eq_false, not_true_eq_false, not_false_eq_true, gt_iff_lt, ge_iff_le, Int.not_lt, Int.not_le, Bool.true_eq_false, Bool.false_eq_true] <;> omega)); conv => whnf)
                | (refine sel_no ?_ ?_; (first | assumption | (simp only [beq_iff_eq, bne_iff_ne, beq_eq_false_iff_ne, bne_eq_false_iff_eq, decide_eq_true_eq, decide_eq_false_iff_not, Bool.not_eq_true', Bool.not_eq_false', ne_eq, beq_true, beq_false, bne_self_eq_false, not_true_eq_false, not_false_eq_true, gt_iff_lt, ge_iff_le, Int.not_lt, Int.not_le, Bool.true_eq_false, Bool.false_eq_true] <;> omega)); conv => whnf)
                | (refine ⟨_, h1, ?_⟩; conv => whnf)
                | (refine ⟨_, h2, ?_⟩; conv => whnf)
                | (refine ⟨_, h3, ?_⟩; conv => whnf)
                | (refine ⟨_, h4, ?_⟩; conv => whnf)
                | (refine ⟨_, h5, ?_⟩; conv => whnf)
                | (refine ⟨le_rfl' ?_, ?_⟩; rfl; conv => whnf)
                | (refine ⟨⟨?_, ?_⟩, ?_⟩; omega; omega; conv => whnf)
                | (refine ⟨⟨?_, ?_, ?_⟩, ?_⟩; rfl; omega; omega; conv => whnf)
                | (refine ⟨rfl, ?_, ?_⟩; decide; conv => whnf))
              try exact rfl
      · rw [if_neg ha]
        rcases askn ha with e | e
        all_goals rw [e] at h2 ⊢
        · conv => whnf
          repeat (first
            | (refine sel_yes ?_ ?_; (first | assumption | (simp only [beq_iff_eq, bne_iff_ne, beq_eq_false_iff_ne, bne_eq_false_iff_eq, decide_eq_true_eq, decide_eq_false_iff_not, Bool.not_eq_true', Bool.not_eq_false', ne_eq, beq_true, beq_false, bne_self_eq_false, not_true_eq_false, not_false_eq_true, gt_iff_lt, ge_iff_le, Int.not_lt, Int.not_le, Bool.true_eq_false, Bool.false_eq_true] <;> omega)); conv => whnf)
            | (refine sel_no ?_ ?_; (first | assumption | (simp only [beq_iff_eq, bne_iff_ne, beq_eq_false_iff_ne, bne_eq_false_iff_eq, decide_eq_true_eq, decide_eq_false_iff_not, Bool.not_eq_true', Bool.not_eq_false', ne_eq, beq_true, beq_false, bne_self_eq_false, not_true_eq_false, not_false_eq_true, gt_iff_lt, ge_iff_le, Int.not_lt, Int.not_le, Bool.true_eq_false, Bool.false_eq_true] <;> omega)); conv => whnf)
            | (refine ⟨_, h1, ?_⟩; conv => whnf)
            | (refine ⟨_, h2, ?_⟩; conv => whnf)
            | (refine ⟨_, h3, ?_⟩; conv => whnf)
            | (refine ⟨le_rfl' ?_, ?_⟩; rfl; conv => whnf)
            | (refine ⟨⟨?_, ?_⟩, ?_⟩; omega; omega; conv => whnf)
            | (refine ⟨⟨?_, ?_, ?_⟩, ?_⟩; rfl; omega; omega; conv => whnf)
            | (refine ⟨rfl, ?_, ?_⟩; decide; conv => whnf))
          try exact rfl
        · conv => whnf
          repeat (first
            | (refine sel_yes ?_ ?_; (first | assumption | (simp only [beq_iff_eq, bne_iff_ne, beq_eq_false_iff_ne, bne_eq_false_iff_eq, decide_eq_true_eq, decide_eq_false_iff_not, Bool.not_eq_true', Bool.not_eq_false', ne_eq, beq_true, beq_false, bne_self_eq_false, not_true_eq_false, not_false_eq_true, gt_iff_lt, ge_iff_le, Int.not_lt, Int.not_le, Bool.true_eq_false, Bool.false_eq_true] <;> omega)); conv => whnf)
            | (refine sel_no ?_ ?_; (first | assumption | (simp only [beq_iff_eq, bne_iff_ne, beq_eq_false_iff_ne, bne_eq_false_iff_eq, decide_eq_true_eq, decide_eq_false_iff_not, Bool.not_eq_true', Bool.not_eq_false', ne_eq, beq_true, beq_false, bne_self_eq_false, not_true_eq_false, not_false_eq_true, gt_iff_lt, ge_iff_le, Int.not_lt, Int.not_le, Bool.true_eq_false, Bool.false_eq_true] <;> omega)); conv => whnf)
            | (refine ⟨_, h1, ?_⟩; conv => whnf)
            | (refine ⟨_, h2, ?_⟩; conv => whnf)
            | (refine ⟨_, h3, ?_⟩; conv => whnf)
            | (refine ⟨le_rfl' ?_, ?_⟩; rfl; conv => whnf)
            | (refine ⟨⟨?_, ?_⟩, ?_⟩; omega; omega; conv => whnf)
            | (refine ⟨⟨?_, ?_, ?_⟩, ?_⟩; rfl; omega; omega; conv => whnf)
            | (refine ⟨rfl, ?_, ?_⟩; decide; conv => whnf))
          try exact rfl
  obtain ⟨r, h, rfl⟩ := key
  exact h
end
theorem putAll_wf {v x u : T} {e : Int} {p : List T} (hv : WfV v) (hp : ∀ s ∈ p, WfV s) (hx : WfV x) (h : putAll v p x = .tup [A u, .int .i64 e]) : WfV u := by
  unfold putAll at h
  split at h
  · rename_i kv
    split at h
    · rename_i ka
      split at h
      · unfold putRes at h
        split at h
        · rw [← (tup2 h).1]; exact w_nil
        · rename_i w hw
          split at h
          · rw [← (tup2 h).1]
            exact put_wf p v x w ⟨hv, kv⟩ (fun s hs => ⟨hp s hs, (ask0 ka).2 s hs⟩) hx hw
          · rw [← (tup2 h).1]; exact w_nil
      · rw [← (tup2 h).1]; exact w_nil
    · rw [← (tup2 h).1]; exact w_nil
  · rw [← (tup2 h).1]; exact w_nil
theorem PathsPut_ev (v : T) (hv : WfV v) (p : List T) (hl : p.length ≤ 9223372036854775807) (hp : ∀ a ∈ p, WfV a) (x : T) (hx : WfV x) : (cfgU putT).Ev 3 [A v, .sl false (encL p) p.length, A x] (.bool true) := by
  have h1 := tPut putT_put v x p hv hp hx hl
  have h2 := up (T := putT) (by decide) (by decide) (rPut non0 v x p hv hp hx hl)
  obtain ⟨u, e, hu⟩ := putAll_tup v x p
  rw [hu] at h1 h2
  have wu : WfV u := putAll_wf hv hp hx hu
  have h4 := up (T := putT) (by decide) (by decide) (tplain non0 u wu u)
  rw [eqT_self] at h4
  have g : (e == e) = true := beq_self_eq_true e
  refine Ev.of (hnU (by decide)) Tryd.func3 rfl rfl ?_
  conv => whnf
  repeat (first
    | (refine sel_yes ?_ ?_; (first | assumption | (simp only [beq_iff_eq, bne_iff_ne, beq_eq_false_iff_ne, bne_eq_false_iff_eq, decide_eq_true_eq, decide_eq_false_iff_not, Bool.not_eq_true', Bool.not_eq_false', ne_eq, beq_true, beq_false, bne_self_eq_false, not_true_eq_false, not_false_eq_true, gt_iff_lt, ge_iff_le, Int.not_lt, Int.not_le, Bool.true_eq_false, Bool.false_eq_true] <;> omega)); conv => whnf)
    | (refine sel_no ?_ ?_; (first | assumption | (simp only [beq_iff_eq, bne_iff_ne, beq_eq_false_iff_ne, bne_eq_false_iff_eq, decide_eq_true_eq, decide_eq_false_iff_not, Bool.not_eq_true', Bool.not_eq_false', ne_eq, beq_true, beq_false, bne_self_eq_false, not_true_eq_false, not_false_eq_true, gt_iff_lt, ge_iff_le, Int.not_lt, Int.not_le, Bool.true_eq_false, Bool.false_eq_true] <;> omega)); conv => whnf)
    | (refine ⟨_, h1, ?_⟩; conv => whnf)
    | (refine ⟨_, h2, ?_⟩; conv => whnf)
    | (refine ⟨_, h4, ?_⟩; conv => whnf)
    | (refine ⟨_, speaks26 putT_put, ?_⟩; conv => whnf)
    | (refine ⟨le_rfl' ?_, ?_⟩; rfl; conv => whnf)
    | (refine ⟨⟨?_, ?_⟩, ?_⟩; omega; omega; conv => whnf)
    | (refine ⟨⟨?_, ?_, ?_⟩, ?_⟩; rfl; omega; omega; conv => whnf)
    | (refine ⟨rfl, ?_, ?_⟩; decide; conv => whnf))
  try exact rfl
end Go.Proofs.YtjfjagnnefmepaaDoor.AB
end

section
set_option linter.unusedVariables false
set_option linter.unusedSimpArgs false
open Go Go.Ab Go.Proofs Go.Vl
namespace Go.Proofs.YtjfjagnnefmepaaDoor.AB
set_option maxRecDepth 100000
set_option maxHeartbeats 8000000
set_option linter.unusedSimpArgs false
set_option linter.unusedVariables false
theorem delR_use {hp : Hp} {b v i j : Nat} {x y : Int} {l : List T} (hA : hp.a b = some ⟨v, 4, encL l, none, 0⟩) (hx : x = (i : Int)) (hy : y = (j : Int)) (hij : i < j) (hj : j ≤ l.length) (hb : b < hp.m) (hl : l.length ≤ 1000000) :
    delR 4 56 [.rsl false b v 0 l.length, .int .i64 x, .int .i64 y] hp = some (.sl false (encL (l.take i ++ l.drop j)) (l.take i ++ l.drop j).length, ⟨hp.h, hp.n + 200, fun k => if k = b then none else if hp.m ≤ k then none else hp.a k, hp.m + 200⟩) := by
  subst hx hy
  have hm : maxRoom = 140737488355328 := rfl
  have e : (encL l).take (i * 4) ++ (encL l).drop (j * 4) = encL (l.take i ++ l.drop j) := by
    rw [encL_take, encL_drop, encL_app]
  have en : (l.take i ++ l.drop j).length = i + (l.length - j) := by
    rw [List.length_append, List.length_take, List.length_drop]; omega
  unfold delR
  simp only [hA]
  rw [if_pos ⟨⟨by omega, by omega, by omega⟩, hb, trivial, trivial, trivial, trivial, encL_len _, by omega, by omega⟩, Int.toNat_natCast, Int.toNat_natCast, e, fzP_enc 4, en]
theorem Good.rise1 {v : T} (h : Good v) (h5 : v.f0 = 5) : Rise 1 v.f3 := by
  have h1 := (okB_iff.1 h.ok).1
  rw [okV_eq] at h1
  have hf := h1.2.1
  unfold FormV at hf
  rw [h5] at hf
  simpa using hf
section
variable {ext : Exts}
theorem ld00 {s : T} {Q : V → Prop} (hq : Q (A s)) : (0 : Int).toNat * 4 + 4 ≤ (encL [s]).length ∧ opt (one (some true) (sub (encL [s]) ((0 : Int).toNat * 4) 4)) fun v => fv v Q := ldA (l := [s]) (i := 0) (by simp) hq
/-- slices.Clone in a drawn region -/
theorem clone_useD {l : List T} {c : Bool} {ida : Nat} {Q1 : V × New → Prop} {Q2 : V → Prop} (hl : l.length ≤ 1000000) (hn : ext 56 = none) (q0 : l = [] → Q2 (.sl false [] 0)) (q1 : 0 < l.length → Q1 (.rsl false ida 0 0 l.length, .arr ⟨0, 4, encL l, none, 0⟩)) :
    ∃ r hp', (cfg ext).EvR 56 [.sl c (encL l) l.length] Hp.empty r hp' ∧ (match freshOf ida (r, hp') with
      | some q => Q1 q
      | none => ∃ r', (cfg ext).Ev 56 [.sl c (encL l) l.length] r' ∧ Q2 r') := by
  refine clone_use (c := c) (hp := Hp.empty) hl (fun h => ?_) (fun h a' ha => ?_)
  · subst h
    show ∃ r', _ ∧ _
    refine ⟨_, ⟨1, fun k hk => ?_⟩, q0 rfl⟩
    obtain ⟨k, rfl⟩ : ∃ m, k = m + 1 := ⟨k - 1, by omega⟩
    have e : (cfg ext).R (k + 1) 56 [.sl c (encL []) 0] Hp.empty = some (.sl true [] 0, ⟨Hp.empty.h, Hp.empty.n + 7, Hp.empty.a, Hp.empty.m + 7⟩) := rfl
    show dataCall ext ((cfg ext).R (k + 1)) 56 [.sl c (encL []) 0] = _
    simp only [dataCall, hn, e]
    rfl
  · have hz := fzP_enc 4 l
    have e : freshOf ida (V.rsl false (Hp.empty.m + 5) 0 0 l.length, (⟨Hp.empty.h, Hp.empty.n + 7, a', Hp.empty.m + 7⟩ : Hp)) = some (.rsl false ida 0 0 l.length, .arr ⟨0, 4, encL l, none, 0⟩) := by
      simp only [freshOf, ha, hz, Option.bind_some]
    rw [e]
    exact q1 h
/-- without: a place of a list -/
theorem twoL (hn : Non ext) (v s : T) (hv : Good v) (h4 : v.f0 = 4) {i : Nat} (hi : idxF v.f3.length s = some i) : (cfg ext).Ev 48 [A v, .sl false (encL [s]) 1] (A ⟨v.f0, 0, ⟨#[]⟩, remF v s⟩) := by
  have hb : i < v.f3.length := by
    unfold idxF at hi
    split at hi <;> cases hi
    omega
  have hlen := (OK.row (okB_iff.1 hv.ok)).1
  have eR : remF v s = v.f3.take i ++ v.f3.drop (i + 1) := by
    unfold remF; rw [if_neg (by omega), if_pos h4, hi]
  have hI := tindex (ext := ext) hn v s
  rw [hi] at hI
  have g1 : (v.f0 == 6) = false := by simp [h4]
  have g2 : (v.f0 == 4) = true := by simp [h4]
  have e1 : IntKind.i64.wrap ((i : Int) + 1) = ((i + 1 : Nat) : Int) := wrapN (by omega) (by omega)
  have key : ∃ r, (cfg ext).Ev 48 [A v, .sl false (encL [s]) 1] r ∧ r = A ⟨v.f0, 0, ⟨#[]⟩, remF v s⟩ := by
    refine Ev.ofF (hn 48 (by decide) (by decide)) Tryd.func48 rfl rfl ?_
    conv => whnf
    refine ⟨by decide, ?_⟩
    conv => whnf
    refine ld00 ?_
    conv => whnf
    refine clone_useD (l := v.f3) (by omega) (hn _ (by decide) (by decide)) (fun h => by rw [h] at hb; simp at hb) (fun _ => ?_)
    conv => whnf
    repeat (first
      | (refine sel_yes ?_ ?_; (first | assumption | (simp only [beq_iff_eq, bne_iff_ne, beq_eq_false_iff_ne, bne_eq_false_iff_eq, decide_eq_true_eq, decide_eq_false_iff_not, Bool.not_eq_true', Bool.not_eq_false', ne_eq, beq_true, beq_false, bne_self_eq_false, not_true_eq_false, not_false_eq_true, gt_iff_lt, ge_iff_le, Int.not_lt, Int.not_le, Bool.true_eq_false, Bool.false_eq_true] <;> omega)); conv => whnf)
      | (refine sel_no ?_ ?_; (first | assumption | (simp only [beq_iff_eq, bne_iff_ne, beq_eq_false_iff_ne, bne_eq_false_iff_eq, decide_eq_true_eq, decide_eq_false_iff_not, Bool.not_eq_true', Bool.not_eq_false', ne_eq, beq_true, beq_false, bne_self_eq_false, not_true_eq_false, not_false_eq_true, gt_iff_lt, ge_iff_le, Int.not_lt, Int.not_le, Bool.true_eq_false, Bool.false_eq_true] <;> omega)); conv => whnf)
      | (refine ⟨_, hI, ?_⟩; conv => whnf)
      | (refine ⟨le_rfl' ?_, ?_⟩; rfl; conv => whnf)
      | (refine ⟨⟨?_, ?_⟩, ?_⟩; omega; omega; conv => whnf)
      | (refine ⟨⟨?_, ?_, ?_⟩, ?_⟩; rfl; omega; omega; conv => whnf)
      | (refine ⟨rfl, ?_, ?_⟩; decide; conv => whnf))
    try exact rfl
    refine ⟨_, _, EvR.extR (g := delR 4 56) rfl rfl (delR_use (l := v.f3) (i := i) (j := i + 1) ?_ rfl e1 (by omega) (by omega) ?_ (by omega)), ?_⟩
    · rfl
    · exact Nat.lt_of_lt_of_le (Nat.lt_succ_self _) (by (conv => lhs; whnf); (repeat ((conv => rhs; whnf); first | with_reducible exact Nat.le_refl _ | refine Nat.le_trans ?_ (Nat.le_add_right _ _) | refine Nat.le_succ_of_le ?_ | exact Nat.le_refl _)))
    conv => whnf
    exact FinAgg (k1 := .i64) (k2 := .i64) rfl (by rw [eR]; rfl)
  obtain ⟨r, h, rfl⟩ := key
  exact h
/-- without: a key of a map -/
theorem twoK (hn : Non ext) (h26 : E26 ext) (v s : T) (hv : Good v) (h6 : v.f0 = 6) (hk : (keyF v.f3 s).2 = true) : (cfg ext).Ev 48 [A v, .sl false (encL [s]) 1] (A ⟨v.f0, 0, ⟨#[]⟩, remF v s⟩) := by
  have hb := keyF_lt v.f3 s hk
  have hlen := (OK.row (okB_iff.1 hv.ok)).1
  have eR : remF v s = v.f3.take (keyF v.f3 s).1 ++ v.f3.drop ((keyF v.f3 s).1 + 2) := by
    unfold remF; rw [if_pos h6]
  have hK := tkey (ext := ext) hn v s (by omega) ((OK.row (okB_iff.1 hv.ok)).2 h6) (fun a ha => t15 hn h26 a (hv.row.wfl a ha) s)
  rw [hk] at hK
  have g1 : (v.f0 == 6) = true := by simp [h6]
  have e1 : IntKind.i64.wrap ((((keyF v.f3 s).1 : Nat) : Int) + 2) = (((keyF v.f3 s).1 + 2 : Nat) : Int) := wrapN (by omega) (by omega)
  have key : ∃ r, (cfg ext).Ev 48 [A v, .sl false (encL [s]) 1] r ∧ r = A ⟨v.f0, 0, ⟨#[]⟩, remF v s⟩ := by
    refine Ev.ofF (hn 48 (by decide) (by decide)) Tryd.func48 rfl rfl ?_
    conv => whnf
    refine ⟨by decide, ?_⟩
    conv => whnf
    refine ld00 ?_
    conv => whnf
    refine clone_useD (l := v.f3) (by omega) (hn _ (by decide) (by decide)) (fun h => by rw [h] at hb; simp at hb) (fun _ => ?_)
    conv => whnf
    repeat (first
      | (refine sel_yes ?_ ?_; (first | assumption | (simp only [beq_iff_eq, bne_iff_ne, beq_eq_false_iff_ne, bne_eq_false_iff_eq, decide_eq_true_eq, decide_eq_false_iff_not, Bool.not_eq_true', Bool.not_eq_false', ne_eq, beq_true, beq_false, bne_self_eq_false, not_true_eq_false, not_false_eq_true, gt_iff_lt, ge_iff_le, Int.not_lt, Int.not_le, Bool.true_eq_false, Bool.false_eq_true] <;> omega)); conv => whnf)
      | (refine sel_no ?_ ?_; (first | assumption | (simp only [beq_iff_eq, bne_iff_ne, beq_eq_false_iff_ne, bne_eq_false_iff_eq, decide_eq_true_eq, decide_eq_false_iff_not, Bool.not_eq_true', Bool.not_eq_false', ne_eq, beq_true, beq_false, bne_self_eq_false, not_true_eq_false, not_false_eq_true, gt_iff_lt, ge_iff_le, Int.not_lt, Int.not_le, Bool.true_eq_false, Bool.false_eq_true] <;> omega)); conv => whnf)
      | (refine ⟨_, hK, ?_⟩; conv => whnf)
      | (refine ⟨le_rfl' ?_, ?_⟩; rfl; conv => whnf)
      | (refine ⟨⟨?_, ?_⟩, ?_⟩; omega; omega; conv => whnf)
      | (refine ⟨⟨?_, ?_, ?_⟩, ?_⟩; rfl; omega; omega; conv => whnf)
      | (refine ⟨rfl, ?_, ?_⟩; decide; conv => whnf))
    try exact rfl
    refine ⟨_, _, EvR.extR (g := delR 4 56) rfl rfl (delR_use (l := v.f3) (i := (keyF v.f3 s).1) (j := (keyF v.f3 s).1 + 2) ?_ rfl e1 (by omega) (by omega) ?_ (by omega)), ?_⟩
    · rfl
    · exact Nat.lt_of_lt_of_le (Nat.lt_succ_self _) (by (conv => lhs; whnf); (repeat ((conv => rhs; whnf); first | with_reducible exact Nat.le_refl _ | refine Nat.le_trans ?_ (Nat.le_add_right _ _) | refine Nat.le_succ_of_le ?_ | exact Nat.le_refl _)))
    conv => whnf
    exact FinAgg (k1 := .i64) (k2 := .i64) rfl (by rw [eR]; rfl)
  obtain ⟨r, h, rfl⟩ := key
  exact h
theorem twith1 (hn : Non ext) (a s : T) (E : (cfg ext).Ev 78 [A a, A s] (.int .i64 (cmpV a s))) : (cfg ext).Ev 69 [A a, .ptr (enc s) 0] (.bool (decide (cmpV a s = 0))) := by
  refine Ev.of (hn 69 (by decide) (by decide)) Tryd.func69 rfl rfl ?_
  rw [enc_eq]
  conv => whnf
  refine ⟨le_rfl' ?_, ?_⟩
  · rfl
  conv => whnf
  refine ⟨_, tEqual hn a s E, ?_⟩
  conv => whnf
/-- slices.IndexFunc -/
theorem lindexD (l : List T) (s : T) (p : T → Bool) (hl : l.length ≤ 1048576) (E : ∀ a ∈ l, (cfg ext).Ev 69 [A a, .ptr (enc s) 0] (.bool (p a))) (Q : Ex → St → Prop) (d : Nat) :
    ∀ (i : Nat) (z : St), l.length - i = d → i ≤ l.length → Has z.t [(0, .sl false (encL l) l.length), (1, .fn 69 [.ptr (enc s) 0]), (7, .int .i64 l.length), (8, .int .i64 i)] → z.hp.n = 4 →
      (∀ z' : St, z'.t 4 = .int .i64 (fstF p (l.drop i) i) → 0 ≤ fstF p (l.drop i) i → Q .ret z') →
      (∀ z' : St, fstF p (l.drop i) i = -1 → Q (.exit 0) z') →
      Go.Ab.Loop (cfg ext) (lpOf Tryd.f85) 4 z Q := by
  induction d with
  | zero =>
    intro i z hd hi ht hz hr hq
    have g : decide ((i : Int) < (l.length : Int)) = false := decide_eq_false (by omega)
    rw [St.knows _ _ ht hz]
    refine Loop.round ?_
    conv => whnf
    repeat (first
      | (refine sel_yes ?_ ?_; (first | assumption | (simp only [beq_iff_eq, bne_iff_ne, beq_eq_false_iff_ne, bne_eq_false_iff_eq, decide_eq_true_eq, decide_eq_false_iff_not, Bool.not_eq_true', Bool.not_eq_false', ne_eq, beq_true, beq_false, bne_self_eq_false, not_true_eq_false, not_false_eq_true, gt_iff_lt, ge_iff_le, Int.not_lt, Int.not_le, Bool.true_eq_false, Bool.false_eq_true] <;> omega)); conv => whnf)
      | (refine sel_no ?_ ?_; (first | assumption | (simp only [beq_iff_eq, bne_iff_ne, beq_eq_false_iff_ne, bne_eq_false_iff_eq, decide_eq_true_eq, decide_eq_false_iff_not, Bool.not_eq_true', Bool.not_eq_false', ne_eq, beq_true, beq_false, bne_self_eq_false, not_true_eq_false, not_false_eq_true, gt_iff_lt, ge_iff_le, Int.not_lt, Int.not_le, Bool.true_eq_false, Bool.false_eq_true] <;> omega)); conv => whnf)
      | (refine ⟨le_rfl' ?_, ?_⟩; rfl; conv => whnf)
      | (refine ⟨⟨?_, ?_⟩, ?_⟩; omega; omega; conv => whnf)
      | (refine ⟨⟨?_, ?_, ?_⟩, ?_⟩; rfl; omega; omega; conv => whnf)
      | (refine ⟨rfl, ?_, ?_⟩; decide; conv => whnf))
    try exact rfl
    exact hq _ (by rw [List.drop_eq_nil_of_le (by omega)]; rfl)
  | succ d ih =>
    intro i z hd hi ht hz hr hq
    have hlt : i < l.length := by omega
    have g : decide ((i : Int) < (l.length : Int)) = true := decide_eq_true (by omega)
    have eD := List.drop_eq_getElem_cons hlt
    have e1 : IntKind.i64.wrap ((i : Int) + 1) = ((i + 1 : Nat) : Int) := wrapN (by omega) (by omega)
    have hE := E l[i] (List.getElem_mem hlt)
    rw [St.knows _ _ ht hz]
    refine Loop.round ?_
    conv => whnf
    repeat (first
      | (refine sel_yes ?_ ?_; (first | assumption | (simp only [beq_iff_eq, bne_iff_ne, beq_eq_false_iff_ne, bne_eq_false_iff_eq, decide_eq_true_eq, decide_eq_false_iff_not, Bool.not_eq_true', Bool.not_eq_false', ne_eq, beq_true, beq_false, bne_self_eq_false, not_true_eq_false, not_false_eq_true, gt_iff_lt, ge_iff_le, Int.not_lt, Int.not_le, Bool.true_eq_false, Bool.false_eq_true] <;> omega)); conv => whnf)
      | (refine sel_no ?_ ?_; (first | assumption | (simp only [beq_iff_eq, bne_iff_ne, beq_eq_false_iff_ne, bne_eq_false_iff_eq, decide_eq_true_eq, decide_eq_false_iff_not, Bool.not_eq_true', Bool.not_eq_false', ne_eq, beq_true, beq_false, bne_self_eq_false, not_true_eq_false, not_false_eq_true, gt_iff_lt, ge_iff_le, Int.not_lt, Int.not_le, Bool.true_eq_false, Bool.false_eq_true] <;> omega)); conv => whnf)
      | (refine ⟨le_rfl' ?_, ?_⟩; rfl; conv => whnf)
      | (refine ⟨⟨?_, ?_⟩, ?_⟩; omega; omega; conv => whnf)
      | (refine ⟨⟨?_, ?_, ?_⟩, ?_⟩; rfl; omega; omega; conv => whnf)
      | (refine ⟨rfl, ?_, ?_⟩; decide; conv => whnf))
    try exact rfl
    refine ldA (i := i) hlt ?_
    conv => whnf
    refine ⟨_, hE, ?_⟩
    cases hp : p l[i] with
    | true =>
      conv => whnf
      have eF : fstF p (l.drop i) i = (i : Int) := by rw [eD]; unfold fstF; rw [if_pos hp]
      exact hr _ (by rw [eF]; rfl) (by rw [eF]; omega)
    | false =>
      conv => whnf
      have eF : fstF p (l.drop i) i = fstF p (l.drop (i + 1)) (i + 1) := by
        conv => lhs; rw [eD]; unfold fstF
        rw [if_neg (by rw [hp]; simp)]
      refine ih (i + 1) _ (by omega) (by omega) ⟨rfl, rfl, rfl, ?_, trivial⟩ rfl (fun z' a b => hr z' (by rw [eF]; exact a) (by rw [eF]; exact b)) (fun z' a => hq z' (by rw [eF]; exact a))
      conv => lhs; whnf
      exact vi e1
theorem tindexD (hn : Non ext) (l : List T) (s : T) (p : T → Bool) (hl : l.length ≤ 1048576) (E : ∀ a ∈ l, (cfg ext).Ev 69 [A a, .ptr (enc s) 0] (.bool (p a))) :
    (cfg ext).Ev 85 [.sl false (encL l) l.length, .fn 69 [.ptr (enc s) 0]] (.int .i64 (fstF p l 0)) := by
  have key : ∃ r, (cfg ext).Ev 85 [.sl false (encL l) l.length, .fn 69 [.ptr (enc s) 0]] r ∧ r = .int .i64 (fstF p l 0) := by
    refine Ev.ofF (hn 85 (by decide) (by decide)) Tryd.func85 rfl rfl ?_
    conv => whnf
    refine lindexD l s p hl E _ l.length 0 _ rfl (by omega) ⟨rfl, rfl, rfl, rfl, trivial⟩ rfl (fun z a b => ?_) (fun z a => ?_)
    · exact Fin.tmp (i := 4) rfl a rfl
    · conv => whnf
      exact Fin.tmp (i := 4) rfl rfl (vi a.symm)
  obtain ⟨r, h, rfl⟩ := key
  exact h
theorem drop_succ {α : Type} {M l : List α} {j : Nat} (h : M.drop j = l.drop j) : M.drop (j + 1) = l.drop (j + 1) := by
  have h1 := congrArg (List.drop 1) h
  rw [List.drop_drop, List.drop_drop] at h1
  exact h1
theorem set_take {α : Type} {M : List α} {i : Nat} {x : α} (h : i < M.length) : (M.take (i + 1)).set i x = M.take i ++ [x] := by
  rw [List.set_eq_take_append_cons_drop, if_pos (by rw [List.length_take]; omega), List.take_take, Nat.min_eq_left (by omega), List.drop_of_length_le (by rw [List.length_take]; omega)]
theorem trunc_arrL {z : St} {b v n : Nat} {l : List T} {cap : Option Nat} (h : z.hp.a b = some ⟨v, 4, encL l, cap, 0⟩) : (z.trunc n).hp.a b = some ⟨v, 4, encL l, cap, 0⟩ := by
  show (match z.hp.a b with | some A => some { A with cs := A.cs.map (cleanV n) } | none => none) = _
  rw [h]
  simp only [map_encL]
/-- slices.DeleteFunc's loop: what is to stay comes forward -/
theorem ldelF (hn : Non ext) (h26 : E26 ext) (v s : T) (l : List T) (hl : l.length ≤ 1000000) (hw : ∀ a ∈ l, WfV a) (hs : WfV s) (N : Nat) (hN : N = l.length) (oc : List V) (hoc : oc = [.int .i64 v.f0, .int .i64 0, .str ⟨#[]⟩, .rsl false 14 0 0 N]) (Q : Ex → St → Prop) (d : Nat) :
    ∀ (i j : Nat) (M K : List T) (z : St), l.length - j = d → i < j → j ≤ l.length → M.length = l.length → M.take i = K → M.drop j = l.drop j → Has z.t [(0, .rsl false 14 0 0 N), (1, .fn 69 [.ref 5 0]), (5, .int .i64 i), (6, .int .i64 j)] → z.hp.n = 40 →
      Has z.hp.h [(0, some (.cells (cellsV v) false)), (1, some (.cells zC false)), (5, some (.cells (cellsV s) false)), (16, some (.cells oc false))] → z.hp.a 14 = some ⟨0, 4, encL M, none, 0⟩ → 14 < z.hp.m →
      (∀ (z' : St) (i' : Nat) (M' : List T), i' < l.length → M'.length = l.length → M'.take i' = K ++ (l.drop j).filter (fun x => !decide (cmpV x s = 0)) → Has z'.t [(0, .rsl false 14 0 0 N), (5, .int .i64 i')] → z'.hp.n = 44 →
        Has z'.hp.h [(0, some (.cells (cellsV v) false)), (1, some (.cells zC false)), (5, some (.cells (cellsV s) false)), (16, some (.cells oc false))] → z'.hp.a 14 = some ⟨0, 4, encL M', none, 0⟩ → 14 < z'.hp.m → Q (.exit 0) z') →
      Go.Ab.Loop (cfg ext) (lpOf Tryd.f68) 40 z Q := by
  subst hN hoc
  induction d with
  | zero =>
    intro i j M K z hd hij hj hM hK hD ht hz hb ha hm hq
    have g : decide ((j : Int) < (l.length : Int)) = false := decide_eq_false (by omega)
    rw [St.knows _ _ ht hz _ hb]
    refine Loop.round ?_
    conv => whnf
    repeat (first
      | (refine sel_yes ?_ ?_; (first | assumption | (simp only [beq_iff_eq, bne_iff_ne, beq_eq_false_iff_ne, bne_eq_false_iff_eq, decide_eq_true_eq, decide_eq_false_iff_not, Bool.not_eq_true', Bool.not_eq_false', ne_eq, beq_true, beq_false, bne_self_eq_false, not_true_eq_false, not_false_eq_true, gt_iff_lt, ge_iff_le, Int.not_lt, Int.not_le, Bool.true_eq_false, Bool.false_eq_true] <;> omega)); conv => whnf)
      | (refine sel_no ?_ ?_; (first | assumption | (simp only [beq_iff_eq, bne_iff_ne, beq_eq_false_iff_ne, bne_eq_false_iff_eq, decide_eq_true_eq, decide_eq_false_iff_not, Bool.not_eq_true', Bool.not_eq_false', ne_eq, beq_true, beq_false, bne_self_eq_false, not_true_eq_false, not_false_eq_true, gt_iff_lt, ge_iff_le, Int.not_lt, Int.not_le, Bool.true_eq_false, Bool.false_eq_true] <;> omega)); conv => whnf)
      | (refine ⟨le_rfl' ?_, ?_⟩; rfl; conv => whnf)
      | (refine ⟨⟨?_, ?_⟩, ?_⟩; omega; omega; conv => whnf)
      | (refine ⟨⟨?_, ?_, ?_⟩, ?_⟩; rfl; omega; omega; conv => whnf)
      | (refine ⟨rfl, ?_, ?_⟩; decide; conv => whnf))
    try exact rfl
    refine hq _ i M (by omega) hM (by rw [List.drop_eq_nil_of_le (by omega), List.filter_nil, List.append_nil]; exact hK) ⟨rfl, rfl, trivial⟩ rfl ⟨rfl, rfl, rfl, rfl, trivial⟩ ha (Nat.lt_of_lt_of_le hm (by (conv => lhs; whnf); (repeat ((conv => rhs; whnf); first | with_reducible exact Nat.le_refl _ | refine Nat.le_trans ?_ (Nat.le_add_right _ _) | refine Nat.le_succ_of_le ?_ | exact Nat.le_refl _))))
  | succ d ih =>
    intro i j M K z hd hij hj hM hK hD ht hz hb ha hm hq
    have hlt : j < l.length := by omega
    have g : decide ((j : Int) < (l.length : Int)) = true := decide_eq_true (by omega)
    have eD := List.drop_eq_getElem_cons hlt
    have eM : M[j]? = some l[j] := by
      have h1 := List.getElem?_drop (xs := M) (i := j) (j := 0)
      have h2 := List.getElem?_drop (xs := l) (i := j) (j := 0)
      rw [hD, h2] at h1
      simp only [Nat.add_zero] at h1
      rw [← h1]; exact List.getElem?_eq_getElem hlt
    have e1 : IntKind.i64.wrap ((j : Int) + 1) = ((j + 1 : Nat) : Int) := wrapN (by omega) (by omega)
    have e2 : IntKind.i64.wrap ((i : Int) + 1) = ((i + 1 : Nat) : Int) := wrapN (by omega) (by omega)
    have hE := twith1 hn l[j] s (t15 hn h26 l[j] (hw _ (List.getElem_mem hlt)) s)
    rw [enc_eq] at hE
    rw [St.knows _ _ ht hz _ hb]
    refine Loop.round ?_
    conv => whnf
    repeat (first
      | (refine sel_yes ?_ ?_; (first | assumption | (simp only [beq_iff_eq, bne_iff_ne, beq_eq_false_iff_ne, bne_eq_false_iff_eq, decide_eq_true_eq, decide_eq_false_iff_not, Bool.not_eq_true', Bool.not_eq_false', ne_eq, beq_true, beq_false, bne_self_eq_false, not_true_eq_false, not_false_eq_true, gt_iff_lt, ge_iff_le, Int.not_lt, Int.not_le, Bool.true_eq_false, Bool.false_eq_true] <;> omega)); conv => whnf)
      | (refine sel_no ?_ ?_; (first | assumption | (simp only [beq_iff_eq, bne_iff_ne, beq_eq_false_iff_ne, bne_eq_false_iff_eq, decide_eq_true_eq, decide_eq_false_iff_not, Bool.not_eq_true', Bool.not_eq_false', ne_eq, beq_true, beq_false, bne_self_eq_false, not_true_eq_false, not_false_eq_true, gt_iff_lt, ge_iff_le, Int.not_lt, Int.not_le, Bool.true_eq_false, Bool.false_eq_true] <;> omega)); conv => whnf)
      | (refine ⟨le_rfl' ?_, ?_⟩; rfl; conv => whnf)
      | (refine ⟨⟨?_, ?_⟩, ?_⟩; omega; omega; conv => whnf)
      | (refine ⟨⟨?_, ?_, ?_⟩, ?_⟩; rfl; omega; omega; conv => whnf)
      | (refine ⟨rfl, ?_, ?_⟩; decide; conv => whnf))
    try exact rfl
    refine ldR (x := l[j]) (k := j) ha (fun m h => by cases h) rfl eM ?_
    conv => whnf
    by_cases h0 : cmpV l[j] s = 0
    · rw [decide_eq_true h0] at hE
      have eF : (l.drop j).filter (fun x => !decide (cmpV x s = 0)) = (l.drop (j + 1)).filter (fun x => !decide (cmpV x s = 0)) := by
        rw [eD, List.filter_cons_of_neg (by simp [h0])]
      refine ⟨_, hE, ?_⟩
      conv => whnf
      refine ih i (j + 1) M K _ (by omega) (by omega) (by omega) hM hK (drop_succ hD) ⟨rfl, rfl, rfl, ?_, trivial⟩ rfl ⟨rfl, rfl, rfl, rfl, trivial⟩ (trunc_arrL ha) (Nat.lt_of_lt_of_le hm (by (conv => lhs; whnf); (repeat ((conv => rhs; whnf); first | with_reducible exact Nat.le_refl _ | refine Nat.le_trans ?_ (Nat.le_add_right _ _) | refine Nat.le_succ_of_le ?_ | exact Nat.le_refl _)))) (fun z' i' M' a1 a2 a3 => hq z' i' M' a1 a2 (by rw [eF]; exact a3))
      conv => lhs; whnf
      exact vi e1
    · rw [decide_eq_false h0] at hE
      have eF : (l.drop j).filter (fun x => !decide (cmpV x s = 0)) = l[j] :: (l.drop (j + 1)).filter (fun x => !decide (cmpV x s = 0)) := by
        rw [eD, List.filter_cons_of_pos (by simp [h0])]
      refine ⟨_, hE, ?_⟩
      conv => whnf
      refine ⟨⟨by omega, by omega⟩, ?_⟩
      conv => whnf
      refine stR (x := l[j]) (l := M) (k := i) ha rfl (by omega) (fun a2 ha2 => ?_)
      conv => whnf
      refine ih (i + 1) (j + 1) (M.set i l[j]) (K ++ [l[j]]) _ (by omega) (by omega) (by omega) (by rw [List.length_set]; exact hM) ?_ ?_ ⟨rfl, rfl, ?_, ?_, trivial⟩ rfl ⟨rfl, rfl, rfl, rfl, trivial⟩ (trunc_arrL ha2) (Nat.lt_of_lt_of_le hm (by (conv => lhs; whnf); (repeat ((conv => rhs; whnf); first | with_reducible exact Nat.le_refl _ | refine Nat.le_trans ?_ (Nat.le_add_right _ _) | refine Nat.le_succ_of_le ?_ | exact Nat.le_refl _)))) (fun z' i' M' a1 a2 a3 => hq z' i' M' a1 a2 (by rw [eF, a3, List.append_assoc]; rfl))
      · rw [List.take_set, ← hK]
        exact set_take (by rw [hM]; omega)
      · rw [List.drop_set_of_lt (by omega)]; exact drop_succ hD
      · conv => lhs; whnf
        exact vi e2
      · conv => lhs; whnf
        exact vi e1
theorem asTwo {d : Bool} {hp : Hp} {xs : List V} {b n : Nat} {l : List T} {c c' : V} {Q : List V × Hp → Prop} (hA : hp.a b = some ⟨0, 4, encL l, none, 0⟩) (hn : n = l.length) (hd : d = false) (hx : xs = [.rsl false b 0 0 n, c]) (hc : ∀ a', ∃ hp2, fz 6 ⟨hp.h, hp.n, a', hp.m⟩ c = some (c', hp2)) (hq : ∀ hp', Q ([.sl false (encL l) n, c'], hp')) : opt (asData d hp xs) Q := by
  subst hd hx hn
  have e1 := fz_full (d := 4) hA (encL_len l) (encC l)
  obtain ⟨hp2, e2⟩ := hc (upd hp.a b (some ⟨0, 4, encL l, none, max 0 (0 + l.length * 4)⟩))
  have : asData false hp [.rsl false b 0 0 l.length, c] = some ([.sl false (encL l) l.length, c'], hp2) := fzL_cons e1 (fzL_cons e2 rfl)
  rw [this]
  exact hq hp2
theorem tdelF (hn : Non ext) (h26 : E26 ext) (v s : T) (l : List T) (hl : l.length ≤ 1000000) (hw : ∀ a ∈ l, WfV a) (hs : WfV s) (j : Nat) (hj : linM l s 0 = some j) (oc : List V) (hoc : oc = [.int .i64 v.f0, .int .i64 0, .str ⟨#[]⟩, .rsl false 14 0 0 l.length]) (hp : Hp) (hpn : hp.n = 30) (hb : Has hp.h [(0, some (.cells (cellsV v) false)), (1, some (.cells zC false)), (5, some (.cells (cellsV s) false)), (16, some (.cells oc false))]) (ha : hp.a 14 = some ⟨0, 4, encL l, none, 0⟩) (hm : 14 < hp.m) :
    ∃ r hp', (cfg ext).EvR 68 [.rsl false 14 0 0 l.length, .fn 69 [.ref 5 0]] hp r hp' ∧ ∃ (K : List T) (zz : List V), K = l.take j ++ (l.drop (j + 1)).filter (fun x => !decide (cmpV x s = 0)) ∧ r = .rsl false 14 0 0 K.length ∧ Has hp'.h [(0, some (.cells (cellsV v) false)), (1, some (.cells zC false)), (5, some (.cells (cellsV s) false)), (16, some (.cells oc false))] ∧ hp'.a 14 = some ⟨0, 4, encL K ++ zz, none, 0⟩ ∧ hp'.n = hp'.n := by
  obtain ⟨_, x, hx, h0⟩ := linM_some s l 0 j hj
  rw [Nat.sub_zero] at hx
  have hlt : j < l.length := (List.getElem?_eq_some_iff.1 hx).1
  have hI := tindexD (ext := ext) hn l s (fun x => decide (cmpV x s = 0)) (by omega) (fun a hm => twith1 hn a s (t15 hn h26 a (hw a hm) s))
  rw [fstF_lin, hj] at hI
  rw [enc_eq] at hI
  simp only at hI
  have g1 : ((j : Int) == -1) = false := by simp <;> omega
  have e1 : IntKind.i64.wrap ((j : Int) + 1) = ((j + 1 : Nat) : Int) := wrapN (by omega) (by omega)
  have ehp : hp = ⟨updL hp.h [(0, some (.cells (cellsV v) false)), (1, some (.cells zC false)), (5, some (.cells (cellsV s) false)), (16, some (.cells oc false))], 30, hp.a, hp.m⟩ := by
    rw [updL_has _ _ hb, ← hpn]
  refine EvR.ofE Tryd.func68 rfl rfl ?_
  rw [ehp]
  conv => whnf
  refine asTwo (b := 14) (l := l) ha rfl rfl rfl (fun a' => ⟨_, rfl⟩) (fun hp' => ?_)
  refine ⟨_, hI, ?_⟩
  conv => whnf
  refine ldelF hn h26 v s l hl hw hs _ rfl oc hoc _ (l.length - (j + 1)) j (j + 1) l (l.take j) _ rfl (by omega) (by omega) rfl rfl rfl ⟨rfl, rfl, rfl, ?_, trivial⟩ rfl ⟨rfl, rfl, rfl, rfl, trivial⟩ ha (Nat.lt_of_lt_of_le hm (by (conv => lhs; whnf); (repeat ((conv => rhs; whnf); first | with_reducible exact Nat.le_refl _ | refine Nat.le_trans ?_ (Nat.le_add_right _ _) | refine Nat.le_succ_of_le ?_ | exact Nat.le_refl _)))) (fun z i' M' b1 b2 b3 b4 b5 b6 b7 b8 => ?_)
  · conv => lhs; whnf
    exact vi e1
  rw [St.knows (s := z) _ _ b4 b5 _ b6]
  conv => whnf
  refine sel_yes (arrOkN ts22 b7 rfl sz24.symm) ⟨_, slLoR ts22 sz24 rfl (Nat.le_of_lt b1) _, ?_⟩
  refine xClear (A := ⟨0, 4, encL M', none, 0⟩) (b := 14) (v := 0) (c := false) (o1 := 0 + i' * 4) (n1 := l.length - i') rfl rfl ts22 tz24 sz24 rfl ?_ (by omega) ?_ rfl (Nat.zero_le _) (by rw [encL_len, b2]; omega) ?_
  · rfl
  · exact b7
  conv => whnf
  refine ⟨_, slHiR ts22 sz24 rfl (Nat.le_of_lt b1) _, ?_⟩
  conv => whnf
  refine ⟨M'.take i', (List.replicate (l.length - i') zT).flatten ++ (encL M').drop (0 + i' * 4 + ((List.replicate (l.length - i') zT).flatten).length), b3, ?_, ⟨rfl, rfl, rfl, rfl, trivial⟩, ?_, rfl⟩
  · show V.rsl false 14 0 0 i' = _
    rw [List.length_take, Nat.min_eq_left (by omega)]
  · refine Eq.trans (upd_is z.hp.a 14 (some ⟨0, 4, fillL (encL M') (0 + i' * 4) ((List.replicate (l.length - i') zT).flatten), none, 0⟩)) ?_
    have e3 : encL (M'.take i') = (encL M').take (0 + i' * 4) := by rw [Nat.zero_add, encL_take]
    rw [e3, ← List.append_assoc]; rfl
theorem tdelU (hn : Non ext) (h26 : E26 ext) (v s : T) (l : List T) (hl : l.length ≤ 1000000) (hw : ∀ a ∈ l, WfV a) (hs : WfV s) (j : Nat) (hj : linM l s 0 = some j) {oc : List V} (hoc : oc = [.int .i64 v.f0, .int .i64 0, .str ⟨#[]⟩, .rsl false 14 0 0 l.length]) {hp : Hp} (hpn : hp.n = 30) (hb : Has hp.h [(0, some (.cells (cellsV v) false)), (1, some (.cells zC false)), (5, some (.cells (cellsV s) false)), (16, some (.cells oc false))]) (ha : hp.a 14 = some ⟨0, 4, encL l, none, 0⟩) (hm : 14 < hp.m) {Q : V → Hp → Prop}
    (hq : ∀ (h : Nat → Option Bx) (n : Nat) (a' : Nat → Option Arr) (m : Nat) (K : List T) (zz : List V), K = l.take j ++ (l.drop (j + 1)).filter (fun x => !decide (cmpV x s = 0)) → a' 14 = some ⟨0, 4, encL K ++ zz, none, 0⟩ → Q (.rsl false 14 0 0 K.length) ⟨updL h [(0, some (.cells (cellsV v) false)), (1, some (.cells zC false)), (5, some (.cells (cellsV s) false)), (16, some (.cells oc false))], n, a', m⟩) :
    ∃ r hp', (cfg ext).EvR 68 [.rsl false 14 0 0 l.length, .fn 69 [.ref 5 0]] hp r hp' ∧ Q r hp' := by
  obtain ⟨r, hp', h1, K, zz, h2, rfl, h4, h5, _⟩ := tdelF hn h26 v s l hl hw hs j hj oc hoc hp hpn hb ha hm
  refine ⟨_, hp', h1, ?_⟩
  have := hq hp'.h hp'.n hp'.a hp'.m K zz h2 h5
  rw [updL_has _ _ h4] at this
  exact this
theorem FinRowZ {P : Program} {fn : Func} {s : St} {R : V → Prop} {a b : Int} {t : ByteArray} {i n v : Nat} {cs zz : List V} {cap : Option Nat} {k1 k2 : IntKind} (h : resOf P fn s = some (.agg [.int k1 a, .int k2 b, .str t, .rsl false i v 0 n])) (ha : s.hp.a i = some ⟨v, 4, cs ++ zz, cap, 0⟩) (hl : cs.length = n * 4) (hc : ∀ c ∈ cs, cold c = true)
    (hR : R (.agg [.int k1 a, .int k2 b, .str t, .sl false cs n])) : Fin P fn s R := by
  refine ⟨?_⟩
  rw [h]
  have e : ∃ hp', fz 5 s.hp (.rsl false i v 0 n) = some (.sl false cs n, hp') := by
    have e1 : sub (cs ++ zz) 0 (n * 4) = cs := by
      unfold sub
      rw [List.drop_zero, List.take_append_of_le_length (by omega), List.take_of_length_le (by omega)]
    rw [fz_rsl, ha]
    dsimp only
    rw [if_pos ⟨rfl, by rw [List.length_append, hl]; omega⟩, e1, fzL_cold 3 _ cs hc]
    exact ⟨_, rfl⟩
  obtain ⟨hp', e⟩ := e
  have : fz 6 s.hp (.agg [.int k1 a, .int k2 b, .str t, .rsl false i v 0 n]) = some (.agg [.int k1 a, .int k2 b, .str t, .sl false cs n], hp') := by
    show (match fzL (fz 5) s.hp [.int k1 a, .int k2 b, .str t, .rsl false i v 0 n] with
      | some (cs', hp') => some (V.agg cs', hp')
      | none => none) = _
    rw [show fzL (fz 5) s.hp [.int k1 a, .int k2 b, .str t, .rsl false i v 0 n] = some ([.int k1 a, .int k2 b, .str t, .sl false cs n], hp') from fzL_cons rfl (fzL_cons rfl (fzL_cons rfl (fzL_cons e rfl)))]
  show opt (fz 6 s.hp _) fun p => R p.1
  rw [this]
  exact hR
/-- without: a member of a set -/
theorem twoS (hn : Non ext) (h26 : E26 ext) (v s : T) (hv : Good v) (hs : Good s) (h5 : v.f0 = 5) {j : Nat} (hj : linM v.f3 s 0 = some j) : (cfg ext).Ev 48 [A v, .sl false (encL [s]) 1] (A ⟨v.f0, 0, ⟨#[]⟩, remF v s⟩) := by
  have hlen := (OK.row (okB_iff.1 hv.ok)).1
  have g1 : (v.f0 == 6) = false := by simp [h5]
  have g2 : (v.f0 == 4) = false := by simp [h5]
  have hR : Rise 1 v.f3 := hv.rise1 h5
  have eR : remF v s = v.f3.take j ++ (v.f3.drop (j + 1)).filter (fun x => !decide (cmpV x s = 0)) := by
    rw [rest_other s hs.shp v.f3 (fun a ha => (hv.item ha).shp) hR j hj]
    unfold remF; rw [if_neg (by omega), if_neg (by omega), hj]
  have hb : 0 < v.f3.length := by
    obtain ⟨_, x, hx, _⟩ := linM_some s v.f3 0 j hj
    have := (List.getElem?_eq_some_iff.1 hx).1
    omega
  have key : ∃ r, (cfg ext).Ev 48 [A v, .sl false (encL [s]) 1] r ∧ r = A ⟨v.f0, 0, ⟨#[]⟩, remF v s⟩ := by
    refine Ev.ofF (hn 48 (by decide) (by decide)) Tryd.func48 rfl rfl ?_
    conv => whnf
    refine ⟨by decide, ?_⟩
    conv => whnf
    refine ld00 ?_
    conv => whnf
    refine clone_useD (l := v.f3) (by omega) (hn _ (by decide) (by decide)) (fun h => by rw [h] at hb; simp at hb) (fun _ => ?_)
    conv => whnf
    repeat (first
      | (refine sel_yes ?_ ?_; (first | assumption | (simp only [beq_iff_eq, bne_iff_ne, beq_eq_false_iff_ne, bne_eq_false_iff_eq, decide_eq_true_eq, decide_eq_false_iff_not, Bool.not_eq_true', Bool.not_eq_false', ne_eq, beq_true, beq_false, bne_self_eq_false, not_true_eq_false, not_false_eq_true, gt_iff_lt, ge_iff_le, Int.not_lt, Int.not_le, Bool.true_eq_false, Bool.false_eq_true] <;> omega)); conv => whnf)
      | (refine sel_no ?_ ?_; (first | assumption | (simp only [beq_iff_eq, bne_iff_ne, beq_eq_false_iff_ne, bne_eq_false_iff_eq, decide_eq_true_eq, decide_eq_false_iff_not, Bool.not_eq_true', Bool.not_eq_false', ne_eq, beq_true, beq_false, bne_self_eq_false, not_true_eq_false, not_false_eq_true, gt_iff_lt, ge_iff_le, Int.not_lt, Int.not_le, Bool.true_eq_false, Bool.false_eq_true] <;> omega)); conv => whnf)
      | (refine ⟨le_rfl' ?_, ?_⟩; rfl; conv => whnf)
      | (refine ⟨⟨?_, ?_⟩, ?_⟩; omega; omega; conv => whnf)
      | (refine ⟨⟨?_, ?_, ?_⟩, ?_⟩; rfl; omega; omega; conv => whnf)
      | (refine ⟨rfl, ?_, ?_⟩; decide; conv => whnf))
    try exact rfl
    refine tdelU hn h26 v s v.f3 (by omega) hv.row.wfl hs.wf j hj rfl rfl ⟨rfl, rfl, rfl, rfl, trivial⟩ rfl (Nat.le_of_ble_eq_true rfl) (fun h n a' m K zz k1 k2 => ?_)
    conv => whnf
    exact FinRowZ (k1 := .i64) (k2 := .i64) rfl k2 (encL_len _) (encC _) (by rw [eR, ← k1]; rfl)
  obtain ⟨r, h, rfl⟩ := key
  exact h
end
end Go.Proofs.YtjfjagnnefmepaaDoor.AB
end

section
set_option linter.unusedVariables false
set_option linter.unusedSimpArgs false
open Go Go.Ab Go.Proofs Go.Vl Go.RowKit
namespace Go.Proofs.YtjfjagnnefmepaaDoor.AB
set_option maxRecDepth 100000
set_option maxHeartbeats 8000000
set_option linter.unusedSimpArgs false
set_option linter.unusedVariables false
theorem slOne3 {P : Program} {t e : Nat} {s : T} {p : List T} (ht : tslice P t = some e) (h4 : tsize P e = 4) : sliceV P t (.sl false (encL (s :: p)) (s :: p).length) none (some (.int .i64 1)) (some (.int .i64 1)) = some (.sl true (encL [s]) 1) := by
  have hb : (0 : Int) ≤ 1 ∧ (1 : Int) ≤ (((s :: p).length : Nat) : Int) := by simp only [List.length_cons]; omega
  simp only [sliceV, ht, bounds, boundO, bound, if_pos hb, Option.bind_some, h4, clip]
  have e1 : (1 : Int).toNat = 1 := rfl
  rw [e1]
  have hb1 : (0 : Int) ≤ 1 ∧ (1 : Int) ≤ ((1 : Nat) : Int) := by omega
  rw [if_pos hb1]
  simp only [Option.bind_some, e1]
  have e2 : sub (encL (s :: p)) (0 * 4) ((1 - 0) * 4) = encL [s] := by
    unfold sub
    rw [show (1 - 0) * 4 = 1 * 4 by omega, Nat.zero_mul, List.drop_zero, encL_take]
    rfl
  rw [e2]; rfl
section
variable {ext : Exts}
theorem part_kind {v s w : T} (h : partF v s = some w) : v.f0 = 4 ∨ v.f0 = 5 ∨ v.f0 = 6 := by
  unfold partF at h
  split at h
  · omega
  · split at h
    · omega
    · split at h
      · omega
      · cases h
/-- without: one step -/
theorem two1 (hn : Non ext) (h26 : E26 ext) (v s w : T) (hv : Good v) (hs : Good s) (hx : partF v s = some w) : (cfg ext).Ev 48 [A v, .sl false (encL [s]) 1] (A ⟨v.f0, 0, ⟨#[]⟩, remF v s⟩) := by
  have hk := part_kind hx
  unfold partF at hx
  split at hx
  · rename_i h6
    split at hx
    · rename_i hk2; exact twoK hn h26 v s hv h6 hk2
    · cases hx
  · split at hx
    · rename_i h4
      split at hx
      · rename_i i hi; exact twoL hn v s hv h4 hi
      · cases hx
    · split at hx
      · rename_i h5
        split at hx
        · rename_i ha
          rw [← linM_any s v.f3 0, Option.isSome_iff_exists] at ha
          obtain ⟨j, hj⟩ := ha
          exact twoS hn h26 v s hv hs h5 hj
        · cases hx
      · cases hx
/-- without: further on -/
theorem twoN (hn : Non ext) (h26 : E26 ext) (v s u w o : T) (p : List T) (hv : Good v) (hs : Good s) (hp : p ≠ []) (h5 : v.f0 ≠ 5) (hx : partF v s = some u)
    (hE : (cfg ext).Ev 48 [A u, .sl false (encL p) p.length] (A w)) (hP : (cfg ext).Ev 29 [A v, .sl false (encL [s]) 1, A w] (A o)) : (cfg ext).Ev 48 [A v, .sl false (encL (s :: p)) (s :: p).length] (A o) := by
  have hl : 1 < (s :: p).length := by have := List.length_pos_iff.2 hp; simp only [List.length_cons]; omega
  have g0 : decide (((s :: p).length : Int) > 1) = true := decide_eq_true (by omega)
  have g1 : (v.f0 == 5) = false := by simp [h5]
  have hA := tpart hn h26 v s hv.row
  rw [hx] at hA
  have key : ∃ r, (cfg ext).Ev 48 [A v, .sl false (encL (s :: p)) (s :: p).length] r ∧ r = A o := by
    refine Ev.ofE (hn 48 (by decide) (by decide)) Tryd.func48 rfl rfl ?_
    conv => whnf
    refine ⟨bnd0, ?_⟩
    conv => whnf
    refine ld0 ?_
    conv => whnf
    refine sel_yes g0 ?_
    conv => whnf
    refine sel_no g1 ?_
    conv => whnf
    refine ⟨_, hA, ?_⟩
    conv => whnf
    refine ⟨_, slOne3 tsV szV, ?_⟩
    conv => whnf
    refine ⟨_, slRest tsV szV, ?_⟩
    conv => whnf
    refine ⟨_, hE, ?_⟩
    conv => whnf
    refine ⟨_, hP, ?_⟩
    conv => whnf
    rfl
  obtain ⟨r, h, rfl⟩ := key
  exact h
theorem two_goes : Goes Tryd.prog 48 := ⟨_, Tryd.func48, rfl, by decide⟩
/-- without: through a set -/
theorem twpan0 {L : World → Prop} (hS : Sound (cfg ext) L) (hn : Non ext) (v s : T) (p : List T) (hp : p ≠ []) (h5 : v.f0 = 5) : PanC Tryd.prog L 48 [A v, .sl false (encL (s :: p)) (s :: p).length] refusal := by
  have hl : 1 < (s :: p).length := by have := List.length_pos_iff.2 hp; simp only [List.length_cons]; omega
  have g0 : decide (((s :: p).length : Int) > 1) = true := decide_eq_true (by omega)
  have g1 : (v.f0 == 5) = true := by simp [h5]
  refine PanC.of_SW (C := cfg ext) (fn := Tryd.f48) hS Tryd.func48 rfl ?_
  refine SW.seq (SW.of_x hS (by kernel_rfl) ?_)
  conv => whnf
  refine SW.seq (SW.of_x hS (by kernel_rfl) ?_)
  conv => whnf
  refine ⟨bnd0, ?_⟩
  conv => whnf
  refine ld0 ?_
  conv => whnf
  refine SW.seq (SW.seq (SW.of_x hS (by kernel_rfl) ?_))
  conv => whnf
  refine SW.cond (t := decide (((s :: p).length : Int) > 1)) rfl (fun _ => ?_) (fun h => by rw [g0] at h; cases h)
  refine SW.seq (SW.seq (SW.of_x hS (by kernel_rfl) ?_))
  conv => whnf
  refine SW.cond (t := (v.f0 == 5)) rfl (fun _ => ?_) (fun h => by rw [g1] at h; cases h)
  refine SW.region hS 2 rfl (by kernel_rfl) ?_
  conv => whnf
  exact OpW.raise rfl rfl rfl rfl
/-- without: what stands there panics -/
theorem twpanN {L : World → Prop} (hS : Sound (cfg ext) L) (hn : Non ext) (h26 : E26 ext) (v s u : T) (p : List T) (hv : Good v) (hp : p ≠ []) (h5 : v.f0 ≠ 5) (hx : partF v s = some u)
    (hE : PanC Tryd.prog L 48 [A u, .sl false (encL p) p.length] refusal) : PanC Tryd.prog L 48 [A v, .sl false (encL (s :: p)) (s :: p).length] refusal := by
  have hl : 1 < (s :: p).length := by have := List.length_pos_iff.2 hp; simp only [List.length_cons]; omega
  have g0 : decide (((s :: p).length : Int) > 1) = true := decide_eq_true (by omega)
  have g1 : (v.f0 == 5) = false := by simp [h5]
  have hA := tpart hn h26 v s hv.row
  rw [hx] at hA
  refine PanC.of_SW (C := cfg ext) (fn := Tryd.f48) hS Tryd.func48 rfl ?_
  refine SW.seq (SW.of_x hS (by kernel_rfl) ?_)
  conv => whnf
  refine SW.seq (SW.of_x hS (by kernel_rfl) ?_)
  conv => whnf
  refine ⟨bnd0, ?_⟩
  conv => whnf
  refine ld0 ?_
  conv => whnf
  refine SW.seq (SW.seq (SW.of_x hS (by kernel_rfl) ?_))
  conv => whnf
  refine SW.cond (t := decide (((s :: p).length : Int) > 1)) rfl (fun _ => ?_) (fun h => by rw [g0] at h; cases h)
  refine SW.seq (SW.of_x hS (by kernel_rfl) ?_)
  conv => whnf
  refine sel_no g1 ?_
  conv => whnf
  refine SW.seq (SW.of_x hS (by kernel_rfl) ?_)
  conv => whnf
  refine ⟨_, hA, ?_⟩
  conv => whnf
  refine SW.seq (SW.regionP (l := [0, 1, 2, 3, 4, 5]) hS 6 rfl (by kernel_rfl) (by kernel_rfl) (by kernel_rfl) ?_)
  conv => whnf
  refine ⟨_, slOne3 tsV szV, ?_⟩
  conv => whnf
  refine ⟨_, slRest tsV szV, ?_⟩
  conv => whnf
  refine ⟨rfl, panAt (cap := []) hE two_goes rfl rfl rfl ?_ ?_⟩
  · rfl
  · rfl
theorem put1 {v s u w : T} (h5 : v.f0 ≠ 5) (hx : partF v s = some u) : ∃ o, putF v [s] w = some o := by
  have hk := part_kind hx
  unfold putF
  by_cases h4 : v.f0 = 4
  · rw [if_pos h4]
    unfold partF at hx
    rw [if_neg (by omega), if_pos h4] at hx
    cases hi : idxF v.f3.length s with
    | none => rw [hi] at hx; cases hx
    | some i => exact ⟨_, rfl⟩
  · rw [if_neg h4, if_pos (by omega)]
    exact ⟨_, rfl⟩
/-- without, where the path leads there -/
theorem two (hn : Non ext) (h26 : E26 ext) : ∀ (p : List T) (v x o : T), Good v → (∀ s ∈ p, Good s) → atF v p = some x → withoutF v p = some o → (cfg ext).Ev 48 [A v, .sl false (encL p) p.length] (A o)
  | [], v, x, o, hv, hp, ha, hw => by cases hw
  | s :: p, v, x, o, hv, hp, ha, hw => by
    have hs : Good s := hp s (by simp)
    have hp' : ∀ s' ∈ p, Good s' := fun s' h => hp s' (by simp [h])
    unfold atF at ha
    cases hx : partF v s with
    | none => rw [hx] at ha; cases ha
    | some u =>
      rw [hx] at ha
      simp only at ha
      unfold withoutF at hw
      by_cases hnil : p = []
      · rw [if_pos hnil] at hw
        cases hw
        subst hnil
        exact two1 hn h26 v s u hv hs hx
      · rw [if_neg hnil] at hw
        split at hw
        · cases hw
        · rename_i h5
          rw [hx] at hw
          simp only [Option.getD_some] at hw
          cases hy : withoutF u p with
          | none => rw [hy] at hw; cases hw
          | some w =>
            rw [hy] at hw
            simp only at hw
            have hE := two hn h26 p u x w (part_good hv hs hx) hp' ha hy
            have hP := tput hn h26 w [s] v o hv (fun s' h => by rw [List.mem_singleton.1 h]; exact hs) hw
            exact twoN hn h26 v s u w o p hv hs hnil h5 hx hE hP
theorem twpan {L : World → Prop} (hS : Sound (cfg ext) L) (hn : Non ext) (h26 : E26 ext) : ∀ (p : List T) (v x : T), Good v → (∀ s ∈ p, Good s) → p ≠ [] → atF v p = some x → withoutF v p = none → PanC Tryd.prog L 48 [A v, .sl false (encL p) p.length] refusal
  | [], v, x, hv, hp, hnil, ha, hw => absurd rfl hnil
  | s :: p, v, x, hv, hp, _, ha, hw => by
    have hs : Good s := hp s (by simp)
    have hp' : ∀ s' ∈ p, Good s' := fun s' h => hp s' (by simp [h])
    unfold atF at ha
    cases hx : partF v s with
    | none => rw [hx] at ha; cases ha
    | some u =>
      rw [hx] at ha
      simp only at ha
      unfold withoutF at hw
      by_cases hnil : p = []
      · rw [if_pos hnil] at hw; cases hw
      · rw [if_neg hnil] at hw
        split at hw
        · rename_i h5; exact twpan0 hS hn v s p hnil h5
        · rename_i h5
          rw [hx] at hw
          simp only [Option.getD_some] at hw
          cases hy : withoutF u p with
          | none => exact twpanN hS hn h26 v s u p hv hnil h5 hx (twpan hS hn h26 p u x (part_good hv hs hx) hp' hnil ha hy)
          | some w =>
            rw [hy] at hw
            simp only at hw
            obtain ⟨o, ho⟩ := put1 (w := w) h5 hx
            rw [ho] at hw; cases hw
end
end Go.Proofs.YtjfjagnnefmepaaDoor.AB
end

section
set_option linter.unusedVariables false
set_option linter.unusedSimpArgs false
open Go Go.Ab Go.Proofs Go.Vl Go.RowKit
namespace Go.Proofs.YtjfjagnnefmepaaDoor.AB
set_option maxRecDepth 100000
set_option maxHeartbeats 8000000
set_option linter.unusedSimpArgs false
set_option linter.unusedVariables false
section
variable {ext : Exts}
/-- paths.Get -/
noncomputable def getZ (v : T) (p : List T) : V := if okB v = true then if askZ p = 0 then .tup [A ((atF v p).getD nilT), .bool (atF v p).isSome, .int .i64 0] else .tup [A nilT, .bool false, .int .i64 (askZ p)] else .tup [A nilT, .bool false, .int .i64 3]
theorem nil_ok : okB nilT = true := nil_good.ok
theorem tGetZ (hn : Non ext) (h26 : E26 ext) (h73 : E73 ext) (v : T) (p : List T) (hv : WfV v) (hp : ∀ s ∈ p, WfV s) (hl : p.length ≤ 9223372036854775807) : (cfg ext).Ev 13 [A v, .sl false (encL p) p.length] (getZ v p) := by
  have h1 := t22 hn h26 h73 v hv
  have h2 := tasked hn h26 h73 p hl hp
  have key : ∃ r, (cfg ext).Ev 13 [A v, .sl false (encL p) p.length] r ∧ r = getZ v p := by
    refine Ev.ofE (hn 13 (by decide) (by decide)) Tryd.func13 rfl rfl ?_
    unfold getZ
    by_cases hk : okB v = true
    · rw [if_pos hk] at h1 ⊢
      by_cases ha : askZ p = 0
      · rw [if_pos ha]
        rw [ha] at h2
        have gv : Good v := ⟨hv, hk⟩
        have gp : ∀ s ∈ p, Good s := fun s hs => ⟨hp s hs, (ask0 ha).2 s hs⟩
        have h3 := tat hn h26 v gv p (by have := (ask0 ha).1; omega) gp
        cases hx : atF v p with
        | none =>
          rw [hx] at h3
          have h4 : (cfg ext).Ev 37 [A nilT] (A nilT) := townG hn nil_ok
          conv => whnf
          repeat (first
            | (refine sel_yes ?_ ?_; (first | assumption | (simp only [beq_iff_eq, bne_iff_ne, beq_eq_false_iff_ne, bne_eq_false_iff_eq, decide_eq_true_eq, decide_eq_false_iff_not, Bool.not_eq_true', Bool.not_eq_false', ne_eq, beq_true, beq_false, bne_self_eq_false, not_true_eq_false, not_false_eq_true, gt_iff_lt, ge_iff_le, Int.not_lt, Int.not_le, Bool.true_eq_false, Bool.false_eq_true] <;> omega)); conv => whnf)
            | (refine sel_no ?_ ?_; (first | assumption | (simp only [beq_iff_eq, bne_iff_ne, beq_eq_false_iff_ne, bne_eq_false_iff_eq, decide_eq_true_eq, decide_eq_false_iff_not, Bool.not_eq_true', Bool.not_eq_false', ne_eq, beq_true, beq_false, bne_self_eq_false, not_true_eq_false, not_false_eq_true, gt_iff_lt, ge_iff_le, Int.not_lt, Int.not_le, Bool.true_eq_false, Bool.false_eq_true] <;> omega)); conv => whnf)
            | (refine ⟨_, h1, ?_⟩; conv => whnf)
            | (refine ⟨_, h2, ?_⟩; conv => whnf)
            | (refine ⟨_, h3, ?_⟩; conv => whnf)
            | (refine ⟨_, h4, ?_⟩; conv => whnf)
            | (refine ⟨le_rfl' ?_, ?_⟩; rfl; conv => whnf)
            | (refine ⟨⟨?_, ?_⟩, ?_⟩; omega; omega; conv => whnf)
            | (refine ⟨⟨?_, ?_, ?_⟩, ?_⟩; rfl; omega; omega; conv => whnf)
            | (refine ⟨rfl, ?_, ?_⟩; decide; conv => whnf))
          try exact rfl
        | some x =>
          rw [hx] at h3
          have h4 : (cfg ext).Ev 37 [A x] (A x) := townG hn (at_good p gv gp hx).ok
          conv => whnf
          repeat (first
            | (refine sel_yes ?_ ?_; (first | assumption | (simp only [beq_iff_eq, bne_iff_ne, beq_eq_false_iff_ne, bne_eq_false_iff_eq, decide_eq_true_eq, decide_eq_false_iff_not, Bool.not_eq_true', Bool.not_eq_false', ne_eq, beq_true, beq_false, bne_self_eq_false, not_true_eq_false, not_false_eq_true, gt_iff_lt, ge_iff_le, Int.not_lt, Int.not_le, Bool.true_eq_false, Bool.false_eq_true] <;> omega)); conv => whnf)
            | (refine sel_no ?_ ?_; (first | assumption | (simp only [beq_iff_eq, bne_iff_ne, beq_eq_false_iff_ne, bne_eq_false_iff_eq, decide_eq_true_eq, decide_eq_false_iff_not, Bool.not_eq_true', Bool.not_eq_false', ne_eq, beq_true, beq_false, bne_self_eq_false, not_true_eq_false, not_false_eq_true, gt_iff_lt, ge_iff_le, Int.not_lt, Int.not_le, Bool.true_eq_false, Bool.false_eq_true] <;> omega)); conv => whnf)
            | (refine ⟨_, h1, ?_⟩; conv => whnf)
            | (refine ⟨_, h2, ?_⟩; conv => whnf)
            | (refine ⟨_, h3, ?_⟩; conv => whnf)
            | (refine ⟨_, h4, ?_⟩; conv => whnf)
            | (refine ⟨le_rfl' ?_, ?_⟩; rfl; conv => whnf)
            | (refine ⟨⟨?_, ?_⟩, ?_⟩; omega; omega; conv => whnf)
            | (refine ⟨⟨?_, ?_, ?_⟩, ?_⟩; rfl; omega; omega; conv => whnf)
            | (refine ⟨rfl, ?_, ?_⟩; decide; conv => whnf))
          try exact rfl
      · rw [if_neg ha]
        rcases askn ha with e | e
        all_goals rw [e] at h2 ⊢
        · conv => whnf
          repeat (first
            | (refine sel_yes ?_ ?_; (first | assumption | (simp only [beq_iff_eq, bne_iff_ne, beq_eq_false_iff_ne, bne_eq_false_iff_eq, decide_eq_true_eq, decide_eq_false_iff_not, Bool.not_eq_true', Bool.not_eq_false', ne_eq, beq_true, beq_false, bne_self_eq_false, not_true_eq_false, not_false_eq_true, gt_iff_lt, ge_iff_le, Int.not_lt, Int.not_le, Bool.true_eq_false, Bool.false_eq_true] <;> omega)); conv => whnf)
            | (refine sel_no ?_ ?_; (first | assumption | (simp only [beq_iff_eq, bne_iff_ne, beq_eq_false_iff_ne, bne_eq_false_iff_eq, decide_eq_true_eq, decide_eq_false_iff_not, Bool.not_eq_true', Bool.not_eq_false', ne_eq, beq_true, beq_false, bne_self_eq_false, not_true_eq_false, not_false_eq_true, gt_iff_lt, ge_iff_le, Int.not_lt, Int.not_le, Bool.true_eq_false, Bool.false_eq_true] <;> omega)); conv => whnf)
            | (refine ⟨_, h1, ?_⟩; conv => whnf)
            | (refine ⟨_, h2, ?_⟩; conv => whnf)
            | (refine ⟨le_rfl' ?_, ?_⟩; rfl; conv => whnf)
            | (refine ⟨⟨?_, ?_⟩, ?_⟩; omega; omega; conv => whnf)
            | (refine ⟨⟨?_, ?_, ?_⟩, ?_⟩; rfl; omega; omega; conv => whnf)
            | (refine ⟨rfl, ?_, ?_⟩; decide; conv => whnf))
          try exact rfl
        · conv => whnf
          repeat (first
            | (refine sel_yes ?_ ?_; (first | assumption | (simp only [beq_iff_eq, bne_iff_ne, beq_eq_false_iff_ne, bne_eq_false_iff_eq, decide_eq_true_eq, decide_eq_false_iff_not, Bool.not_eq_true', Bool.not_eq_false', ne_eq, beq_true, beq_false, bne_self_eq_false, not_true_eq_false, not_false_eq_true, gt_iff_lt, ge_iff_le, Int.not_lt, Int.not_le, Bool.true_eq_false, Bool.false_eq_true] <;> omega)); conv => whnf)
            | (refine sel_no ?_ ?_; (first | assumption | (simp only [beq_iff_eq, bne_iff_ne, beq_eq_false_iff_ne, bne_eq_false_iff_eq, decide_eq_true_eq, decide_eq_false_iff_not, Bool.not_eq_true', Bool.not_eq_false', ne_eq, beq_true, beq_false, bne_self_eq_false, not_true_eq_false, not_false_eq_true, gt_iff_lt, ge_iff_le, Int.not_lt, Int.not_le, Bool.true_eq_false, Bool.false_eq_true] <;> omega)); conv => whnf)
            | (refine ⟨_, h1, ?_⟩; conv => whnf)
            | (refine ⟨_, h2, ?_⟩; conv => whnf)
            | (refine ⟨le_rfl' ?_, ?_⟩; rfl; conv => whnf)
            | (refine ⟨⟨?_, ?_⟩, ?_⟩; omega; omega; conv => whnf)
            | (refine ⟨⟨?_, ?_, ?_⟩, ?_⟩; rfl; omega; omega; conv => whnf)
            | (refine ⟨rfl, ?_, ?_⟩; decide; conv => whnf))
          try exact rfl
    · rw [if_neg hk] at h1 ⊢
      conv => whnf
      repeat (first
        | (refine sel_yes ?_ ?_; (first | assumption | (simp only [beq_iff_eq, bne_iff_ne, beq_eq_false_iff_ne, bne_eq_false_iff_eq, decide_eq_true_eq, decide_eq_false_iff_not, Bool.not_eq_true', Bool.not_eq_false', ne_eq, beq_true, beq_false, bne_self_eq_false, not_true_eq_false, not_false_eq_true, gt_iff_lt, ge_iff_le, Int.not_lt, Int.not_le, Bool.true_eq_false, Bool.false_eq_true] <;> omega)); conv => whnf)
        | (refine sel_no ?_ ?_; (first | assumption | (simp only [beq_iff_eq, bne_iff_ne, beq_eq_false_iff_ne, bne_eq_false_iff_eq, decide_eq_true_eq, decide_eq_false_iff_not, Bool.not_eq_true', Bool.not_eq_false', ne_eq, beq_true, beq_false, bne_self_eq_false, not_true_eq_false, not_false_eq_true, gt_iff_lt, ge_iff_le, Int.not_lt, Int.not_le, Bool.true_eq_false, Bool.false_eq_true] <;> omega)); conv => whnf)
        | (refine ⟨_, h1, ?_⟩; conv => whnf)
        | (refine ⟨le_rfl' ?_, ?_⟩; rfl; conv => whnf)
        | (refine ⟨⟨?_, ?_⟩, ?_⟩; omega; omega; conv => whnf)
        | (refine ⟨⟨?_, ?_, ?_⟩, ?_⟩; rfl; omega; omega; conv => whnf)
        | (refine ⟨rfl, ?_, ?_⟩; decide; conv => whnf))
      try exact rfl
  obtain ⟨r, h, rfl⟩ := key
  exact h
theorem tdrop1 (hn : Non ext) (h26 : E26 ext) (v x o : T) (p : List T) (hv : Good v) (hp : ∀ s ∈ p, Good s) (ha : atF v p = some x) (hw : withoutF v p = some o) : (cfg ext).Ev 47 [.ptr (enc v) 0, .ptr [.sl false (encL p) p.length] 0] (A o) := by
  have hE := two hn h26 p v x o hv hp ha hw
  refine Ev.of (hn 47 (by decide) (by decide)) Tryd.func47 rfl rfl ?_
  rw [enc_eq]
  conv => whnf
  refine ⟨le_rfl' ?_, ?_⟩
  · rfl
  conv => whnf
  refine ⟨le_rfl' ?_, ?_⟩
  · rfl
  conv => whnf
  refine ⟨_, hE, ?_⟩
  conv => whnf
  rfl
theorem tdrop1c {L : World → Prop} (hS : Sound (cfg ext) L) (hn : Non ext) (h26 : E26 ext) (v x : T) (p : List T) (hv : Good v) (hp : ∀ s ∈ p, Good s) (hnil : p ≠ []) (ha : atF v p = some x) (hw : withoutF v p = none) : PanC Tryd.prog L 47 [.ptr (enc v) 0, .ptr [.sl false (encL p) p.length] 0] refusal := by
  have hE := twpan hS hn h26 p v x hv hp hnil ha hw
  refine PanC.of_SW (C := cfg ext) (fn := Tryd.f47) hS Tryd.func47 rfl ?_
  rw [enc_eq]
  refine SW.seq (SW.of_x hS (by kernel_rfl) ?_)
  conv => whnf
  refine SW.seq (SW.region hS 2 rfl (by kernel_rfl) ?_)
  conv => whnf
  refine ⟨le_rfl' ?_, ?_⟩
  · rfl
  conv => whnf
  refine ⟨le_rfl' ?_, ?_⟩
  · rfl
  conv => whnf
  exact OpW.pan (panAt (cap := []) hE two_goes rfl rfl rfl rfl rfl)
end
theorem without_wf : ∀ (p : List T) (v x o : T), Good v → (∀ s ∈ p, Good s) → atF v p = some x → withoutF v p = some o → WfV o
  | [], v, x, o, hv, hp, ha, hw => by cases hw
  | s :: p, v, x, o, hv, hp, ha, hw => by
    have hs : Good s := hp s (by simp)
    have hp' : ∀ s' ∈ p, Good s' := fun s' h => hp s' (by simp [h])
    unfold atF at ha
    cases hx : partF v s with
    | none => rw [hx] at ha; cases ha
    | some u =>
      rw [hx] at ha
      simp only at ha
      have hk := part_kind hx
      have hlen := (OK.row (okB_iff.1 hv.ok)).1
      unfold withoutF at hw
      by_cases hnil : p = []
      · rw [if_pos hnil] at hw
        cases hw
        have := rem_len v s
        exact wf_mk (by unfold In64; omega) (by omega) (fun a ha => (hv.item (rem_mem ha)).wf)
      · rw [if_neg hnil] at hw
        split at hw
        · cases hw
        · rename_i h5
          rw [hx] at hw
          simp only [Option.getD_some] at hw
          cases hy : withoutF u p with
          | none => rw [hy] at hw; cases hw
          | some w =>
            rw [hy] at hw
            simp only at hw
            have wu := without_wf p u x w (part_good hv hs hx) hp' ha hy
            exact put_wf [s] v w o hv (fun s' h => by rw [List.mem_singleton.1 h]; exact hs) wu hw
/-- what Drop hands to caught -/
def dropCl (v : T) (p : List T) : List V := [.fn 47 [.ptr (enc v) 0, .ptr [.sl false (encL p) p.length] 0]]
theorem dropCl_inj {v v' : T} {p p' : List T} (h : dropCl v p = dropCl v' p') : v = v' ∧ p = p' := by
  simp only [dropCl, List.cons.injEq, V.fn.injEq, V.ptr.injEq, V.sl.injEq, true_and, and_true] at h
  exact ⟨enc_inj _ _ h.1, encL_inj _ _ h.2.1⟩
theorem caughtDrop (v x : T) (p : List T) (hv : Good v) (hp : ∀ s ∈ p, Good s) (hnil : p ≠ []) (ha : atF v p = some x) : PureC Tryd.prog LaidW 27 (dropCl v p) (doneZ (withoutF v p)) := by
  have hz : fzPL (fzP 6) [.ptr (enc v) 0, .ptr [.sl false (encL p) p.length] 0] = some [.ptr (enc v) 0, .ptr [.sl false (encL p) p.length] 0] := rfl
  cases h : withoutF v p with
  | none => exact caught_pan sndL ⟨_, Tryd.func47, rfl, by decide⟩ hz (tdrop1c sndL non0 e26 v x p hv hp hnil ha h)
  | some w =>
    have hE := tdrop1 (ext := ext0) non0 e26 v x w p hv hp ha h
    have hC := t22 non0 e26 e73 w (without_wf p v x w hv hp ha h)
    have := caught_ok sndL (e := if okB w = true then 0 else 3) rfl hz hE hC (fun h0 => townG non0 (by by_cases hk : okB w = true; exact hk; rw [if_neg hk] at h0; cases h0))
    unfold doneZ
    by_cases hk : okB w = true
    · simp only [hk, if_true] at this ⊢; exact this
    · simp only [hk, if_false, Bool.false_eq_true] at this ⊢
      exact this
noncomputable def dropT : CT := ⟨fun f a r => f = 27 ∧ ∃ (v x : T) (p : List T), (Good v ∧ (∀ s ∈ p, Good s) ∧ p ≠ [] ∧ atF v p = some x) ∧ a = dropCl v p ∧ r = doneZ (withoutF v p), fun f a r r' h h' => by
  obtain ⟨_, v, x, p, _, rfl, rfl⟩ := h
  obtain ⟨_, v', x', p', _, h1, rfl⟩ := h'
  obtain ⟨rfl, rfl⟩ := dropCl_inj h1
  rfl, fun f a r h => by
  obtain ⟨rfl, v, x, p, ⟨h1, h2, h3, h4⟩, rfl, rfl⟩ := h
  exact ⟨⟨_, Tryd.func27, rfl, by decide⟩, caughtDrop v x p h1 h2 h3 h4⟩⟩
def DropT (C : CT) : Prop := ∀ (v x : T) (p : List T), Good v → (∀ s ∈ p, Good s) → p ≠ [] → atF v p = some x → C.ok 27 (dropCl v p) (doneZ (withoutF v p))
noncomputable def putDropT : CT := putT.or dropT (fun f a r r' h h' => by
  obtain ⟨_, v, x, p, _, rfl, rfl⟩ := h
  obtain ⟨_, v', x', p', _, h1, rfl⟩ := h'
  simp only [putCl, dropCl, List.cons.injEq, V.fn.injEq] at h1
  exact absurd h1.1.1 (by decide))
theorem putDrop_put : PutT putDropT := fun v x p h1 h2 h3 => .inl (putT_put v x p h1 h2 h3)
theorem putDrop_drop : DropT putDropT := fun v x p h1 h2 h3 h4 => .inr ⟨rfl, v, x, p, ⟨h1, h2, h3, h4⟩, rfl, rfl⟩
/-- what Drop tells -/
noncomputable def dropZ (v : T) (p : List T) : V :=
  if okB v = true then if askZ p = 0 then if p = [] then .tup [A nilT, .int .i64 260] else if (atF v p).isSome = true then doneZ (withoutF v p) else .tup [A v, .int .i64 0] else .tup [A nilT, .int .i64 (askZ p)] else .tup [A nilT, .int .i64 3]
theorem doneZ_tup (o : Option T) : ∃ (u : T) (e : Int), doneZ o = .tup [A u, .int .i64 e] := by
  unfold doneZ
  cases o with
  | none => exact ⟨_, _, rfl⟩
  | some w =>
    simp only
    split <;> exact ⟨_, _, rfl⟩
theorem cl_drop (v : T) (p : List T) : dropCl v p = [.fn 47 [.ptr [.int .i64 v.f0, .int .i64 v.f1, .str v.f2, .sl false (encL v.f3) v.f3.length] 0, .ptr [.sl false (encL p) p.length] 0]] := by
  unfold dropCl; rw [enc_eq]
theorem tDrop {C : CT} (hT : DropT C) (v : T) (p : List T) (hv : WfV v) (hp : ∀ s ∈ p, WfV s) (hl : p.length ≤ 9223372036854775807) : (cfgU C).Ev 23 [A v, .sl false (encL p) p.length] (dropZ v p) := by
  have h1 := up (T := C) (by decide) (by decide) (tGetZ non0 e26 e73 v p hv hp hl)
  have key : ∃ r, (cfgU C).Ev 23 [A v, .sl false (encL p) p.length] r ∧ r = dropZ v p := by
    refine Ev.ofE (hnU (by decide)) Tryd.func23 rfl rfl ?_
    unfold dropZ
    unfold getZ at h1
    by_cases hk : okB v = true
    · rw [if_pos hk] at h1 ⊢
      by_cases ha : askZ p = 0
      · rw [if_pos ha] at h1 ⊢
        have gv : Good v := ⟨hv, hk⟩
        have gp : ∀ s ∈ p, Good s := fun s hs => ⟨hp s hs, (ask0 ha).2 s hs⟩
        by_cases hnil : p = []
        · rw [if_pos hnil]
          have g0 : ((p.length : Int) == 0) = true := by rw [hnil]; rfl
          conv => whnf
          repeat (first
            | (refine sel_yes ?_ ?_; (first | assumption | (simp only [beq_iff_eq, bne_iff_ne, beq_eq_false_iff_ne, bne_eq_false_iff_eq, decide_eq_true_eq, decide_eq_false_iff_not, Bool.not_eq_true', Bool.not_eq_false', ne_eq, beq_true, beq_false, bne_self_eq_false, not_true_eq_false, not_false_eq_true, gt_iff_lt, ge_iff_le, Int.not_lt, Int.not_le, Bool.true_eq_false, Bool.false_eq_true] <;> omega)); conv => whnf)
            | (refine sel_no ?_ ?_; (first | assumption | (simp only [beq_iff_eq, bne_iff_ne, beq_eq_false_iff_ne, bne_eq_false_iff_eq, decide_eq_true_eq, decide_eq_false_iff_not, Bool.not_eq_true', Bool.not_eq_false', ne_eq, beq_true, beq_false, bne_self_eq_false, not_true_eq_false, not_false_eq_true, gt_iff_lt, ge_iff_le, Int.not_lt, Int.not_le, Bool.true_eq_false, Bool.false_eq_true] <;> omega)); conv => whnf)
            | (refine ⟨_, h1, ?_⟩; conv => whnf)
            | (refine ⟨le_rfl' ?_, ?_⟩; rfl; conv => whnf)
            | (refine ⟨⟨?_, ?_⟩, ?_⟩; omega; omega; conv => whnf)
            | (refine ⟨⟨?_, ?_, ?_⟩, ?_⟩; rfl; omega; omega; conv => whnf)
            | (refine ⟨rfl, ?_, ?_⟩; decide; conv => whnf))
          try exact rfl
        · rw [if_neg hnil]
          have g0 : ((p.length : Int) == 0) = false := by
            have := List.length_pos_iff.2 hnil
            simp <;> omega
          cases hx : atF v p with
          | none =>
            rw [hx] at h1
            have h2 := up (T := C) (by decide) (by decide) (townG (ext := ext0) non0 hk)
            conv => whnf
            repeat (first
              | (refine sel_yes ?_ ?_; (first | assumption | (simp only [beq_iff_eq, bne_iff_ne, beq_eq_false_iff_ne, bne_eq_false_iff_eq, decide_eq_true_eq, decide_eq_false_iff_not, Bool.not_eq_true', Bool.not_eq_false', ne_eq, beq_true, beq_false, bne_self_eq_false, not_true_eq_false, not_false_eq_true, gt_iff_lt, ge_iff_le, Int.not_lt, Int.not_le, Bool.true_eq_false, Bool.false_eq_true] <;> omega)); conv => whnf)
              | (refine sel_no ?_ ?_; (first | assumption | (simp only [beq_iff_eq, bne_iff_ne, beq_eq_false_iff_ne, bne_eq_false_iff_eq, decide_eq_true_eq, decide_eq_false_iff_not, Bool.not_eq_true', Bool.not_eq_false', ne_eq, beq_true, beq_false, bne_self_eq_false, not_true_eq_false, not_false_eq_true, gt_iff_lt, ge_iff_le, Int.not_lt, Int.not_le, Bool.true_eq_false, Bool.false_eq_true] <;> omega)); conv => whnf)
              | (refine ⟨_, h1, ?_⟩; conv => whnf)
              | (refine ⟨_, h2, ?_⟩; conv => whnf)
              | (refine ⟨le_rfl' ?_, ?_⟩; rfl; conv => whnf)
              | (refine ⟨⟨?_, ?_⟩, ?_⟩; omega; omega; conv => whnf)
              | (refine ⟨⟨?_, ?_, ?_⟩, ?_⟩; rfl; omega; omega; conv => whnf)
              | (refine ⟨rfl, ?_, ?_⟩; decide; conv => whnf))
            try exact rfl
          | some x =>
            rw [hx] at h1
            have h2 := upC (hT v x p gv gp hnil hx)
            rw [cl_drop] at h2
            obtain ⟨u, e, hu⟩ := doneZ_tup (withoutF v p)
            rw [hu] at h2
            rw [if_pos (show (some x).isSome = true from rfl), hu]
            conv => whnf
            repeat (first
              | (refine sel_yes ?_ ?_; (first | assumption | (simp only [beq_iff_eq, bne_iff_ne, beq_eq_false_iff_ne, bne_eq_false_iff_eq, decide_eq_true_eq, decide_eq_false_iff_not, Bool.not_eq_true', Bool.not_eq_false', ne_eq, beq_true, beq_false, bne_self_eq_false, not_true_eq_false, not_false_eq_true, gt_iff_lt, ge_iff_le, Int.not_lt, Int.not_le, Bool.true_eq_false, Bool.false_eq_true] <;> omega)); conv => whnf)
              | (refine sel_no ?_ ?_; (first | assumption | (simp only [beq_iff_eq, bne_iff_ne, beq_eq_false_iff_ne, bne_eq_false_iff_eq, decide_eq_true_eq, decide_eq_false_iff_not, Bool.not_eq_true', Bool.not_eq_false', ne_eq, beq_true, beq_false, bne_self_eq_false, not_true_eq_false, not_false_eq_true, gt_iff_lt, ge_iff_le, Int.not_lt, Int.not_le, Bool.true_eq_false, Bool.false_eq_true] <;> omega)); conv => whnf)
              | (refine ⟨_, h1, ?_⟩; conv => whnf)
              | (refine ⟨_, h2, ?_⟩; conv => whnf)
              | (refine ⟨le_rfl' ?_, ?_⟩; rfl; conv => whnf)
              | (refine ⟨⟨?_, ?_⟩, ?_⟩; omega; omega; conv => whnf)
              | (refine ⟨⟨?_, ?_, ?_⟩, ?_⟩; rfl; omega; omega; conv => whnf)
              | (refine ⟨rfl, ?_, ?_⟩; decide; conv => whnf))
            try exact rfl
      · rw [if_neg ha] at h1 ⊢
        rcases askn ha with e | e
        all_goals rw [e] at h1 ⊢
        · conv => whnf
          repeat (first
            | (refine sel_yes ?_ ?_; (first | assumption | (simp only [beq_iff_eq, bne_iff_ne, beq_eq_false_iff_ne, bne_eq_false_iff_eq, decide_eq_true_eq, decide_eq_false_iff_not, Bool.not_eq_true', Bool.not_eq_false', ne_eq, beq_true, beq_false, bne_self_eq_false, not_true_eq_false, not_false_eq_true, gt_iff_lt, ge_iff_le, Int.not_lt, Int.not_le, Bool.true_eq_false, Bool.false_eq_true] <;> omega)); conv => whnf)
            | (refine sel_no ?_ ?_; (first | assumption | (simp only [beq_iff_eq, bne_iff_ne, beq_eq_false_iff_ne, bne_eq_false_iff_eq, decide_eq_true_eq, decide_eq_false_iff_not, Bool.not_eq_true', Bool.not_eq_false', ne_eq, beq_true, beq_false, bne_self_eq_false, not_true_eq_false, not_false_eq_true, gt_iff_lt, ge_iff_le, Int.not_lt, Int.not_le, Bool.true_eq_false, Bool.false_eq_true] <;> omega)); conv => whnf)
            | (refine ⟨_, h1, ?_⟩; conv => whnf)
            | (refine ⟨le_rfl' ?_, ?_⟩; rfl; conv => whnf)
            | (refine ⟨⟨?_, ?_⟩, ?_⟩; omega; omega; conv => whnf)
            | (refine ⟨⟨?_, ?_, ?_⟩, ?_⟩; rfl; omega; omega; conv => whnf)
            | (refine ⟨rfl, ?_, ?_⟩; decide; conv => whnf))
          try exact rfl
        · conv => whnf
          repeat (first
            | (refine sel_yes ?_ ?_; (first | assumption | (simp only [beq_iff_eq, bne_iff_ne, beq_eq_false_iff_ne, bne_eq_false_iff_eq, decide_eq_true_eq, decide_eq_false_iff_not, Bool.not_eq_true', Bool.not_eq_false', ne_eq, beq_true, beq_false, bne_self_eq_false, not_true_eq_false, not_false_eq_true, gt_iff_lt, ge_iff_le, Int.not_lt, Int.not_le, Bool.true_eq_false, Bool.false_eq_true] <;> omega)); conv => whnf)
            | (refine sel_no ?_ ?_; (first | assumption | (simp only [beq_iff_eq, bne_iff_ne, beq_eq_false_iff_ne, bne_eq_false_iff_eq, decide_eq_true_eq, decide_eq_false_iff_not, Bool.not_eq_true', Bool.not_eq_false', ne_eq, beq_true, beq_false, bne_self_eq_false, not_true_eq_false, not_false_eq_true, gt_iff_lt, ge_iff_le, Int.not_lt, Int.not_le, Bool.true_eq_false, Bool.false_eq_true] <;> omega)); conv => whnf)
            | (refine ⟨_, h1, ?_⟩; conv => whnf)
            | (refine ⟨le_rfl' ?_, ?_⟩; rfl; conv => whnf)
            | (refine ⟨⟨?_, ?_⟩, ?_⟩; omega; omega; conv => whnf)
            | (refine ⟨⟨?_, ?_, ?_⟩, ?_⟩; rfl; omega; omega; conv => whnf)
            | (refine ⟨rfl, ?_, ?_⟩; decide; conv => whnf))
          try exact rfl
    · rw [if_neg hk] at h1 ⊢
      conv => whnf
      repeat (first
        | (refine sel_yes ?_ ?_; (first | assumption | (simp only [beq_iff_eq, bne_iff_ne, beq_eq_false_iff_ne, bne_eq_false_iff_eq, decide_eq_true_eq, decide_eq_false_iff_not, Bool.not_eq_true', Bool.not_eq_false', ne_eq, beq_true, beq_false, bne_self_eq_false, not_true_eq_false, not_false_eq_true, gt_iff_lt, ge_iff_le, Int.not_lt, Int.not_le, Bool.true_eq_false, Bool.false_eq_true] <;> omega)); conv => whnf)
        | (refine sel_no ?_ ?_; (first | assumption | (simp only [beq_iff_eq, bne_iff_ne, beq_eq_false_iff_ne, bne_eq_false_iff_eq, decide_eq_true_eq, decide_eq_false_iff_not, Bool.not_eq_true', Bool.not_eq_false', ne_eq, beq_true, beq_false, bne_self_eq_false, not_true_eq_false, not_false_eq_true, gt_iff_lt, ge_iff_le, Int.not_lt, Int.not_le, Bool.true_eq_false, Bool.false_eq_true] <;> omega)); conv => whnf)
        | (refine ⟨_, h1, ?_⟩; conv => whnf)
        | (refine ⟨le_rfl' ?_, ?_⟩; rfl; conv => whnf)
        | (refine ⟨⟨?_, ?_⟩, ?_⟩; omega; omega; conv => whnf)
        | (refine ⟨⟨?_, ?_, ?_⟩, ?_⟩; rfl; omega; omega; conv => whnf)
        | (refine ⟨rfl, ?_, ?_⟩; decide; conv => whnf))
      try exact rfl
  obtain ⟨r, h, rfl⟩ := key
  exact h
end Go.Proofs.YtjfjagnnefmepaaDoor.AB
end

section
set_option linter.unusedVariables false
set_option linter.unusedSimpArgs false
open Go Go.Ab Go.Proofs Go.Vl Go.RowKit
namespace Go.Proofs.YtjfjagnnefmepaaDoor.AB
set_option maxRecDepth 100000
set_option linter.unusedVariables false
def rowV (p : List T) : V := .sl false (encL p) p.length
/-- a row of rows of values -/
def encR (l : List (List T)) : List V := l.map rowV
theorem rows_rows {parts : List (List V)} (h : ∀ q ∈ parts, ∃ p : List T, q = [.sl false (encL p) p.length] ∧ p.length ≤ 9223372036854775807 ∧ ∀ v ∈ p, WfV v) : ∃ l : List (List T), l.length = parts.length ∧ (∀ p ∈ l, p.length ≤ 9223372036854775807 ∧ ∀ v ∈ p, WfV v) ∧ parts.flatten = encR l := by
  induction parts with
  | nil => exact ⟨[], rfl, by simp, rfl⟩
  | cons q ps ih =>
    obtain ⟨p, rfl, h1, h2⟩ := h q List.mem_cons_self
    obtain ⟨l, k1, k2, k3⟩ := ih fun q hq => h q (List.mem_cons_of_mem _ hq)
    refine ⟨p :: l, by simp [k1], ?_, by simp only [List.flatten_cons, k3]; rfl⟩
    intro p' hp'
    rcases List.mem_cons.1 hp' with rfl | hp'
    · exact ⟨h1, h2⟩
    · exact k2 p' hp'
theorem opens_LL (N : Nat) : Opens Tryd.prog N 36 (fun vs => ∃ l : List (List T), vs = [.sl false (encR l) l.length] ∧ l.length ≤ 9223372036854775807 ∧ ∀ p ∈ l, p.length ≤ 9223372036854775807 ∧ ∀ v ∈ p, WfV v) := by
  cases N with
  | zero => exact ⟨fun e w base spare held fuel hf => by omega⟩
  | succ M =>
    refine Opens.mono (opens_slice (m := 1) Tryd.underlying36 (by kernel_rfl) (by decide) (fun vs => ?_) (opens_L M)) ?_
    · rintro ⟨b, rfl, _⟩; rfl
    · rintro vs ⟨parts, rfl, hl, hp⟩
      obtain ⟨l, h1, h2, h3⟩ := rows_rows hp
      exact ⟨l, by rw [h3, h1], by omega, h2⟩
theorem encR_len (l : List (List T)) : (encR l).length = l.length := by simp [encR]
theorem ldRR {l : List (List T)} {i : Nat} {Q : V → Prop} (h : i < l.length) (hq : Q (rowV l[i])) : i * 1 + 1 ≤ (encR l).length ∧ opt (one (some false) (sub (encR l) (i * 1) 1)) fun v => fv v Q := by
  refine ⟨by rw [encR_len]; omega, ?_⟩
  have e : sub (encR l) (i * 1) 1 = [rowV l[i]] := by
    unfold sub
    rw [Nat.mul_one, List.drop_eq_getElem_cons (by rw [encR_len]; exact h)]
    simp [encR]
  rw [e]
  exact hq
end Go.Proofs.YtjfjagnnefmepaaDoor.AB
end

section
set_option linter.unusedVariables false
set_option linter.unusedSimpArgs false
open Go Go.Ab Go.Proofs Go.Vl Go.RowKit
namespace Go.Proofs.YtjfjagnnefmepaaDoor.AB
set_option maxRecDepth 100000
set_option maxHeartbeats 8000000
set_option linter.unusedSimpArgs false
set_option linter.unusedVariables false
def mapT : T := ⟨6, 0, ⟨#[]⟩, []⟩
theorem map_good : Good mapT := by
  refine ⟨?_, okB_iff.2 ⟨?_, by decide, by decide⟩⟩
  · unfold mapT; simp [WfV, WfL, In64]
    exact Nat.zero_le _
  · rw [okV_eq]
    refine ⟨?_, ?_, trivial⟩
    · unfold PlainV; simp [mapT]
    · unfold FormV; simp [mapT]
      intro i _ h; simp at h
/-- what is wrong with some paths -/
noncomputable def askL : List (List T) → Int
  | [] => 0
  | p :: l => if askZ p = 0 then askL l else askZ p
theorem askL_0 : ∀ (l : List (List T)), askL l = 0 → ∀ p ∈ l, askZ p = 0
  | [], _, p, hp => by cases hp
  | q :: l, h, p, hp => by
    unfold askL at h
    split at h
    · rename_i h0
      rcases List.mem_cons.1 hp with rfl | hp
      · exact h0
      · exact askL_0 l h p hp
    · rename_i h0; exact absurd h h0
theorem askL_n : ∀ (l : List (List T)), askL l ≠ 0 → askL l = 2 ∨ askL l = 3
  | [], h => absurd rfl h
  | q :: l, h => by
    unfold askL at h ⊢
    split
    · rename_i h0; rw [if_pos h0] at h; exact askL_n l h
    · rename_i h0; exact askn h0
/-- what stands at some paths alone -/
noncomputable def onlyG (v : T) : List (List T) → T → T × Int
  | [], out => (out, 0)
  | p :: l, out => match atF v p with
    | none => onlyG v l out
    | some x => match putF out p x with
      | none => (nilT, 260)
      | some w => if okB w = true then onlyG v l w else (nilT, 2)
theorem onlyG_cons (v w : T) (p : List T) (l : List (List T)) : onlyG v (p :: l) w = match atF v p with
    | none => onlyG v l w
    | some x => match putF w p x with
      | none => (nilT, 260)
      | some w' => if okB w' = true then onlyG v l w' else (nilT, 2) := by
  conv => lhs; unfold onlyG
noncomputable def onlyZ (v : T) (l : List (List T)) : T × Int := if okB v = true then if 65536 < l.length then (nilT, 2) else if askL l = 0 then onlyG v l mapT else (nilT, askL l) else (nilT, 3)
def tupZ (r : T × Int) : V := .tup [A r.1, .int .i64 r.2]
section
variable {C : CT}
theorem lonly1 (v : T) (l : List (List T)) (hl : l.length ≤ 65536) (hp : ∀ p ∈ l, p.length ≤ 9223372036854775807 ∧ ∀ s ∈ p, WfV s) (Q : Ex → St → Prop) (d : Nat) :
    ∀ (i : Nat) (z : St), l.length - i = d → i ≤ l.length → Has z.t [(1, .sl false (encR l) l.length), (2, .ref 0 0), (4, .ref 1 0), (27, .sl false (encR l) l.length), (28, .int .i64 l.length), (29, .int .i64 i)] → z.hp.n = 14 → Has z.hp.h [(0, some (.cells (cellsV v) false)), (1, some (.cells zC false))] →
      (∀ z' : St, Has z'.t [(4, .ref 1 0), (5, .int .i64 (askL (l.drop i)))] → Has z'.hp.h [(1, some (.cells zC false))] → askL (l.drop i) ≠ 0 → Q .ret z') →
      (∀ z' : St, Has z'.t [(1, .sl false (encR l) l.length), (2, .ref 0 0), (4, .ref 1 0)] → z'.hp.n = 15 → Has z'.hp.h [(0, some (.cells (cellsV v) false)), (1, some (.cells zC false))] → askL (l.drop i) = 0 → Q (.exit 0) z') →
      Go.Ab.Loop (cfgU C) (lpN Tryd.f15 0) 14 z Q := by
  induction d with
  | zero =>
    intro i z hd hi ht hz hb hr hq
    have g : decide ((i : Int) < (l.length : Int)) = false := decide_eq_false (by omega)
    rw [St.knows _ _ ht hz _ hb]
    refine Loop.round ?_
    conv => whnf
    repeat (first
      | (refine sel_yes ?_ ?_; (first | assumption | (simp only [beq_iff_eq, bne_iff_ne, beq_eq_false_iff_ne, bne_eq_false_iff_eq, decide_eq_true_eq, decide_eq_false_iff_not, Bool.not_eq_true', Bool.not_eq_false', ne_eq, beq_true, beq_false, bne_self_eq_false, not_true_eq_false, not_false_eq_true, gt_iff_lt, ge_iff_le, Int.not_lt, Int.not_le, Bool.true_eq_false, Bool.false_eq_true] <;> omega)); conv => whnf)
      | (refine sel_no ?_ ?_; (first | assumption | (simp only [beq_iff_eq, bne_iff_ne, beq_eq_false_iff_ne, bne_eq_false_iff_eq, decide_eq_true_eq, decide_eq_false_iff_not, Bool.not_eq_true', Bool.not_eq_false', ne_eq, beq_true, beq_false, bne_self_eq_false, not_true_eq_false, not_false_eq_true, gt_iff_lt, ge_iff_le, Int.not_lt, Int.not_le, Bool.true_eq_false, Bool.false_eq_true] <;> omega)); conv => whnf)
      | (refine ⟨le_rfl' ?_, ?_⟩; rfl; conv => whnf)
      | (refine ⟨⟨?_, ?_⟩, ?_⟩; omega; omega; conv => whnf)
      | (refine ⟨⟨?_, ?_, ?_⟩, ?_⟩; rfl; omega; omega; conv => whnf)
      | (refine ⟨rfl, ?_, ?_⟩; decide; conv => whnf))
    try exact rfl
    exact hq _ ⟨rfl, rfl, rfl, trivial⟩ rfl ⟨rfl, rfl, trivial⟩ (by rw [List.drop_eq_nil_of_le (by omega)]; rfl)
  | succ d ih =>
    intro i z hd hi ht hz hb hr hq
    have hlt : i < l.length := by omega
    have g : decide ((i : Int) < (l.length : Int)) = true := decide_eq_true (by omega)
    have eD := List.drop_eq_getElem_cons hlt
    have e1 : IntKind.i64.wrap ((i : Int) + 1) = ((i + 1 : Nat) : Int) := wrapN (by omega) (by omega)
    have hm := hp _ (List.getElem_mem hlt)
    have hE := up (T := C) (by decide) (by decide) (tasked non0 e26 e73 l[i] hm.1 hm.2)
    rw [St.knows _ _ ht hz _ hb]
    refine Loop.round ?_
    conv => whnf
    repeat (first
      | (refine sel_yes ?_ ?_; (first | assumption | (simp only [beq_iff_eq, bne_iff_ne, beq_eq_false_iff_ne, bne_eq_false_iff_eq, decide_eq_true_eq, decide_eq_false_iff_not, Bool.not_eq_true', Bool.not_eq_false', ne_eq, beq_true, beq_false, bne_self_eq_false, not_true_eq_false, not_false_eq_true, gt_iff_lt, ge_iff_le, Int.not_lt, Int.not_le, Bool.true_eq_false, Bool.false_eq_true] <;> omega)); conv => whnf)
      | (refine sel_no ?_ ?_; (first | assumption | (simp only [beq_iff_eq, bne_iff_ne, beq_eq_false_iff_ne, bne_eq_false_iff_eq, decide_eq_true_eq, decide_eq_false_iff_not, Bool.not_eq_true', Bool.not_eq_false', ne_eq, beq_true, beq_false, bne_self_eq_false, not_true_eq_false, not_false_eq_true, gt_iff_lt, ge_iff_le, Int.not_lt, Int.not_le, Bool.true_eq_false, Bool.false_eq_true] <;> omega)); conv => whnf)
      | (refine ⟨le_rfl' ?_, ?_⟩; rfl; conv => whnf)
      | (refine ⟨⟨?_, ?_⟩, ?_⟩; omega; omega; conv => whnf)
      | (refine ⟨⟨?_, ?_, ?_⟩, ?_⟩; rfl; omega; omega; conv => whnf)
      | (refine ⟨rfl, ?_, ?_⟩; decide; conv => whnf))
    try exact rfl
    refine ldRR (i := i) hlt ?_
    conv => whnf
    refine ⟨_, hE, ?_⟩
    conv => whnf
    by_cases h0 : askZ l[i] = 0
    · have e2 : askL (l.drop i) = askL (l.drop (i + 1)) := by rw [eD]; conv => lhs; unfold askL
                                                              rw [if_pos h0]
      have g2 : (askZ l[i] != 0) = false := by simp [h0]
      refine sel_no g2 ?_
      conv => whnf
      refine ih (i + 1) _ (by omega) (by omega) ⟨rfl, rfl, rfl, rfl, rfl, ?_, trivial⟩ rfl ⟨rfl, rfl, trivial⟩ (fun z' a b c => hr z' (by rw [e2]; exact a) b (by rw [e2]; exact c)) (fun z' a b c e => hq z' a b c (by rw [e2]; exact e))
      conv => lhs; whnf
      exact vi e1
    · have e2 : askL (l.drop i) = askZ l[i] := by rw [eD]; unfold askL; rw [if_neg h0]
      have g2 : (askZ l[i] != 0) = true := by simp [h0]
      refine sel_yes g2 ?_
      conv => whnf
      exact hr _ ⟨rfl, by rw [e2]; rfl, trivial⟩ ⟨rfl, trivial⟩ (by rw [e2]; exact h0)
def cellsW (c : Bool) (v : T) : List V := [.int .i64 v.f0, .int .i64 v.f1, .str v.f2, .sl c (encL v.f3) v.f3.length]
theorem lonly2 (hT : PutT C) (v : T) (hv : Good v) (l : List (List T)) (hl : l.length ≤ 65536) (hp : ∀ p ∈ l, p.length ≤ 16 ∧ ∀ s ∈ p, Good s) (Q : Ex → St → Prop) (d : Nat) :
    ∀ (i : Nat) (w : T) (c : Bool) (z : St), l.length - i = d → i ≤ l.length → Good w → Has z.t [(2, .ref 0 0), (4, .ref 1 0), (10, .ref 16 0), (41, .sl false (encR l) l.length), (42, .int .i64 l.length), (43, .int .i64 i)] → z.hp.n = 21 → Has z.hp.h [(0, some (.cells (cellsV v) false)), (1, some (.cells zC false)), (16, some (.cells (cellsW c w) false))] →
      (∀ (z' : St) (e : Int), Has z'.t [(4, .ref 1 0), (5, .int .i64 e)] → Has z'.hp.h [(1, some (.cells zC false))] → onlyG v (l.drop i) w = (nilT, e) → Q .ret z') →
      (∀ (z' : St) (u : T) (c' : Bool), Has z'.t [(4, .ref 1 0), (10, .ref 16 0)] → z'.hp.n = z'.hp.n → Has z'.hp.h [(1, some (.cells zC false)), (16, some (.cells (cellsW c' u) false))] → onlyG v (l.drop i) w = (u, 0) → Q (.exit 2) z') →
      Go.Ab.Loop (cfgU C) (lpN Tryd.f15 1) 21 z Q := by
  induction d with
  | zero =>
    intro i w c z hd hi hw ht hz hb hr hq
    have g : decide ((i : Int) < (l.length : Int)) = false := decide_eq_false (by omega)
    rw [St.knows _ _ ht hz _ hb]
    refine Loop.round ?_
    conv => whnf
    repeat (first
      | (refine sel_yes ?_ ?_; (first | assumption | (simp only [beq_iff_eq, bne_iff_ne, beq_eq_false_iff_ne, bne_eq_false_iff_eq, decide_eq_true_eq, decide_eq_false_iff_not, Bool.not_eq_true', Bool.not_eq_false', ne_eq, beq_true, beq_false, bne_self_eq_false, not_true_eq_false, not_false_eq_true, gt_iff_lt, ge_iff_le, Int.not_lt, Int.not_le, Bool.true_eq_false, Bool.false_eq_true] <;> omega)); conv => whnf)
      | (refine sel_no ?_ ?_; (first | assumption | (simp only [beq_iff_eq, bne_iff_ne, beq_eq_false_iff_ne, bne_eq_false_iff_eq, decide_eq_true_eq, decide_eq_false_iff_not, Bool.not_eq_true', Bool.not_eq_false', ne_eq, beq_true, beq_false, bne_self_eq_false, not_true_eq_false, not_false_eq_true, gt_iff_lt, ge_iff_le, Int.not_lt, Int.not_le, Bool.true_eq_false, Bool.false_eq_true] <;> omega)); conv => whnf)
      | (refine ⟨le_rfl' ?_, ?_⟩; rfl; conv => whnf)
      | (refine ⟨⟨?_, ?_⟩, ?_⟩; omega; omega; conv => whnf)
      | (refine ⟨⟨?_, ?_, ?_⟩, ?_⟩; rfl; omega; omega; conv => whnf)
      | (refine ⟨rfl, ?_, ?_⟩; decide; conv => whnf))
    try exact rfl
    exact hq _ w c ⟨rfl, rfl, trivial⟩ rfl ⟨rfl, rfl, trivial⟩ (by rw [List.drop_eq_nil_of_le (by omega)]; rfl)
  | succ d ih =>
    intro i w c z hd hi hw ht hz hb hr hq
    have hlt : i < l.length := by omega
    have g : decide ((i : Int) < (l.length : Int)) = true := decide_eq_true (by omega)
    have eD := List.drop_eq_getElem_cons hlt
    have e1 : IntKind.i64.wrap ((i : Int) + 1) = ((i + 1 : Nat) : Int) := wrapN (by omega) (by omega)
    have hm := hp _ (List.getElem_mem hlt)
    have hE := up (T := C) (by decide) (by decide) (tat non0 e26 v hv l[i] (by omega) hm.2)
    have e0 : onlyG v (l.drop i) w = match atF v l[i] with
        | none => onlyG v (l.drop (i + 1)) w
        | some x => match putF w l[i] x with
          | none => (nilT, 260)
          | some w' => if okB w' = true then onlyG v (l.drop (i + 1)) w' else (nilT, 2) := by
      rw [eD]; exact onlyG_cons v w l[i] (l.drop (i + 1))
    rw [St.knows _ _ ht hz _ hb]
    refine Loop.round ?_
    conv => whnf
    repeat (first
      | (refine sel_yes ?_ ?_; (first | assumption | (simp only [beq_iff_eq, bne_iff_ne, beq_eq_false_iff_ne, bne_eq_false_iff_eq, decide_eq_true_eq, decide_eq_false_iff_not, Bool.not_eq_true', Bool.not_eq_false', ne_eq, beq_true, beq_false, bne_self_eq_false, not_true_eq_false, not_false_eq_true, gt_iff_lt, ge_iff_le, Int.not_lt, Int.not_le, Bool.true_eq_false, Bool.false_eq_true] <;> omega)); conv => whnf)
      | (refine sel_no ?_ ?_; (first | assumption | (simp only [beq_iff_eq, bne_iff_ne, beq_eq_false_iff_ne, bne_eq_false_iff_eq, decide_eq_true_eq, decide_eq_false_iff_not, Bool.not_eq_true', Bool.not_eq_false', ne_eq, beq_true, beq_false, bne_self_eq_false, not_true_eq_false, not_false_eq_true, gt_iff_lt, ge_iff_le, Int.not_lt, Int.not_le, Bool.true_eq_false, Bool.false_eq_true] <;> omega)); conv => whnf)
      | (refine ⟨le_rfl' ?_, ?_⟩; rfl; conv => whnf)
      | (refine ⟨⟨?_, ?_⟩, ?_⟩; omega; omega; conv => whnf)
      | (refine ⟨⟨?_, ?_, ?_⟩, ?_⟩; rfl; omega; omega; conv => whnf)
      | (refine ⟨rfl, ?_, ?_⟩; decide; conv => whnf))
    try exact rfl
    refine ldRR (i := i) hlt ?_
    conv => whnf
    refine ⟨_, hE, ?_⟩
    cases hx : atF v l[i] with
    | none =>
      rw [hx] at e0
      conv => whnf
      refine ih (i + 1) w c _ (by omega) (by omega) hw ⟨rfl, rfl, rfl, rfl, rfl, ?_, trivial⟩ rfl ⟨rfl, rfl, rfl, trivial⟩ (fun z' e a b c => hr z' e a b (e0.trans c)) (fun z' u c' a b c e => hq z' u c' a b c (e0.trans e))
      conv => lhs; whnf
      exact vi e1
    | some x =>
      rw [hx] at e0
      dsimp only at e0
      have gx := at_good l[i] hv hm.2 hx
      have ha : askZ l[i] = 0 := by unfold askZ; rw [if_neg (by omega), if_pos (List.all_eq_true.2 fun s hs => (hm.2 s hs).ok)]
      have hP := tPut (T := C) hT w x l[i] hw.wf (fun s hs => (hm.2 s hs).wf) gx.wf (by omega)
      have eP : putAll w l[i] x = putRes w l[i] x := by unfold putAll; rw [if_pos hw.ok, if_pos ha, if_pos gx.ok]
      rw [eP] at hP
      unfold putRes at hP
      cases hy : putF w l[i] x with
      | none =>
        rw [hy] at hP e0
        conv => whnf
        repeat (first
          | (refine sel_yes ?_ ?_; (first | assumption | (simp only [beq_iff_eq, bne_iff_ne, beq_eq_false_iff_ne, bne_eq_false_iff_eq, decide_eq_true_eq, decide_eq_false_iff_not, Bool.not_eq_true', Bool.not_eq_false', ne_eq, beq_true, beq_false, bne_self_eq_false, not_true_eq_false, not_false_eq_true, gt_iff_lt, ge_iff_le, Int.not_lt, Int.not_le, Bool.true_eq_false, Bool.false_eq_true] <;> omega)); conv => whnf)
          | (refine sel_no ?_ ?_; (first | assumption | (simp only [beq_iff_eq, bne_iff_ne, beq_eq_false_iff_ne, bne_eq_false_iff_eq, decide_eq_true_eq, decide_eq_false_iff_not, Bool.not_eq_true', Bool.not_eq_false', ne_eq, beq_true, beq_false, bne_self_eq_false, not_true_eq_false, not_false_eq_true, gt_iff_lt, ge_iff_le, Int.not_lt, Int.not_le, Bool.true_eq_false, Bool.false_eq_true] <;> omega)); conv => whnf)
          | (refine ⟨_, hP, ?_⟩; conv => whnf)
          | (refine ⟨le_rfl' ?_, ?_⟩; rfl; conv => whnf)
          | (refine ⟨⟨?_, ?_⟩, ?_⟩; omega; omega; conv => whnf)
          | (refine ⟨⟨?_, ?_, ?_⟩, ?_⟩; rfl; omega; omega; conv => whnf)
          | (refine ⟨rfl, ?_, ?_⟩; decide; conv => whnf))
        try exact rfl
        exact hr _ 260 ⟨rfl, rfl, trivial⟩ ⟨rfl, trivial⟩ e0
      | some w' =>
        rw [hy] at hP e0
        simp only at hP e0
        cases hk : okB w' with
        | false =>
          rw [hk] at hP e0
          conv => whnf
          repeat (first
            | (refine sel_yes ?_ ?_; (first | assumption | (simp only [beq_iff_eq, bne_iff_ne, beq_eq_false_iff_ne, bne_eq_false_iff_eq, decide_eq_true_eq, decide_eq_false_iff_not, Bool.not_eq_true', Bool.not_eq_false', ne_eq, beq_true, beq_false, bne_self_eq_false, not_true_eq_false, not_false_eq_true, gt_iff_lt, ge_iff_le, Int.not_lt, Int.not_le, Bool.true_eq_false, Bool.false_eq_true] <;> omega)); conv => whnf)
            | (refine sel_no ?_ ?_; (first | assumption | (simp only [beq_iff_eq, bne_iff_ne, beq_eq_false_iff_ne, bne_eq_false_iff_eq, decide_eq_true_eq, decide_eq_false_iff_not, Bool.not_eq_true', Bool.not_eq_false', ne_eq, beq_true, beq_false, bne_self_eq_false, not_true_eq_false, not_false_eq_true, gt_iff_lt, ge_iff_le, Int.not_lt, Int.not_le, Bool.true_eq_false, Bool.false_eq_true] <;> omega)); conv => whnf)
            | (refine ⟨_, hP, ?_⟩; conv => whnf)
            | (refine ⟨le_rfl' ?_, ?_⟩; rfl; conv => whnf)
            | (refine ⟨⟨?_, ?_⟩, ?_⟩; omega; omega; conv => whnf)
            | (refine ⟨⟨?_, ?_, ?_⟩, ?_⟩; rfl; omega; omega; conv => whnf)
            | (refine ⟨rfl, ?_, ?_⟩; decide; conv => whnf))
          try exact rfl
          exact hr _ 2 ⟨rfl, rfl, trivial⟩ ⟨rfl, trivial⟩ e0
        | true =>
          rw [hk] at hP e0
          conv => whnf
          repeat (first
            | (refine sel_yes ?_ ?_; (first | assumption | (simp only [beq_iff_eq, bne_iff_ne, beq_eq_false_iff_ne, bne_eq_false_iff_eq, decide_eq_true_eq, decide_eq_false_iff_not, Bool.not_eq_true', Bool.not_eq_false', ne_eq, beq_true, beq_false, bne_self_eq_false, not_true_eq_false, not_false_eq_true, gt_iff_lt, ge_iff_le, Int.not_lt, Int.not_le, Bool.true_eq_false, Bool.false_eq_true] <;> omega)); conv => whnf)
            | (refine sel_no ?_ ?_; (first | assumption | (simp only [beq_iff_eq, bne_iff_ne, beq_eq_false_iff_ne, bne_eq_false_iff_eq, decide_eq_true_eq, decide_eq_false_iff_not, Bool.not_eq_true', Bool.not_eq_false', ne_eq, beq_true, beq_false, bne_self_eq_false, not_true_eq_false, not_false_eq_true, gt_iff_lt, ge_iff_le, Int.not_lt, Int.not_le, Bool.true_eq_false, Bool.false_eq_true] <;> omega)); conv => whnf)
            | (refine ⟨_, hP, ?_⟩; conv => whnf)
            | (refine ⟨le_rfl' ?_, ?_⟩; rfl; conv => whnf)
            | (refine ⟨⟨?_, ?_⟩, ?_⟩; omega; omega; conv => whnf)
            | (refine ⟨⟨?_, ?_, ?_⟩, ?_⟩; rfl; omega; omega; conv => whnf)
            | (refine ⟨rfl, ?_, ?_⟩; decide; conv => whnf))
          try exact rfl
          refine ih (i + 1) w' false _ (by omega) (by omega) ⟨put_wf l[i] w x w' hw hm.2 gx.wf hy, hk⟩ ⟨rfl, rfl, rfl, rfl, rfl, ?_, trivial⟩ rfl ⟨rfl, rfl, rfl, trivial⟩ (fun z' e a b c => hr z' e a b (e0.trans c)) (fun z' u c' a b c e => hq z' u c' a b c (e0.trans e))
          conv => lhs; whnf
          exact vi e1
theorem tOnly (hT : PutT C) (v : T) (hv : WfV v) (l : List (List T)) (hl : l.length ≤ 9223372036854775807) (hp : ∀ p ∈ l, p.length ≤ 9223372036854775807 ∧ ∀ s ∈ p, WfV s) : (cfgU C).Ev 15 [A v, .sl false (encR l) l.length] (tupZ (onlyZ v l)) := by
  have h1 := up (T := C) (by decide) (by decide) (t22 non0 e26 e73 v hv)
  have key : ∃ r, (cfgU C).Ev 15 [A v, .sl false (encR l) l.length] r ∧ r = tupZ (onlyZ v l) := by
    refine Ev.ofE (hnU (by decide)) Tryd.func15 rfl rfl ?_
    unfold onlyZ
    by_cases hk : okB v = true
    · rw [if_pos hk] at h1 ⊢
      by_cases h2 : 65536 < l.length
      · rw [if_pos h2]
        have g : decide ((l.length : Int) > 65536) = true := decide_eq_true (by omega)
        conv => whnf
        repeat (first
          | (refine sel_yes ?_ ?_; (first | assumption | (simp only [beq_iff_eq, bne_iff_ne, beq_eq_false_iff_ne, bne_eq_false_iff_eq, decide_eq_true_eq, decide_eq_false_iff_not, Bool.not_eq_true', Bool.not_eq_false', ne_eq, beq_true, beq_false, bne_self_eq_false, not_true_eq_false, not_false_eq_true, gt_iff_lt, ge_iff_le, Int.not_lt, Int.not_le, Bool.true_eq_false, Bool.false_eq_true] <;> omega)); conv => whnf)
          | (refine sel_no ?_ ?_; (first | assumption | (simp only [beq_iff_eq, bne_iff_ne, beq_eq_false_iff_ne, bne_eq_false_iff_eq, decide_eq_true_eq, decide_eq_false_iff_not, Bool.not_eq_true', Bool.not_eq_false', ne_eq, beq_true, beq_false, bne_self_eq_false, not_true_eq_false, not_false_eq_true, gt_iff_lt, ge_iff_le, Int.not_lt, Int.not_le, Bool.true_eq_false, Bool.false_eq_true] <;> omega)); conv => whnf)
          | (refine ⟨_, h1, ?_⟩; conv => whnf)
          | (refine ⟨le_rfl' ?_, ?_⟩; rfl; conv => whnf)
          | (refine ⟨⟨?_, ?_⟩, ?_⟩; omega; omega; conv => whnf)
          | (refine ⟨⟨?_, ?_, ?_⟩, ?_⟩; rfl; omega; omega; conv => whnf)
          | (refine ⟨rfl, ?_, ?_⟩; decide; conv => whnf))
        try exact rfl
      · rw [if_neg h2]
        have g : decide ((l.length : Int) > 65536) = false := decide_eq_false (by omega)
        conv => whnf
        repeat (first
          | (refine sel_yes ?_ ?_; (first | assumption | (simp only [beq_iff_eq, bne_iff_ne, beq_eq_false_iff_ne, bne_eq_false_iff_eq, decide_eq_true_eq, decide_eq_false_iff_not, Bool.not_eq_true', Bool.not_eq_false', ne_eq, beq_true, beq_false, bne_self_eq_false, not_true_eq_false, not_false_eq_true, gt_iff_lt, ge_iff_le, Int.not_lt, Int.not_le, Bool.true_eq_false, Bool.false_eq_true] <;> omega)); conv => whnf)
          | (refine sel_no ?_ ?_; (first | assumption | (simp only [beq_iff_eq, bne_iff_ne, beq_eq_false_iff_ne, bne_eq_false_iff_eq, decide_eq_true_eq, decide_eq_false_iff_not, Bool.not_eq_true', Bool.not_eq_false', ne_eq, beq_true, beq_false, bne_self_eq_false, not_true_eq_false, not_false_eq_true, gt_iff_lt, ge_iff_le, Int.not_lt, Int.not_le, Bool.true_eq_false, Bool.false_eq_true] <;> omega)); conv => whnf)
          | (refine ⟨_, h1, ?_⟩; conv => whnf)
          | (refine ⟨le_rfl' ?_, ?_⟩; rfl; conv => whnf)
          | (refine ⟨⟨?_, ?_⟩, ?_⟩; omega; omega; conv => whnf)
          | (refine ⟨⟨?_, ?_, ?_⟩, ?_⟩; rfl; omega; omega; conv => whnf)
          | (refine ⟨rfl, ?_, ?_⟩; decide; conv => whnf))
        try exact rfl
        refine lonly1 v l (by omega) hp _ l.length 0 _ rfl (by omega) ⟨rfl, rfl, rfl, rfl, rfl, rfl, trivial⟩ rfl ⟨rfl, rfl, trivial⟩ (fun z a b c => ?_) (fun z a b c e => ?_)
        · rw [List.drop_zero] at a c
          rw [if_neg c]
          rw [St.knows (s := z) _ z.hp.n a rfl _ b]
          conv => whnf
          rfl
        · rw [List.drop_zero] at e
          rw [if_pos e]
          have hg : ∀ p ∈ l, p.length ≤ 16 ∧ ∀ s ∈ p, Good s := fun p hm => by
            have := ask0 (askL_0 l e p hm)
            exact ⟨this.1, fun s hs => ⟨(hp p hm).2 s hs, this.2 s hs⟩⟩
          rw [St.knows (s := z) _ _ a b _ c]
          conv => whnf
          refine lonly2 hT v ⟨hv, hk⟩ l (by omega) hg _ l.length 0 mapT true _ rfl (by omega) map_good ⟨rfl, rfl, rfl, rfl, rfl, rfl, trivial⟩ rfl ⟨rfl, rfl, rfl, trivial⟩ (fun z e a b c => ?_) (fun z u c' a b c e => ?_)
          · rw [List.drop_zero] at c
            rw [c]
            rw [St.knows (s := z) _ z.hp.n a rfl _ b]
            conv => whnf
            rfl
          · rw [List.drop_zero] at e
            rw [e]
            rw [St.knows (s := z) _ z.hp.n a rfl _ c]
            conv => whnf
            rfl
    · rw [if_neg hk] at h1 ⊢
      conv => whnf
      repeat (first
        | (refine sel_yes ?_ ?_; (first | assumption | (simp only [beq_iff_eq, bne_iff_ne, beq_eq_false_iff_ne, bne_eq_false_iff_eq, decide_eq_true_eq, decide_eq_false_iff_not, Bool.not_eq_true', Bool.not_eq_false', ne_eq, beq_true, beq_false, bne_self_eq_false, not_true_eq_false, not_false_eq_true, gt_iff_lt, ge_iff_le, Int.not_lt, Int.not_le, Bool.true_eq_false, Bool.false_eq_true] <;> omega)); conv => whnf)
        | (refine sel_no ?_ ?_; (first | assumption | (simp only [beq_iff_eq, bne_iff_ne, beq_eq_false_iff_ne, bne_eq_false_iff_eq, decide_eq_true_eq, decide_eq_false_iff_not, Bool.not_eq_true', Bool.not_eq_false', ne_eq, beq_true, beq_false, bne_self_eq_false, not_true_eq_false, not_false_eq_true, gt_iff_lt, ge_iff_le, Int.not_lt, Int.not_le, Bool.true_eq_false, Bool.false_eq_true] <;> omega)); conv => whnf)
        | (refine ⟨_, h1, ?_⟩; conv => whnf)
        | (refine ⟨le_rfl' ?_, ?_⟩; rfl; conv => whnf)
        | (refine ⟨⟨?_, ?_⟩, ?_⟩; omega; omega; conv => whnf)
        | (refine ⟨⟨?_, ?_, ?_⟩, ?_⟩; rfl; omega; omega; conv => whnf)
        | (refine ⟨rfl, ?_, ?_⟩; decide; conv => whnf))
      try exact rfl
  obtain ⟨r, h, rfl⟩ := key
  exact h
end
end Go.Proofs.YtjfjagnnefmepaaDoor.AB
end

section
set_option linter.unusedVariables false
set_option linter.unusedSimpArgs false
open Go Go.Ab Go.Proofs Go.Vl Go.RowKit
namespace Go.Proofs.YtjfjagnnefmepaaDoor.AB
set_option maxRecDepth 100000
set_option maxHeartbeats 8000000
set_option linter.unusedSimpArgs false
set_option linter.unusedVariables false
section
variable {ext : Exts}
theorem lrAt (hn : Non ext) (p : List T) (hl : p.length ≤ 1048576) (hp : ∀ s ∈ p, Good s) (Q : Ex → St → Prop) (d : Nat) :
    ∀ (i : Nat) (v : T) (z : St), p.length - i = d → i ≤ p.length → Good v → Has z.t [(1, .sl false (encL p) p.length), (2, .ref 0 0), (4, .ref 1 0), (6, .int .i64 i)] → z.hp.n = 4 → Has z.hp.h [(0, some (.cells (cellsV v) false)), (1, some (.cells zC false))] →
      (∀ z' : St, Has z'.t [(4, .ref 1 0), (5, .bool false)] → Has z'.hp.h [(1, some (.cells zC false))] → atF v (p.drop i) = none → Q .ret z') →
      (∀ (z' : St) (w : T), Has z'.t [(2, .ref 0 0), (4, .ref 1 0)] → z'.hp.n = z'.hp.n → Has z'.hp.h [(0, some (.cells (cellsV w) false)), (1, some (.cells zC false))] → atF v (p.drop i) = some w → Q (.exit 0) z') →
      Go.Ab.Loop (cfg ext) (lpOf Tryd.f39) 4 z Q := by
  induction d with
  | zero =>
    intro i v z hd hi hv ht hz hb hr hq
    have g : decide ((i : Int) < (p.length : Int)) = false := decide_eq_false (by omega)
    rw [St.knows _ _ ht hz _ hb]
    refine Loop.round ?_
    conv => whnf
    repeat (first
      | (refine sel_yes ?_ ?_; (first | assumption | (simp only [beq_iff_eq, bne_iff_ne, beq_eq_false_iff_ne, bne_eq_false_iff_eq, decide_eq_true_eq, decide_eq_false_iff_not, Bool.not_eq_true', Bool.not_eq_false', ne_eq, beq_true, beq_false, bne_self_eq_false, not_true_eq_false, not_false_eq_true, gt_iff_lt, ge_iff_le, Int.not_lt, Int.not_le, Bool.true_eq_false, Bool.false_eq_true] <;> omega)); conv => whnf)
      | (refine sel_no ?_ ?_; (first | assumption | (simp only [beq_iff_eq, bne_iff_ne, beq_eq_false_iff_ne, bne_eq_false_iff_eq, decide_eq_true_eq, decide_eq_false_iff_not, Bool.not_eq_true', Bool.not_eq_false', ne_eq, beq_true, beq_false, bne_self_eq_false, not_true_eq_false, not_false_eq_true, gt_iff_lt, ge_iff_le, Int.not_lt, Int.not_le, Bool.true_eq_false, Bool.false_eq_true] <;> omega)); conv => whnf)
      | (refine ⟨le_rfl' ?_, ?_⟩; rfl; conv => whnf)
      | (refine ⟨⟨?_, ?_⟩, ?_⟩; omega; omega; conv => whnf)
      | (refine ⟨⟨?_, ?_, ?_⟩, ?_⟩; rfl; omega; omega; conv => whnf)
      | (refine ⟨rfl, ?_, ?_⟩; decide; conv => whnf))
    try exact rfl
    exact hq _ v ⟨rfl, rfl, trivial⟩ rfl ⟨rfl, rfl, trivial⟩ (by rw [List.drop_eq_nil_of_le (by omega)]; rfl)
  | succ d ih =>
    intro i v z hd hi hv ht hz hb hr hq
    have hlt : i < p.length := by omega
    have g : decide ((i : Int) < (p.length : Int)) = true := decide_eq_true (by omega)
    have eD := List.drop_eq_getElem_cons hlt
    have e1 : IntKind.i64.wrap ((i : Int) + 1) = ((i + 1 : Nat) : Int) := wrapN (by omega) (by omega)
    have hE := rpart hn v p[i] hv (hp _ (List.getElem_mem hlt))
    have e0 : atF v (p.drop i) = match partF v p[i] with | some w => atF w (p.drop (i + 1)) | none => none := by
      rw [eD]; rfl
    rw [St.knows _ _ ht hz _ hb]
    refine Loop.round ?_
    conv => whnf
    repeat (first
      | (refine sel_yes ?_ ?_; (first | assumption | (simp only [beq_iff_eq, bne_iff_ne, beq_eq_false_iff_ne, bne_eq_false_iff_eq, decide_eq_true_eq, decide_eq_false_iff_not, Bool.not_eq_true', Bool.not_eq_false', ne_eq, beq_true, beq_false, bne_self_eq_false, not_true_eq_false, not_false_eq_true, gt_iff_lt, ge_iff_le, Int.not_lt, Int.not_le, Bool.true_eq_false, Bool.false_eq_true] <;> omega)); conv => whnf)
      | (refine sel_no ?_ ?_; (first | assumption | (simp only [beq_iff_eq, bne_iff_ne, beq_eq_false_iff_ne, bne_eq_false_iff_eq, decide_eq_true_eq, decide_eq_false_iff_not, Bool.not_eq_true', Bool.not_eq_false', ne_eq, beq_true, beq_false, bne_self_eq_false, not_true_eq_false, not_false_eq_true, gt_iff_lt, ge_iff_le, Int.not_lt, Int.not_le, Bool.true_eq_false, Bool.false_eq_true] <;> omega)); conv => whnf)
      | (refine ⟨le_rfl' ?_, ?_⟩; rfl; conv => whnf)
      | (refine ⟨⟨?_, ?_⟩, ?_⟩; omega; omega; conv => whnf)
      | (refine ⟨⟨?_, ?_, ?_⟩, ?_⟩; rfl; omega; omega; conv => whnf)
      | (refine ⟨rfl, ?_, ?_⟩; decide; conv => whnf))
    try exact rfl
    refine ldA (i := i) hlt ?_
    conv => whnf
    refine ⟨_, hE, ?_⟩
    cases hx : partF v p[i] with
    | none =>
      rw [hx] at e0
      conv => whnf
      exact hr _ ⟨rfl, rfl, trivial⟩ ⟨rfl, trivial⟩ e0
    | some w =>
      rw [hx] at e0
      conv => whnf
      refine ih (i + 1) w _ (by omega) (by omega) (part_good hv (hp _ (List.getElem_mem hlt)) hx) ⟨rfl, rfl, rfl, ?_, trivial⟩ rfl ⟨rfl, rfl, trivial⟩ (fun z' a b c => hr z' a b (e0.trans c)) (fun z' w' a b c e => hq z' w' a b c (e0.trans e))
      conv => lhs; whnf
      exact vi e1
theorem rAt (hn : Non ext) (v : T) (hv : Good v) (p : List T) (hl : p.length ≤ 1048576) (hp : ∀ s ∈ p, Good s) : (cfg ext).Ev 39 [A v, .sl false (encL p) p.length] (optV (atF v p)) := by
  have key : ∃ r, (cfg ext).Ev 39 [A v, .sl false (encL p) p.length] r ∧ r = optV (atF v p) := by
    refine Ev.ofE (hn 39 (by decide) (by decide)) Tryd.func39 rfl rfl ?_
    conv => whnf
    refine lrAt hn p hl hp _ p.length 0 v _ rfl (by omega) hv ⟨rfl, rfl, rfl, rfl, trivial⟩ rfl ⟨rfl, rfl, trivial⟩ (fun z a b c => ?_) (fun z w a b c e => ?_)
    · rw [St.knows (s := z) _ z.hp.n a rfl _ b]
      conv => whnf
      exact congrArg optV c.symm
    · rw [St.knows (s := z) _ z.hp.n a rfl _ c]
      conv => whnf
      exact congrArg optV e.symm
  obtain ⟨r, h, rfl⟩ := key
  exact h
theorem lronly1 (hn : Non ext) (v : T) (l : List (List T)) (hl : l.length ≤ 65536) (hp : ∀ p ∈ l, p.length ≤ 9223372036854775807 ∧ ∀ s ∈ p, WfV s) (Q : Ex → St → Prop) (d : Nat) :
    ∀ (i : Nat) (z : St), l.length - i = d → i ≤ l.length → Has z.t [(1, .sl false (encR l) l.length), (2, .ref 0 0), (4, .ref 1 0), (6, .int .i64 i)] → z.hp.n = 10 → Has z.hp.h [(0, some (.cells (cellsV v) false)), (1, some (.cells zC false))] →
      (∀ z' : St, Has z'.t [(4, .ref 1 0), (5, .int .i64 (askL (l.drop i)))] → Has z'.hp.h [(1, some (.cells zC false))] → askL (l.drop i) ≠ 0 → Q .ret z') →
      (∀ z' : St, Has z'.t [(1, .sl false (encR l) l.length), (2, .ref 0 0), (4, .ref 1 0)] → z'.hp.n = 14 → Has z'.hp.h [(0, some (.cells (cellsV v) false)), (1, some (.cells zC false))] → askL (l.drop i) = 0 → Q (.exit 0) z') →
      Go.Ab.Loop (cfg ext) (lpN Tryd.f16 0) 10 z Q := by
  induction d with
  | zero =>
    intro i z hd hi ht hz hb hr hq
    have g : decide ((i : Int) < (l.length : Int)) = false := decide_eq_false (by omega)
    rw [St.knows _ _ ht hz _ hb]
    refine Loop.round ?_
    conv => whnf
    repeat (first
      | (refine sel_yes ?_ ?_; (first | assumption | (simp only [beq_iff_eq, bne_iff_ne, beq_eq_false_iff_ne, bne_eq_false_iff_eq, decide_eq_true_eq, decide_eq_false_iff_not, Bool.not_eq_true', Bool.not_eq_false', ne_eq, beq_true, beq_false, bne_self_eq_false, not_true_eq_false, not_false_eq_true, gt_iff_lt, ge_iff_le, Int.not_lt, Int.not_le, Bool.true_eq_false, Bool.false_eq_true] <;> omega)); conv => whnf)
      | (refine sel_no ?_ ?_; (first | assumption | (simp only [beq_iff_eq, bne_iff_ne, beq_eq_false_iff_ne, bne_eq_false_iff_eq, decide_eq_true_eq, decide_eq_false_iff_not, Bool.not_eq_true', Bool.not_eq_false', ne_eq, beq_true, beq_false, bne_self_eq_false, not_true_eq_false, not_false_eq_true, gt_iff_lt, ge_iff_le, Int.not_lt, Int.not_le, Bool.true_eq_false, Bool.false_eq_true] <;> omega)); conv => whnf)
      | (refine ⟨le_rfl' ?_, ?_⟩; rfl; conv => whnf)
      | (refine ⟨⟨?_, ?_⟩, ?_⟩; omega; omega; conv => whnf)
      | (refine ⟨⟨?_, ?_, ?_⟩, ?_⟩; rfl; omega; omega; conv => whnf)
      | (refine ⟨rfl, ?_, ?_⟩; decide; conv => whnf))
    try exact rfl
    exact hq _ ⟨rfl, rfl, rfl, trivial⟩ rfl ⟨rfl, rfl, trivial⟩ (by rw [List.drop_eq_nil_of_le (by omega)]; rfl)
  | succ d ih =>
    intro i z hd hi ht hz hb hr hq
    have hlt : i < l.length := by omega
    have g : decide ((i : Int) < (l.length : Int)) = true := decide_eq_true (by omega)
    have eD := List.drop_eq_getElem_cons hlt
    have e1 : IntKind.i64.wrap ((i : Int) + 1) = ((i + 1 : Nat) : Int) := wrapN (by omega) (by omega)
    have hm := hp _ (List.getElem_mem hlt)
    have hE := rFit hn l[i] hm.1 hm.2
    rw [St.knows _ _ ht hz _ hb]
    refine Loop.round ?_
    conv => whnf
    repeat (first
      | (refine sel_yes ?_ ?_; (first | assumption | (simp only [beq_iff_eq, bne_iff_ne, beq_eq_false_iff_ne, bne_eq_false_iff_eq, decide_eq_true_eq, decide_eq_false_iff_not, Bool.not_eq_true', Bool.not_eq_false', ne_eq, beq_true, beq_false, bne_self_eq_false, not_true_eq_false, not_false_eq_true, gt_iff_lt, ge_iff_le, Int.not_lt, Int.not_le, Bool.true_eq_false, Bool.false_eq_true] <;> omega)); conv => whnf)
      | (refine sel_no ?_ ?_; (first | assumption | (simp only [beq_iff_eq, bne_iff_ne, beq_eq_false_iff_ne, bne_eq_false_iff_eq, decide_eq_true_eq, decide_eq_false_iff_not, Bool.not_eq_true', Bool.not_eq_false', ne_eq, beq_true, beq_false, bne_self_eq_false, not_true_eq_false, not_false_eq_true, gt_iff_lt, ge_iff_le, Int.not_lt, Int.not_le, Bool.true_eq_false, Bool.false_eq_true] <;> omega)); conv => whnf)
      | (refine ⟨le_rfl' ?_, ?_⟩; rfl; conv => whnf)
      | (refine ⟨⟨?_, ?_⟩, ?_⟩; omega; omega; conv => whnf)
      | (refine ⟨⟨?_, ?_, ?_⟩, ?_⟩; rfl; omega; omega; conv => whnf)
      | (refine ⟨rfl, ?_, ?_⟩; decide; conv => whnf))
    try exact rfl
    refine ldRR (i := i) hlt ?_
    conv => whnf
    refine ⟨_, hE, ?_⟩
    conv => whnf
    by_cases h0 : askZ l[i] = 0
    · have e2 : askL (l.drop i) = askL (l.drop (i + 1)) := by rw [eD]; conv => lhs; unfold askL
                                                              rw [if_pos h0]
      have g2 : (askZ l[i] != 0) = false := by simp [h0]
      refine sel_no g2 ?_
      conv => whnf
      refine ih (i + 1) _ (by omega) (by omega) ⟨rfl, rfl, rfl, ?_, trivial⟩ rfl ⟨rfl, rfl, trivial⟩ (fun z' a b c => hr z' (by rw [e2]; exact a) b (by rw [e2]; exact c)) (fun z' a b c e => hq z' a b c (by rw [e2]; exact e))
      conv => lhs; whnf
      exact vi e1
    · have e2 : askL (l.drop i) = askZ l[i] := by rw [eD]; unfold askL; rw [if_neg h0]
      have g2 : (askZ l[i] != 0) = true := by simp [h0]
      refine sel_yes g2 ?_
      conv => whnf
      exact hr _ ⟨rfl, by rw [e2]; rfl, trivial⟩ ⟨rfl, trivial⟩ (by rw [e2]; exact h0)
theorem lronly2 (hn : Non ext) (v : T) (hv : Good v) (l : List (List T)) (hl : l.length ≤ 65536) (hp : ∀ p ∈ l, p.length ≤ 16 ∧ ∀ s ∈ p, Good s) (Q : Ex → St → Prop) (d : Nat) :
    ∀ (i : Nat) (w : T) (c : Bool) (z : St), l.length - i = d → i ≤ l.length → Good w → Has z.t [(1, .sl false (encR l) l.length), (2, .ref 0 0), (4, .ref 1 0), (8, .ref 15 0), (9, .int .i64 i)] → z.hp.n = 18 → Has z.hp.h [(0, some (.cells (cellsV v) false)), (1, some (.cells zC false)), (15, some (.cells (cellsW c w) false))] →
      (∀ (z' : St) (e : Int), Has z'.t [(4, .ref 1 0), (5, .int .i64 e)] → Has z'.hp.h [(1, some (.cells zC false))] → onlyG v (l.drop i) w = (nilT, e) → Q .ret z') →
      (∀ (z' : St) (u : T) (c' : Bool), Has z'.t [(4, .ref 1 0), (8, .ref 15 0)] → z'.hp.n = z'.hp.n → Has z'.hp.h [(1, some (.cells zC false)), (15, some (.cells (cellsW c' u) false))] → onlyG v (l.drop i) w = (u, 0) → Q (.exit 2) z') →
      Go.Ab.Loop (cfg ext) (lpN Tryd.f16 1) 18 z Q := by
  induction d with
  | zero =>
    intro i w c z hd hi hw ht hz hb hr hq
    have g : decide ((i : Int) < (l.length : Int)) = false := decide_eq_false (by omega)
    rw [St.knows _ _ ht hz _ hb]
    refine Loop.round ?_
    conv => whnf
    repeat (first
      | (refine sel_yes ?_ ?_; (first | assumption | (simp only [beq_iff_eq, bne_iff_ne, beq_eq_false_iff_ne, bne_eq_false_iff_eq, decide_eq_true_eq, decide_eq_false_iff_not, Bool.not_eq_true', Bool.not_eq_false', ne_eq, beq_true, beq_false, bne_self_eq_false, not_true_eq_false, not_false_eq_true, gt_iff_lt, ge_iff_le, Int.not_lt, Int.not_le, Bool.true_eq_false, Bool.false_eq_true] <;> omega)); conv => whnf)
      | (refine sel_no ?_ ?_; (first | assumption | (simp only [beq_iff_eq, bne_iff_ne, beq_eq_false_iff_ne, bne_eq_false_iff_eq, decide_eq_true_eq, decide_eq_false_iff_not, Bool.not_eq_true', Bool.not_eq_false', ne_eq, beq_true, beq_false, bne_self_eq_false, not_true_eq_false, not_false_eq_true, gt_iff_lt, ge_iff_le, Int.not_lt, Int.not_le, Bool.true_eq_false, Bool.false_eq_true] <;> omega)); conv => whnf)
      | (refine ⟨le_rfl' ?_, ?_⟩; rfl; conv => whnf)
      | (refine ⟨⟨?_, ?_⟩, ?_⟩; omega; omega; conv => whnf)
      | (refine ⟨⟨?_, ?_, ?_⟩, ?_⟩; rfl; omega; omega; conv => whnf)
      | (refine ⟨rfl, ?_, ?_⟩; decide; conv => whnf))
    try exact rfl
    exact hq _ w c ⟨rfl, rfl, trivial⟩ rfl ⟨rfl, rfl, trivial⟩ (by rw [List.drop_eq_nil_of_le (by omega)]; rfl)
  | succ d ih =>
    intro i w c z hd hi hw ht hz hb hr hq
    have hlt : i < l.length := by omega
    have g : decide ((i : Int) < (l.length : Int)) = true := decide_eq_true (by omega)
    have eD := List.drop_eq_getElem_cons hlt
    have e1 : IntKind.i64.wrap ((i : Int) + 1) = ((i + 1 : Nat) : Int) := wrapN (by omega) (by omega)
    have hm := hp _ (List.getElem_mem hlt)
    have hE := rAt hn v hv l[i] (by omega) hm.2
    have e0 : onlyG v (l.drop i) w = match atF v l[i] with
        | none => onlyG v (l.drop (i + 1)) w
        | some x => match putF w l[i] x with
          | none => (nilT, 260)
          | some w' => if okB w' = true then onlyG v (l.drop (i + 1)) w' else (nilT, 2) := by
      rw [eD]; exact onlyG_cons v w l[i] (l.drop (i + 1))
    rw [St.knows _ _ ht hz _ hb]
    refine Loop.round ?_
    conv => whnf
    repeat (first
      | (refine sel_yes ?_ ?_; (first | assumption | (simp only [beq_iff_eq, bne_iff_ne, beq_eq_false_iff_ne, bne_eq_false_iff_eq, decide_eq_true_eq, decide_eq_false_iff_not, Bool.not_eq_true', Bool.not_eq_false', ne_eq, beq_true, beq_false, bne_self_eq_false, not_true_eq_false, not_false_eq_true, gt_iff_lt, ge_iff_le, Int.not_lt, Int.not_le, Bool.true_eq_false, Bool.false_eq_true] <;> omega)); conv => whnf)
      | (refine sel_no ?_ ?_; (first | assumption | (simp only [beq_iff_eq, bne_iff_ne, beq_eq_false_iff_ne, bne_eq_false_iff_eq, decide_eq_true_eq, decide_eq_false_iff_not, Bool.not_eq_true', Bool.not_eq_false', ne_eq, beq_true, beq_false, bne_self_eq_false, not_true_eq_false, not_false_eq_true, gt_iff_lt, ge_iff_le, Int.not_lt, Int.not_le, Bool.true_eq_false, Bool.false_eq_true] <;> omega)); conv => whnf)
      | (refine ⟨le_rfl' ?_, ?_⟩; rfl; conv => whnf)
      | (refine ⟨⟨?_, ?_⟩, ?_⟩; omega; omega; conv => whnf)
      | (refine ⟨⟨?_, ?_, ?_⟩, ?_⟩; rfl; omega; omega; conv => whnf)
      | (refine ⟨rfl, ?_, ?_⟩; decide; conv => whnf))
    try exact rfl
    refine ldRR (i := i) hlt ?_
    conv => whnf
    refine ⟨_, hE, ?_⟩
    cases hx : atF v l[i] with
    | none =>
      rw [hx] at e0
      conv => whnf
      refine ih (i + 1) w c _ (by omega) (by omega) hw ⟨rfl, rfl, rfl, rfl, ?_, trivial⟩ rfl ⟨rfl, rfl, rfl, trivial⟩ (fun z' e a b c => hr z' e a b (e0.trans c)) (fun z' u c' a b c e => hq z' u c' a b c (e0.trans e))
      conv => lhs; whnf
      exact vi e1
    | some x =>
      rw [hx] at e0
      dsimp only at e0
      have gx := at_good l[i] hv hm.2 hx
      have hP := rput hn x l[i] w hw hm.2
      rw [optV_eq] at hP
      have hD := rdone hn (putF w l[i] x) (fun u hu => put_wf l[i] w x u hw hm.2 gx.wf hu)
      have hlx : ∀ {Q : V → Prop}, Q (rowV l[i]) → i * 1 + 1 ≤ (encR l).length ∧ opt (one (some false) (sub (encR l) (i * 1) 1)) fun v => fv v Q := fun h => ldRR hlt h
      cases hy : putF w l[i] x with
      | none =>
        rw [hy] at hP hD e0
        unfold doneZ at hD
        conv => whnf
        repeat (first
          | (refine sel_yes ?_ ?_; (first | assumption | (simp only [beq_iff_eq, bne_iff_ne, beq_eq_false_iff_ne, bne_eq_false_iff_eq, decide_eq_true_eq, decide_eq_false_iff_not, Bool.not_eq_true', Bool.not_eq_false', ne_eq, beq_true, beq_false, bne_self_eq_false, not_true_eq_false, not_false_eq_true, gt_iff_lt, ge_iff_le, Int.not_lt, Int.not_le, Bool.true_eq_false, Bool.false_eq_true] <;> omega)); conv => whnf)
          | (refine sel_no ?_ ?_; (first | assumption | (simp only [beq_iff_eq, bne_iff_ne, beq_eq_false_iff_ne, bne_eq_false_iff_eq, decide_eq_true_eq, decide_eq_false_iff_not, Bool.not_eq_true', Bool.not_eq_false', ne_eq, beq_true, beq_false, bne_self_eq_false, not_true_eq_false, not_false_eq_true, gt_iff_lt, ge_iff_le, Int.not_lt, Int.not_le, Bool.true_eq_false, Bool.false_eq_true] <;> omega)); conv => whnf)
          | (refine ⟨le_rfl' ?_, ?_⟩; rfl; conv => whnf)
          | (refine ⟨⟨?_, ?_⟩, ?_⟩; omega; omega; conv => whnf)
          | (refine ⟨⟨?_, ?_, ?_⟩, ?_⟩; rfl; omega; omega; conv => whnf)
          | (refine ⟨rfl, ?_, ?_⟩; decide; conv => whnf))
        try exact rfl
        refine hlx ?_
        conv => whnf
        repeat (first
          | (refine sel_yes ?_ ?_; (first | assumption | (simp only [beq_iff_eq, bne_iff_ne, beq_eq_false_iff_ne, bne_eq_false_iff_eq, decide_eq_true_eq, decide_eq_false_iff_not, Bool.not_eq_true', Bool.not_eq_false', ne_eq, beq_true, beq_false, bne_self_eq_false, not_true_eq_false, not_false_eq_true, gt_iff_lt, ge_iff_le, Int.not_lt, Int.not_le, Bool.true_eq_false, Bool.false_eq_true] <;> omega)); conv => whnf)
          | (refine sel_no ?_ ?_; (first | assumption | (simp only [beq_iff_eq, bne_iff_ne, beq_eq_false_iff_ne, bne_eq_false_iff_eq, decide_eq_true_eq, decide_eq_false_iff_not, Bool.not_eq_true', Bool.not_eq_false', ne_eq, beq_true, beq_false, bne_self_eq_false, not_true_eq_false, not_false_eq_true, gt_iff_lt, ge_iff_le, Int.not_lt, Int.not_le, Bool.true_eq_false, Bool.false_eq_true] <;> omega)); conv => whnf)
          | (refine ⟨_, hP, ?_⟩; conv => whnf)
          | (refine ⟨_, hD, ?_⟩; conv => whnf)
          | (refine ⟨le_rfl' ?_, ?_⟩; rfl; conv => whnf)
          | (refine ⟨⟨?_, ?_⟩, ?_⟩; omega; omega; conv => whnf)
          | (refine ⟨⟨?_, ?_, ?_⟩, ?_⟩; rfl; omega; omega; conv => whnf)
          | (refine ⟨rfl, ?_, ?_⟩; decide; conv => whnf))
        try exact rfl
        exact hr _ 260 ⟨rfl, rfl, trivial⟩ ⟨rfl, trivial⟩ e0
      | some w' =>
        rw [hy] at hP hD e0
        unfold doneZ at hD
        simp only at hD e0
        cases hk : okB w' with
        | false =>
          rw [hk] at hD e0
          conv => whnf
          repeat (first
            | (refine sel_yes ?_ ?_; (first | assumption | (simp only [beq_iff_eq, bne_iff_ne, beq_eq_false_iff_ne, bne_eq_false_iff_eq, decide_eq_true_eq, decide_eq_false_iff_not, Bool.not_eq_true', Bool.not_eq_false', ne_eq, beq_true, beq_false, bne_self_eq_false, not_true_eq_false, not_false_eq_true, gt_iff_lt, ge_iff_le, Int.not_lt, Int.not_le, Bool.true_eq_false, Bool.false_eq_true] <;> omega)); conv => whnf)
            | (refine sel_no ?_ ?_; (first | assumption | (simp only [beq_iff_eq, bne_iff_ne, beq_eq_false_iff_ne, bne_eq_false_iff_eq, decide_eq_true_eq, decide_eq_false_iff_not, Bool.not_eq_true', Bool.not_eq_false', ne_eq, beq_true, beq_false, bne_self_eq_false, not_true_eq_false, not_false_eq_true, gt_iff_lt, ge_iff_le, Int.not_lt, Int.not_le, Bool.true_eq_false, Bool.false_eq_true] <;> omega)); conv => whnf)
            | (refine ⟨le_rfl' ?_, ?_⟩; rfl; conv => whnf)
            | (refine ⟨⟨?_, ?_⟩, ?_⟩; omega; omega; conv => whnf)
            | (refine ⟨⟨?_, ?_, ?_⟩, ?_⟩; rfl; omega; omega; conv => whnf)
            | (refine ⟨rfl, ?_, ?_⟩; decide; conv => whnf))
          try exact rfl
          refine hlx ?_
          conv => whnf
          repeat (first
            | (refine sel_yes ?_ ?_; (first | assumption | (simp only [beq_iff_eq, bne_iff_ne, beq_eq_false_iff_ne, bne_eq_false_iff_eq, decide_eq_true_eq, decide_eq_false_iff_not, Bool.not_eq_true', Bool.not_eq_false', ne_eq, beq_true, beq_false, bne_self_eq_false, not_true_eq_false, not_false_eq_true, gt_iff_lt, ge_iff_le, Int.not_lt, Int.not_le, Bool.true_eq_false, Bool.false_eq_true] <;> omega)); conv => whnf)
            | (refine sel_no ?_ ?_; (first | assumption | (simp only [beq_iff_eq, bne_iff_ne, beq_eq_false_iff_ne, bne_eq_false_iff_eq, decide_eq_true_eq, decide_eq_false_iff_not, Bool.not_eq_true', Bool.not_eq_false', ne_eq, beq_true, beq_false, bne_self_eq_false, not_true_eq_false, not_false_eq_true, gt_iff_lt, ge_iff_le, Int.not_lt, Int.not_le, Bool.true_eq_false, Bool.false_eq_true] <;> omega)); conv => whnf)
            | (refine ⟨_, hP, ?_⟩; conv => whnf)
            | (refine ⟨_, hD, ?_⟩; conv => whnf)
            | (refine ⟨le_rfl' ?_, ?_⟩; rfl; conv => whnf)
            | (refine ⟨⟨?_, ?_⟩, ?_⟩; omega; omega; conv => whnf)
            | (refine ⟨⟨?_, ?_, ?_⟩, ?_⟩; rfl; omega; omega; conv => whnf)
            | (refine ⟨rfl, ?_, ?_⟩; decide; conv => whnf))
          try exact rfl
          exact hr _ 2 ⟨rfl, rfl, trivial⟩ ⟨rfl, trivial⟩ e0
        | true =>
          rw [hk] at hD e0
          conv => whnf
          repeat (first
            | (refine sel_yes ?_ ?_; (first | assumption | (simp only [beq_iff_eq, bne_iff_ne, beq_eq_false_iff_ne, bne_eq_false_iff_eq, decide_eq_true_eq, decide_eq_false_iff_not, Bool.not_eq_true', Bool.not_eq_false', ne_eq, beq_true, beq_false, bne_self_eq_false, not_true_eq_false, not_false_eq_true, gt_iff_lt, ge_iff_le, Int.not_lt, Int.not_le, Bool.true_eq_false, Bool.false_eq_true] <;> omega)); conv => whnf)
            | (refine sel_no ?_ ?_; (first | assumption | (simp only [beq_iff_eq, bne_iff_ne, beq_eq_false_iff_ne, bne_eq_false_iff_eq, decide_eq_true_eq, decide_eq_false_iff_not, Bool.not_eq_true', Bool.not_eq_false', ne_eq, beq_true, beq_false, bne_self_eq_false, not_true_eq_false, not_false_eq_true, gt_iff_lt, ge_iff_le, Int.not_lt, Int.not_le, Bool.true_eq_false, Bool.false_eq_true] <;> omega)); conv => whnf)
            | (refine ⟨le_rfl' ?_, ?_⟩; rfl; conv => whnf)
            | (refine ⟨⟨?_, ?_⟩, ?_⟩; omega; omega; conv => whnf)
            | (refine ⟨⟨?_, ?_, ?_⟩, ?_⟩; rfl; omega; omega; conv => whnf)
            | (refine ⟨rfl, ?_, ?_⟩; decide; conv => whnf))
          try exact rfl
          refine hlx ?_
          conv => whnf
          repeat (first
            | (refine sel_yes ?_ ?_; (first | assumption | (simp only [beq_iff_eq, bne_iff_ne, beq_eq_false_iff_ne, bne_eq_false_iff_eq, decide_eq_true_eq, decide_eq_false_iff_not, Bool.not_eq_true', Bool.not_eq_false', ne_eq, beq_true, beq_false, bne_self_eq_false, not_true_eq_false, not_false_eq_true, gt_iff_lt, ge_iff_le, Int.not_lt, Int.not_le, Bool.true_eq_false, Bool.false_eq_true] <;> omega)); conv => whnf)
            | (refine sel_no ?_ ?_; (first | assumption | (simp only [beq_iff_eq, bne_iff_ne, beq_eq_false_iff_ne, bne_eq_false_iff_eq, decide_eq_true_eq, decide_eq_false_iff_not, Bool.not_eq_true', Bool.not_eq_false', ne_eq, beq_true, beq_false, bne_self_eq_false, not_true_eq_false, not_false_eq_true, gt_iff_lt, ge_iff_le, Int.not_lt, Int.not_le, Bool.true_eq_false, Bool.false_eq_true] <;> omega)); conv => whnf)
            | (refine ⟨_, hP, ?_⟩; conv => whnf)
            | (refine ⟨_, hD, ?_⟩; conv => whnf)
            | (refine ⟨le_rfl' ?_, ?_⟩; rfl; conv => whnf)
            | (refine ⟨⟨?_, ?_⟩, ?_⟩; omega; omega; conv => whnf)
            | (refine ⟨⟨?_, ?_, ?_⟩, ?_⟩; rfl; omega; omega; conv => whnf)
            | (refine ⟨rfl, ?_, ?_⟩; decide; conv => whnf))
          try exact rfl
          refine ih (i + 1) w' false _ (by omega) (by omega) ⟨put_wf l[i] w x w' hw hm.2 gx.wf hy, hk⟩ ⟨rfl, rfl, rfl, rfl, ?_, trivial⟩ rfl ⟨rfl, rfl, rfl, trivial⟩ (fun z' e a b c => hr z' e a b (e0.trans c)) (fun z' u c' a b c e => hq z' u c' a b c (e0.trans e))
          conv => lhs; whnf
          exact vi e1
theorem rOnly (hn : Non ext) (v : T) (hv : WfV v) (l : List (List T)) (hl : l.length ≤ 9223372036854775807) (hp : ∀ p ∈ l, p.length ≤ 9223372036854775807 ∧ ∀ s ∈ p, WfV s) : (cfg ext).Ev 16 [A v, .sl false (encR l) l.length] (tupZ (onlyZ v l)) := by
  have h1 := rright hn v hv
  have key : ∃ r, (cfg ext).Ev 16 [A v, .sl false (encR l) l.length] r ∧ r = tupZ (onlyZ v l) := by
    refine Ev.ofE (hn 16 (by decide) (by decide)) Tryd.func16 rfl rfl ?_
    unfold onlyZ
    cases hk : okB v with
    | true =>
      rw [hk] at h1
      rw [if_pos rfl]
      by_cases h2 : 65536 < l.length
      · rw [if_pos h2]
        have g : decide ((l.length : Int) > 65536) = true := decide_eq_true (by omega)
        conv => whnf
        repeat (first
          | (refine sel_yes ?_ ?_; (first | assumption | (simp only [beq_iff_eq, bne_iff_ne, beq_eq_false_iff_ne, bne_eq_false_iff_eq, decide_eq_true_eq, decide_eq_false_iff_not, Bool.not_eq_true', Bool.not_eq_false', ne_eq, beq_true, beq_false, bne_self_eq_false, not_true_eq_false, not_false_eq_true, gt_iff_lt, ge_iff_le, Int.not_lt, Int.not_le, Bool.true_eq_false, Bool.false_eq_true] <;> omega)); conv => whnf)
          | (refine sel_no ?_ ?_; (first | assumption | (simp only [beq_iff_eq, bne_iff_ne, beq_eq_false_iff_ne, bne_eq_false_iff_eq, decide_eq_true_eq, decide_eq_false_iff_not, Bool.not_eq_true', Bool.not_eq_false', ne_eq, beq_true, beq_false, bne_self_eq_false, not_true_eq_false, not_false_eq_true, gt_iff_lt, ge_iff_le, Int.not_lt, Int.not_le, Bool.true_eq_false, Bool.false_eq_true] <;> omega)); conv => whnf)
          | (refine ⟨_, h1, ?_⟩; conv => whnf)
          | (refine ⟨le_rfl' ?_, ?_⟩; rfl; conv => whnf)
          | (refine ⟨⟨?_, ?_⟩, ?_⟩; omega; omega; conv => whnf)
          | (refine ⟨⟨?_, ?_, ?_⟩, ?_⟩; rfl; omega; omega; conv => whnf)
          | (refine ⟨rfl, ?_, ?_⟩; decide; conv => whnf))
        try exact rfl
      · rw [if_neg h2]
        have g : decide ((l.length : Int) > 65536) = false := decide_eq_false (by omega)
        conv => whnf
        repeat (first
          | (refine sel_yes ?_ ?_; (first | assumption | (simp only [beq_iff_eq, bne_iff_ne, beq_eq_false_iff_ne, bne_eq_false_iff_eq, decide_eq_true_eq, decide_eq_false_iff_not, Bool.not_eq_true', Bool.not_eq_false', ne_eq, beq_true, beq_false, bne_self_eq_false, not_true_eq_false, not_false_eq_true, gt_iff_lt, ge_iff_le, Int.not_lt, Int.not_le, Bool.true_eq_false, Bool.false_eq_true] <;> omega)); conv => whnf)
          | (refine sel_no ?_ ?_; (first | assumption | (simp only [beq_iff_eq, bne_iff_ne, beq_eq_false_iff_ne, bne_eq_false_iff_eq, decide_eq_true_eq, decide_eq_false_iff_not, Bool.not_eq_true', Bool.not_eq_false', ne_eq, beq_true, beq_false, bne_self_eq_false, not_true_eq_false, not_false_eq_true, gt_iff_lt, ge_iff_le, Int.not_lt, Int.not_le, Bool.true_eq_false, Bool.false_eq_true] <;> omega)); conv => whnf)
          | (refine ⟨_, h1, ?_⟩; conv => whnf)
          | (refine ⟨le_rfl' ?_, ?_⟩; rfl; conv => whnf)
          | (refine ⟨⟨?_, ?_⟩, ?_⟩; omega; omega; conv => whnf)
          | (refine ⟨⟨?_, ?_, ?_⟩, ?_⟩; rfl; omega; omega; conv => whnf)
          | (refine ⟨rfl, ?_, ?_⟩; decide; conv => whnf))
        try exact rfl
        refine lronly1 hn v l (by omega) hp _ l.length 0 _ rfl (by omega) ⟨rfl, rfl, rfl, rfl, trivial⟩ rfl ⟨rfl, rfl, trivial⟩ (fun z a b c => ?_) (fun z a b c e => ?_)
        · rw [List.drop_zero] at a c
          rw [if_neg c]
          rw [St.knows (s := z) _ z.hp.n a rfl _ b]
          conv => whnf
          rfl
        · rw [List.drop_zero] at e
          rw [if_pos e]
          have hg : ∀ p ∈ l, p.length ≤ 16 ∧ ∀ s ∈ p, Good s := fun p hm => by
            have := ask0 (askL_0 l e p hm)
            exact ⟨this.1, fun s hs => ⟨(hp p hm).2 s hs, this.2 s hs⟩⟩
          rw [St.knows (s := z) _ _ a b _ c]
          conv => whnf
          refine lronly2 hn v ⟨hv, hk⟩ l (by omega) hg _ l.length 0 mapT true _ rfl (by omega) map_good ⟨rfl, rfl, rfl, rfl, rfl, trivial⟩ rfl ⟨rfl, rfl, rfl, trivial⟩ (fun z e a b c => ?_) (fun z u c' a b c e => ?_)
          · rw [List.drop_zero] at c
            rw [c]
            rw [St.knows (s := z) _ z.hp.n a rfl _ b]
            conv => whnf
            rfl
          · rw [List.drop_zero] at e
            rw [e]
            rw [St.knows (s := z) _ z.hp.n a rfl _ c]
            conv => whnf
            rfl
    | false =>
      rw [hk] at h1
      conv => whnf
      repeat (first
        | (refine sel_yes ?_ ?_; (first | assumption | (simp only [beq_iff_eq, bne_iff_ne, beq_eq_false_iff_ne, bne_eq_false_iff_eq, decide_eq_true_eq, decide_eq_false_iff_not, Bool.not_eq_true', Bool.not_eq_false', ne_eq, beq_true, beq_false, bne_self_eq_false, not_true_eq_false, not_false_eq_true, gt_iff_lt, ge_iff_le, Int.not_lt, Int.not_le, Bool.true_eq_false, Bool.false_eq_true] <;> omega)); conv => whnf)
        | (refine sel_no ?_ ?_; (first | assumption | (simp only [beq_iff_eq, bne_iff_ne, beq_eq_false_iff_ne, bne_eq_false_iff_eq, decide_eq_true_eq, decide_eq_false_iff_not, Bool.not_eq_true', Bool.not_eq_false', ne_eq, beq_true, beq_false, bne_self_eq_false, not_true_eq_false, not_false_eq_true, gt_iff_lt, ge_iff_le, Int.not_lt, Int.not_le, Bool.true_eq_false, Bool.false_eq_true] <;> omega)); conv => whnf)
        | (refine ⟨_, h1, ?_⟩; conv => whnf)
        | (refine ⟨le_rfl' ?_, ?_⟩; rfl; conv => whnf)
        | (refine ⟨⟨?_, ?_⟩, ?_⟩; omega; omega; conv => whnf)
        | (refine ⟨⟨?_, ?_, ?_⟩, ?_⟩; rfl; omega; omega; conv => whnf)
        | (refine ⟨rfl, ?_, ?_⟩; decide; conv => whnf))
      try exact rfl
  obtain ⟨r, h, rfl⟩ := key
  exact h
end
theorem only_wf (v : T) (hv : Good v) : ∀ (l : List (List T)) (w : T), (∀ p ∈ l, ∀ s ∈ p, Good s) → Good w → WfV (onlyG v l w).1
  | [], w, _, hw => hw.wf
  | p :: l, w, hp, hw => by
    have hpp := hp p (by simp)
    have ih := fun u => only_wf v hv l u (fun q hq => hp q (by simp [hq]))
    unfold onlyG
    cases hx : atF v p with
    | none => exact ih w hw
    | some x =>
      simp only
      have gx := at_good p hv hpp hx
      cases hy : putF w p x with
      | none => exact w_nil
      | some u =>
        simp only
        have wu := put_wf p w x u hw hpp gx.wf hy
        split
        · rename_i hk; exact ih u ⟨wu, hk⟩
        · exact w_nil
theorem onlyZ_wf (v : T) (hv : WfV v) (l : List (List T)) (hp : ∀ p ∈ l, ∀ s ∈ p, WfV s) : WfV (onlyZ v l).1 := by
  unfold onlyZ
  split
  · rename_i hk
    split
    · exact w_nil
    · split
      · rename_i ha
        exact only_wf v ⟨hv, hk⟩ l mapT (fun p hm s hs => ⟨hp p hm s hs, (ask0 (askL_0 l ha p hm)).2 s hs⟩) map_good
      · exact w_nil
  · exact w_nil
theorem PathsOnly_ev (v : T) (hv : WfV v) (l : List (List T)) (hl : l.length ≤ 9223372036854775807) (hp : ∀ p ∈ l, p.length ≤ 9223372036854775807 ∧ ∀ s ∈ p, WfV s) : (cfgU putT).Ev 5 [A v, .sl false (encR l) l.length] (.bool true) := by
  have h1 := tOnly putT_put v hv l hl hp
  have h2 := up (T := putT) (by decide) (by decide) (rOnly non0 v hv l hl hp)
  have wu := onlyZ_wf v hv l (fun p hm => (hp p hm).2)
  have h4 := up (T := putT) (by decide) (by decide) (tplain non0 (onlyZ v l).1 wu (onlyZ v l).1)
  rw [eqT_self] at h4
  unfold tupZ at h1 h2
  generalize (onlyZ v l).1 = u at *
  generalize (onlyZ v l).2 = e at *
  have g : (e == e) = true := beq_self_eq_true e
  refine Ev.of (hnU (by decide)) Tryd.func5 rfl rfl ?_
  conv => whnf
  repeat (first
    | (refine sel_yes ?_ ?_; (first | assumption | (simp only [beq_iff_eq, bne_iff_ne, beq_eq_false_iff_ne, bne_eq_false_iff_eq, decide_eq_true_eq, decide_eq_false_iff_not, Bool.not_eq_true', Bool.not_eq_false', ne_eq, beq_true, beq_false, bne_self_eq_false, not_true_eq_false, not_false_eq_true, gt_iff_lt, ge_iff_le, Int.not_lt, Int.not_le, Bool.true_eq_false, Bool.false_eq_true] <;> omega)); conv => whnf)
    | (refine sel_no ?_ ?_; (first | assumption | (simp only [beq_iff_eq, bne_iff_ne, beq_eq_false_iff_ne, bne_eq_false_iff_eq, decide_eq_true_eq, decide_eq_false_iff_not, Bool.not_eq_true', Bool.not_eq_false', ne_eq, beq_true, beq_false, bne_self_eq_false, not_true_eq_false, not_false_eq_true, gt_iff_lt, ge_iff_le, Int.not_lt, Int.not_le, Bool.true_eq_false, Bool.false_eq_true] <;> omega)); conv => whnf)
    | (refine ⟨_, h1, ?_⟩; conv => whnf)
    | (refine ⟨_, h2, ?_⟩; conv => whnf)
    | (refine ⟨_, h4, ?_⟩; conv => whnf)
    | (refine ⟨_, speaks26 putT_put, ?_⟩; conv => whnf)
    | (refine ⟨le_rfl' ?_, ?_⟩; rfl; conv => whnf)
    | (refine ⟨⟨?_, ?_⟩, ?_⟩; omega; omega; conv => whnf)
    | (refine ⟨⟨?_, ?_, ?_⟩, ?_⟩; rfl; omega; omega; conv => whnf)
    | (refine ⟨rfl, ?_, ?_⟩; decide; conv => whnf))
  try exact rfl
end Go.Proofs.YtjfjagnnefmepaaDoor.AB
end

section
set_option linter.unusedVariables false
set_option linter.unusedSimpArgs false
open Go Go.Ab Go.Proofs Go.Vl Go.RowKit
namespace Go.Proofs.YtjfjagnnefmepaaDoor.AB
set_option maxRecDepth 100000
set_option maxHeartbeats 8000000
set_option linter.unusedSimpArgs false
set_option linter.unusedVariables false
theorem slTo {P : Program} {t e : Nat} {l : List T} {k : IntKind} {x : Int} {i : Nat} (ht : tslice P t = some e) (h4 : tsize P e = 4) (hx : x = (i : Int)) (h : i ≤ l.length) : sliceV P t (.sl false (encL l) l.length) none (some (.int k x)) none = some (.sl false (encL (l.take i)) i) := by
  subst hx
  have hb : (0 : Int) ≤ (i : Int) ∧ (i : Int) ≤ (l.length : Int) := ⟨by omega, by omega⟩
  simp only [sliceV, ht, bounds, boundO, bound, if_pos hb, Option.bind_some, Int.toNat_natCast, h4, clip, Bool.false_and, Nat.sub_zero, Nat.zero_mul]
  have e1 : sub (encL l) 0 (i * 4) = encL (l.take i) := by
    unfold sub; rw [List.drop_zero, encL_take]
  rw [e1]
theorem slFrom {P : Program} {t e : Nat} {l : List T} {k : IntKind} {x : Int} {i : Nat} (ht : tslice P t = some e) (h4 : tsize P e = 4) (hx : x = (i : Int)) (h : i ≤ l.length) : sliceV P t (.sl false (encL l) l.length) (some (.int k x)) none none = some (.sl false (encL (l.drop i)) (l.length - i)) := by
  subst hx
  have hb : (0 : Int) ≤ (i : Int) ∧ (i : Int) ≤ (l.length : Int) := ⟨by omega, by omega⟩
  simp only [sliceV, ht, bounds, boundO, bound, if_pos hb, Option.bind_some, Int.toNat_natCast, h4, clip, Bool.false_and]
  have e1 : sub (encL l) (i * 4) ((l.length - i) * 4) = encL (l.drop i) := by
    unfold sub; rw [encL_drop, List.take_of_length_le]; rw [encL_len, List.length_drop]; exact Nat.le_refl _
  rw [e1]
theorem encL_tk {l : List T} {i : Nat} (h : i ≤ l.length) : (encL (l.take i)).length = i * 4 := by rw [encL_len, List.length_take, Nat.min_eq_left h]
theorem encL_tk0 {l : List T} {i : Nat} (h : i ≤ l.length) : ([] ++ encL (l.take i)).length = (0 + i) * 4 := by rw [List.nil_append, encL_tk h, Nat.zero_add]
theorem encL_dp (l : List T) (i : Nat) : (encL (l.drop i)).length = (l.length - i) * 4 := by rw [encL_len, List.length_drop]
theorem cold2 (l m : List T) : ∀ c ∈ [] ++ encL l ++ encL m, cold c = true := fun c hc => by
  rw [List.nil_append] at hc
  rcases List.mem_append.1 hc with h | h
  · exact encC l c h
  · exact encC m c h
/-- append of data to a row that has no room, or whose room is not told -/
theorem grcApp {hp : Hp} {ida b v n k : Nat} {cs xs : List V} {cap : Option Nat} {Q : V × Hp → Prop} (hA : hp.a b = some ⟨v, 4, cs, cap, 0⟩) (hc : cap = none ∨ (cap = some 0 ∧ n = 0)) (hb : b < hp.m) (hl : cs.length = n * 4) (hx : xs.length = k * 4) (hcold : ∀ c ∈ xs, cold c = true) (hk : n + k ≤ 1048576) (hi : ida < hp.m)
    (q : ∀ b' v' a' cap', b' < hp.m → (cap' = none ∨ (cap' = some 0 ∧ n + k = 0)) → a' b' = some ⟨v', 4, cs ++ xs, cap', 0⟩ → Q (.rsl false b' v' 0 (n + k), ⟨hp.h, hp.n, a', hp.m⟩)) :
    opt (appendV 4 56 hp ida (.rsl false b v 0 n) (.sl false xs k)) Q := by
  have hm : maxRoom = 140737488355328 := rfl
  have c1 : content none hp 4 (.rsl false b v 0 n) = some (cs, n) := by
    simp only [content, hA]
    rw [if_pos ⟨trivial, trivial, by omega⟩]
    have : sub cs 0 (n * 4) = cs := by simp [sub, ← hl]
    rw [this]
  have c2 : content none hp 4 (.sl false xs k) = some (xs, k) := by simp only [content]; rw [if_pos hx]
  by_cases h0 : k = 0
  · subst h0
    have ex : xs = [] := List.eq_nil_of_length_eq_zero (by omega)
    subst ex
    have : appendV 4 56 hp ida (.rsl false b v 0 n) (.sl false [] 0) = some (.rsl false b v 0 n, hp) := by
      unfold appendV; rw [c1, c2]; simp
    rw [this]
    exact q b v hp.a cap hb hc (by rw [List.append_nil]; exact hA)
  · rcases hc with rfl | ⟨rfl, rfl⟩
    · have : appendV 4 56 hp ida (.rsl false b v 0 n) (.sl false xs k) = some (.rsl false b (v + 1) 0 (n + k), ⟨hp.h, hp.n, upd hp.a b (some ⟨v + 1, 4, cs ++ xs, none, 0⟩), hp.m⟩) := by
        unfold appendV; rw [c1, c2]; simp only
        rw [if_neg h0, if_pos ⟨by omega, by omega⟩, hA]
        simp only
        rw [if_pos ⟨trivial, hl.symm⟩]
      rw [this]
      exact q b (v + 1) _ none hb (.inl rfl) (upd_is _ _ _)
    · have : appendV 4 56 hp ida (.rsl false b v 0 0) (.sl false xs k) = some (.rsl false ida 0 0 (0 + k), ⟨hp.h, hp.n, upd hp.a ida (some ⟨0, 4, cs ++ xs, none, 0⟩), hp.m⟩) := by
        unfold appendV; rw [c1, c2]; simp only
        rw [if_neg h0, if_pos ⟨by omega, by omega⟩, hA]
        simp only
        rw [if_neg (by omega)]
      rw [this]
      exact q ida 0 _ none hi (.inl rfl) (upd_is _ _ _)
section
variable {ext : Exts}
theorem rwoL (hn : Non ext) (v s : T) (hv : Good v) (hs : Good s) (h4 : v.f0 = 4) {i : Nat} (hi : idxF v.f3.length s = some i) : (cfg ext).Ev 49 [A v, .sl false (encL [s]) 1] (optV (some ⟨v.f0, 0, ⟨#[]⟩, remF v s⟩)) := by
  have hlen := (OK.row (okB_iff.1 hv.ok)).1
  have hb : i < v.f3.length := by
    unfold idxF at hi
    split at hi <;> cases hi
    omega
  have eR : remF v s = v.f3.take i ++ v.f3.drop (i + 1) := by
    unfold remF; rw [if_neg (by omega), if_pos h4, hi]
  have hI := rindex (ext := ext) hn v s
  rw [if_pos h4, hi] at hI
  have g1 : (v.f0 == 6) = false := by simp [h4]
  have g2 : (v.f0 == 5) = false := by simp [h4]
  have e1 : IntKind.i64.wrap ((i : Int) + 1) = ((i + 1 : Nat) : Int) := wrapN (by omega) (by omega)
  have hres : ∀ {i j : Nat}, i ≤ v.f3.length → V.tup [.agg [.int .i64 v.f0, .int .i64 0, .str ⟨#[]⟩, .sl false ([] ++ encL (v.f3.take i) ++ encL (v.f3.drop j)) (0 + i + (v.f3.length - j))], .bool true] = optV (some ⟨v.f0, 0, ⟨#[]⟩, v.f3.take i ++ v.f3.drop j⟩) := fun {i j} hi => by
    show _ = V.tup [.agg [.int .i64 v.f0, .int .i64 0, .str ⟨#[]⟩, .sl false (encL (v.f3.take i ++ v.f3.drop j)) (v.f3.take i ++ v.f3.drop j).length], .bool true]
    rw [encL_app, List.nil_append, List.length_append, List.length_take, List.length_drop, Nat.min_eq_left hi, Nat.zero_add]
  have key : ∃ r, (cfg ext).Ev 49 [A v, .sl false (encL [s]) 1] r ∧ r = optV (some ⟨v.f0, 0, ⟨#[]⟩, remF v s⟩) := by
    refine Ev.ofF (hn 49 (by decide) (by decide)) Tryd.func49 rfl rfl ?_
    conv => whnf
    refine ⟨by decide, ?_⟩
    conv => whnf
    refine ld00 ?_
    conv => whnf
    repeat (first
      | (refine sel_yes ?_ ?_; (first | assumption | (simp only [beq_iff_eq, bne_iff_ne, beq_eq_false_iff_ne, bne_eq_false_iff_eq, decide_eq_true_eq, decide_eq_false_iff_not, Bool.not_eq_true', Bool.not_eq_false', ne_eq, beq_true, beq_false, bne_self_eq_false, not_true_eq_false, not_false_eq_true, gt_iff_lt, ge_iff_le, Int.not_lt, Int.not_le, Bool.true_eq_false, Bool.false_eq_true] <;> omega)); conv => whnf)
      | (refine sel_no ?_ ?_; (first | assumption | (simp only [beq_iff_eq, bne_iff_ne, beq_eq_false_iff_ne, bne_eq_false_iff_eq, decide_eq_true_eq, decide_eq_false_iff_not, Bool.not_eq_true', Bool.not_eq_false', ne_eq, beq_true, beq_false, bne_self_eq_false, not_true_eq_false, not_false_eq_true, gt_iff_lt, ge_iff_le, Int.not_lt, Int.not_le, Bool.true_eq_false, Bool.false_eq_true] <;> omega)); conv => whnf)
      | (refine ⟨_, hI, ?_⟩; conv => whnf)
      | (refine ⟨le_rfl' ?_, ?_⟩; rfl; conv => whnf)
      | (refine ⟨⟨?_, ?_⟩, ?_⟩; omega; omega; conv => whnf)
      | (refine ⟨⟨?_, ?_, ?_⟩, ?_⟩; rfl; omega; omega; conv => whnf)
      | (refine ⟨rfl, ?_, ?_⟩; decide; conv => whnf))
    try exact rfl
    have q1 : (i + 1) ≤ v.f3.length := (by omega)
    have q2 : 0 + i + (v.f3.length - (i + 1)) ≤ 1048576 := by omega
    have q3 : 0 + i ≤ 1048576 := by omega
    refine ⟨_, slTo tsV szV rfl (Nat.le_of_lt hb), ?_⟩
    conv => whnf
    refine ⟨rfl, ?_⟩
    conv => whnf
    refine ⟨⟨rfl, (show (4 : Nat) ≠ 0 by decide)⟩, ?_⟩
    refine grcApp (cs := []) (cap := some 0) (xs := encL (v.f3.take i)) ?_ (.inr ⟨rfl, rfl⟩) ?_ rfl (encL_tk (Nat.le_of_lt hb)) (encC _) q3 (Nat.add_lt_add_left (by decide) _) (fun b1 v1 a1 cap1 c1 c2 k1 => ?_)
    · rfl
    · exact Nat.lt_of_lt_of_le (Nat.lt_succ_self _) (by (conv => lhs; whnf); (repeat ((conv => rhs; whnf); first | with_reducible exact Nat.le_refl _ | refine Nat.le_trans ?_ (Nat.le_add_right _ _) | refine Nat.le_succ_of_le ?_ | exact Nat.le_refl _)))
    conv => whnf
    refine ⟨_, slFrom tsV szV e1 q1, ?_⟩
    conv => whnf
    refine ⟨rfl, ?_⟩
    conv => whnf
    refine ⟨⟨rfl, (show (4 : Nat) ≠ 0 by decide)⟩, ?_⟩
    refine grcApp (xs := encL (v.f3.drop (i + 1))) k1 c2 ?_ (encL_tk0 (Nat.le_of_lt hb)) (encL_dp _ _) (encC _) q2 (Nat.add_lt_add_left (by decide) _) (fun b2 v2 a2 cap2 c3 c4 k2 => ?_)
    · exact c1
    conv => whnf
    exact FinRowT (k1 := .i64) (k2 := .i64) rfl k2 (by rw [List.nil_append, List.length_append, encL_tk (Nat.le_of_lt hb), encL_dp, ← Nat.add_mul, Nat.zero_add]) (cold2 _ _) (by rw [eR]; exact hres (Nat.le_of_lt hb))
  obtain ⟨r, h, rfl⟩ := key
  exact h
theorem rwoK (hn : Non ext) (v s : T) (hv : Good v) (hs : Good s) (h6 : v.f0 = 6) (hk : (keyF v.f3 s).2 = true) : (cfg ext).Ev 49 [A v, .sl false (encL [s]) 1] (optV (some ⟨v.f0, 0, ⟨#[]⟩, remF v s⟩)) := by
  have hlen := (OK.row (okB_iff.1 hv.ok)).1
  have hb := keyF_lt v.f3 s hk
  have hb0 : (keyF v.f3 s).1 ≤ v.f3.length := by omega
  have eR : remF v s = v.f3.take (keyF v.f3 s).1 ++ v.f3.drop ((keyF v.f3 s).1 + 2) := by
    unfold remF; rw [if_pos h6]
  have h2 := hv.row.even h6
  have hI := rindex (ext := ext) hn v s
  rw [if_neg (by omega)] at hI
  have hK := rkey6 hn v s (by omega) hv.row.wfl h6 h2
  rw [linK_key s hs.shp v.f3 0 (fun a ha => (hv.item ha).shp) h2 (rise_inc _ (fun a ha => (hv.item ha).shp) (hv.rise h6)), hk, if_pos rfl, Nat.zero_add] at hK
  have g1 : (v.f0 == 6) = true := by simp [h6]
  have g2 : (v.f0 == 5) = false := by simp [h6]
  have e1 : IntKind.i64.wrap ((((keyF v.f3 s).1 : Nat) : Int) + 2) = (((keyF v.f3 s).1 + 2 : Nat) : Int) := wrapN (by omega) (by omega)
  have hres : ∀ {i j : Nat}, i ≤ v.f3.length → V.tup [.agg [.int .i64 v.f0, .int .i64 0, .str ⟨#[]⟩, .sl false ([] ++ encL (v.f3.take i) ++ encL (v.f3.drop j)) (0 + i + (v.f3.length - j))], .bool true] = optV (some ⟨v.f0, 0, ⟨#[]⟩, v.f3.take i ++ v.f3.drop j⟩) := fun {i j} hi => by
    show _ = V.tup [.agg [.int .i64 v.f0, .int .i64 0, .str ⟨#[]⟩, .sl false (encL (v.f3.take i ++ v.f3.drop j)) (v.f3.take i ++ v.f3.drop j).length], .bool true]
    rw [encL_app, List.nil_append, List.length_append, List.length_take, List.length_drop, Nat.min_eq_left hi, Nat.zero_add]
  have key : ∃ r, (cfg ext).Ev 49 [A v, .sl false (encL [s]) 1] r ∧ r = optV (some ⟨v.f0, 0, ⟨#[]⟩, remF v s⟩) := by
    refine Ev.ofF (hn 49 (by decide) (by decide)) Tryd.func49 rfl rfl ?_
    conv => whnf
    refine ⟨by decide, ?_⟩
    conv => whnf
    refine ld00 ?_
    conv => whnf
    repeat (first
      | (refine sel_yes ?_ ?_; (first | assumption | (simp only [beq_iff_eq, bne_iff_ne, beq_eq_false_iff_ne, bne_eq_false_iff_eq, decide_eq_true_eq, decide_eq_false_iff_not, Bool.not_eq_true', Bool.not_eq_false', ne_eq, beq_true, beq_false, bne_self_eq_false, not_true_eq_false, not_false_eq_true, gt_iff_lt, ge_iff_le, Int.not_lt, Int.not_le, Bool.true_eq_false, Bool.false_eq_true] <;> omega)); conv => whnf)
      | (refine sel_no ?_ ?_; (first | assumption | (simp only [beq_iff_eq, bne_iff_ne, beq_eq_false_iff_ne, bne_eq_false_iff_eq, decide_eq_true_eq, decide_eq_false_iff_not, Bool.not_eq_true', Bool.not_eq_false', ne_eq, beq_true, beq_false, bne_self_eq_false, not_true_eq_false, not_false_eq_true, gt_iff_lt, ge_iff_le, Int.not_lt, Int.not_le, Bool.true_eq_false, Bool.false_eq_true] <;> omega)); conv => whnf)
      | (refine ⟨_, hI, ?_⟩; conv => whnf)
      | (refine ⟨_, hK, ?_⟩; conv => whnf)
      | (refine ⟨le_rfl' ?_, ?_⟩; rfl; conv => whnf)
      | (refine ⟨⟨?_, ?_⟩, ?_⟩; omega; omega; conv => whnf)
      | (refine ⟨⟨?_, ?_, ?_⟩, ?_⟩; rfl; omega; omega; conv => whnf)
      | (refine ⟨rfl, ?_, ?_⟩; decide; conv => whnf))
    try exact rfl
    have q1 : ((keyF v.f3 s).1 + 2) ≤ v.f3.length := (by omega)
    have q2 : 0 + (keyF v.f3 s).1 + (v.f3.length - ((keyF v.f3 s).1 + 2)) ≤ 1048576 := by omega
    have q3 : 0 + (keyF v.f3 s).1 ≤ 1048576 := by omega
    refine ⟨_, slTo tsV szV rfl hb0, ?_⟩
    conv => whnf
    refine ⟨rfl, ?_⟩
    conv => whnf
    refine ⟨⟨rfl, (show (4 : Nat) ≠ 0 by decide)⟩, ?_⟩
    refine grcApp (cs := []) (cap := some 0) (xs := encL (v.f3.take (keyF v.f3 s).1)) ?_ (.inr ⟨rfl, rfl⟩) ?_ rfl (encL_tk hb0) (encC _) q3 (Nat.add_lt_add_left (by decide) _) (fun b1 v1 a1 cap1 c1 c2 k1 => ?_)
    · rfl
    · exact Nat.lt_of_lt_of_le (Nat.lt_succ_self _) (by (conv => lhs; whnf); (repeat ((conv => rhs; whnf); first | with_reducible exact Nat.le_refl _ | refine Nat.le_trans ?_ (Nat.le_add_right _ _) | refine Nat.le_succ_of_le ?_ | exact Nat.le_refl _)))
    conv => whnf
    refine ⟨_, slFrom tsV szV e1 q1, ?_⟩
    conv => whnf
    refine ⟨rfl, ?_⟩
    conv => whnf
    refine ⟨⟨rfl, (show (4 : Nat) ≠ 0 by decide)⟩, ?_⟩
    refine grcApp (xs := encL (v.f3.drop ((keyF v.f3 s).1 + 2))) k1 c2 ?_ (encL_tk0 hb0) (encL_dp _ _) (encC _) q2 (Nat.add_lt_add_left (by decide) _) (fun b2 v2 a2 cap2 c3 c4 k2 => ?_)
    · exact c1
    conv => whnf
    exact FinRowT (k1 := .i64) (k2 := .i64) rfl k2 (by rw [List.nil_append, List.length_append, encL_tk hb0, encL_dp, ← Nat.add_mul, Nat.zero_add]) (cold2 _ _) (by rw [eR]; exact hres hb0)
  obtain ⟨r, h, rfl⟩ := key
  exact h
theorem rwoS (hn : Non ext) (v s : T) (hv : Good v) (hs : Good s) (h5 : v.f0 = 5) {j : Nat} (hj : linM v.f3 s 0 = some j) : (cfg ext).Ev 49 [A v, .sl false (encL [s]) 1] (optV (some ⟨v.f0, 0, ⟨#[]⟩, remF v s⟩)) := by
  have hlen := (OK.row (okB_iff.1 hv.ok)).1
  obtain ⟨_, x, hx, _⟩ := linM_some s v.f3 0 j hj
  have hb : j < v.f3.length := (List.getElem?_eq_some_iff.1 hx).1
  have eR : remF v s = v.f3.take j ++ v.f3.drop (j + 1) := by
    unfold remF; rw [if_neg (by omega), if_neg (by omega), hj]
  have hI := rindex (ext := ext) hn v s
  rw [if_neg (by omega)] at hI
  have hM := rmem5 hn v s (by omega) hv.row.wfl h5
  rw [hj] at hM
  have g1 : (v.f0 == 6) = false := by simp [h5]
  have g2 : (v.f0 == 5) = true := by simp [h5]
  have e1 : IntKind.i64.wrap ((j : Int) + 1) = ((j + 1 : Nat) : Int) := wrapN (by omega) (by omega)
  have hres : ∀ {i j : Nat}, i ≤ v.f3.length → V.tup [.agg [.int .i64 v.f0, .int .i64 0, .str ⟨#[]⟩, .sl false ([] ++ encL (v.f3.take i) ++ encL (v.f3.drop j)) (0 + i + (v.f3.length - j))], .bool true] = optV (some ⟨v.f0, 0, ⟨#[]⟩, v.f3.take i ++ v.f3.drop j⟩) := fun {i j} hi => by
    show _ = V.tup [.agg [.int .i64 v.f0, .int .i64 0, .str ⟨#[]⟩, .sl false (encL (v.f3.take i ++ v.f3.drop j)) (v.f3.take i ++ v.f3.drop j).length], .bool true]
    rw [encL_app, List.nil_append, List.length_append, List.length_take, List.length_drop, Nat.min_eq_left hi, Nat.zero_add]
  have key : ∃ r, (cfg ext).Ev 49 [A v, .sl false (encL [s]) 1] r ∧ r = optV (some ⟨v.f0, 0, ⟨#[]⟩, remF v s⟩) := by
    refine Ev.ofF (hn 49 (by decide) (by decide)) Tryd.func49 rfl rfl ?_
    conv => whnf
    refine ⟨by decide, ?_⟩
    conv => whnf
    refine ld00 ?_
    conv => whnf
    repeat (first
      | (refine sel_yes ?_ ?_; (first | assumption | (simp only [beq_iff_eq, bne_iff_ne, beq_eq_false_iff_ne, bne_eq_false_iff_eq, decide_eq_true_eq, decide_eq_false_iff_not, Bool.not_eq_true', Bool.not_eq_false', ne_eq, beq_true, beq_false, bne_self_eq_false, not_true_eq_false, not_false_eq_true, gt_iff_lt, ge_iff_le, Int.not_lt, Int.not_le, Bool.true_eq_false, Bool.false_eq_true] <;> omega)); conv => whnf)
      | (refine sel_no ?_ ?_; (first | assumption | (simp only [beq_iff_eq, bne_iff_ne, beq_eq_false_iff_ne, bne_eq_false_iff_eq, decide_eq_true_eq, decide_eq_false_iff_not, Bool.not_eq_true', Bool.not_eq_false', ne_eq, beq_true, beq_false, bne_self_eq_false, not_true_eq_false, not_false_eq_true, gt_iff_lt, ge_iff_le, Int.not_lt, Int.not_le, Bool.true_eq_false, Bool.false_eq_true] <;> omega)); conv => whnf)
      | (refine ⟨_, hI, ?_⟩; conv => whnf)
      | (refine ⟨_, hM, ?_⟩; conv => whnf)
      | (refine ⟨le_rfl' ?_, ?_⟩; rfl; conv => whnf)
      | (refine ⟨⟨?_, ?_⟩, ?_⟩; omega; omega; conv => whnf)
      | (refine ⟨⟨?_, ?_, ?_⟩, ?_⟩; rfl; omega; omega; conv => whnf)
      | (refine ⟨rfl, ?_, ?_⟩; decide; conv => whnf))
    try exact rfl
    have q1 : (j + 1) ≤ v.f3.length := (by omega)
    have q2 : 0 + j + (v.f3.length - (j + 1)) ≤ 1048576 := by omega
    have q3 : 0 + j ≤ 1048576 := by omega
    refine ⟨_, slTo tsV szV rfl (Nat.le_of_lt hb), ?_⟩
    conv => whnf
    refine ⟨rfl, ?_⟩
    conv => whnf
    refine ⟨⟨rfl, (show (4 : Nat) ≠ 0 by decide)⟩, ?_⟩
    refine grcApp (cs := []) (cap := some 0) (xs := encL (v.f3.take j)) ?_ (.inr ⟨rfl, rfl⟩) ?_ rfl (encL_tk (Nat.le_of_lt hb)) (encC _) q3 (Nat.add_lt_add_left (by decide) _) (fun b1 v1 a1 cap1 c1 c2 k1 => ?_)
    · rfl
    · exact Nat.lt_of_lt_of_le (Nat.lt_succ_self _) (by (conv => lhs; whnf); (repeat ((conv => rhs; whnf); first | with_reducible exact Nat.le_refl _ | refine Nat.le_trans ?_ (Nat.le_add_right _ _) | refine Nat.le_succ_of_le ?_ | exact Nat.le_refl _)))
    conv => whnf
    refine ⟨_, slFrom tsV szV e1 q1, ?_⟩
    conv => whnf
    refine ⟨rfl, ?_⟩
    conv => whnf
    refine ⟨⟨rfl, (show (4 : Nat) ≠ 0 by decide)⟩, ?_⟩
    refine grcApp (xs := encL (v.f3.drop (j + 1))) k1 c2 ?_ (encL_tk0 (Nat.le_of_lt hb)) (encL_dp _ _) (encC _) q2 (Nat.add_lt_add_left (by decide) _) (fun b2 v2 a2 cap2 c3 c4 k2 => ?_)
    · exact c1
    conv => whnf
    exact FinRowT (k1 := .i64) (k2 := .i64) rfl k2 (by rw [List.nil_append, List.length_append, encL_tk (Nat.le_of_lt hb), encL_dp, ← Nat.add_mul, Nat.zero_add]) (cold2 _ _) (by rw [eR]; exact hres (Nat.le_of_lt hb))
  obtain ⟨r, h, rfl⟩ := key
  exact h
end
end Go.Proofs.YtjfjagnnefmepaaDoor.AB
end

section
set_option linter.unusedVariables false
set_option linter.unusedSimpArgs false
open Go Go.Ab Go.Proofs Go.Vl Go.RowKit
namespace Go.Proofs.YtjfjagnnefmepaaDoor.AB
set_option maxRecDepth 100000
set_option maxHeartbeats 8000000
set_option linter.unusedSimpArgs false
set_option linter.unusedVariables false
theorem slOne1 {P : Program} {t e : Nat} {s : T} {p : List T} (ht : tslice P t = some e) (h4 : tsize P e = 4) : sliceV P t (.sl false (encL (s :: p)) (s :: p).length) none (some (.int .i64 1)) none = some (.sl false (encL [s]) 1) := by
  have := slTo (P := P) (l := s :: p) (k := .i64) (x := 1) (i := 1) ht h4 rfl (by simp only [List.length_cons]; omega)
  exact this
section
variable {ext : Exts}
theorem rwo1 (hn : Non ext) (v s w : T) (hv : Good v) (hs : Good s) (hx : partF v s = some w) : (cfg ext).Ev 49 [A v, .sl false (encL [s]) 1] (optV (some ⟨v.f0, 0, ⟨#[]⟩, remF v s⟩)) := by
  unfold partF at hx
  split at hx
  · rename_i h6
    split at hx
    · rename_i hk2; exact rwoK hn v s hv hs h6 hk2
    · cases hx
  · split at hx
    · rename_i h4
      split at hx
      · rename_i i hi; exact rwoL hn v s hv hs h4 hi
      · cases hx
    · split at hx
      · rename_i h5
        split at hx
        · rename_i ha
          rw [← linM_any s v.f3 0, Option.isSome_iff_exists] at ha
          obtain ⟨j, hj⟩ := ha
          exact rwoS hn v s hv hs h5 hj
        · cases hx
      · cases hx
theorem rwoN0 (hn : Non ext) (v s : T) (p : List T) (hp : p ≠ []) (h5 : v.f0 = 5) : (cfg ext).Ev 49 [A v, .sl false (encL (s :: p)) (s :: p).length] (optV none) := by
  have hl : 1 < (s :: p).length := by have := List.length_pos_iff.2 hp; simp only [List.length_cons]; omega
  have g0 : decide (((s :: p).length : Int) > 1) = true := decide_eq_true (by omega)
  have g1 : (v.f0 == 5) = true := by simp [h5]
  have key : ∃ r, (cfg ext).Ev 49 [A v, .sl false (encL (s :: p)) (s :: p).length] r ∧ r = optV none := by
    refine Ev.ofE (hn 49 (by decide) (by decide)) Tryd.func49 rfl rfl ?_
    conv => whnf
    refine ⟨bnd0, ?_⟩
    conv => whnf
    refine ld0 ?_
    conv => whnf
    refine sel_yes g0 ?_
    conv => whnf
    refine sel_yes g1 ?_
    conv => whnf
    rfl
  obtain ⟨r, h, rfl⟩ := key
  exact h
theorem rwoN (hn : Non ext) (v s u : T) (o : Option T) (q : Option T) (p : List T) (hv : Good v) (hs : Good s) (hp : p ≠ []) (h5 : v.f0 ≠ 5) (hx : partF v s = some u)
    (hE : (cfg ext).Ev 49 [A u, .sl false (encL p) p.length] (optV o)) (hP : ∀ w, o = some w → (cfg ext).Ev 33 [A v, .sl false (encL [s]) 1, A w] (optV q)) (hq : o = none → q = none) : (cfg ext).Ev 49 [A v, .sl false (encL (s :: p)) (s :: p).length] (optV q) := by
  have hl : 1 < (s :: p).length := by have := List.length_pos_iff.2 hp; simp only [List.length_cons]; omega
  have g0 : decide (((s :: p).length : Int) > 1) = true := decide_eq_true (by omega)
  have g1 : (v.f0 == 5) = false := by simp [h5]
  have hA := rpart hn v s hv hs
  rw [hx] at hA
  have key : ∃ r, (cfg ext).Ev 49 [A v, .sl false (encL (s :: p)) (s :: p).length] r ∧ r = optV q := by
    refine Ev.ofE (hn 49 (by decide) (by decide)) Tryd.func49 rfl rfl ?_
    cases o with
    | none =>
      rw [hq rfl]
      conv => whnf
      refine ⟨bnd0, ?_⟩
      conv => whnf
      refine ld0 ?_
      conv => whnf
      refine sel_yes g0 ?_
      conv => whnf
      refine sel_no g1 ?_
      conv => whnf
      refine ⟨_, hA, ?_⟩
      conv => whnf
      refine ⟨_, slRest tsV szV, ?_⟩
      conv => whnf
      refine ⟨_, hE, ?_⟩
      conv => whnf
      rfl
    | some w =>
      have hP' := hP w rfl
      rw [optV_eq] at hP'
      conv => whnf
      refine ⟨bnd0, ?_⟩
      conv => whnf
      refine ld0 ?_
      conv => whnf
      refine sel_yes g0 ?_
      conv => whnf
      refine sel_no g1 ?_
      conv => whnf
      refine ⟨_, hA, ?_⟩
      conv => whnf
      refine ⟨_, slRest tsV szV, ?_⟩
      conv => whnf
      refine ⟨_, hE, ?_⟩
      conv => whnf
      refine ⟨_, slOne1 tsV szV, ?_⟩
      conv => whnf
      refine ⟨_, hP', ?_⟩
      conv => whnf
      exact (optV_eq q).symm
  obtain ⟨r, h, rfl⟩ := key
  exact h
theorem rwo (hn : Non ext) : ∀ (p : List T) (v x : T), Good v → (∀ s ∈ p, Good s) → p ≠ [] → atF v p = some x → (cfg ext).Ev 49 [A v, .sl false (encL p) p.length] (optV (withoutF v p))
  | [], v, x, hv, hp, hnil, ha => absurd rfl hnil
  | s :: p, v, x, hv, hp, _, ha => by
    have hs : Good s := hp s (by simp)
    have hp' : ∀ s' ∈ p, Good s' := fun s' h => hp s' (by simp [h])
    unfold atF at ha
    cases hx : partF v s with
    | none => rw [hx] at ha; cases ha
    | some u =>
      rw [hx] at ha
      simp only at ha
      by_cases hnil : p = []
      · subst hnil
        have e : withoutF v [s] = some ⟨v.f0, 0, ⟨#[]⟩, remF v s⟩ := by unfold withoutF; rw [if_pos rfl]
        rw [e]
        exact rwo1 hn v s u hv hs hx
      · by_cases h5 : v.f0 = 5
        · have e : withoutF v (s :: p) = none := by unfold withoutF; rw [if_neg hnil, if_pos h5]
          rw [e]
          exact rwoN0 hn v s p hnil h5
        · have e : withoutF v (s :: p) = match withoutF u p with | some w => putF v [s] w | none => none := by
            conv => lhs; unfold withoutF
            rw [if_neg hnil, if_neg h5, hx]; rfl
          have hE := rwo hn p u x (part_good hv hs hx) hp' hnil ha
          refine rwoN hn v s u (withoutF u p) _ p hv hs hnil h5 hx hE (fun w hw => ?_) (fun h => by rw [e, h])
          rw [e, hw]
          exact rput hn w [s] v hv (fun s' h => by rw [List.mem_singleton.1 h]; exact hs)
theorem rGetZ (hn : Non ext) (v : T) (p : List T) (hv : WfV v) (hp : ∀ s ∈ p, WfV s) (hl : p.length ≤ 9223372036854775807) : (cfg ext).Ev 22 [A v, .sl false (encL p) p.length] (getZ v p) := by
  have h1 := rright hn v hv
  have h2 := rFit hn p hl hp
  have key : ∃ r, (cfg ext).Ev 22 [A v, .sl false (encL p) p.length] r ∧ r = getZ v p := by
    refine Ev.ofE (hn 22 (by decide) (by decide)) Tryd.func22 rfl rfl ?_
    unfold getZ
    cases hk : okB v with
    | true =>
      rw [hk] at h1
      rw [if_pos rfl]
      by_cases ha : askZ p = 0
      · rw [if_pos ha]
        rw [ha] at h2
        have gp : ∀ s ∈ p, Good s := fun s hs => ⟨hp s hs, (ask0 ha).2 s hs⟩
        have h3 := rAt hn v ⟨hv, hk⟩ p (by have := (ask0 ha).1; omega) gp
        rw [optV_eq] at h3
        conv => whnf
        repeat (first
          | (refine sel_yes ?_ ?_; (first | assumption | (simp only [beq_iff_eq, bne_iff_ne, beq_eq_false_iff_ne, bne_eq_false_iff_eq, decide_eq_true_eq, decide_eq_false_iff_not, Bool.not_eq_true', Bool.not_eq_false', ne_eq, beq_true, beq_false, bne_self_eq_false, not_true_eq_false, not_false_eq_true, gt_iff_lt, ge_iff_le, Int.not_lt, Int.not_le, Bool.true_eq_false, Bool.false_eq_true] <;> omega)); conv => whnf)
          | (refine sel_no ?_ ?_; (first | assumption | (simp only [beq_iff_eq, bne_iff_ne, beq_eq_false_iff_ne, bne_eq_false_iff_eq, decide_eq_true_eq, decide_eq_false_iff_not, Bool.not_eq_true', Bool.not_eq_false', ne_eq, beq_true, beq_false, bne_self_eq_false, not_true_eq_false, not_false_eq_true, gt_iff_lt, ge_iff_le, Int.not_lt, Int.not_le, Bool.true_eq_false, Bool.false_eq_true] <;> omega)); conv => whnf)
          | (refine ⟨_, h1, ?_⟩; conv => whnf)
          | (refine ⟨_, h2, ?_⟩; conv => whnf)
          | (refine ⟨_, h3, ?_⟩; conv => whnf)
          | (refine ⟨le_rfl' ?_, ?_⟩; rfl; conv => whnf)
          | (refine ⟨⟨?_, ?_⟩, ?_⟩; omega; omega; conv => whnf)
          | (refine ⟨⟨?_, ?_, ?_⟩, ?_⟩; rfl; omega; omega; conv => whnf)
          | (refine ⟨rfl, ?_, ?_⟩; decide; conv => whnf))
        try exact rfl
      · rw [if_neg ha]
        rcases askn ha with e | e
        all_goals rw [e] at h2 ⊢
        · conv => whnf
          repeat (first
            | (refine sel_yes ?_ ?_; (first | assumption | (simp only [beq_iff_eq, bne_iff_ne, beq_eq_false_iff_ne, bne_eq_false_iff_eq, decide_eq_true_eq, decide_eq_false_iff_not, Bool.not_eq_true', Bool.not_eq_false', ne_eq, beq_true, beq_false, bne_self_eq_false, not_true_eq_false, not_false_eq_true, gt_iff_lt, ge_iff_le, Int.not_lt, Int.not_le, Bool.true_eq_false, Bool.false_eq_true] <;> omega)); conv => whnf)
            | (refine sel_no ?_ ?_; (first | assumption | (simp only [beq_iff_eq, bne_iff_ne, beq_eq_false_iff_ne, bne_eq_false_iff_eq, decide_eq_true_eq, decide_eq_false_iff_not, Bool.not_eq_true', Bool.not_eq_false', ne_eq, beq_true, beq_false, bne_self_eq_false, not_true_eq_false, not_false_eq_true, gt_iff_lt, ge_iff_le, Int.not_lt, Int.not_le, Bool.true_eq_false, Bool.false_eq_true] <;> omega)); conv => whnf)
            | (refine ⟨_, h1, ?_⟩; conv => whnf)
            | (refine ⟨_, h2, ?_⟩; conv => whnf)
            | (refine ⟨le_rfl' ?_, ?_⟩; rfl; conv => whnf)
            | (refine ⟨⟨?_, ?_⟩, ?_⟩; omega; omega; conv => whnf)
            | (refine ⟨⟨?_, ?_, ?_⟩, ?_⟩; rfl; omega; omega; conv => whnf)
            | (refine ⟨rfl, ?_, ?_⟩; decide; conv => whnf))
          try exact rfl
        · conv => whnf
          repeat (first
            | (refine sel_yes ?_ ?_; (first | assumption | (simp only [beq_iff_eq, bne_iff_ne, beq_eq_false_iff_ne, bne_eq_false_iff_eq, decide_eq_true_eq, decide_eq_false_iff_not, Bool.not_eq_true', Bool.not_eq_false', ne_eq, beq_true, beq_false, bne_self_eq_false, not_true_eq_false, not_false_eq_true, gt_iff_lt, ge_iff_le, Int.not_lt, Int.not_le, Bool.true_eq_false, Bool.false_eq_true] <;> omega)); conv => whnf)
            | (refine sel_no ?_ ?_; (first | assumption | (simp only [beq_iff_eq, bne_iff_ne, beq_eq_false_iff_ne, bne_eq_false_iff_eq, decide_eq_true_eq, decide_eq_false_iff_not, Bool.not_eq_true', Bool.not_eq_false', ne_eq, beq_true, beq_false, bne_self_eq_false, not_true_eq_false, not_false_eq_true, gt_iff_lt, ge_iff_le, Int.not_lt, Int.not_le, Bool.true_eq_false, Bool.false_eq_true] <;> omega)); conv => whnf)
            | (refine ⟨_, h1, ?_⟩; conv => whnf)
            | (refine ⟨_, h2, ?_⟩; conv => whnf)
            | (refine ⟨le_rfl' ?_, ?_⟩; rfl; conv => whnf)
            | (refine ⟨⟨?_, ?_⟩, ?_⟩; omega; omega; conv => whnf)
            | (refine ⟨⟨?_, ?_, ?_⟩, ?_⟩; rfl; omega; omega; conv => whnf)
            | (refine ⟨rfl, ?_, ?_⟩; decide; conv => whnf))
          try exact rfl
    | false =>
      rw [hk] at h1
      conv => whnf
      repeat (first
        | (refine sel_yes ?_ ?_; (first | assumption | (simp only [beq_iff_eq, bne_iff_ne, beq_eq_false_iff_ne, bne_eq_false_iff_eq, decide_eq_true_eq, decide_eq_false_iff_not, Bool.not_eq_true', Bool.not_eq_false', ne_eq, beq_true, beq_false, bne_self_eq_false, not_true_eq_false, not_false_eq_true, gt_iff_lt, ge_iff_le, Int.not_lt, Int.not_le, Bool.true_eq_false, Bool.false_eq_true] <;> omega)); conv => whnf)
        | (refine sel_no ?_ ?_; (first | assumption | (simp only [beq_iff_eq, bne_iff_ne, beq_eq_false_iff_ne, bne_eq_false_iff_eq, decide_eq_true_eq, decide_eq_false_iff_not, Bool.not_eq_true', Bool.not_eq_false', ne_eq, beq_true, beq_false, bne_self_eq_false, not_true_eq_false, not_false_eq_true, gt_iff_lt, ge_iff_le, Int.not_lt, Int.not_le, Bool.true_eq_false, Bool.false_eq_true] <;> omega)); conv => whnf)
        | (refine ⟨_, h1, ?_⟩; conv => whnf)
        | (refine ⟨le_rfl' ?_, ?_⟩; rfl; conv => whnf)
        | (refine ⟨⟨?_, ?_⟩, ?_⟩; omega; omega; conv => whnf)
        | (refine ⟨⟨?_, ?_, ?_⟩, ?_⟩; rfl; omega; omega; conv => whnf)
        | (refine ⟨rfl, ?_, ?_⟩; decide; conv => whnf))
      try exact rfl
  obtain ⟨r, h, rfl⟩ := key
  exact h
theorem rDrop (hn : Non ext) (v : T) (p : List T) (hv : WfV v) (hp : ∀ s ∈ p, WfV s) (hl : p.length ≤ 9223372036854775807) : (cfg ext).Ev 24 [A v, .sl false (encL p) p.length] (dropZ v p) := by
  have h1 := rright hn v hv
  have h2 := rFit hn p hl hp
  have key : ∃ r, (cfg ext).Ev 24 [A v, .sl false (encL p) p.length] r ∧ r = dropZ v p := by
    refine Ev.ofE (hn 24 (by decide) (by decide)) Tryd.func24 rfl rfl ?_
    unfold dropZ
    cases hk : okB v with
    | true =>
      rw [hk] at h1
      rw [if_pos rfl]
      by_cases ha : askZ p = 0
      · rw [if_pos ha]
        rw [ha] at h2
        have gv : Good v := ⟨hv, hk⟩
        have gp : ∀ s ∈ p, Good s := fun s hs => ⟨hp s hs, (ask0 ha).2 s hs⟩
        have h3 := rAt hn v gv p (by have := (ask0 ha).1; omega) gp
        rw [optV_eq] at h3
        by_cases hnil : p = []
        · rw [if_pos hnil]
          have g0 : ((p.length : Int) == 0) = true := by rw [hnil]; rfl
          conv => whnf
          repeat (first
            | (refine sel_yes ?_ ?_; (first | assumption | (simp only [beq_iff_eq, bne_iff_ne, beq_eq_false_iff_ne, bne_eq_false_iff_eq, decide_eq_true_eq, decide_eq_false_iff_not, Bool.not_eq_true', Bool.not_eq_false', ne_eq, beq_true, beq_false, bne_self_eq_false, not_true_eq_false, not_false_eq_true, gt_iff_lt, ge_iff_le, Int.not_lt, Int.not_le, Bool.true_eq_false, Bool.false_eq_true] <;> omega)); conv => whnf)
            | (refine sel_no ?_ ?_; (first | assumption | (simp only [beq_iff_eq, bne_iff_ne, beq_eq_false_iff_ne, bne_eq_false_iff_eq, decide_eq_true_eq, decide_eq_false_iff_not, Bool.not_eq_true', Bool.not_eq_false', ne_eq, beq_true, beq_false, bne_self_eq_false, not_true_eq_false, not_false_eq_true, gt_iff_lt, ge_iff_le, Int.not_lt, Int.not_le, Bool.true_eq_false, Bool.false_eq_true] <;> omega)); conv => whnf)
            | (refine ⟨_, h1, ?_⟩; conv => whnf)
            | (refine ⟨_, h2, ?_⟩; conv => whnf)
            | (refine ⟨le_rfl' ?_, ?_⟩; rfl; conv => whnf)
            | (refine ⟨⟨?_, ?_⟩, ?_⟩; omega; omega; conv => whnf)
            | (refine ⟨⟨?_, ?_, ?_⟩, ?_⟩; rfl; omega; omega; conv => whnf)
            | (refine ⟨rfl, ?_, ?_⟩; decide; conv => whnf))
          try exact rfl
        · rw [if_neg hnil]
          have g0 : ((p.length : Int) == 0) = false := by
            have := List.length_pos_iff.2 hnil
            simp <;> omega
          cases hx : atF v p with
          | none =>
            rw [hx] at h3
            conv => whnf
            repeat (first
              | (refine sel_yes ?_ ?_; (first | assumption | (simp only [beq_iff_eq, bne_iff_ne, beq_eq_false_iff_ne, bne_eq_false_iff_eq, decide_eq_true_eq, decide_eq_false_iff_not, Bool.not_eq_true', Bool.not_eq_false', ne_eq, beq_true, beq_false, bne_self_eq_false, not_true_eq_false, not_false_eq_true, gt_iff_lt, ge_iff_le, Int.not_lt, Int.not_le, Bool.true_eq_false, Bool.false_eq_true] <;> omega)); conv => whnf)
              | (refine sel_no ?_ ?_; (first | assumption | (simp only [beq_iff_eq, bne_iff_ne, beq_eq_false_iff_ne, bne_eq_false_iff_eq, decide_eq_true_eq, decide_eq_false_iff_not, Bool.not_eq_true', Bool.not_eq_false', ne_eq, beq_true, beq_false, bne_self_eq_false, not_true_eq_false, not_false_eq_true, gt_iff_lt, ge_iff_le, Int.not_lt, Int.not_le, Bool.true_eq_false, Bool.false_eq_true] <;> omega)); conv => whnf)
              | (refine ⟨_, h1, ?_⟩; conv => whnf)
              | (refine ⟨_, h2, ?_⟩; conv => whnf)
              | (refine ⟨_, h3, ?_⟩; conv => whnf)
              | (refine ⟨le_rfl' ?_, ?_⟩; rfl; conv => whnf)
              | (refine ⟨⟨?_, ?_⟩, ?_⟩; omega; omega; conv => whnf)
              | (refine ⟨⟨?_, ?_, ?_⟩, ?_⟩; rfl; omega; omega; conv => whnf)
              | (refine ⟨rfl, ?_, ?_⟩; decide; conv => whnf))
            try exact rfl
          | some x =>
            rw [hx] at h3
            have h4 := rwo hn p v x gv gp hnil hx
            rw [optV_eq] at h4
            have h5 := rdone hn (withoutF v p) (fun w hw => without_wf p v x w gv gp hx hw)
            obtain ⟨u, e, hu⟩ := doneZ_tup (withoutF v p)
            rw [hu] at h5
            rw [if_pos (show (some x).isSome = true from rfl), hu]
            conv => whnf
            repeat (first
              | (refine sel_yes ?_ ?_; (first | assumption | (simp only [beq_iff_eq, bne_iff_ne, beq_eq_false_iff_ne, bne_eq_false_iff_eq, decide_eq_true_eq, decide_eq_false_iff_not, Bool.not_eq_true', Bool.not_eq_false', ne_eq, beq_true, beq_false, bne_self_eq_false, not_true_eq_false, not_false_eq_true, gt_iff_lt, ge_iff_le, Int.not_lt, Int.not_le, Bool.true_eq_false, Bool.false_eq_true] <;> omega)); conv => whnf)
              | (refine sel_no ?_ ?_; (first | assumption | (simp only [beq_iff_eq, bne_iff_ne, beq_eq_false_iff_ne, bne_eq_false_iff_eq, decide_eq_true_eq, decide_eq_false_iff_not, Bool.not_eq_true', Bool.not_eq_false', ne_eq, beq_true, beq_false, bne_self_eq_false, not_true_eq_false, not_false_eq_true, gt_iff_lt, ge_iff_le, Int.not_lt, Int.not_le, Bool.true_eq_false, Bool.false_eq_true] <;> omega)); conv => whnf)
              | (refine ⟨_, h1, ?_⟩; conv => whnf)
              | (refine ⟨_, h2, ?_⟩; conv => whnf)
              | (refine ⟨_, h3, ?_⟩; conv => whnf)
              | (refine ⟨_, h4, ?_⟩; conv => whnf)
              | (refine ⟨_, h5, ?_⟩; conv => whnf)
              | (refine ⟨le_rfl' ?_, ?_⟩; rfl; conv => whnf)
              | (refine ⟨⟨?_, ?_⟩, ?_⟩; omega; omega; conv => whnf)
              | (refine ⟨⟨?_, ?_, ?_⟩, ?_⟩; rfl; omega; omega; conv => whnf)
              | (refine ⟨rfl, ?_, ?_⟩; decide; conv => whnf))
            try exact rfl
      · rw [if_neg ha]
        rcases askn ha with e | e
        all_goals rw [e] at h2 ⊢
        · conv => whnf
          repeat (first
            | (refine sel_yes ?_ ?_; (first | assumption | (simp only [beq_iff_eq, bne_iff_ne, beq_eq_false_iff_ne, bne_eq_false_iff_eq, decide_eq_true_eq, decide_eq_false_iff_not, Bool.not_eq_true', Bool.not_eq_false', ne_eq, beq_true, beq_false, bne_self_eq_false, not_true_eq_false, not_false_eq_true, gt_iff_lt, ge_iff_le, Int.not_lt, Int.not_le, Bool.true_eq_false, Bool.false_eq_true] <;> omega)); conv => whnf)
            | (refine sel_no ?_ ?_; (first | assumption | (simp only [beq_iff_eq, bne_iff_ne, beq_eq_false_iff_ne, bne_eq_false_iff_eq, decide_eq_true_eq, decide_eq_false_iff_not, Bool.not_eq_true', Bool.not_eq_false', ne_eq, beq_true, beq_false, bne_self_eq_false, not_true_eq_false, not_false_eq_true, gt_iff_lt, ge_iff_le, Int.not_lt, Int.not_le, Bool.true_eq_false, Bool.false_eq_true] <;> omega)); conv => whnf)
            | (refine ⟨_, h1, ?_⟩; conv => whnf)
            | (refine ⟨_, h2, ?_⟩; conv => whnf)
            | (refine ⟨le_rfl' ?_, ?_⟩; rfl; conv => whnf)
            | (refine ⟨⟨?_, ?_⟩, ?_⟩; omega; omega; conv => whnf)
            | (refine ⟨⟨?_, ?_, ?_⟩, ?_⟩; rfl; omega; omega; conv => whnf)
            | (refine ⟨rfl, ?_, ?_⟩; decide; conv => whnf))
          try exact rfl
        · conv => whnf
          repeat (first
            | (refine sel_yes ?_ ?_; (first | assumption | (simp only [beq_iff_eq, bne_iff_ne, beq_eq_false_iff_ne, bne_eq_false_iff_eq, decide_eq_true_eq, decide_eq_false_iff_not, Bool.not_eq_true', Bool.not_eq_false', ne_eq, beq_true, beq_false, bne_self_eq_false, not_true_eq_false, not_false_eq_true, gt_iff_lt, ge_iff_le, Int.not_lt, Int.not_le, Bool.true_eq_false, Bool.false_eq_true] <;> omega)); conv => whnf)
            | (refine sel_no ?_ ?_; (first | assumption | (simp only [beq_iff_eq, bne_iff_ne, beq_eq_false_iff_ne, bne_eq_false_iff_eq, decide_eq_true_eq, decide_eq_false_iff_not, Bool.not_eq_true', Bool.not_eq_false', ne_eq, beq_true, beq_false, bne_self_eq_false, not_true_eq_false, not_false_eq_true, gt_iff_lt, ge_iff_le, Int.not_lt, Int.not_le, Bool.true_eq_false, Bool.false_eq_true] <;> omega)); conv => whnf)
            | (refine ⟨_, h1, ?_⟩; conv => whnf)
            | (refine ⟨_, h2, ?_⟩; conv => whnf)
            | (refine ⟨le_rfl' ?_, ?_⟩; rfl; conv => whnf)
            | (refine ⟨⟨?_, ?_⟩, ?_⟩; omega; omega; conv => whnf)
            | (refine ⟨⟨?_, ?_, ?_⟩, ?_⟩; rfl; omega; omega; conv => whnf)
            | (refine ⟨rfl, ?_, ?_⟩; decide; conv => whnf))
          try exact rfl
    | false =>
      rw [hk] at h1
      conv => whnf
      repeat (first
        | (refine sel_yes ?_ ?_; (first | assumption | (simp only [beq_iff_eq, bne_iff_ne, beq_eq_false_iff_ne, bne_eq_false_iff_eq, decide_eq_true_eq, decide_eq_false_iff_not, Bool.not_eq_true', Bool.not_eq_false', ne_eq, beq_true, beq_false, bne_self_eq_false, not_true_eq_false, not_false_eq_true, gt_iff_lt, ge_iff_le, Int.not_lt, Int.not_le, Bool.true_eq_false, Bool.false_eq_true] <;> omega)); conv => whnf)
        | (refine sel_no ?_ ?_; (first | assumption | (simp only [beq_iff_eq, bne_iff_ne, beq_eq_false_iff_ne, bne_eq_false_iff_eq, decide_eq_true_eq, decide_eq_false_iff_not, Bool.not_eq_true', Bool.not_eq_false', ne_eq, beq_true, beq_false, bne_self_eq_false, not_true_eq_false, not_false_eq_true, gt_iff_lt, ge_iff_le, Int.not_lt, Int.not_le, Bool.true_eq_false, Bool.false_eq_true] <;> omega)); conv => whnf)
        | (refine ⟨_, h1, ?_⟩; conv => whnf)
        | (refine ⟨le_rfl' ?_, ?_⟩; rfl; conv => whnf)
        | (refine ⟨⟨?_, ?_⟩, ?_⟩; omega; omega; conv => whnf)
        | (refine ⟨⟨?_, ?_, ?_⟩, ?_⟩; rfl; omega; omega; conv => whnf)
        | (refine ⟨rfl, ?_, ?_⟩; decide; conv => whnf))
      try exact rfl
  obtain ⟨r, h, rfl⟩ := key
  exact h
end
theorem getZ_form (v : T) (p : List T) (hv : WfV v) (hp : ∀ s ∈ p, WfV s) : ∃ (u : T) (b : Bool) (e : Int), WfV u ∧ getZ v p = .tup [A u, .bool b, .int .i64 e] := by
  unfold getZ
  split
  · rename_i hk
    split
    · rename_i ha
      refine ⟨_, _, _, ?_, rfl⟩
      cases hx : atF v p with
      | none => exact w_nil
      | some x => exact (at_good p ⟨hv, hk⟩ (fun s hs => ⟨hp s hs, (ask0 ha).2 s hs⟩) hx).wf
    · exact ⟨_, _, _, w_nil, rfl⟩
  · exact ⟨_, _, _, w_nil, rfl⟩
theorem doneZ_form {o : Option T} (h : ∀ w, o = some w → WfV w) : ∃ (u : T) (e : Int), WfV u ∧ doneZ o = .tup [A u, .int .i64 e] := by
  unfold doneZ
  cases o with
  | none => exact ⟨_, _, w_nil, rfl⟩
  | some w =>
    simp only
    split
    · exact ⟨_, _, h w rfl, rfl⟩
    · exact ⟨_, _, w_nil, rfl⟩
theorem dropZ_form (v : T) (p : List T) (hv : WfV v) (hp : ∀ s ∈ p, WfV s) : ∃ (u : T) (e : Int), WfV u ∧ dropZ v p = .tup [A u, .int .i64 e] := by
  unfold dropZ
  split
  · rename_i hk
    split
    · rename_i ha
      split
      · exact ⟨_, _, w_nil, rfl⟩
      · split
        · rename_i hs
          obtain ⟨x, hx⟩ := Option.isSome_iff_exists.1 hs
          exact doneZ_form (fun w hw => without_wf p v x w ⟨hv, hk⟩ (fun s hs => ⟨hp s hs, (ask0 ha).2 s hs⟩) hx hw)
        · exact ⟨_, _, hv, rfl⟩
    · exact ⟨_, _, w_nil, rfl⟩
  · exact ⟨_, _, w_nil, rfl⟩
theorem PathsGet_ev (v : T) (hv : WfV v) (p : List T) (hl : p.length ≤ 9223372036854775807) (hp : ∀ a ∈ p, WfV a) : (cfgU putDropT).Ev 7 [A v, .sl false (encL p) p.length] (.bool true) := by
  have h1 := up (T := putDropT) (by decide) (by decide) (tGetZ non0 e26 e73 v p hv hp hl)
  have h2 := up (T := putDropT) (by decide) (by decide) (rGetZ non0 v p hv hp hl)
  have h3 := tDrop putDrop_drop v p hv hp hl
  have h4 := up (T := putDropT) (by decide) (by decide) (rDrop non0 v p hv hp hl)
  obtain ⟨u, b, e, wu, hu⟩ := getZ_form v p hv hp
  obtain ⟨d, f, wd, hd⟩ := dropZ_form v p hv hp
  rw [hu] at h1 h2
  rw [hd] at h3 h4
  have h5 := up (T := putDropT) (by decide) (by decide) (tplain non0 u wu u)
  have h6 := up (T := putDropT) (by decide) (by decide) (tplain non0 d wd d)
  rw [eqT_self] at h5 h6
  have g1 : (b == b) = true := beq_self_eq_true b
  have g2 : (e == e) = true := beq_self_eq_true e
  have g3 : (f == f) = true := beq_self_eq_true f
  refine Ev.of (hnU (by decide)) Tryd.func7 rfl rfl ?_
  conv => whnf
  repeat (first
    | (refine sel_yes ?_ ?_; (first | assumption | (simp only [beq_iff_eq, bne_iff_ne, beq_eq_false_iff_ne, bne_eq_false_iff_eq, decide_eq_true_eq, decide_eq_false_iff_not, Bool.not_eq_true', Bool.not_eq_false', ne_eq, beq_true, beq_false, bne_self_eq_false, not_true_eq_false, not_false_eq_true, gt_iff_lt, ge_iff_le, Int.not_lt, Int.not_le, Bool.true_eq_false, Bool.false_eq_true] <;> omega)); conv => whnf)
    | (refine sel_no ?_ ?_; (first | assumption | (simp only [beq_iff_eq, bne_iff_ne, beq_eq_false_iff_ne, bne_eq_false_iff_eq, decide_eq_true_eq, decide_eq_false_iff_not, Bool.not_eq_true', Bool.not_eq_false', ne_eq, beq_true, beq_false, bne_self_eq_false, not_true_eq_false, not_false_eq_true, gt_iff_lt, ge_iff_le, Int.not_lt, Int.not_le, Bool.true_eq_false, Bool.false_eq_true] <;> omega)); conv => whnf)
    | (refine ⟨_, h1, ?_⟩; conv => whnf)
    | (refine ⟨_, h2, ?_⟩; conv => whnf)
    | (refine ⟨_, h3, ?_⟩; conv => whnf)
    | (refine ⟨_, h4, ?_⟩; conv => whnf)
    | (refine ⟨_, h5, ?_⟩; conv => whnf)
    | (refine ⟨_, h6, ?_⟩; conv => whnf)
    | (refine ⟨_, speaks26 putDrop_put, ?_⟩; conv => whnf)
    | (refine ⟨le_rfl' ?_, ?_⟩; rfl; conv => whnf)
    | (refine ⟨⟨?_, ?_⟩, ?_⟩; omega; omega; conv => whnf)
    | (refine ⟨⟨?_, ?_, ?_⟩, ?_⟩; rfl; omega; omega; conv => whnf)
    | (refine ⟨rfl, ?_, ?_⟩; decide; conv => whnf))
  try exact rfl
end Go.Proofs.YtjfjagnnefmepaaDoor.AB
end
