/- What PathsPut is proved with: what the program's functions make of their arguments, by the evaluator. -/
import Derived.Test.YtjfjagnnefmepaaDoorZPathsPutV2
section
set_option linter.unusedVariables false
set_option linter.unusedSimpArgs false
open Go Go.Ab Go.Proofs Go.Vl Go.RowKit
namespace Go.Proofs.YtjfjagnnefmepaaDoor.AB
set_option maxRecDepth 100000
set_option maxHeartbeats 8000000
set_option linter.unusedSimpArgs false
set_option linter.unusedVariables false
section
variable {ext : Exts}
theorem rFit (hn : Non ext) (p : List T) (hl : p.length ≤ 9223372036854775807) (hp : ∀ s ∈ p, WfV s) : (cfg ext).Ev 31 [.sl false (encL p) p.length] (.int .i64 (askZ p)) := by
  have h1 := rlisted hn p hl hp
  have key : ∃ r, (cfg ext).Ev 31 [.sl false (encL p) p.length] r ∧ r = .int .i64 (askZ p) := by
    refine Ev.ofE (hn 31 (by decide) (by decide)) Tryd.func31 rfl rfl ?_
    conv => whnf
    by_cases h : 16 < p.length
    · have g : decide ((p.length : Int) > 16) = true := decide_eq_true (by omega)
      repeat (first
        | (refine sel_yes ?_ ?_; (first | assumption | (simp only [beq_iff_eq, bne_iff_ne, beq_eq_false_iff_ne, bne_eq_false_iff_eq, decide_eq_true_eq, decide_eq_false_iff_not, Bool.not_eq_true', Bool.not_eq_false', ne_eq, beq_true, beq_false, bne_self_eq_false, not_true_eq_false, not_false_eq_true, gt_iff_lt, ge_iff_le, Int.not_lt, Int.not_le, Bool.true_eq_false, Bool.false_eq_true] <;> omega)); conv => whnf)
        | (refine sel_no ?_ ?_; (first | assumption | (simp only [beq_iff_eq, bne_iff_ne, beq_eq_false_iff_ne, bne_eq_false_iff_eq, decide_eq_true_eq, decide_eq_false_iff_not, Bool.not_eq_true', Bool.not_eq_false', ne_eq, beq_true, beq_false, bne_self_eq_false, not_true_eq_false, not_false_eq_true, gt_iff_lt, ge_iff_le, Int.not_lt, Int.not_le, Bool.true_eq_false, Bool.false_eq_true] <;> omega)); conv => whnf)
        | (refine ⟨le_rfl' ?_, ?_⟩; rfl; conv => whnf)
        | (refine ⟨⟨?_, ?_⟩, ?_⟩; omega; omega; conv => whnf)
        | (refine ⟨⟨?_, ?_, ?_⟩, ?_⟩; rfl; omega; omega; conv => whnf)
        | (refine ⟨rfl, ?_, ?_⟩; decide; conv => whnf))
      try exact rfl
      exact vi (by unfold askZ; rw [if_pos (by omega)])
    · have g : decide ((p.length : Int) > 16) = false := decide_eq_false (by omega)
      repeat (first
        | (refine sel_yes ?_ ?_; (first | assumption | (simp only [beq_iff_eq, bne_iff_ne, beq_eq_false_iff_ne, bne_eq_false_iff_eq, decide_eq_true_eq, decide_eq_false_iff_not, Bool.not_eq_true', Bool.not_eq_false', ne_eq, beq_true, beq_false, bne_self_eq_false, not_true_eq_false, not_false_eq_true, gt_iff_lt, ge_iff_le, Int.not_lt, Int.not_le, Bool.true_eq_false, Bool.false_eq_true] <;> omega)); conv => whnf)
        | (refine sel_no ?_ ?_; (first | assumption | (simp only [beq_iff_eq, bne_iff_ne, beq_eq_false_iff_ne, bne_eq_false_iff_eq, decide_eq_true_eq, decide_eq_false_iff_not, Bool.not_eq_true', Bool.not_eq_false', ne_eq, beq_true, beq_false, bne_self_eq_false, not_true_eq_false, not_false_eq_true, gt_iff_lt, ge_iff_le, Int.not_lt, Int.not_le, Bool.true_eq_false, Bool.false_eq_true] <;> omega)); conv => whnf)
        | (refine ⟨_, h1, ?_⟩; conv => whnf)
        | (refine ⟨le_rfl' ?_, ?_⟩; rfl; conv => whnf)
        | (refine ⟨⟨?_, ?_⟩, ?_⟩; omega; omega; conv => whnf)
        | (refine ⟨⟨?_, ?_, ?_⟩, ?_⟩; rfl; omega; omega; conv => whnf)
        | (refine ⟨rfl, ?_, ?_⟩; decide; conv => whnf))
      try exact rfl
      exact vi (by unfold askZ listedZ; rw [if_neg (show ¬ 65536 < p.length by omega), if_neg (show ¬ 16 < p.length by omega)])
  obtain ⟨r, h, rfl⟩ := key
  exact h
/-- the reference's Put -/
theorem rPut (hn : Non ext) (v x : T) (p : List T) (hv : WfV v) (hp : ∀ s ∈ p, WfV s) (hx : WfV x) (hl : p.length ≤ 9223372036854775807) : (cfg ext).Ev 10 [A v, .sl false (encL p) p.length, A x] (putAll v p x) := by
  have h1 := rright hn v hv
  have h2 := rFit hn p hl hp
  have h3 := rright hn x hx
  have key : ∃ r, (cfg ext).Ev 10 [A v, .sl false (encL p) p.length, A x] r ∧ r = putAll v p x := by
    refine Ev.ofE (hn 10 (by decide) (by decide)) Tryd.func10 rfl rfl ?_
    unfold putAll
    cases hv' : okB v with
    | false =>
      rw [hv'] at h1
      conv => whnf
      repeat (first
        | (refine sel_yes ?_ ?_; (first | assumption | (simp only [beq_iff_eq, bne_iff_ne, beq_eq_false_iff_ne, bne_eq_false_iff_eq, decide_eq_true_eq, decide_eq_false_iff_not, Bool.not_eq_true', Bool.not_eq_false', ne_eq, beq_true, beq_false, bne_self_eq_false, not_true_eq_false, not_false_eq_true, gt_iff_lt, ge_iff_le, Int.not_lt, Int.not_le, Bool.true_eq_false, Bool.false_eq_true] <;> omega)); conv => whnf)
        | (refine sel_no ?_ ?_; (first | assumption | (simp only [beq_iff_eq, bne_iff_ne, beq_eq_false_iff_ne, bne_eq_false_iff_eq, decide_eq_true_eq, decide_eq_false_iff_not, Bool.not_eq_true', Bool.not_eq_false', ne_eq, beq_true, beq_false, bne_self_eq_false, not_true_eq_false, not_false_eq_true, gt_iff_lt, ge_iff_le, Int.not_lt, Int.not_le, Bool.true_eq_false, Bool.false_eq_true] <;> omega)); conv => whnf)
        | (refine ⟨_, h1, ?_⟩; conv => whnf)
        | (refine ⟨le_rfl' ?_, ?_⟩; rfl; conv => whnf)
        | (refine ⟨⟨?_, ?_⟩, ?_⟩; omega; omega; conv => whnf)
        | (refine ⟨⟨?_, ?_, ?_⟩, ?_⟩; rfl; omega; omega; conv => whnf)
        | (refine ⟨rfl, ?_, ?_⟩; decide; conv => whnf))
      try exact rfl
    | true =>
      rw [hv'] at h1
      rw [if_pos rfl]
      by_cases ha : askZ p = 0
      · rw [ha] at h2
        rw [if_pos ha]
        cases hx' : okB x with
        | false =>
          rw [hx'] at h3
          conv => whnf
          repeat (first
            | (refine sel_yes ?_ ?_; (first | assumption | (simp only [beq_iff_eq, bne_iff_ne, beq_eq_false_iff_ne, bne_eq_false_iff_eq, decide_eq_true_eq, decide_eq_false_iff_not, Bool.not_eq_true', Bool.not_eq_false', ne_eq, beq_true, beq_false, bne_self_eq_false, not_true_eq_false, not_false_eq_true, gt_iff_lt, ge_iff_le, Int.not_lt, Int.not_le, Bool.true_eq_false, Bool.false_eq_true] <;> omega)); conv => whnf)
            | (refine sel_no ?_ ?_; (first | assumption | (simp only [beq_iff_eq, bne_iff_ne, beq_eq_false_iff_ne, bne_eq_false_iff_eq, decide_eq_true_eq, decide_eq_false_iff_not, Bool.not_eq_true', Bool.not_eq_false', ne_eq, beq_true, beq_false, bne_self_eq_false, not_true_eq_false, not_false_eq_true, gt_iff_lt, ge_iff_le, Int.not_lt, Int.not_le, Bool.true_eq_false, Bool.false_eq_true] <;> omega)); conv => whnf)
            | (refine ⟨_, h1, ?_⟩; conv => whnf)
            | (refine ⟨_, h2, ?_⟩; conv => whnf)
            | (refine ⟨_, h3, ?_⟩; conv => whnf)
            | (refine ⟨le_rfl' ?_, ?_⟩; rfl; conv => whnf)
            | (refine ⟨⟨?_, ?_⟩, ?_⟩; omega; omega; conv => whnf)
            | (refine ⟨⟨?_, ?_, ?_⟩, ?_⟩; rfl; omega; omega; conv => whnf)
            | (refine ⟨rfl, ?_, ?_⟩; decide; conv => whnf))
          try exact rfl
        | true =>
          rw [hx'] at h3
          have gp : ∀ s ∈ p, Good s := fun s hs => ⟨hp s hs, (ask0 ha).2 s hs⟩
          have h4 := rput hn x p v ⟨hv, hv'⟩ gp
          rw [optV_eq] at h4
          have h5 := rdone hn (putF v p x) (fun w hw => put_wf p v x w ⟨hv, hv'⟩ gp hx hw)
          rw [if_pos rfl, show putRes v p x = doneZ (putF v p x) from rfl]
          cases ho : putF v p x with
          | none =>
            rw [ho] at h4 h5
            conv => whnf
            repeat (first
              | (refine sel_yes ?_ ?_; (first | assumption | (simp only [beq_iff_eq, bne_iff_ne, beq_eq_false_iff_ne, bne_eq_false_iff_eq, decide_eq_true_eq, decide_eq_false_iff_not, Bool.not_eq_true', Bool.not_eq_false', ne_eq, beq_true, beq_false, bne_self_eq_false, not_true_eq_false, not_false_eq_true, gt_iff_lt, ge_iff_le, Int.not_lt, Int.not_le, Bool.true_eq_false, Bool.false_eq_true] <;> omega)); conv => whnf)
              | (refine sel_no ?_ ?_; (first | assumption | (simp only [beq_iff_eq, bne_iff_ne, beq_eq_false_iff_ne, bne_eq_false_iff_eq, decide_eq_true_eq, decide_eq_false_iff_not, Bool.not_eq_true', Bool.not_eq_false', ne_eq, beq_true, beq_false, bne_self_eq_false, not_true_eq_false, not_false_eq_true, gt_iff_lt, ge_iff_le, Int.not_lt, Int.not_le, Bool.true_eq_false, Bool.false_eq_true] <;> omega)); conv => whnf)
              | (refine ⟨_, h1, ?_⟩; conv => whnf)
              | (refine ⟨_, h2, ?_⟩; conv => whnf)
              | (refine ⟨_, h3, ?_⟩; conv => whnf)
              | (refine ⟨_, h4, ?_⟩; conv => whnf)
              | (refine ⟨_, h5, ?_⟩; conv => whnf)
              | (refine ⟨le_rfl' ?_, ?_⟩; rfl; conv => whnf)
              | (refine ⟨⟨?_, ?_⟩, ?_⟩; omega; omega; conv => whnf)
              | (refine ⟨⟨?_, ?_, ?_⟩, ?_⟩; rfl; omega; omega; conv => whnf)
              | (refine ⟨rfl, ?_, ?_⟩; decide; conv => whnf))
            try exact rfl
          | some w =>
            rw [ho] at h4 h5
            unfold doneZ at h5 ⊢
            simp only at h5 ⊢
            cases hk : okB w with
            | true =>
              rw [hk] at h5
              conv => whnf
              repeat (first
                | (refine sel_yes ?_ ?_; (first | assumption | (simp only [beq_iff_eq, bne_iff_ne, beq_eq_false_iff_ne, bne_eq_false_iff_eq, decide_eq_true_eq, decide_eq_false_iff_not, Bool.not_eq_true', Bool.not_eq_false', ne_eq, beq_true, beq_false, bne_self_eq_false, not_true_eq_false, not_false_eq_true, gt_iff_lt, ge_iff_le, Int.not_lt, Int.not_le, Bool.true_eq_false, Bool.false_eq_true] <;> omega)); conv => whnf)
                | (refine sel_no ?_ ?_; (first | assumption | (simp only [beq_iff_eq, bne_iff_ne, beq_eq_false_iff_ne, bne_eq_false_iff_eq, decide_eq_true_eq, decide_eq_false_iff_not, Bool.not_eq_true', Bool.not_eq_false', ne_eq, beq_true, beq_false, bne_self_eq_false, not_true_eq_false, not_false_eq_true, gt_iff_lt, ge_iff_le, Int.not_lt, Int.not_le, Bool.true_eq_false, Bool.false_eq_true] <;> omega)); conv => whnf)
                | (refine ⟨_, h1, ?_⟩; conv => whnf)
                | (refine ⟨_, h2, ?_⟩; conv => whnf)
                | (refine ⟨_, h3, ?_⟩; conv => whnf)
                | (refine ⟨_, h4, ?_⟩; conv => whnf)
                | (refine ⟨_, h5, ?_⟩; conv => whnf)
                | (refine ⟨le_rfl' ?_, ?_⟩; rfl; conv => whnf)
                | (refine ⟨⟨?_, ?_⟩, ?_⟩; omega; omega; conv => whnf)
                | (refine ⟨⟨?_, ?_, ?_⟩, ?_⟩; rfl; omega; omega; conv => whnf)
                | (refine ⟨rfl, ?_, ?_⟩; decide; conv => whnf))
              try exact rfl
            | false =>
              rw [hk] at h5
              conv => whnf
              repeat (first
                | (refine sel_yes ?_ ?_; (first | assumption | (simp only [beq_iff_eq, bne_iff_ne, beq_eq_false_iff_ne, bne_eq_false_iff_eq, decide_eq_true_eq, decide_eq_false_iff_not, Bool.not_eq_true', Bool.not_eq_false', ne_eq, beq_true, beq_false, bne_self_eq_false, not_true_eq_false, not_false_eq_true, gt_iff_lt, ge_iff_le, Int.not_lt, Int.not_le, Bool.true_eq_false, Bool.false_eq_true] <;> omega)); conv => whnf)
                | (refine sel_no ?_ ?_; (first | assumption | (simp only [beq_iff_eq, bne_iff_ne, beq_eq_false_iff_ne, bne_eq_false_iff_eq, decide_eq_true_eq, decide_eq_false_iff_not, Bool.not_eq_true', Bool.not_eq_false', ne_eq, beq_true, beq_false, bne_self_eq_false, not_true_eq_false, not_false_eq_true, gt_iff_lt, ge_iff_le, Int.not_lt, Int.not_le, Bool.true_eq_false, Bool.false_eq_true] <;> omega)); conv => whnf)
                | (refine ⟨_, h1, ?_⟩; conv => whnf)
                | (refine ⟨_, h2, ?_⟩; conv => whnf)
                | (refine ⟨_, h3, ?_⟩; conv => whnf)
                | (refine ⟨_, h4, ?_⟩; conv => whnf)
                | (refine ⟨_, h5, ?_⟩; conv => whnf)
                | (refine ⟨le_rfl' ?_, ?_⟩; rfl; conv => whnf)
                | (refine ⟨⟨?_, ?_⟩, ?_⟩; omega; omega; conv => whnf)
                | (refine ⟨⟨?_, ?_, ?_⟩, ?_⟩; rfl; omega; omega; conv => whnf)
                | (refine ⟨rfl, ?_, ?_⟩; decide; conv => whnf))
              try exact rfl
      · rw [if_neg ha]
        rcases askn ha with e | e
        all_goals rw [e] at h2 ⊢
        · conv => whnf
          repeat (first
            | (refine sel_yes ?_ ?_; (first | assumption | (simp only [beq_iff_eq, bne_iff_ne, beq_eq_false_iff_ne, bne_eq_false_iff_eq, decide_eq_true_eq, decide_eq_false_iff_not, Bool.not_eq_true', Bool.not_eq_false', ne_eq, beq_true, beq_false, bne_self_eq_false, not_true_eq_false, not_false_eq_true, gt_iff_lt, ge_iff_le, Int.not_lt, Int.not_le, Bool.true_eq_false, Bool.false_eq_true] <;> omega)); conv => whnf)
            | (refine sel_no ?_ ?_; (first | assumption | (simp only [beq_iff_eq, bne_iff_ne, beq_eq_false_iff_ne, bne_eq_false_iff_eq, decide_eq_true_eq, decide_eq_false_iff_not, Bool.not_eq_true', Bool.not_eq_false', ne_eq, beq_true, beq_false, bne_self_eq_false, not_true_eq_false, not_false_eq_true, gt_iff_lt, ge_iff_le, Int.not_lt, Int.not_le, Bool.true_eq_false, Bool.false_eq_true] <;> omega)); conv => whnf)
            | (refine ⟨_, h1, ?_⟩; conv => whnf)
            | (refine ⟨_, h2, ?_⟩; conv => whnf)
            | (refine ⟨_, h3, ?_⟩; conv => whnf)
            | (refine ⟨le_rfl' ?_, ?_⟩; rfl; conv => whnf)
            | (refine ⟨⟨?_, ?_⟩, ?_⟩; omega; omega; conv => whnf)
            | (refine ⟨⟨?_, ?_, ?_⟩, ?_⟩; rfl; omega; omega; conv => whnf)
            | (refine ⟨rfl, ?_, ?_⟩; decide; conv => whnf))
          try exact rfl
        · conv => whnf
          repeat (first
            | (refine sel_yes ?_ ?_; (first | assumption | (simp only [beq_iff_eq, bne_iff_ne, beq_eq_false_iff_ne, bne_eq_false_iff_eq, decide_eq_true_eq, decide_eq_false_iff_not, Bool.not_eq_true', Bool.not_eq_false', ne_eq, beq_true, beq_false, bne_self_eq_false, not_true_eq_false, not_false_eq_true, gt_iff_lt, ge_iff_le, Int.not_lt, Int.not_le, Bool.true_eq_false, Bool.false_eq_true] <;> omega)); conv => whnf)
            | (refine sel_no ?_ ?_; (first | assumption | (simp only [beq_iff_eq, bne_iff_ne, beq_eq_false_iff_ne, bne_eq_false_iff_eq, decide_eq_true_eq, decide_eq_false_iff_not, Bool.not_eq_true', Bool.not_eq_false', ne_eq, beq_true, beq_false, bne_self_eq_false, not_true_eq_false, not_false_eq_true, gt_iff_lt, ge_iff_le, Int.not_lt, Int.not_le, Bool.true_eq_false, Bool.false_eq_true] <;> omega)); conv => whnf)
            | (refine ⟨_, h1, ?_⟩; conv => whnf)
            | (refine ⟨_, h2, ?_⟩; conv => whnf)
            | (refine ⟨_, h3, ?_⟩; conv => whnf)
            | (refine ⟨le_rfl' ?_, ?_⟩; rfl; conv => whnf)
            | (refine ⟨⟨?_, ?_⟩, ?_⟩; omega; omega; conv => whnf)
            | (refine ⟨⟨?_, ?_, ?_⟩, ?_⟩; rfl; omega; omega; conv => whnf)
            | (refine ⟨rfl, ?_, ?_⟩; decide; conv => whnf))
          try exact rfl
  obtain ⟨r, h, rfl⟩ := key
  exact h
end
theorem putAll_wf {v x u : T} {e : Int} {p : List T} (hv : WfV v) (hp : ∀ s ∈ p, WfV s) (hx : WfV x) (h : putAll v p x = .tup [A u, .int .i64 e]) : WfV u := by
  unfold putAll at h
  split at h
  · rename_i kv
    split at h
    · rename_i ka
      split at h
      · unfold putRes at h
        split at h
        · rw [← (tup2 h).1]; exact w_nil
        · rename_i w hw
          split at h
          · rw [← (tup2 h).1]
            exact put_wf p v x w ⟨hv, kv⟩ (fun s hs => ⟨hp s hs, (ask0 ka).2 s hs⟩) hx hw
          · rw [← (tup2 h).1]; exact w_nil
      · rw [← (tup2 h).1]; exact w_nil
    · rw [← (tup2 h).1]; exact w_nil
  · rw [← (tup2 h).1]; exact w_nil
theorem PathsPut_ev (v : T) (hv : WfV v) (p : List T) (hl : p.length ≤ 9223372036854775807) (hp : ∀ a ∈ p, WfV a) (x : T) (hx : WfV x) : (cfgU putT).Ev 3 [A v, .sl false (encL p) p.length, A x] (.bool true) := by
  have h1 := tPut putT_put v x p hv hp hx hl
  have h2 := up (T := putT) (by decide) (by decide) (rPut non0 v x p hv hp hx hl)
  obtain ⟨u, e, hu⟩ := putAll_tup v x p
  rw [hu] at h1 h2
  have wu : WfV u := putAll_wf hv hp hx hu
  have h4 := up (T := putT) (by decide) (by decide) (tplain non0 u wu u)
  rw [eqT_self] at h4
  have g : (e == e) = true := beq_self_eq_true e
  refine Ev.of (hnU (by decide)) Tryd.func3 rfl rfl ?_
  conv => whnf
  repeat (first
    | (refine sel_yes ?_ ?_; (first | assumption | (simp only [beq_iff_eq, bne_iff_ne, beq_eq_false_iff_ne, bne_eq_false_iff_eq, decide_eq_true_eq, decide_eq_false_iff_not, Bool.not_eq_true', Bool.not_eq_false', ne_eq, beq_true, beq_false, bne_self_eq_false, not_true_eq_false, not_false_eq_true, gt_iff_lt, ge_iff_le, Int.not_lt, Int.not_le, Bool.true_eq_false, Bool.false_eq_true] <;> omega)); conv => whnf)
    | (refine sel_no ?_ ?_; (first | assumption | (simp only [beq_iff_eq, bne_iff_ne, beq_eq_false_iff_ne, bne_eq_false_iff_eq, decide_eq_true_eq, decide_eq_false_iff_not, Bool.not_eq_true', Bool.not_eq_false', ne_eq, beq_true, beq_false, bne_self_eq_false, not_true_eq_false, not_false_eq_true, gt_iff_lt, ge_iff_le, Int.not_lt, Int.not_le, Bool.true_eq_false, Bool.false_eq_true] <;> omega)); conv => whnf)
    | (refine ⟨_, h1, ?_⟩; conv => whnf)
    | (refine ⟨_, h2, ?_⟩; conv => whnf)
    | (refine ⟨_, h4, ?_⟩; conv => whnf)
    | (refine ⟨_, speaks26 putT_put, ?_⟩; conv => whnf)
    | (refine ⟨le_rfl' ?_, ?_⟩; rfl; conv => whnf)
    | (refine ⟨⟨?_, ?_⟩, ?_⟩; omega; omega; conv => whnf)
    | (refine ⟨⟨?_, ?_, ?_⟩, ?_⟩; rfl; omega; omega; conv => whnf)
    | (refine ⟨rfl, ?_, ?_⟩; decide; conv => whnf))
  try exact rfl
end Go.Proofs.YtjfjagnnefmepaaDoor.AB
end
