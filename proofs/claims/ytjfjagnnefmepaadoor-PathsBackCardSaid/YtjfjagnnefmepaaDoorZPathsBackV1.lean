/- What PathsBack is proved with: what the program's functions make of their arguments, by the evaluator. -/
import Derived.Test.YtjfjagnnefmepaaDoorZPathsBackV0
import Derived.Test.YtjfjagnnefmepaaDoorZPathsBackA1
section
set_option linter.unusedVariables false
set_option linter.unusedSimpArgs false
open Go Go.Ab Go.Proofs Go.Vl Go.RowKit
namespace Go.Proofs.YtjfjagnnefmepaaDoor.AB
set_option maxRecDepth 100000
set_option maxHeartbeats 8000000
set_option linter.unusedSimpArgs false
set_option linter.unusedVariables false
/-- a call of a closure upon data -/
theorem xCall {C : Cfg} {ops : List Oper} {n0 m0 i : Nat} {o : Oper} {os : List Oper} {s : St} {Q : St → Prop} {f : Operand} {at_ : Array TypeId} {k : Nat} {cap : List V} {r : V} (ho : o.op = .call ⟨.value f, #[], at_⟩) (hg : o.guard = none) (hf : val s.t f = .fn k cap) (hb : C.byref k = false) (hz : fzPL (fzP 6) cap = some cap) (hE : C.Ev k cap r)
    (hq : xOps C ops false n0 m0 (i + 1) os (s.put o.dst r) Q) : xOps C ops false n0 m0 i (o :: os) s Q := by
  obtain ⟨dst, op, ty, pos, after, guard⟩ := o
  simp only at ho hg
  subst ho hg
  simp only [xOps, xOp, hf, hb, Bool.false_and]
  have e : asData false s.hp cap = some (cap, s.hp) := fzPL_fz (fzP_fz 6) _ _ s.hp hz
  refine opt_of (x := (cap, s.hp)) (by simpa using e) ⟨r, hE, ?_⟩
  rw [keepH_self]
  exact hq
theorem xseqq {C : Cfg} {id : Nat} {ops : Array Oper} {b : Code} {s : St} {Q : Ex → St → Prop} (h : xOps C ops.toList false s.hp.n s.hp.m 0 ops.toList (s.bump ops.toList.length) fun s' => xCode C b s' Q) : xCode C (.seq (.region id ops false) b) s Q := h
section
variable {ext : Exts}
/-- caught: the closure tells a value -/
theorem caught_ok {L : World → Prop} (hS : Sound (cfg ext) L) {fc : Nat} {cap : List V} {v : T} {e : Int} (hb : byref fc = false) (hz : fzPL (fzP 6) cap = some cap) (hE : (cfg ext).Ev fc cap (A v)) (hC : (cfg ext).Ev 14 [A v] (.int .i64 e)) (hO : e = 0 → (cfg ext).Ev 37 [A v] (A v)) :
    PureC Tryd.prog L 27 [.fn fc cap] (if e = 0 then .tup [A v, .int .i64 0] else .tup [A nilT, .int .i64 2]) := by
  intro S w xs hLw hSz hxs
  refine calls_of_wp_defers Tryd.func27 caught_body ?_
  have hxl : xs.size = 1 := by have := hxs.length; simpa using this
  have hN : (xs ++ Array.replicate (Tryd.f27.ntmps - xs.size) undef).size = 13 := by
    rw [Array.size_append, Array.size_replicate, hxl]; rfl
  have hL : ∀ w', Below w.heap.size w w' → L w' := fun w' hw' => hS.low w w' hLw hw'
  have hC0 : CInv [] w.heap.size (stab S) w Hp.empty 13 ⟨init [.fn fc cap], Hp.empty⟩ { tmps := xs ++ Array.replicate (Tryd.f27.ntmps - xs.size) undef, defers := [] } w (stab S) :=
    ⟨⟨⟨fun _ => none, hSz, fun b x hb => (by cases hb), fun i A hA => (by cases hA)⟩, Grow.refl _ _, Below.refl _ _, Nat.le_refl _, fun _ _ => rfl, fun _ _ _ => rfl, Nat.le_refl _, Nat.le_refl _, fun _ _ => rfl, fun _ _ h => h, fun _ _ => rfl, fun _ _ h _ => h⟩, init_ok hxs _, rfl, hN⟩
  refine caught_start hS hL hC0 rfl ?_
  intro caps s1 a1 w1 G1 C1 hv ht hn hm hh
  have C2 : CInv [dfr caps] w.heap.size G1 w1 s1.hp 13 s1 a1 w1 G1 := ⟨⟨C1.inv.sim, Grow.refl _ _, Below.refl _ _, C1.inv.lb, C1.inv.fb, C1.inv.fa, Nat.le_refl _, Nat.le_refl _, fun _ _ => rfl, fun _ _ h => h, C1.inv.fb, fun _ _ h _ => h⟩, C1.t, C1.d, C1.N⟩
  have hL2 : ∀ w', Below w.heap.size w1 w' → L w' := fun w' hw' => hL w' (C1.inv.below.trans hw')
  obtain ⟨cs, k, hck, hx⟩ : ∃ (cs : List V) (k : Int), ((e = 0 ∧ cs = cellsV v ∧ k = 0) ∨ (e ≠ 0 ∧ cs = zC ∧ k = 2)) ∧ xCode (cfg ext) (atP (bodyOf Tryd.f27) [true, true]) s1 (fun ex s' => ex = .ret ∧ Has s'.t [(2, .ref 0 0), (3, .ref 1 0)] ∧ Has s'.hp.h [(0, some (.cells cs false)), (1, some (.cells [.int .i64 k] false))]) := by
    by_cases h0 : e = 0
    · refine ⟨cellsV v, 0, .inl ⟨h0, rfl, rfl⟩, ?_⟩
      have g0 : (e != 0) = false := by simp [h0]
      have hO' := hO h0
      rw [St.knows (s := s1) _ 4 ht hn _ hh]
      refine xseqq ?_
      refine xMv rfl rfl (xCall rfl rfl rfl hb hz hE ?_)
      conv => whnf
      refine ⟨_, hC, ?_⟩
      conv => whnf
      refine sel_no (by (first | assumption | (simp only [beq_iff_eq, bne_iff_ne, beq_eq_false_iff_ne, bne_eq_false_iff_eq, decide_eq_true_eq, decide_eq_false_iff_not, Bool.not_eq_true', Bool.not_eq_false', ne_eq, beq_true, beq_false, bne_self_eq_false, not_true_eq_false, not_false_eq_true, gt_iff_lt, ge_iff_le, Int.not_lt, Int.not_le, Bool.true_eq_false, Bool.false_eq_true] <;> omega))) ?_
      conv => whnf
      refine ⟨_, hO', ?_⟩
      conv => whnf
      exact ⟨rfl, ⟨rfl, rfl, trivial⟩, rfl, rfl, trivial⟩
    · refine ⟨zC, 2, .inr ⟨h0, rfl, rfl⟩, ?_⟩
      have g0 : (e != 0) = true := by simp [h0]
      rw [St.knows (s := s1) _ 4 ht hn _ hh]
      refine xseqq ?_
      refine xMv rfl rfl (xCall rfl rfl rfl hb hz hE ?_)
      conv => whnf
      refine ⟨_, hC, ?_⟩
      conv => whnf
      refine sel_yes (by (first | assumption | (simp only [beq_iff_eq, bne_iff_ne, beq_eq_false_iff_ne, bne_eq_false_iff_eq, decide_eq_true_eq, decide_eq_false_iff_not, Bool.not_eq_true', Bool.not_eq_false', ne_eq, beq_true, beq_false, bne_self_eq_false, not_true_eq_false, not_false_eq_true, gt_iff_lt, ge_iff_le, Int.not_lt, Int.not_le, Bool.true_eq_false, Bool.false_eq_true] <;> omega))) ?_
      conv => whnf
      exact ⟨rfl, ⟨rfl, rfl, trivial⟩, rfl, rfl, trivial⟩
  obtain ⟨K, ex, s2, h1, rfl, ht2, hh2⟩ := xCode_ok _ _ _ hx
  refine wp_mono (code_ok (hS.env K) hS.mixed (N := 13) (M := 13) (by decide) hL2 K _ _ a1 w1 G1 _ s2 (by kernel_rfl) C2 (h1 K (Nat.le_refl _))) ?_
  rintro ee a3 w3 ⟨rfl, G3, C3⟩
  show Leaves Tryd.prog Tryd.f27 a3.tmps _ a3.defers .returning w3
  rw [C3.d]
  refine leaves_cons (by simp) (invoke53 caps w3) ?_
  refine (callsD0 hS C3.inv hL2 (VRs.mono C3.inv.grow _ _ hv)).mono ?_
  rintro ee u w4 ⟨rfl, rfl, G4, hp4, inv4, hg4, hH4, _⟩
  show Leaves Tryd.prog Tryd.f27 a3.tmps _ [] .returning w4
  have hC4 : CInv [] w.heap.size (stab S) w Hp.empty 13 ⟨s2.t, hp4⟩ { tmps := a3.tmps, defers := [] } w4 G4 :=
    ⟨C1.inv.trans inv4, C3.t.mono hg4, rfl, C3.N⟩
  rw [← hH4] at hh2
  obtain ⟨t2, hp2⟩ := s2
  obtain ⟨h4, n4, a4, m4⟩ := hp4
  have e4 : (⟨t2, ⟨h4, n4, a4, m4⟩⟩ : St) = ⟨updL t2 [(2, .ref 0 0), (3, .ref 1 0)], ⟨updL h4 [(0, some (.cells cs false)), (1, some (.cells [.int .i64 k] false))], n4, a4, m4⟩⟩ :=
    St.knows (s := ⟨t2, ⟨h4, n4, a4, m4⟩⟩) [(2, .ref 0 0), (3, .ref 1 0)] n4 ht2 rfl [(0, some (.cells cs false)), (1, some (.cells [.int .i64 k] false))] hh2
  rw [e4] at hC4
  rcases hck with ⟨h0, rfl, rfl⟩ | ⟨h0, rfl, rfl⟩
  · rw [if_pos h0]
    refine pure_end (fn := Tryd.f27) (a := { tmps := a3.tmps, defers := [] }) (r0 := .tup [A v, .int .i64 0]) (hp2 := ⟨updL h4 [(0, some (.cells (cellsV v) false)), (1, some (.cells [.int .i64 0] false))], n4, a4, m4⟩) hC4 ?_ ?_
    · rfl
    · rfl
  · rw [if_neg h0]
    refine pure_end (fn := Tryd.f27) (a := { tmps := a3.tmps, defers := [] }) (r0 := .tup [.agg zC, .int .i64 2]) (hp2 := ⟨updL h4 [(0, some (.cells zC false)), (1, some (.cells [.int .i64 2] false))], n4, a4, m4⟩) hC4 ?_ ?_
    · rfl
    · rfl
end
end Go.Proofs.YtjfjagnnefmepaaDoor.AB
end

section
set_option linter.unusedVariables false
set_option linter.unusedSimpArgs false
open Go Go.Ab Go.Proofs Go.Vl
namespace Go.Proofs.YtjfjagnnefmepaaDoor.AB
set_option maxRecDepth 100000
set_option maxHeartbeats 8000000
set_option linter.unusedSimpArgs false
set_option linter.unusedVariables false
section
variable {ext : Exts}
theorem part_tup {v s : T} (h : (cfg ext).Ev 54 [A v, A s] (optV (partF v s))) : ∃ b, (cfg ext).Ev 54 [A v, A s] (.tup [A ((partF v s).getD nilT), .bool b]) := by
  cases hp : partF v s with
  | none => rw [hp] at h; exact ⟨false, h⟩
  | some w => rw [hp] at h; exact ⟨true, h⟩
/-- paths.put, where the path leads nowhere -/
theorem tpan {L : World → Prop} (hS : Sound (cfg ext) L) (hn : Non ext) (h26 : E26 ext) (x : T) : ∀ (p : List T) (v : T), Good v → (∀ s ∈ p, Good s) → putF v p x = none → PanC Tryd.prog L 29 [A v, .sl false (encL p) p.length, A x] refusal
  | [], v, hv, hp, h => by cases h
  | s :: p, v, hv, hp, h => by
    have hs : Good s := hp s (by simp)
    have hp' : ∀ s' ∈ p, Good s' := fun s' h => hp s' (by simp [h])
    have ih := tpan hS hn h26 x p ((partF v s).getD nilT) (old_good hv hs) hp'
    obtain ⟨b, hP⟩ := part_tup (tpart hn h26 v s hv.row)
    unfold putF at h
    by_cases h4 : v.f0 = 4
    · rw [if_pos h4] at h
      cases hi : idxF v.f3.length s with
      | some i =>
        rw [hi] at h
        simp only [Option.map_eq_none_iff] at h
        exact tpan2 hS hn h26 v s x p hv h4 hi (ih h)
      | none =>
        rw [hi] at h
        simp only at h
        split at h
        · rename_i hc
          simp only [Option.map_eq_none_iff] at h
          exact tpan3 hS hn h26 v s x p hv h4 hc.1 hc.2 (ih h)
        · rename_i hc
          exact tpan1 hS hn v s x _ b p h4 hi hc hP
    · rw [if_neg h4] at h
      split at h
      · rename_i h06
        simp only [Option.map_eq_none_iff] at h
        exact tpan4 hS hn v s x _ b p hv h06 hP (ih h)
      · rename_i h06
        exact tpan0 hS hn v s x _ b p h4 (fun h => h06 (.inl h)) (fun h => h06 (.inr h)) hP
/-- the closure of Put -/
theorem tput1 (hn : Non ext) (h26 : E26 ext) (x v w : T) (p : List T) (hv : Good v) (hp : ∀ s ∈ p, Good s) (h : putF v p x = some w) : (cfg ext).Ev 28 [.ptr (enc v) 0, .ptr [.sl false (encL p) p.length] 0, .ptr (enc x) 0] (A w) := by
  have hE := tput hn h26 x p v w hv hp h
  refine Ev.of (hn 28 (by decide) (by decide)) Tryd.func28 rfl rfl ?_
  rw [enc_eq, enc_eq]
  conv => whnf
  refine ⟨le_rfl' ?_, ?_⟩
  · rfl
  conv => whnf
  refine ⟨le_rfl' ?_, ?_⟩
  · rfl
  conv => whnf
  refine ⟨le_rfl' ?_, ?_⟩
  · rfl
  conv => whnf
  refine ⟨_, hE, ?_⟩
  conv => whnf
  rfl
theorem tpan1c {L : World → Prop} (hS : Sound (cfg ext) L) (hn : Non ext) (h26 : E26 ext) (x v : T) (p : List T) (hv : Good v) (hp : ∀ s ∈ p, Good s) (h : putF v p x = none) : PanC Tryd.prog L 28 [.ptr (enc v) 0, .ptr [.sl false (encL p) p.length] 0, .ptr (enc x) 0] refusal := by
  have hE := tpan hS hn h26 x p v hv hp h
  refine PanC.of_SW (C := cfg ext) (fn := Tryd.f28) hS Tryd.func28 rfl ?_
  rw [enc_eq, enc_eq]
  refine SW.seq (SW.of_x hS (by kernel_rfl) ?_)
  conv => whnf
  refine SW.seq (SW.region hS 3 rfl (by kernel_rfl) ?_)
  conv => whnf
  refine ⟨le_rfl' ?_, ?_⟩
  · rfl
  conv => whnf
  refine ⟨le_rfl' ?_, ?_⟩
  · rfl
  conv => whnf
  refine ⟨le_rfl' ?_, ?_⟩
  · rfl
  conv => whnf
  refine OpW.pan (panAt (cap := []) hE put_goes rfl rfl rfl ?_ ?_)
  · rfl
  · rfl
/-- what is wrong with a path -/
theorem lasked (hn : Non ext) (h26 : E26 ext) (h73 : E73 ext) (l : List T) (hl : l.length ≤ 1048576) (hw : ∀ a ∈ l, WfV a) (Q : Ex → St → Prop) (d : Nat) :
    ∀ (i : Nat) (z : St), l.length - i = d → i ≤ l.length → Has z.t [(9, .sl false (encL l) l.length), (10, .int .i64 l.length), (11, .int .i64 i)] → z.hp.n = 7 →
      (∀ z' : St, z'.t 2 = .int .i64 3 → ¬ (∀ a ∈ l.drop i, okB a = true) → Q .ret z') →
      (∀ z' : St, (∀ a ∈ l.drop i, okB a = true) → Q (.exit 0) z') →
      Go.Ab.Loop (cfg ext) (lpOf Tryd.f26) 7 z Q := by
  induction d with
  | zero =>
    intro i z hd hi ht hz hr hq
    have g : decide ((i : Int) < (l.length : Int)) = false := decide_eq_false (by omega)
    rw [St.knows _ _ ht hz]
    refine Loop.round ?_
    conv => whnf
    repeat (first
      | (refine sel_yes ?_ ?_; (first | assumption | (simp only [beq_iff_eq, bne_iff_ne, beq_eq_false_iff_ne, bne_eq_false_iff_eq, decide_eq_true_eq, decide_eq_false_iff_not, Bool.not_eq_true', Bool.not_eq_false', ne_eq, beq_true, beq_false, bne_self_eq_false, not_true_eq_false, not_false_eq_true, gt_iff_lt, ge_iff_le, Int.not_lt, Int.not_le, Bool.true_eq_false, Bool.false_eq_true] <;> omega)); conv => whnf)
      | (refine sel_no ?_ ?_; (first | assumption | (simp only [beq_iff_eq, bne_iff_ne, beq_eq_false_iff_ne, bne_eq_false_iff_eq, decide_eq_true_eq, decide_eq_false_iff_not, Bool.not_eq_true', Bool.not_eq_false', ne_eq, beq_true, beq_false, bne_self_eq_false, not_true_eq_false, not_false_eq_true, gt_iff_lt, ge_iff_le, Int.not_lt, Int.not_le, Bool.true_eq_false, Bool.false_eq_true] <;> omega)); conv => whnf)
      | (refine ⟨le_rfl' ?_, ?_⟩; rfl; conv => whnf)
      | (refine ⟨⟨?_, ?_⟩, ?_⟩; omega; omega; conv => whnf)
      | (refine ⟨⟨?_, ?_, ?_⟩, ?_⟩; rfl; omega; omega; conv => whnf)
      | (refine ⟨rfl, ?_, ?_⟩; decide; conv => whnf))
    try exact rfl
    exact hq _ (by intro a ha; rw [List.drop_eq_nil_of_le (by omega)] at ha; cases ha)
  | succ d ih =>
    intro i z hd hi ht hz hr hq
    have hlt : i < l.length := by omega
    have g : decide ((i : Int) < (l.length : Int)) = true := decide_eq_true (by omega)
    have eD := List.drop_eq_getElem_cons hlt
    have e1 : IntKind.i64.wrap ((i : Int) + 1) = ((i + 1 : Nat) : Int) := wrapN (by omega) (by omega)
    have hE := t22 hn h26 h73 l[i] (hw _ (List.getElem_mem hlt))
    rw [St.knows _ _ ht hz]
    refine Loop.round ?_
    conv => whnf
    repeat (first
      | (refine sel_yes ?_ ?_; (first | assumption | (simp only [beq_iff_eq, bne_iff_ne, beq_eq_false_iff_ne, bne_eq_false_iff_eq, decide_eq_true_eq, decide_eq_false_iff_not, Bool.not_eq_true', Bool.not_eq_false', ne_eq, beq_true, beq_false, bne_self_eq_false, not_true_eq_false, not_false_eq_true, gt_iff_lt, ge_iff_le, Int.not_lt, Int.not_le, Bool.true_eq_false, Bool.false_eq_true] <;> omega)); conv => whnf)
      | (refine sel_no ?_ ?_; (first | assumption | (simp only [beq_iff_eq, bne_iff_ne, beq_eq_false_iff_ne, bne_eq_false_iff_eq, decide_eq_true_eq, decide_eq_false_iff_not, Bool.not_eq_true', Bool.not_eq_false', ne_eq, beq_true, beq_false, bne_self_eq_false, not_true_eq_false, not_false_eq_true, gt_iff_lt, ge_iff_le, Int.not_lt, Int.not_le, Bool.true_eq_false, Bool.false_eq_true] <;> omega)); conv => whnf)
      | (refine ⟨le_rfl' ?_, ?_⟩; rfl; conv => whnf)
      | (refine ⟨⟨?_, ?_⟩, ?_⟩; omega; omega; conv => whnf)
      | (refine ⟨⟨?_, ?_, ?_⟩, ?_⟩; rfl; omega; omega; conv => whnf)
      | (refine ⟨rfl, ?_, ?_⟩; decide; conv => whnf))
    try exact rfl
    refine ldA (i := i) hlt ?_
    conv => whnf
    cases ho : okB l[i] with
    | false =>
      rw [ho] at hE
      refine ⟨_, hE, ?_⟩
      conv => whnf
      exact hr _ rfl (fun g => by have := g l[i] (by rw [eD]; exact List.mem_cons_self); rw [ho] at this; cases this)
    | true =>
      rw [ho] at hE
      refine ⟨_, hE, ?_⟩
      conv => whnf
      refine ih (i + 1) _ (by omega) (by omega) ⟨rfl, rfl, ?_, trivial⟩ rfl (fun z' a c => hr z' a (fun g => c (fun x hx => g x (by rw [eD]; exact List.mem_cons_of_mem _ hx)))) (fun z' e => hq z' (fun x hx => by rw [eD] at hx; rcases List.mem_cons.1 hx with rfl | hx; exact ho; exact e x hx))
      conv => lhs; whnf
      exact vi e1
noncomputable def askZ (l : List T) : Int := if 16 < l.length then 2 else if l.all okB = true then 0 else 3
theorem tasked (hn : Non ext) (h26 : E26 ext) (h73 : E73 ext) (l : List T) (hl : l.length ≤ 9223372036854775807) (hw : ∀ a ∈ l, WfV a) : (cfg ext).Ev 26 [.sl false (encL l) l.length] (.int .i64 (askZ l)) := by
  have key : ∃ r, (cfg ext).Ev 26 [.sl false (encL l) l.length] r ∧ r = .int .i64 (askZ l) := by
    refine Ev.ofF (hn 26 (by decide) (by decide)) Tryd.func26 rfl rfl ?_
    conv => whnf
    by_cases h : 16 < l.length
    · have g : decide ((l.length : Int) > 16) = true := decide_eq_true (by omega)
      repeat (first
        | (refine sel_yes ?_ ?_; (first | assumption | (simp only [beq_iff_eq, bne_iff_ne, beq_eq_false_iff_ne, bne_eq_false_iff_eq, decide_eq_true_eq, decide_eq_false_iff_not, Bool.not_eq_true', Bool.not_eq_false', ne_eq, beq_true, beq_false, bne_self_eq_false, not_true_eq_false, not_false_eq_true, gt_iff_lt, ge_iff_le, Int.not_lt, Int.not_le, Bool.true_eq_false, Bool.false_eq_true] <;> omega)); conv => whnf)
        | (refine sel_no ?_ ?_; (first | assumption | (simp only [beq_iff_eq, bne_iff_ne, beq_eq_false_iff_ne, bne_eq_false_iff_eq, decide_eq_true_eq, decide_eq_false_iff_not, Bool.not_eq_true', Bool.not_eq_false', ne_eq, beq_true, beq_false, bne_self_eq_false, not_true_eq_false, not_false_eq_true, gt_iff_lt, ge_iff_le, Int.not_lt, Int.not_le, Bool.true_eq_false, Bool.false_eq_true] <;> omega)); conv => whnf)
        | (refine ⟨le_rfl' ?_, ?_⟩; rfl; conv => whnf)
        | (refine ⟨⟨?_, ?_⟩, ?_⟩; omega; omega; conv => whnf)
        | (refine ⟨⟨?_, ?_, ?_⟩, ?_⟩; rfl; omega; omega; conv => whnf)
        | (refine ⟨rfl, ?_, ?_⟩; decide; conv => whnf))
      try exact rfl
      exact Fin.tmp (i := 2) rfl rfl (vi (by unfold askZ; rw [if_pos h]))
    · have g : decide ((l.length : Int) > 16) = false := decide_eq_false (by omega)
      repeat (first
        | (refine sel_yes ?_ ?_; (first | assumption | (simp only [beq_iff_eq, bne_iff_ne, beq_eq_false_iff_ne, bne_eq_false_iff_eq, decide_eq_true_eq, decide_eq_false_iff_not, Bool.not_eq_true', Bool.not_eq_false', ne_eq, beq_true, beq_false, bne_self_eq_false, not_true_eq_false, not_false_eq_true, gt_iff_lt, ge_iff_le, Int.not_lt, Int.not_le, Bool.true_eq_false, Bool.false_eq_true] <;> omega)); conv => whnf)
        | (refine sel_no ?_ ?_; (first | assumption | (simp only [beq_iff_eq, bne_iff_ne, beq_eq_false_iff_ne, bne_eq_false_iff_eq, decide_eq_true_eq, decide_eq_false_iff_not, Bool.not_eq_true', Bool.not_eq_false', ne_eq, beq_true, beq_false, bne_self_eq_false, not_true_eq_false, not_false_eq_true, gt_iff_lt, ge_iff_le, Int.not_lt, Int.not_le, Bool.true_eq_false, Bool.false_eq_true] <;> omega)); conv => whnf)
        | (refine ⟨le_rfl' ?_, ?_⟩; rfl; conv => whnf)
        | (refine ⟨⟨?_, ?_⟩, ?_⟩; omega; omega; conv => whnf)
        | (refine ⟨⟨?_, ?_, ?_⟩, ?_⟩; rfl; omega; omega; conv => whnf)
        | (refine ⟨rfl, ?_, ?_⟩; decide; conv => whnf))
      try exact rfl
      refine lasked hn h26 h73 l (by omega) hw _ l.length 0 _ rfl (by omega) ⟨rfl, rfl, rfl, trivial⟩ rfl (fun z a b => ?_) (fun z b => ?_)
      · exact Fin.tmp (i := 2) rfl a (vi (by unfold askZ; rw [if_neg h, if_neg (show ¬ (l.all okB = true) from fun h => b (List.all_eq_true.1 h))]))
      · conv => whnf
        exact Fin.tmp (i := 2) rfl rfl (vi (by unfold askZ; rw [if_neg h, if_pos (show l.all okB = true from List.all_eq_true.2 b)]))
  obtain ⟨r, h, rfl⟩ := key
  exact h
end
end Go.Proofs.YtjfjagnnefmepaaDoor.AB
end

section
set_option linter.unusedVariables false
set_option linter.unusedSimpArgs false
open Go Go.Ab Go.Proofs Go.Vl
namespace Go.Proofs.YtjfjagnnefmepaaDoor.AB
set_option maxRecDepth 100000
set_option maxHeartbeats 8000000
set_option linter.unusedSimpArgs false
set_option linter.unusedVariables false
section
variable {ext : Exts}
def ownE (ext : Exts) (v : T) : Prop := (cfg ext).Ev 37 [A v] (A v)
/-- a row of which the first ones are told -/
theorem stM {hp : Hp} {b v : Nat} {l : List T} {z : List V} {cap : Option Nat} {e : Int} {k : Nat} {x : T} {Q : V × Hp → Prop} (h : hp.a b = some ⟨v, 4, encL l ++ z, cap, 0⟩) (hz : 4 ≤ z.length) (he : e = (k : Int)) (hk : k = l.length)
    (q : ∀ a', a' b = some ⟨v, 4, encL (l ++ [x]) ++ z.drop 4, cap, 0⟩ → Q (.tup [], ⟨hp.h, hp.n, a', hp.m⟩)) :
    opt ((storeV hp (.aref b v (0 + e.toNat * 4)) [.int .i64 x.f0, .int .i64 x.f1, .str x.f2, .sl false (encL x.f3) x.f3.length]).bind fun hp' => some (.tup [], hp')) Q := by
  subst he hk
  refine opt_store h (Nat.zero_le _) (by rw [List.length_append, encL_len]; simp; omega) (fun a' h1 _ => q a' ?_)
  rw [h1, show 0 + ((l.length : Nat) : Int).toNat * 4 = l.length * 4 by simp, ← enc_eq]
  have e4 : (enc x).length = 4 := by rw [enc_eq]; rfl
  have ez : z = z.take 4 ++ z.drop 4 := (List.take_append_drop 4 z).symm
  have := fill_mid (x := encL l) (y := z.take 4) (z := z.drop 4) (u := enc x) (by rw [e4]; simp; omega)
  rw [encL_len, List.append_assoc, ← ez] at this
  rw [this, encL_app]
  simp only [encL, List.append_nil]
theorem trunc_arr2 {z : St} {b v n : Nat} {l : List T} {y : List V} {cap : Option Nat} (hy : y.map (cleanV n) = y) (h : z.hp.a b = some ⟨v, 4, encL l ++ y, cap, 0⟩) : (z.trunc n).hp.a b = some ⟨v, 4, encL l ++ y, cap, 0⟩ := by
  show (match z.hp.a b with | some A => some { A with cs := A.cs.map (cleanV n) } | none => none) = _
  rw [h]
  simp only [List.map_append, map_encL, hy]
theorem clean_zeros (n : Nat) : ∀ k, ((List.replicate k zC).flatten).map (cleanV n) = (List.replicate k zC).flatten
  | 0 => rfl
  | k + 1 => by
    rw [List.replicate_succ, List.flatten_cons, List.map_append, clean_zeros n k]; rfl
theorem drop_zeros (k : Nat) : ((List.replicate (k + 1) zC).flatten).drop 4 = (List.replicate k zC).flatten := by
  rw [List.replicate_succ, List.flatten_cons]; rfl
theorem len_zeros (k : Nat) : ((List.replicate k zC).flatten).length = k * 4 := by
  induction k with
  | zero => rfl
  | succ k ih => rw [List.replicate_succ, List.flatten_cons, List.length_append, ih]; show 4 + k * 4 = _; omega
theorem lownp (v : T) (hl : v.f3.length ≤ 1000000) (E : ∀ a ∈ v.f3, ownE ext a) (b : Nat) (Q : Ex → St → Prop) (d : Nat) :
    ∀ (i : Nat) (z : St), v.f3.length - i = d → i ≤ v.f3.length → Has z.t [(1, .ref 0 0), (2, .ref 1 0), (3, .rsl false b 0 0 v.f3.length), (17, .sl false (encL v.f3) v.f3.length), (18, .int .i64 v.f3.length), (19, .int .i64 i)] → z.hp.n = 15 → Has z.hp.h [(0, some (.cells (cellsV v) false)), (1, some (.cells zC false))] → z.hp.a b = some ⟨0, 4, encL (v.f3.take i) ++ (List.replicate (v.f3.length - i) zC).flatten, some v.f3.length, 0⟩ → b < z.hp.m →
      (∀ z' : St, Has z'.t [(1, .ref 0 0), (2, .ref 1 0), (3, .rsl false b 0 0 v.f3.length)] → Has z'.hp.h [(0, some (.cells (cellsV v) false)), (1, some (.cells zC false))] → z'.hp.a b = some ⟨0, 4, encL v.f3, some v.f3.length, 0⟩ → b < z'.hp.m → Q (.exit 0) z') →
      Go.Ab.Loop (cfg ext) (lpOf Tryd.f37) 15 z Q := by
  induction d with
  | zero =>
    intro i z hd hi ht hz hb ha hm hq
    have g : decide ((i : Int) < (v.f3.length : Int)) = false := decide_eq_false (by omega)
    rw [St.knows _ _ ht hz _ hb]
    refine Loop.round ?_
    conv => whnf
    repeat (first
      | (refine sel_yes ?_ ?_; (first | assumption | (simp only [beq_iff_eq, bne_iff_ne, beq_eq_false_iff_ne, bne_eq_false_iff_eq, decide_eq_true_eq, decide_eq_false_iff_not, Bool.not_eq_true', Bool.not_eq_false', ne_eq, beq_true, beq_false, bne_self_eq_false, not_true_eq_false, not_false_eq_true, gt_iff_lt, ge_iff_le, Int.not_lt, Int.not_le, Bool.true_eq_false, Bool.false_eq_true] <;> omega)); conv => whnf)
      | (refine sel_no ?_ ?_; (first | assumption | (simp only [beq_iff_eq, bne_iff_ne, beq_eq_false_iff_ne, bne_eq_false_iff_eq, decide_eq_true_eq, decide_eq_false_iff_not, Bool.not_eq_true', Bool.not_eq_false', ne_eq, beq_true, beq_false, bne_self_eq_false, not_true_eq_false, not_false_eq_true, gt_iff_lt, ge_iff_le, Int.not_lt, Int.not_le, Bool.true_eq_false, Bool.false_eq_true] <;> omega)); conv => whnf)
      | (refine ⟨le_rfl' ?_, ?_⟩; rfl; conv => whnf)
      | (refine ⟨⟨?_, ?_⟩, ?_⟩; omega; omega; conv => whnf)
      | (refine ⟨⟨?_, ?_, ?_⟩, ?_⟩; rfl; omega; omega; conv => whnf)
      | (refine ⟨rfl, ?_, ?_⟩; decide; conv => whnf))
    try exact rfl
    refine hq _ ⟨rfl, rfl, rfl, trivial⟩ ⟨rfl, rfl, trivial⟩ ?_ (Nat.lt_of_lt_of_le hm (Nat.le_add_right _ _))
    have e1 : v.f3.length - i = 0 := by omega
    have e2 : v.f3.take i = v.f3 := List.take_of_length_le (by omega)
    rw [e1, e2] at ha
    have ha' : z.hp.a b = some ⟨0, 4, encL v.f3, some v.f3.length, 0⟩ := by simpa using ha
    exact ha'
  | succ d ih =>
    intro i z hd hi ht hz hb ha hm hq
    have hlt : i < v.f3.length := by omega
    have g : decide ((i : Int) < (v.f3.length : Int)) = true := decide_eq_true (by omega)
    have e1 : IntKind.i64.wrap ((i : Int) + 1) = ((i + 1 : Nat) : Int) := wrapN (by omega) (by omega)
    have hE := E v.f3[i] (List.getElem_mem hlt)
    rw [St.knows _ _ ht hz _ hb]
    refine Loop.round ?_
    conv => whnf
    repeat (first
      | (refine sel_yes ?_ ?_; (first | assumption | (simp only [beq_iff_eq, bne_iff_ne, beq_eq_false_iff_ne, bne_eq_false_iff_eq, decide_eq_true_eq, decide_eq_false_iff_not, Bool.not_eq_true', Bool.not_eq_false', ne_eq, beq_true, beq_false, bne_self_eq_false, not_true_eq_false, not_false_eq_true, gt_iff_lt, ge_iff_le, Int.not_lt, Int.not_le, Bool.true_eq_false, Bool.false_eq_true] <;> omega)); conv => whnf)
      | (refine sel_no ?_ ?_; (first | assumption | (simp only [beq_iff_eq, bne_iff_ne, beq_eq_false_iff_ne, bne_eq_false_iff_eq, decide_eq_true_eq, decide_eq_false_iff_not, Bool.not_eq_true', Bool.not_eq_false', ne_eq, beq_true, beq_false, bne_self_eq_false, not_true_eq_false, not_false_eq_true, gt_iff_lt, ge_iff_le, Int.not_lt, Int.not_le, Bool.true_eq_false, Bool.false_eq_true] <;> omega)); conv => whnf)
      | (refine ⟨le_rfl' ?_, ?_⟩; rfl; conv => whnf)
      | (refine ⟨⟨?_, ?_⟩, ?_⟩; omega; omega; conv => whnf)
      | (refine ⟨⟨?_, ?_, ?_⟩, ?_⟩; rfl; omega; omega; conv => whnf)
      | (refine ⟨rfl, ?_, ?_⟩; decide; conv => whnf))
    try exact rfl
    refine ldA (i := i) hlt ?_
    conv => whnf
    refine ⟨_, hE, ?_⟩
    conv => whnf
    refine ⟨bnd rfl hlt, ?_⟩
    conv => whnf
    refine stM (x := v.f3[i]) (l := v.f3.take i) (k := i) ha (by rw [len_zeros]; omega) rfl (by simp; omega) (fun a2 ha2 => ?_)
    conv => whnf
    refine ih (i + 1) _ (by omega) (by omega) ⟨rfl, rfl, rfl, rfl, rfl, ?_, trivial⟩ rfl ⟨rfl, rfl, trivial⟩ ?_ (Nat.lt_of_lt_of_le hm (by (conv => lhs; whnf); (repeat ((conv => rhs; whnf); first | with_reducible exact Nat.le_refl _ | refine Nat.le_trans ?_ (Nat.le_add_right _ _) | refine Nat.le_succ_of_le ?_ | exact Nat.le_refl _)))) hq
    · conv => lhs; whnf
      exact vi e1
    · have e2 : v.f3.take i ++ [v.f3[i]] = v.f3.take (i + 1) := by rw [List.take_add_one, List.getElem?_eq_getElem hlt]; rfl
      have e3 : v.f3.length - i = (v.f3.length - (i + 1)) + 1 := by omega
      rw [e2, e3, drop_zeros] at ha2
      exact trunc_arr2 (clean_zeros _ _) ha2
theorem townp1 (hn : Non ext) (v : T) (hl : v.f3.length ≤ 1000000) (E : ∀ a ∈ v.f3, ownE ext a) : ownE ext v := by
  have key : ∃ r, (cfg ext).Ev 37 [A v] r ∧ r = A v := by
    refine Ev.ofF (hn 37 (by decide) (by decide)) Tryd.func37 rfl rfl ?_
    conv => whnf
    by_cases h0 : v.f3 = []
    · have g0 : ((v.f3.length : Int) == 0) = true := by rw [h0]; rfl
      repeat (first
        | (refine sel_yes ?_ ?_; (first | assumption | (simp only [beq_iff_eq, bne_iff_ne, beq_eq_false_iff_ne, bne_eq_false_iff_eq, decide_eq_true_eq, decide_eq_false_iff_not, Bool.not_eq_true', Bool.not_eq_false', ne_eq, beq_true, beq_false, bne_self_eq_false, not_true_eq_false, not_false_eq_true, gt_iff_lt, ge_iff_le, Int.not_lt, Int.not_le, Bool.true_eq_false, Bool.false_eq_true] <;> omega)); conv => whnf)
        | (refine sel_no ?_ ?_; (first | assumption | (simp only [beq_iff_eq, bne_iff_ne, beq_eq_false_iff_ne, bne_eq_false_iff_eq, decide_eq_true_eq, decide_eq_false_iff_not, Bool.not_eq_true', Bool.not_eq_false', ne_eq, beq_true, beq_false, bne_self_eq_false, not_true_eq_false, not_false_eq_true, gt_iff_lt, ge_iff_le, Int.not_lt, Int.not_le, Bool.true_eq_false, Bool.false_eq_true] <;> omega)); conv => whnf)
        | (refine ⟨le_rfl' ?_, ?_⟩; rfl; conv => whnf)
        | (refine ⟨⟨?_, ?_⟩, ?_⟩; omega; omega; conv => whnf)
        | (refine ⟨⟨?_, ?_, ?_⟩, ?_⟩; rfl; omega; omega; conv => whnf)
        | (refine ⟨rfl, ?_, ?_⟩; decide; conv => whnf))
      try exact rfl
      exact FinAgg (k1 := .i64) (k2 := .i64) rfl (by unfold A; rw [h0]; rfl)
    · have hp : 0 < v.f3.length := List.length_pos_iff.2 h0
      have g0 : ((v.f3.length : Int) == 0) = false := by simp; omega
      repeat (first
        | (refine sel_yes ?_ ?_; (first | assumption | (simp only [beq_iff_eq, bne_iff_ne, beq_eq_false_iff_ne, bne_eq_false_iff_eq, decide_eq_true_eq, decide_eq_false_iff_not, Bool.not_eq_true', Bool.not_eq_false', ne_eq, beq_true, beq_false, bne_self_eq_false, not_true_eq_false, not_false_eq_true, gt_iff_lt, ge_iff_le, Int.not_lt, Int.not_le, Bool.true_eq_false, Bool.false_eq_true] <;> omega)); conv => whnf)
        | (refine sel_no ?_ ?_; (first | assumption | (simp only [beq_iff_eq, bne_iff_ne, beq_eq_false_iff_ne, bne_eq_false_iff_eq, decide_eq_true_eq, decide_eq_false_iff_not, Bool.not_eq_true', Bool.not_eq_false', ne_eq, beq_true, beq_false, bne_self_eq_false, not_true_eq_false, not_false_eq_true, gt_iff_lt, ge_iff_le, Int.not_lt, Int.not_le, Bool.true_eq_false, Bool.false_eq_true] <;> omega)); conv => whnf)
        | (refine ⟨le_rfl' ?_, ?_⟩; rfl; conv => whnf)
        | (refine ⟨⟨?_, ?_⟩, ?_⟩; omega; omega; conv => whnf)
        | (refine ⟨⟨?_, ?_, ?_⟩, ?_⟩; rfl; omega; omega; conv => whnf)
        | (refine ⟨rfl, ?_, ?_⟩; decide; conv => whnf))
      try exact rfl
      refine opt_make (n := v.f3.length) (k := .i64) (k' := .i64) (t := 22) (e := 24) (l := .tmp 14) (c := .tmp 14) (z := zC) ?_ ?_ ?_ ?_ ?_ ?_ ?_ ?_
      · rfl
      · rfl
      · rfl
      · rfl
      · rfl
      · rfl
      · exact ⟨by show v.f3.length * 56 ≤ 140737488355328; omega, by show v.f3.length ≤ 140737488355328; omega⟩
      conv => whnf
      refine lownp v hl E _ _ v.f3.length 0 _ (by omega) (by omega) ⟨rfl, rfl, rfl, rfl, rfl, rfl, trivial⟩ rfl ?_ ?_ ?_ (fun z a b c d => ?_)
      · exact ⟨rfl, rfl, trivial⟩
      · rfl
      · exact Nat.le_of_ble_eq_true rfl
      · rw [St.knows (s := z) _ z.hp.n a rfl _ b]
        conv => whnf
        exact Fin.row (k1 := .i64) (k2 := .i64) rfl c (encL_len _) (encC _) rfl
  obtain ⟨r, h, rfl⟩ := key
  exact h
mutual
theorem ownV1 (hn : Non ext) : (v : T) → partsV v ≤ 1000000 → ownE ext v
  | ⟨k, n, t, l⟩, h => townp1 hn ⟨k, n, t, l⟩ (by
      simp only [partsV] at h
      have := partsL_len l
      show l.length ≤ 1000000
      omega) (fun a ha => ownL1 hn l (by simp only [partsV] at h; omega) a ha)
theorem ownL1 (hn : Non ext) : (l : List T) → partsL l ≤ 1000000 → ∀ a ∈ l, ownE ext a
  | [], _, a, ha => by cases ha
  | v :: l, h, a, ha => by
    simp only [partsL] at h
    rcases List.mem_cons.1 ha with e | ha
    · rw [e]; exact ownV1 hn v (by omega)
    · exact ownL1 hn l (by omega) a ha
end
theorem townG (hn : Non ext) {v : T} (h : okB v = true) : ownE ext v := ownV1 hn v (by have := (okB_iff.1 h).2.2; omega)
end
end Go.Proofs.YtjfjagnnefmepaaDoor.AB
end

section
set_option linter.unusedVariables false
set_option linter.unusedSimpArgs false
open Go Go.Ab Go.Proofs Go.Vl
namespace Go.Proofs.YtjfjagnnefmepaaDoor.AB
set_option maxRecDepth 100000
set_option maxHeartbeats 8000000
set_option linter.unusedSimpArgs false
set_option linter.unusedVariables false
/-- what is put stands there, and what is put there then counts -/
theorem put_put (x y : T) : ∀ (p : List T) (v a : T), Good v → (∀ s ∈ p, Good s) → putF v p x = some a → ∃ c, putF v p y = some c ∧ putF a p y = some c ∧ atF a p = some x
  | [], v, a, hv, hp, h => by cases h; exact ⟨y, rfl, rfl, rfl⟩
  | s :: p, v, a, hv, hp, h => by
    have hs : Good s := hp s (by simp)
    have hp' : ∀ s' ∈ p, Good s' := fun s' h => hp s' (by simp [h])
    have ih := put_put x y p ((partF v s).getD nilT)
    have hog := old_good hv hs
    unfold putF at h
    by_cases h4 : v.f0 = 4
    · rw [if_pos h4] at h
      cases hi : idxF v.f3.length s with
      | some i =>
        rw [hi] at h
        simp only [Option.map_eq_some_iff] at h
        obtain ⟨w, hw, rfl⟩ := h
        obtain ⟨c, c1, c2, c3⟩ := ih w hog hp' hw
        have hb : i < v.f3.length := by
          unfold idxF at hi
          split at hi <;> cases hi
          omega
        have hl : (v.f3.set i w).length = v.f3.length := List.length_set
        have hx : partF ⟨4, 0, ⟨#[]⟩, v.f3.set i w⟩ s = some w := by
          unfold partF
          rw [if_neg (show ¬ (4 : Int) = 6 by decide), if_pos rfl]
          simp only [hl, hi]
          rw [List.getElem?_set_self (by omega)]
        refine ⟨⟨4, 0, ⟨#[]⟩, v.f3.set i c⟩, ?_, ?_, ?_⟩
        · unfold putF; rw [if_pos h4, hi]; simp only [c1, Option.map_some]
        · unfold putF; rw [if_pos rfl]; simp only [hl, hi, hx, Option.getD_some, c2, Option.map_some, List.set_set]
        · unfold atF; rw [hx]; exact c3
      | none =>
        rw [hi] at h
        simp only at h
        split at h
        · rename_i hc
          simp only [Option.map_eq_some_iff] at h
          obtain ⟨w, hw, rfl⟩ := h
          obtain ⟨c, c1, c2, c3⟩ := ih w hog hp' hw
          have hl : (v.f3 ++ [w]).length = v.f3.length + 1 := by simp
          have hi2 : idxF (v.f3.length + 1) s = some v.f3.length := by
            unfold idxF; rw [if_pos ⟨hc.1, by omega, by rw [hc.2]; omega⟩, hc.2]; simp
          have hx : partF ⟨4, 0, ⟨#[]⟩, v.f3 ++ [w]⟩ s = some w := by
            unfold partF
            rw [if_neg (show ¬ (4 : Int) = 6 by decide), if_pos rfl]
            simp only [hl, hi2]
            simp
          refine ⟨⟨4, 0, ⟨#[]⟩, v.f3 ++ [c]⟩, ?_, ?_, ?_⟩
          · unfold putF; rw [if_pos h4, hi]; simp only; rw [if_pos hc]; simp only [c1, Option.map_some]
          · unfold putF; rw [if_pos rfl]; simp only [hl, hi2, hx, Option.getD_some, c2, Option.map_some]
            simp
          · unfold atF; rw [hx]; exact c3
        · cases h
    · rw [if_neg h4] at h
      split at h
      · rename_i h06
        simp only [Option.map_eq_some_iff] at h
        obtain ⟨w, hw, rfl⟩ := h
        obtain ⟨c, c1, c2, c3⟩ := ih w hog hp' hw
        have hev : v.f3.length % 2 = 0 := by
          rcases h06 with h0 | h6
          · rw [hv.nil h0]; rfl
          · exact (OK.row (okB_iff.1 hv.ok)).2 h6
        obtain ⟨i1, i2, i3⟩ := ins_all v.f3 s w c hev
        have hx : partF ⟨6, 0, ⟨#[]⟩, insF v.f3 s w⟩ s = some w := by
          unfold partF
          rw [if_pos rfl, i1, if_pos rfl]; exact i3
        refine ⟨⟨6, 0, ⟨#[]⟩, insF v.f3 s c⟩, ?_, ?_, ?_⟩
        · unfold putF; rw [if_neg h4, if_pos h06]; simp only [c1, Option.map_some]
        · unfold putF; rw [if_neg (show ¬ (6 : Int) = 4 by decide), if_pos (.inr rfl)]; simp only [hx, Option.getD_some, c2, Option.map_some, i2]
        · unfold atF; rw [hx]; exact c3
      · cases h
section
variable {ext : Exts}
/-- paths.Get of what is right -/
theorem tGet (hn : Non ext) (h26 : E26 ext) (h73 : E73 ext) (v x : T) (p : List T) (hv : Good v) (hp : ∀ s ∈ p, Good s) (hl : p.length ≤ 16) (hx : atF v p = some x) : (cfg ext).Ev 13 [A v, .sl false (encL p) p.length] (.tup [A x, .bool true, .int .i64 0]) := by
  have h1 := t22 hn h26 h73 v hv.wf
  rw [if_pos hv.ok] at h1
  have h2 := tasked hn h26 h73 p (by omega) (fun s hs => (hp s hs).wf)
  have e2 : askZ p = 0 := by unfold askZ; rw [if_neg (by omega), if_pos (List.all_eq_true.2 fun s hs => (hp s hs).ok)]
  rw [e2] at h2
  have h3 := tat hn h26 v hv p (by omega) hp
  rw [hx] at h3
  have h4 : (cfg ext).Ev 37 [A x] (A x) := townG hn (at_good p hv hp hx).ok
  refine Ev.of (hn 13 (by decide) (by decide)) Tryd.func13 rfl rfl ?_
  conv => whnf
  refine ⟨_, h1, ?_⟩
  conv => whnf
  refine ⟨_, h2, ?_⟩
  conv => whnf
  refine ⟨_, h3, ?_⟩
  conv => whnf
  refine ⟨_, h4, ?_⟩
  conv => whnf
  rfl
end
end Go.Proofs.YtjfjagnnefmepaaDoor.AB
end

section
set_option linter.unusedVariables false
set_option linter.unusedSimpArgs false
open Go Go.Ab Go.Proofs Go.Vl Go.RowKit
namespace Go.Proofs.YtjfjagnnefmepaaDoor.AB
set_option maxRecDepth 100000
set_option maxHeartbeats 8000000
set_option linter.unusedSimpArgs false
set_option linter.unusedVariables false
mutual
theorem enc_inj : (a b : T) → enc a = enc b → a = b
  | ⟨a0, a1, a2, a3⟩, ⟨b0, b1, b2, b3⟩, h => by
    rw [enc_eq, enc_eq] at h
    simp only [List.cons.injEq, V.int.injEq, V.str.injEq, V.sl.injEq, true_and, and_true] at h
    obtain ⟨h0, h1, h2, h3, _⟩ := h
    have := encL_inj a3 b3 h3
    rw [h0, h1, h2, this]
theorem encL_inj : (l m : List T) → encL l = encL m → l = m
  | [], [], _ => rfl
  | [], b :: m, h => by have := congrArg List.length h; rw [encL_len, encL_len] at this; simp at this
  | a :: l, [], h => by have := congrArg List.length h; rw [encL_len, encL_len] at this; simp at this
  | a :: l, b :: m, h => by
    have e : enc a = enc b ∧ encL l = encL m := by
      have ha : (enc a).length = 4 := by rw [enc_eq]; rfl
      have hb : (enc b).length = 4 := by rw [enc_eq]; rfl
      have h' : enc a ++ encL l = enc b ++ encL m := h
      exact List.append_inj h' (by rw [ha, hb])
    rw [enc_inj a b e.1, encL_inj l m e.2]
end
theorem sndL : Sound (cfg ext0) LaidW := Sound.of LaidW.below mixed okf ext_ok extR_ok
/-- what Put hands to caught -/
def putCl (v : T) (p : List T) (x : T) : List V := [.fn 28 [.ptr (enc v) 0, .ptr [.sl false (encL p) p.length] 0, .ptr (enc x) 0]]
theorem putCl_inj {v v' x x' : T} {p p' : List T} (h : putCl v p x = putCl v' p' x') : v = v' ∧ p = p' ∧ x = x' := by
  simp only [putCl, List.cons.injEq, V.fn.injEq, V.ptr.injEq, V.sl.injEq, true_and, and_true] at h
  exact ⟨enc_inj _ _ h.1, encL_inj _ _ h.2.1.1, enc_inj _ _ h.2.2⟩
/-- what caught tells of it -/
noncomputable def putRes (v : T) (p : List T) (x : T) : V := match putF v p x with
  | none => .tup [A nilT, .int .i64 260]
  | some w => if okB w = true then .tup [A w, .int .i64 0] else .tup [A nilT, .int .i64 2]
theorem wf_mk {k : Int} {l : List T} (hk : In64 k) (hl : l.length ≤ 1000000) (h : ∀ a ∈ l, WfV a) : WfV ⟨k, 0, ⟨#[]⟩, l⟩ := by
  simp only [WfV]
  exact ⟨hk, by unfold In64; omega, Nat.zero_le _, by omega, wfL_of l h⟩
theorem put_wf : ∀ (p : List T) (v x w : T), Good v → (∀ s ∈ p, Good s) → WfV x → putF v p x = some w → WfV w
  | [], v, x, w, hv, hp, hx, h => by cases h; exact hx
  | s :: p, v, x, w, hv, hp, hx, h => by
    have hs : Good s := hp s (by simp)
    have hp' : ∀ s' ∈ p, Good s' := fun s' h => hp s' (by simp [h])
    have ih := fun u => put_wf p ((partF v s).getD nilT) x u (old_good hv hs) hp' hx
    have hlen := (OK.row (okB_iff.1 hv.ok)).1
    have hw := hv.row.wfl
    unfold putF at h
    by_cases h4 : v.f0 = 4
    · rw [if_pos h4] at h
      cases hi : idxF v.f3.length s with
      | some i =>
        rw [hi] at h
        simp only [Option.map_eq_some_iff] at h
        obtain ⟨u, hu, rfl⟩ := h
        refine wf_mk (by unfold In64; omega) (by rw [List.length_set]; omega) (fun a ha => ?_)
        rcases List.mem_or_eq_of_mem_set ha with h | rfl
        · exact hw a h
        · exact ih a hu
      | none =>
        rw [hi] at h
        simp only at h
        split at h
        · simp only [Option.map_eq_some_iff] at h
          obtain ⟨u, hu, rfl⟩ := h
          refine wf_mk (by unfold In64; omega) (by rw [List.length_append]; show v.f3.length + 1 ≤ _; omega) (fun a ha => ?_)
          rcases List.mem_append.1 ha with h | h
          · exact hw a h
          · rw [List.mem_singleton.1 h]; exact ih u hu
        · cases h
    · rw [if_neg h4] at h
      split at h
      · simp only [Option.map_eq_some_iff] at h
        obtain ⟨u, hu, rfl⟩ := h
        unfold insF
        split
        · refine wf_mk (by unfold In64; omega) (by rw [List.length_set]; omega) (fun a ha => ?_)
          rcases List.mem_or_eq_of_mem_set ha with h | rfl
          · exact hw a h
          · exact ih a hu
        · refine wf_mk (by unfold In64; omega) (by simp; omega) (fun a ha => ?_)
          rcases List.mem_append.1 ha with h | h
          · rcases List.mem_append.1 h with h | h
            · exact hw a (List.mem_of_mem_take h)
            · simp only [List.mem_cons, List.not_mem_nil, or_false] at h
              rcases h with rfl | rfl
              · exact hs.wf
              · exact ih a hu
          · exact hw a (List.mem_of_mem_drop h)
      · cases h
theorem caughtPut (v x : T) (p : List T) (hv : Good v) (hp : ∀ s ∈ p, Good s) (hx : WfV x) : PureC Tryd.prog LaidW 27 (putCl v p x) (putRes v p x) := by
  have hz : fzPL (fzP 6) [.ptr (enc v) 0, .ptr [.sl false (encL p) p.length] 0, .ptr (enc x) 0] = some [.ptr (enc v) 0, .ptr [.sl false (encL p) p.length] 0, .ptr (enc x) 0] := rfl
  unfold putRes
  cases h : putF v p x with
  | none => exact caught_pan sndL ⟨_, Tryd.func28, rfl, by decide⟩ hz (tpan1c sndL non0 e26 x v p hv hp h)
  | some w =>
    have hE := tput1 (ext := ext0) non0 e26 x v w p hv hp h
    have hC := t22 non0 e26 e73 w (put_wf p v x w hv hp hx h)
    have := caught_ok sndL (e := if okB w = true then 0 else 3) rfl hz hE hC (fun h0 => townG non0 (by by_cases hk : okB w = true; exact hk; rw [if_neg hk] at h0; cases h0))
    by_cases hk : okB w = true
    · simp only [hk, if_true] at this ⊢; exact this
    · simp only [hk, if_false, Bool.false_eq_true] at this ⊢
      exact this
/-- the upper configuration: what lies below is as the lower one says -/
noncomputable def extU : Exts := fun f =>
  if f = 9 ∨ f = 12 ∨ f = 4 then none
  else if f = 27 then some fun av => open Classical in if h : ∃ q : T × List T × T, (Good q.1 ∧ (∀ s ∈ q.2.1, Good s) ∧ WfV q.2.2) ∧ av = putCl q.1 q.2.1 q.2.2 then some (putRes (Classical.choose h).1 (Classical.choose h).2.1 (Classical.choose h).2.2) else none
  else some fun av => open Classical in if h : ∃ r, (cfg ext0).Ev f av r then some (Classical.choose h) else none
noncomputable def cfgU : Cfg := ⟨Tryd.prog, fun f => Nat.beq f 9 || Nat.beq f 12 || Nat.beq f 4, extU, fun _ => none, fun _ => false⟩
theorem Ev.uniq {C : Cfg} {f : Nat} {av : List V} {r r' : V} (h : C.Ev f av r) (h' : C.Ev f av r') : r = r' := by
  obtain ⟨K, h⟩ := h.out
  obtain ⟨K', h'⟩ := h'.out
  have a := h (max K K') (by omega)
  have b := h' (max K K') (by omega)
  rw [a] at b
  exact Option.some.inj b
theorem up {f : Nat} {av : List V} {r : V} (hf : ¬ (f = 9 ∨ f = 12 ∨ f = 4)) (hc : f ≠ 27) (h : (cfg ext0).Ev f av r) : cfgU.Ev f av r := by
  have e : cfgU.ext f = some fun av => open Classical in if h : ∃ r, (cfg ext0).Ev f av r then some (Classical.choose h) else none := by
    show extU f = _
    unfold extU
    rw [if_neg hf, if_neg hc]
  refine Ev.ext e ?_
  have hex : ∃ r, (cfg ext0).Ev f av r := ⟨r, h⟩
  simp only [dif_pos hex]
  rw [Ev.uniq (Classical.choose_spec hex) h]
theorem upC (v x : T) (p : List T) (hv : Good v) (hp : ∀ s ∈ p, Good s) (hx : WfV x) : cfgU.Ev 27 (putCl v p x) (putRes v p x) := by
  have hex : ∃ q : T × List T × T, (Good q.1 ∧ (∀ s ∈ q.2.1, Good s) ∧ WfV q.2.2) ∧ putCl v p x = putCl q.1 q.2.1 q.2.2 := ⟨(v, p, x), ⟨hv, hp, hx⟩, rfl⟩
  have e : cfgU.ext 27 = some fun av => open Classical in if h : ∃ q : T × List T × T, (Good q.1 ∧ (∀ s ∈ q.2.1, Good s) ∧ WfV q.2.2) ∧ av = putCl q.1 q.2.1 q.2.2 then some (putRes (Classical.choose h).1 (Classical.choose h).2.1 (Classical.choose h).2.2) else none := rfl
  refine Ev.ext e ?_
  simp only [dif_pos hex]
  obtain ⟨h1, h2, h3⟩ := putCl_inj (Classical.choose_spec hex).2
  rw [← h1, ← h2, ← h3]
theorem sndU : Sound cfgU LaidW := by
  refine Sound.of LaidW.below mixed ?_ ?_ (fun f g av hp r hp' _ hf => by cases hf)
  · intro f fn body hf h1 h2
    have hf' : (Nat.beq f 9 || Nat.beq f 12 || Nat.beq f 4) = true := hf
    simp only [Bool.or_eq_true] at hf'
    rcases hf' with (h | h) | h
    all_goals (have e := Nat.eq_of_beq_eq_true h; subst e; exact okf _ fn body rfl h1 h2)
  · intro f g av r hf hg
    have hf' : extU f = some g := hf
    unfold extU at hf'
    split at hf'
    · cases hf'
    · split at hf'
      · rename_i hc
        cases hf'
        subst hc
        simp only at hg
        split at hg
        · rename_i hex
          cases hg
          have hs := Classical.choose_spec hex
          refine ⟨⟨_, Tryd.func27, rfl, by decide⟩, ?_⟩
          have key : ∀ (a b : List V) (r : V), a = b → PureC Tryd.prog LaidW 27 b r → PureC Tryd.prog LaidW 27 a r := by rintro _ _ _ rfl h; exact h
          exact key _ _ _ hs.2 (caughtPut _ _ _ hs.1.1 hs.1.2.1 hs.1.2.2)
        · cases hg
      · cases hf'
        simp only at hg
        split at hg
        · rename_i hex
          cases hg
          obtain ⟨K, hK⟩ := (Classical.choose_spec hex).out
          exact (sndL.env K).call _ _ _ (hK K (Nat.le_refl _))
        · cases hg
end Go.Proofs.YtjfjagnnefmepaaDoor.AB
end

section
set_option linter.unusedVariables false
set_option linter.unusedSimpArgs false
open Go Go.Ab Go.Proofs Go.Vl Go.RowKit
namespace Go.Proofs.YtjfjagnnefmepaaDoor.AB
set_option maxRecDepth 100000
set_option maxHeartbeats 8000000
set_option linter.unusedSimpArgs false
set_option linter.unusedVariables false
theorem cl_eq (v x : T) (p : List T) : putCl v p x = [.fn 28 [.ptr [.int .i64 v.f0, .int .i64 v.f1, .str v.f2, .sl false (encL v.f3) v.f3.length] 0, .ptr [.sl false (encL p) p.length] 0, .ptr [.int .i64 x.f0, .int .i64 x.f1, .str x.f2, .sl false (encL x.f3) x.f3.length] 0]] := by
  unfold putCl; rw [enc_eq, enc_eq]
/-- what Put tells -/
noncomputable def putAll (v : T) (p : List T) (x : T) : V :=
  if okB v = true then if askZ p = 0 then if okB x = true then putRes v p x else .tup [A nilT, .int .i64 3] else .tup [A nilT, .int .i64 (askZ p)] else .tup [A nilT, .int .i64 3]
theorem ask0 {p : List T} (h : askZ p = 0) : p.length ≤ 16 ∧ ∀ s ∈ p, okB s = true := by
  unfold askZ at h
  split at h
  · cases h
  · split at h
    · rename_i h1 h2; exact ⟨by omega, List.all_eq_true.1 h2⟩
    · cases h
theorem askn {p : List T} (h : askZ p ≠ 0) : askZ p = 2 ∨ askZ p = 3 := by
  unfold askZ at h ⊢
  split
  · exact .inl rfl
  · rename_i h1
    rw [if_neg h1] at h
    split
    · rename_i h2; rw [if_pos h2] at h; exact absurd rfl h
    · exact .inr rfl
theorem putRes_tup (v x : T) (p : List T) : ∃ (u : T) (e : Int), putRes v p x = .tup [A u, .int .i64 e] := by
  unfold putRes
  split
  · exact ⟨_, _, rfl⟩
  · split <;> exact ⟨_, _, rfl⟩
/-- a low call, seen from above -/
theorem hnU (f : Nat) (h : f = 9 ∨ f = 12 ∨ f = 4) : cfgU.ext f = none := by
  show extU f = none
  unfold extU
  rw [if_pos h]
theorem tPut (v x : T) (p : List T) (hv : WfV v) (hp : ∀ s ∈ p, WfV s) (hx : WfV x) (hl : p.length ≤ 9223372036854775807) : cfgU.Ev 9 [A v, .sl false (encL p) p.length, A x] (putAll v p x) := by
  have h1 := up (by decide) (by decide) (t22 non0 e26 e73 v hv)
  have h2 := up (by decide) (by decide) (tasked non0 e26 e73 p hl hp)
  have h3 := up (by decide) (by decide) (t22 non0 e26 e73 x hx)
  unfold putAll
  by_cases hv' : okB v = true
  · rw [if_pos hv'] at h1 ⊢
    by_cases ha : askZ p = 0
    · rw [if_pos ha]
      rw [ha] at h2
      by_cases hx' : okB x = true
      · rw [if_pos hx'] at h3 ⊢
        have h4 := upC v x p ⟨hv, hv'⟩ (fun s hs => ⟨hp s hs, (ask0 ha).2 s hs⟩) hx
        rw [cl_eq] at h4
        obtain ⟨u, e, hu⟩ := putRes_tup v x p
        rw [hu] at h4 ⊢
        refine Ev.of (hnU _ (.inl rfl)) Tryd.func9 rfl rfl ?_
        conv => whnf
        repeat (first
          | (refine sel_yes ?_ ?_; (first | assumption | (simp only [beq_iff_eq, bne_iff_ne, beq_eq_false_iff_ne, bne_eq_false_iff_eq, decide_eq_true_eq, decide_eq_false_iff_not, Bool.not_eq_true', Bool.not_eq_false', ne_eq, beq_true, beq_false, bne_self_eq_false, not_true_eq_false, not_false_eq_true, gt_iff_lt, ge_iff_le, Int.not_lt, Int.not_le, Bool.true_eq_false, Bool.false_eq_true] <;> omega)); conv => whnf)
          | (refine sel_no ?_ ?_; (first | assumption | (simp only [beq_iff_eq, bne_iff_ne, beq_eq_false_iff_ne, bne_eq_false_iff_eq, decide_eq_true_eq, decide_eq_false_iff_not, Bool.not_eq_true', Bool.not_eq_false', ne_eq, beq_true, beq_false, bne_self_eq_false, not_true_eq_false, not_false_eq_true, gt_iff_lt, ge_iff_le, Int.not_lt, Int.not_le, Bool.true_eq_false, Bool.false_eq_true] <;> omega)); conv => whnf)
          | (refine ⟨_, h1, ?_⟩; conv => whnf)
          | (refine ⟨_, h2, ?_⟩; conv => whnf)
          | (refine ⟨_, h3, ?_⟩; conv => whnf)
          | (refine ⟨_, h4, ?_⟩; conv => whnf)
          | (refine ⟨le_rfl' ?_, ?_⟩; rfl; conv => whnf)
          | (refine ⟨⟨?_, ?_⟩, ?_⟩; omega; omega; conv => whnf)
          | (refine ⟨⟨?_, ?_, ?_⟩, ?_⟩; rfl; omega; omega; conv => whnf)
          | (refine ⟨rfl, ?_, ?_⟩; decide; conv => whnf))
        try exact rfl
      · rw [if_neg hx'] at h3 ⊢
        refine Ev.of (hnU _ (.inl rfl)) Tryd.func9 rfl rfl ?_
        conv => whnf
        repeat (first
          | (refine sel_yes ?_ ?_; (first | assumption | (simp only [beq_iff_eq, bne_iff_ne, beq_eq_false_iff_ne, bne_eq_false_iff_eq, decide_eq_true_eq, decide_eq_false_iff_not, Bool.not_eq_true', Bool.not_eq_false', ne_eq, beq_true, beq_false, bne_self_eq_false, not_true_eq_false, not_false_eq_true, gt_iff_lt, ge_iff_le, Int.not_lt, Int.not_le, Bool.true_eq_false, Bool.false_eq_true] <;> omega)); conv => whnf)
          | (refine sel_no ?_ ?_; (first | assumption | (simp only [beq_iff_eq, bne_iff_ne, beq_eq_false_iff_ne, bne_eq_false_iff_eq, decide_eq_true_eq, decide_eq_false_iff_not, Bool.not_eq_true', Bool.not_eq_false', ne_eq, beq_true, beq_false, bne_self_eq_false, not_true_eq_false, not_false_eq_true, gt_iff_lt, ge_iff_le, Int.not_lt, Int.not_le, Bool.true_eq_false, Bool.false_eq_true] <;> omega)); conv => whnf)
          | (refine ⟨_, h1, ?_⟩; conv => whnf)
          | (refine ⟨_, h2, ?_⟩; conv => whnf)
          | (refine ⟨_, h3, ?_⟩; conv => whnf)
          | (refine ⟨le_rfl' ?_, ?_⟩; rfl; conv => whnf)
          | (refine ⟨⟨?_, ?_⟩, ?_⟩; omega; omega; conv => whnf)
          | (refine ⟨⟨?_, ?_, ?_⟩, ?_⟩; rfl; omega; omega; conv => whnf)
          | (refine ⟨rfl, ?_, ?_⟩; decide; conv => whnf))
        try exact rfl
    · rw [if_neg ha]
      rcases askn ha with e | e
      all_goals rw [e] at h2 ⊢
      all_goals refine Ev.of (hnU _ (.inl rfl)) Tryd.func9 rfl rfl ?_
      · conv => whnf
        repeat (first
          | (refine sel_yes ?_ ?_; (first | assumption | (simp only [beq_iff_eq, bne_iff_ne, beq_eq_false_iff_ne, bne_eq_false_iff_eq, decide_eq_true_eq, decide_eq_false_iff_not, Bool.not_eq_true', Bool.not_eq_false', ne_eq, beq_true, beq_false, bne_self_eq_false, not_true_eq_false, not_false_eq_true, gt_iff_lt, ge_iff_le, Int.not_lt, Int.not_le, Bool.true_eq_false, Bool.false_eq_true] <;> omega)); conv => whnf)
          | (refine sel_no ?_ ?_; (first | assumption | (simp only [beq_iff_eq, bne_iff_ne, beq_eq_false_iff_ne, bne_eq_false_iff_eq, decide_eq_true_eq, decide_eq_false_iff_not, Bool.not_eq_true', Bool.not_eq_false', ne_eq, beq_true, beq_false, bne_self_eq_false, not_true_eq_false, not_false_eq_true, gt_iff_lt, ge_iff_le, Int.not_lt, Int.not_le, Bool.true_eq_false, Bool.false_eq_true] <;> omega)); conv => whnf)
          | (refine ⟨_, h1, ?_⟩; conv => whnf)
          | (refine ⟨_, h2, ?_⟩; conv => whnf)
          | (refine ⟨_, h3, ?_⟩; conv => whnf)
          | (refine ⟨le_rfl' ?_, ?_⟩; rfl; conv => whnf)
          | (refine ⟨⟨?_, ?_⟩, ?_⟩; omega; omega; conv => whnf)
          | (refine ⟨⟨?_, ?_, ?_⟩, ?_⟩; rfl; omega; omega; conv => whnf)
          | (refine ⟨rfl, ?_, ?_⟩; decide; conv => whnf))
        try exact rfl
      · conv => whnf
        repeat (first
          | (refine sel_yes ?_ ?_; (first | assumption | (simp only [beq_iff_eq, bne_iff_ne, beq_eq_false_iff_ne, bne_eq_false_iff_eq, decide_eq_true_eq, decide_eq_false_iff_not, Bool.not_eq_true', Bool.not_eq_false', ne_eq, beq_true, beq_false, bne_self_eq_false, not_true_eq_false, not_false_eq_true, gt_iff_lt, ge_iff_le, Int.not_lt, Int.not_le, Bool.true_eq_false, Bool.false_eq_true] <;> omega)); conv => whnf)
          | (refine sel_no ?_ ?_; (first | assumption | (simp only [beq_iff_eq, bne_iff_ne, beq_eq_false_iff_ne, bne_eq_false_iff_eq, decide_eq_true_eq, decide_eq_false_iff_not, Bool.not_eq_true', Bool.not_eq_false', ne_eq, beq_true, beq_false, bne_self_eq_false, not_true_eq_false, not_false_eq_true, gt_iff_lt, ge_iff_le, Int.not_lt, Int.not_le, Bool.true_eq_false, Bool.false_eq_true] <;> omega)); conv => whnf)
          | (refine ⟨_, h1, ?_⟩; conv => whnf)
          | (refine ⟨_, h2, ?_⟩; conv => whnf)
          | (refine ⟨_, h3, ?_⟩; conv => whnf)
          | (refine ⟨le_rfl' ?_, ?_⟩; rfl; conv => whnf)
          | (refine ⟨⟨?_, ?_⟩, ?_⟩; omega; omega; conv => whnf)
          | (refine ⟨⟨?_, ?_, ?_⟩, ?_⟩; rfl; omega; omega; conv => whnf)
          | (refine ⟨rfl, ?_, ?_⟩; decide; conv => whnf))
        try exact rfl
  · rw [if_neg hv'] at h1 ⊢
    refine Ev.of (hnU _ (.inl rfl)) Tryd.func9 rfl rfl ?_
    conv => whnf
    repeat (first
      | (refine sel_yes ?_ ?_; (first | assumption | (simp only [beq_iff_eq, bne_iff_ne, beq_eq_false_iff_ne, bne_eq_false_iff_eq, decide_eq_true_eq, decide_eq_false_iff_not, Bool.not_eq_true', Bool.not_eq_false', ne_eq, beq_true, beq_false, bne_self_eq_false, not_true_eq_false, not_false_eq_true, gt_iff_lt, ge_iff_le, Int.not_lt, Int.not_le, Bool.true_eq_false, Bool.false_eq_true] <;> omega)); conv => whnf)
      | (refine sel_no ?_ ?_; (first | assumption | (simp only [beq_iff_eq, bne_iff_ne, beq_eq_false_iff_ne, bne_eq_false_iff_eq, decide_eq_true_eq, decide_eq_false_iff_not, Bool.not_eq_true', Bool.not_eq_false', ne_eq, beq_true, beq_false, bne_self_eq_false, not_true_eq_false, not_false_eq_true, gt_iff_lt, ge_iff_le, Int.not_lt, Int.not_le, Bool.true_eq_false, Bool.false_eq_true] <;> omega)); conv => whnf)
      | (refine ⟨_, h1, ?_⟩; conv => whnf)
      | (refine ⟨le_rfl' ?_, ?_⟩; rfl; conv => whnf)
      | (refine ⟨⟨?_, ?_⟩, ?_⟩; omega; omega; conv => whnf)
      | (refine ⟨⟨?_, ?_, ?_⟩, ?_⟩; rfl; omega; omega; conv => whnf)
      | (refine ⟨rfl, ?_, ?_⟩; decide; conv => whnf))
    try exact rfl
end Go.Proofs.YtjfjagnnefmepaaDoor.AB
end

section
set_option linter.unusedVariables false
set_option linter.unusedSimpArgs false
open Go Go.Ab Go.Proofs Go.Vl
namespace Go.Proofs.YtjfjagnnefmepaaDoor.AB
set_option maxRecDepth 100000
set_option maxHeartbeats 1600000
set_option linter.unusedSimpArgs false
section
variable {ext : Exts}
noncomputable def eqT (a b : T) : Bool := @decide (a = b) (Classical.propDecidable _)
theorem eqT_iff {a b : T} : eqT a b = true ↔ a = b := by unfold eqT; exact @decide_eq_true_iff _ (Classical.propDecidable _)
theorem eqT_self (a : T) : eqT a a = true := eqT_iff.2 rfl
noncomputable def eqL (a b : List T) : Bool := @decide (a = b) (Classical.propDecidable _)
theorem eqL_iff {a b : List T} : eqL a b = true ↔ a = b := by unfold eqL; exact @decide_eq_true_iff _ (Classical.propDecidable _)
theorem eqL_self (a : List T) : eqL a a = true := eqL_iff.2 rfl
theorem eqL_cons {a b : T} {l m : List T} : eqL (a :: l) (b :: m) = (eqT a b && eqL l m) := by
  rw [Bool.eq_iff_iff, Bool.and_eq_true, eqL_iff, eqT_iff, eqL_iff]
  exact ⟨fun h => by injection h with h1 h2; exact ⟨h1, h2⟩, fun h => by rw [h.1, h.2]⟩
theorem eqL_drop {l m : List T} {i : Nat} (h1 : i < l.length) (h2 : i < m.length) : eqL (l.drop i) (m.drop i) = (eqT l[i] m[i] && eqL (l.drop (i + 1)) (m.drop (i + 1))) := by
  rw [List.drop_eq_getElem_cons h1, List.drop_eq_getElem_cons h2, eqL_cons]
theorem wrapN1 {i : Nat} (h : i + 1 ≤ 9223372036854775807) : V.int .i64 (IntKind.i64.wrap ((i : Int) + 1)) = V.int .i64 ((i + 1 : Nat) : Int) := by
  rw [IntKind.wrap_i64]; exact vi (by omega)
theorem lplain (k n : Int) (t : ByteArray) (l : List T) (k' n' : Int) (t' : ByteArray) (m : List T) (hm : l.length = m.length) (hl : l.length ≤ 9223372036854775807) (E : ∀ a ∈ l, ∀ b ∈ m, (cfg ext).Ev 11 [A a, A b] (.bool (eqT a b))) (Q : Ex → St → Prop) (d : Nat) :
    ∀ (i : Nat) (z : St), l.length - i = d → i ≤ l.length → Has z.t [(37, .int .i64 i), (36, .int .i64 l.length), (2, .ref 0 0), (3, .ref 1 0)] →
      Has z.hp.h [(0, some (.cells [.int .i64 k, .int .i64 n, .str t, .sl false (encL l) l.length] false)), (1, some (.cells [.int .i64 k', .int .i64 n', .str t', .sl false (encL m) m.length] false))] → z.hp.n = 35 →
      (∀ z', z'.t 4 = .bool false → eqL (l.drop i) (m.drop i) = false → Q .ret z') → (∀ z', eqL (l.drop i) (m.drop i) = true → Q (.exit 0) z') →
      Go.Ab.Loop (cfg ext) (lpOf Tryd.f11) 35 z Q := by
  induction d with
  | zero =>
    intro i z hd hi ht hh hn hr hq
    obtain rfl : i = l.length := by omega
    rw [St.knows _ _ ht hn _ hh]
    refine Loop.round ?_
    conv => whnf
    refine sel_no (by simp) ?_
    conv => whnf
    exact hq _ (by rw [List.drop_length, hm, List.drop_length]; exact eqL_self _)
  | succ d ih =>
    intro i z hd hi ht hh hn hr hq
    have h1 : i < l.length := by omega
    have h2 : i < m.length := by omega
    have hE := E _ (List.getElem_mem h1) _ (List.getElem_mem h2)
    have eD := eqL_drop h1 h2
    rw [St.knows _ _ ht hn _ hh]
    refine Loop.round ?_
    conv => whnf
    refine sel_yes (by simp; omega) ?_
    conv => whnf
    refine ⟨⟨by omega, by omega⟩, ?_⟩
    conv => whnf
    refine ldA (i := i) h1 ?_
    conv => whnf
    refine ⟨⟨by omega, by omega⟩, ?_⟩
    conv => whnf
    refine ldA (i := i) h2 ?_
    conv => whnf
    refine ⟨_, hE, ?_⟩
    cases he : eqT l[i] m[i] with
    | false =>
      conv => whnf
      exact hr _ rfl (by rw [eD, he]; rfl)
    | true =>
      conv => whnf
      refine ih (i + 1) _ (by omega) (by omega) ⟨?_, rfl, rfl, rfl, trivial⟩ ⟨rfl, rfl, trivial⟩ rfl (fun z' a b => hr z' a (by rw [eD, he]; exact b)) (fun z' a => hq z' (by rw [eD, he]; exact a))
      conv => lhs; whnf
      exact wrapN1 (by omega)
mutual
theorem tplain (hn : Non ext) : (a : T) → WfV a → (b : T) → (cfg ext).Ev 11 [A a, A b] (.bool (eqT a b))
  | ⟨k, n, t, l⟩, hw, ⟨k', n', t', m⟩ => by
    have E : ∀ a ∈ l, ∀ b ∈ m, (cfg ext).Ev 11 [A a, A b] (.bool (eqT a b)) := fun a ha b _ => tplainL hn l (by simp only [WfV] at hw; exact hw.2.2.2.2) a ha b
    have hl : l.length ≤ 9223372036854775807 := by simp only [WfV] at hw; exact hw.2.2.2.1
    have no (h : ¬ (k = k' ∧ n = n' ∧ t = t' ∧ l.length = m.length)) : eqT ⟨k, n, t, l⟩ ⟨k', n', t', m⟩ = false := by
      cases e : eqT ⟨k, n, t, l⟩ ⟨k', n', t', m⟩ with
      | false => rfl
      | true => have := eqT_iff.1 e; injection this with e1 e2 e3 e4; exact absurd ⟨e1, e2, e3, by rw [e4]⟩ h
    refine Ev.of (hn 11 (by decide) (by decide)) Tryd.func11 rfl rfl ?_
    conv => whnf
    by_cases h1 : k = k'
    · by_cases h2 : n = n'
      · by_cases h3 : t = t'
        · have h3' : (!(t.toList == t'.toList)) = false := by rw [h3]; simp
          by_cases h4 : l.length = m.length
          · have h4' : ((l.length : Int) != (m.length : Int)) = false := by rw [h4]; simp
            repeat (first
              | (refine sel_no ?_ ?_; (first | exact h3' | exact h4' | (simp only [bne_eq_false_iff_eq, beq_eq_false_iff_ne, beq_iff_eq, beq_false, Bool.not_eq_true']; omega) | (rw [h3']; rfl) | (rw [h4']; rfl)); conv => whnf)
              | (refine sel_yes ?_ ?_; (first | (simp only [bne_eq_false_iff_eq, beq_eq_false_iff_ne, beq_iff_eq, beq_false, Bool.not_eq_true']; omega) | (rw [h3']; rfl) | (rw [h4']; rfl)); conv => whnf))
            refine lplain k n t l k' n' t' m h4 hl E _ _ 0 _ rfl (by omega) ⟨rfl, rfl, rfl, rfl, trivial⟩ ⟨rfl, rfl, trivial⟩ rfl (fun z a b => ?_) (fun z a => ?_)
            · conv => whnf
              rw [a]
              refine congrArg V.bool ?_
              simp only [List.drop_zero] at b
              cases e : eqT ⟨k, n, t, l⟩ ⟨k', n', t', m⟩ with
              | false => rfl
              | true => have := eqT_iff.1 e; injection this with e1 e2 e3 e4; rw [e4, eqL_self] at b; cases b
            · conv => whnf
              refine congrArg V.bool ?_
              simp only [List.drop_zero] at a
              have := eqL_iff.1 a
              rw [h1, h2, h3, this, eqT_self]
          · rw [no (fun h => h4 h.2.2.2)]
            have h4' : ((l.length : Int) != (m.length : Int)) = true := by simp; omega
            repeat (first
              | (refine sel_no ?_ ?_; (first | exact h3' | (simp only [bne_eq_false_iff_eq, beq_eq_false_iff_ne, beq_iff_eq, beq_false, Bool.not_eq_true']; omega) | (rw [h3']; rfl)); conv => whnf)
              | (refine sel_yes ?_ ?_; (first | exact h4' | (simp only [bne_eq_false_iff_eq, beq_eq_false_iff_ne, beq_iff_eq, beq_false, Bool.not_eq_true']; omega) | (rw [h3']; rfl) | (rw [h4']; rfl)); conv => whnf))
        · rw [no (fun h => h3 h.2.2.1)]
          have h3' : (!(t.toList == t'.toList)) = true := by
            rw [Bool.not_eq_true', beq_eq_false_iff_ne]
            intro h
            exact h3 (Go.WideShapes.bytes_inj (by rw [ByteArray.toList_eq, ByteArray.toList_eq] at h; exact h))
          repeat (first
            | (refine sel_no ?_ ?_; (first | (simp only [bne_eq_false_iff_eq, beq_eq_false_iff_ne, beq_iff_eq, beq_false, Bool.not_eq_true']; omega) | (rw [h3']; rfl)); conv => whnf)
            | (refine sel_yes ?_ ?_; (first | exact h3' | (simp only [bne_eq_false_iff_eq, beq_eq_false_iff_ne, beq_iff_eq, beq_false, Bool.not_eq_true']; omega) | (rw [h3']; rfl)); conv => whnf))
      · rw [no (fun h => h2 h.2.1)]
        repeat (first
          | (refine sel_yes ?_ ?_; (first | assumption | (simp only [beq_iff_eq, bne_iff_ne, beq_eq_false_iff_ne, bne_eq_false_iff_eq, decide_eq_true_eq, decide_eq_false_iff_not, Bool.not_eq_true', Bool.not_eq_false', ne_eq, beq_true, beq_false, bne_self_eq_false, not_true_eq_false, not_false_eq_true, gt_iff_lt, ge_iff_le, Int.not_lt, Int.not_le, Bool.true_eq_false, Bool.false_eq_true] <;> omega)); conv => whnf)
          | (refine sel_no ?_ ?_; (first | assumption | (simp only [beq_iff_eq, bne_iff_ne, beq_eq_false_iff_ne, bne_eq_false_iff_eq, decide_eq_true_eq, decide_eq_false_iff_not, Bool.not_eq_true', Bool.not_eq_false', ne_eq, beq_true, beq_false, bne_self_eq_false, not_true_eq_false, not_false_eq_true, gt_iff_lt, ge_iff_le, Int.not_lt, Int.not_le, Bool.true_eq_false, Bool.false_eq_true] <;> omega)); conv => whnf)
          | (refine ⟨le_rfl' ?_, ?_⟩; rfl; conv => whnf)
          | (refine ⟨⟨?_, ?_⟩, ?_⟩; omega; omega; conv => whnf)
          | (refine ⟨⟨?_, ?_, ?_⟩, ?_⟩; rfl; omega; omega; conv => whnf)
          | (refine ⟨rfl, ?_, ?_⟩; decide; conv => whnf))
        try exact rfl
    · rw [no (fun h => h1 h.1)]
      repeat (first
        | (refine sel_yes ?_ ?_; (first | assumption | (simp only [beq_iff_eq, bne_iff_ne, beq_eq_false_iff_ne, bne_eq_false_iff_eq, decide_eq_true_eq, decide_eq_false_iff_not, Bool.not_eq_true', Bool.not_eq_false', ne_eq, beq_true, beq_false, bne_self_eq_false, not_true_eq_false, not_false_eq_true, gt_iff_lt, ge_iff_le, Int.not_lt, Int.not_le, Bool.true_eq_false, Bool.false_eq_true] <;> omega)); conv => whnf)
        | (refine sel_no ?_ ?_; (first | assumption | (simp only [beq_iff_eq, bne_iff_ne, beq_eq_false_iff_ne, bne_eq_false_iff_eq, decide_eq_true_eq, decide_eq_false_iff_not, Bool.not_eq_true', Bool.not_eq_false', ne_eq, beq_true, beq_false, bne_self_eq_false, not_true_eq_false, not_false_eq_true, gt_iff_lt, ge_iff_le, Int.not_lt, Int.not_le, Bool.true_eq_false, Bool.false_eq_true] <;> omega)); conv => whnf)
        | (refine ⟨le_rfl' ?_, ?_⟩; rfl; conv => whnf)
        | (refine ⟨⟨?_, ?_⟩, ?_⟩; omega; omega; conv => whnf)
        | (refine ⟨⟨?_, ?_, ?_⟩, ?_⟩; rfl; omega; omega; conv => whnf)
        | (refine ⟨rfl, ?_, ?_⟩; decide; conv => whnf))
      try exact rfl
theorem tplainL (hn : Non ext) : (l : List T) → WfL l → ∀ a ∈ l, ∀ b : T, (cfg ext).Ev 11 [A a, A b] (.bool (eqT a b))
  | [], _, a, ha, _ => by cases ha
  | v :: l, hw, a, ha, b => by
    simp only [WfL] at hw
    rcases List.mem_cons.1 ha with e | h
    · rw [e]; exact tplain hn v hw.1 b
    · exact tplainL hn l hw.2 a h b
end
end
end Go.Proofs.YtjfjagnnefmepaaDoor.AB
end

section
set_option linter.unusedVariables false
set_option linter.unusedSimpArgs false
open Go Go.Ab Go.Proofs Go.Vl Go.RowKit
namespace Go.Proofs.YtjfjagnnefmepaaDoor.AB
set_option maxRecDepth 100000
set_option maxHeartbeats 8000000
set_option linter.unusedSimpArgs false
set_option linter.unusedVariables false
def pA : T := ⟨3, 0, ⟨#[97]⟩, []⟩
def pB : T := ⟨3, 0, ⟨#[98]⟩, []⟩
def p1 : T := ⟨2, 1, ⟨#[]⟩, []⟩
def p3 : T := ⟨2, 3, ⟨#[]⟩, []⟩
def pL : T := ⟨4, 0, ⟨#[]⟩, []⟩
def pM : T := ⟨6, 0, ⟨#[]⟩, [pA, ⟨6, 0, ⟨#[]⟩, [pB, p1]⟩]⟩
section
variable {ext : Exts}
theorem tText (hn : Non ext) (s : ByteArray) : (cfg ext).Ev 34 [.str s] (A ⟨3, 0, s, []⟩) := by
  refine Ev.of (hn 34 (by decide) (by decide)) Tryd.func34 rfl rfl ?_
  conv => whnf
  rfl
theorem tInt (hn : Non ext) (n : Int) : (cfg ext).Ev 35 [.int .i64 n] (A ⟨2, n, ⟨#[]⟩, []⟩) := by
  refine Ev.of (hn 35 (by decide) (by decide)) Tryd.func35 rfl rfl ?_
  conv => whnf
  rfl
end
theorem u_A : utfB ⟨#[97]⟩ = true := by kernel_rfl
theorem u_B : utfB ⟨#[98]⟩ = true := by kernel_rfl
theorem z_1 (b : UInt8) : (⟨#[b]⟩ : ByteArray).size = 1 := rfl
theorem z_0 : (⟨#[]⟩ : ByteArray).size = 0 := rfl
theorem k_nil : okB nilT = true := by
  rw [okB_iff]
  simp [OK, OkV, OkL, FormV, PlainV, deepV, deepL, partsV, partsL, Rise, nilT, pA, pB, p1, p3, pL, pM, u_A, u_B, z_1, z_0]
theorem k_A : okB pA = true := by
  rw [okB_iff]
  simp [OK, OkV, OkL, FormV, PlainV, deepV, deepL, partsV, partsL, Rise, nilT, pA, pB, p1, p3, pL, pM, u_A, u_B, z_1, z_0]
theorem k_B : okB pB = true := by
  rw [okB_iff]
  simp [OK, OkV, OkL, FormV, PlainV, deepV, deepL, partsV, partsL, Rise, nilT, pA, pB, p1, p3, pL, pM, u_A, u_B, z_1, z_0]
theorem k_1 : okB p1 = true := by
  rw [okB_iff]
  simp [OK, OkV, OkL, FormV, PlainV, deepV, deepL, partsV, partsL, Rise, nilT, pA, pB, p1, p3, pL, pM, u_A, u_B, z_1, z_0]
theorem k_3 : okB p3 = true := by
  rw [okB_iff]
  simp [OK, OkV, OkL, FormV, PlainV, deepV, deepL, partsV, partsL, Rise, nilT, pA, pB, p1, p3, pL, pM, u_A, u_B, z_1, z_0]
theorem k_L : okB pL = true := by
  rw [okB_iff]
  simp [OK, OkV, OkL, FormV, PlainV, deepV, deepL, partsV, partsL, Rise, nilT, pA, pB, p1, p3, pL, pM, u_A, u_B, z_1, z_0]
theorem k_M : okB pM = true := by
  rw [okB_iff]
  simp [OK, OkV, OkL, FormV, PlainV, deepV, deepL, partsV, partsL, Rise, nilT, pA, pB, p1, p3, pL, pM, u_A, u_B, z_1, z_0]
  exact ⟨fun i _ h => absurd h (by omega), fun i _ h => absurd h (by omega)⟩
theorem k_put : putF nilT [pA, pB] p1 = some pM := by kernel_rfl
theorem k_at : atF pM [pA, pB] = some p1 := by kernel_rfl
theorem k_pan : putF pL [p3] pA = none := by kernel_rfl
theorem w_nil : WfV nilT := by simp [nilT, WfV, WfL, In64, z_0]
theorem w_A : WfV pA := by simp [pA, WfV, WfL, In64, z_0, z_1]
theorem w_B : WfV pB := by simp [pB, WfV, WfL, In64, z_0, z_1]
theorem w_1 : WfV p1 := by simp [p1, WfV, WfL, In64, z_0, z_1]
theorem w_3 : WfV p3 := by simp [p3, WfV, WfL, In64, z_0, z_1]
theorem w_L : WfV pL := by simp [pL, WfV, WfL, In64, z_0, z_1]
theorem w_M : WfV pM := by simp [pM, pA, pB, p1, WfV, WfL, In64, z_0, z_1]
theorem s_put1 : cfgU.Ev 9 [A nilT, .sl false (encL [pA, pB]) 2, A p1] (.tup [A pM, .int .i64 0]) := by
  have h := tPut nilT p1 [pA, pB] w_nil (by simp [w_A, w_B]) w_1 (by decide)
  have e : putAll nilT [pA, pB] p1 = .tup [A pM, .int .i64 0] := by
    have a : askZ [pA, pB] = 0 := by simp [askZ, k_A, k_B]
    unfold putAll putRes
    rw [if_pos k_nil, if_pos a, if_pos k_1, k_put]
    simp only [k_M, if_true]
  rw [e] at h
  exact h
theorem s_put2 : cfgU.Ev 9 [A pL, .sl false (encL [p3]) 1, A pA] (.tup [A nilT, .int .i64 260]) := by
  have h := tPut pL pA [p3] w_L (by simp [w_3]) w_A (by decide)
  have e : putAll pL [p3] pA = .tup [A nilT, .int .i64 260] := by
    have a : askZ [p3] = 0 := by simp [askZ, k_3]
    unfold putAll putRes
    rw [if_pos k_L, if_pos a, if_pos k_A, k_pan]
  rw [e] at h
  exact h
theorem s_get : cfgU.Ev 13 [A pM, .sl false (encL [pA, pB]) 2] (.tup [A p1, .bool true, .int .i64 0]) :=
  up (by decide) (by decide) (tGet non0 e26 e73 pM p1 [pA, pB] ⟨w_M, k_M⟩ (by simp; exact ⟨⟨w_A, k_A⟩, ⟨w_B, k_B⟩⟩) (by decide) k_at)
theorem speaks26 : cfgU.Ev 12 [] (.bool true) := by
  have h1 := up (by decide) (by decide) (tText non0 ⟨#[97]⟩)
  have h2 := up (by decide) (by decide) (tText non0 ⟨#[98]⟩)
  have h3 := up (by decide) (by decide) (tInt non0 1)
  have h4 := up (by decide) (by decide) (tInt non0 3)
  have h5 := s_put1
  have h6 := s_put2
  have h7 := s_get
  refine Ev.of (hnU _ (.inr (.inl rfl))) Tryd.func12 rfl rfl ?_
  conv => whnf
  repeat (first
    | (refine sel_yes ?_ ?_; (first | assumption | (simp only [beq_iff_eq, bne_iff_ne, beq_eq_false_iff_ne, bne_eq_false_iff_eq, decide_eq_true_eq, decide_eq_false_iff_not, Bool.not_eq_true', Bool.not_eq_false', ne_eq, beq_true, beq_false, bne_self_eq_false, not_true_eq_false, not_false_eq_true, gt_iff_lt, ge_iff_le, Int.not_lt, Int.not_le, Bool.true_eq_false, Bool.false_eq_true] <;> omega)); conv => whnf)
    | (refine sel_no ?_ ?_; (first | assumption | (simp only [beq_iff_eq, bne_iff_ne, beq_eq_false_iff_ne, bne_eq_false_iff_eq, decide_eq_true_eq, decide_eq_false_iff_not, Bool.not_eq_true', Bool.not_eq_false', ne_eq, beq_true, beq_false, bne_self_eq_false, not_true_eq_false, not_false_eq_true, gt_iff_lt, ge_iff_le, Int.not_lt, Int.not_le, Bool.true_eq_false, Bool.false_eq_true] <;> omega)); conv => whnf)
    | (refine ⟨_, h1, ?_⟩; conv => whnf)
    | (refine ⟨_, h2, ?_⟩; conv => whnf)
    | (refine ⟨_, h3, ?_⟩; conv => whnf)
    | (refine ⟨_, h4, ?_⟩; conv => whnf)
    | (refine ⟨_, h5, ?_⟩; conv => whnf)
    | (refine ⟨_, h6, ?_⟩; conv => whnf)
    | (refine ⟨_, h7, ?_⟩; conv => whnf)
    | (refine ⟨le_rfl' ?_, ?_⟩; rfl; conv => whnf)
    | (refine ⟨⟨?_, ?_⟩, ?_⟩; omega; omega; conv => whnf)
    | (refine ⟨⟨?_, ?_, ?_⟩, ?_⟩; rfl; omega; omega; conv => whnf)
    | (refine ⟨rfl, ?_, ?_⟩; decide; conv => whnf))
  try exact rfl
end Go.Proofs.YtjfjagnnefmepaaDoor.AB
end

section
set_option linter.unusedVariables false
set_option linter.unusedSimpArgs false
open Go Go.Ab Go.Proofs Go.Vl Go.RowKit
namespace Go.Proofs.YtjfjagnnefmepaaDoor.AB
set_option maxRecDepth 100000
set_option maxHeartbeats 8000000
set_option linter.unusedSimpArgs false
set_option linter.unusedVariables false
/-- what the upper configuration says of a law, the machine does -/
theorem evU_calls {f : Nat} {vs : List V} (h : cfgU.Ev f vs (.bool true)) (W : World) (hT : LaidW W) (xs : Array Value) (hv : VRs (stab (inW W)) W vs xs.toList) :
    Calls Tryd.prog f xs W fun e w' => e = .returned (.bool true) ∧ Below W.heap.size W w' := by
  obtain ⟨K, hK⟩ := h.out
  refine (((sndU.env K).call _ _ _ (hK K (Nat.le_refl _))).2 (inW W) W xs hT (fun r o h => h) hv).mono ?_
  rintro e w' ⟨x, S', rfl, hb, _, _, hx⟩
  exact ⟨by rw [show x = .bool true from hx], hb⟩
theorem tup2 {u u' : T} {e e' : Int} (h : V.tup [A u, .int .i64 e] = .tup [A u', .int .i64 e']) : u = u' ∧ e = e' := by
  simp only [V.tup.injEq, List.cons.injEq, V.int.injEq, true_and, and_true] at h
  exact ⟨enc_inj _ _ (by rw [enc_eq, enc_eq]; exact (V.agg.inj h.1)), h.2⟩
/-- where Put tells no error -/
theorem putAll_0 {v x u : T} {p : List T} (h : putAll v p x = .tup [A u, .int .i64 0]) : okB v = true ∧ askZ p = 0 ∧ okB x = true ∧ putF v p x = some u ∧ okB u = true := by
  unfold putAll at h
  split at h
  · rename_i hv
    split at h
    · rename_i ha
      split at h
      · rename_i hx
        unfold putRes at h
        split at h
        · have := (tup2 h).2; omega
        · rename_i w hw
          split at h
          · rename_i hk
            have := (tup2 h).1
            subst this
            exact ⟨hv, ha, hx, hw, hk⟩
          · have := (tup2 h).2; omega
      · have := (tup2 h).2; omega
    · rename_i ha
      exact absurd (tup2 h).2 ha
  · have := (tup2 h).2; omega
theorem putAll_eq {v x u : T} {p : List T} (hv : okB v = true) (ha : askZ p = 0) (hx : okB x = true) (h : putF v p x = some u) : putAll v p x = if okB u = true then .tup [A u, .int .i64 0] else .tup [A nilT, .int .i64 2] := by
  unfold putAll putRes
  rw [if_pos hv, if_pos ha, if_pos hx, h]
theorem putAll_tup (v x : T) (p : List T) : ∃ (u : T) (e : Int), putAll v p x = .tup [A u, .int .i64 e] := by
  unfold putAll
  split
  · split
    · split
      · exact putRes_tup v x p
      · exact ⟨_, _, rfl⟩
    · exact ⟨_, _, rfl⟩
  · exact ⟨_, _, rfl⟩
theorem PathsBack_ev (v : T) (hv : WfV v) (p : List T) (hl : p.length ≤ 9223372036854775807) (hp : ∀ a ∈ p, WfV a) (x : T) (hx : WfV x) : cfgU.Ev 4 [A v, .sl false (encL p) p.length, A x] (.bool true) := by
  have h1 := tPut v x p hv hp hx hl
  obtain ⟨u, e, hu⟩ := putAll_tup v x p
  rw [hu] at h1
  by_cases he : e = 0
  · subst he
    obtain ⟨kv, ka, kx, kp, ku⟩ := putAll_0 hu
    have gp : ∀ s ∈ p, Good s := fun s hs => ⟨hp s hs, (ask0 ka).2 s hs⟩
    have gv : Good v := ⟨hv, kv⟩
    have wu := put_wf p v x u gv gp hx kp
    have gu : Good u := ⟨wu, ku⟩
    obtain ⟨c, c1, c2, c3⟩ := put_put x v p v u gv gp kp
    have h2 := up (by decide) (by decide) (tGet non0 e26 e73 u x p gu gp (ask0 ka).1 c3)
    have h3 := tPut u v p wu hp hv hl
    rw [putAll_eq ku ka kv c2] at h3
    have h4 := up (by decide) (by decide) (tplain non0 x hx x)
    rw [eqT_self] at h4
    have h5 := up (by decide) (by decide) (t22 non0 e26 e73 u wu)
    rw [if_pos ku] at h5
    by_cases kc : okB c = true
    · rw [if_pos kc] at h3
      have wc := put_wf p v v c gv gp hv c1
      obtain ⟨d, d1, d2, d3⟩ := put_put v x p v c gv gp c1
      rw [kp] at d1
      cases d1
      have h6 := tPut c x p wc hp hx hl
      rw [putAll_eq kc ka kx d2, if_pos ku] at h6
      have h7 := up (by decide) (by decide) (tplain non0 u wu u)
      rw [eqT_self] at h7
      refine Ev.of (hnU _ (.inr (.inr rfl))) Tryd.func4 rfl rfl ?_
      conv => whnf
      repeat (first
        | (refine sel_yes ?_ ?_; (first | assumption | (simp only [beq_iff_eq, bne_iff_ne, beq_eq_false_iff_ne, bne_eq_false_iff_eq, decide_eq_true_eq, decide_eq_false_iff_not, Bool.not_eq_true', Bool.not_eq_false', ne_eq, beq_true, beq_false, bne_self_eq_false, not_true_eq_false, not_false_eq_true, gt_iff_lt, ge_iff_le, Int.not_lt, Int.not_le, Bool.true_eq_false, Bool.false_eq_true] <;> omega)); conv => whnf)
        | (refine sel_no ?_ ?_; (first | assumption | (simp only [beq_iff_eq, bne_iff_ne, beq_eq_false_iff_ne, bne_eq_false_iff_eq, decide_eq_true_eq, decide_eq_false_iff_not, Bool.not_eq_true', Bool.not_eq_false', ne_eq, beq_true, beq_false, bne_self_eq_false, not_true_eq_false, not_false_eq_true, gt_iff_lt, ge_iff_le, Int.not_lt, Int.not_le, Bool.true_eq_false, Bool.false_eq_true] <;> omega)); conv => whnf)
        | (refine ⟨_, h1, ?_⟩; conv => whnf)
        | (refine ⟨_, h2, ?_⟩; conv => whnf)
        | (refine ⟨_, h3, ?_⟩; conv => whnf)
        | (refine ⟨_, h4, ?_⟩; conv => whnf)
        | (refine ⟨_, h5, ?_⟩; conv => whnf)
        | (refine ⟨_, h6, ?_⟩; conv => whnf)
        | (refine ⟨_, h7, ?_⟩; conv => whnf)
        | (refine ⟨_, speaks26, ?_⟩; conv => whnf)
        | (refine ⟨le_rfl' ?_, ?_⟩; rfl; conv => whnf)
        | (refine ⟨⟨?_, ?_⟩, ?_⟩; omega; omega; conv => whnf)
        | (refine ⟨⟨?_, ?_, ?_⟩, ?_⟩; rfl; omega; omega; conv => whnf)
        | (refine ⟨rfl, ?_, ?_⟩; decide; conv => whnf))
      try exact rfl
    · rw [if_neg kc] at h3
      refine Ev.of (hnU _ (.inr (.inr rfl))) Tryd.func4 rfl rfl ?_
      conv => whnf
      repeat (first
        | (refine sel_yes ?_ ?_; (first | assumption | (simp only [beq_iff_eq, bne_iff_ne, beq_eq_false_iff_ne, bne_eq_false_iff_eq, decide_eq_true_eq, decide_eq_false_iff_not, Bool.not_eq_true', Bool.not_eq_false', ne_eq, beq_true, beq_false, bne_self_eq_false, not_true_eq_false, not_false_eq_true, gt_iff_lt, ge_iff_le, Int.not_lt, Int.not_le, Bool.true_eq_false, Bool.false_eq_true] <;> omega)); conv => whnf)
        | (refine sel_no ?_ ?_; (first | assumption | (simp only [beq_iff_eq, bne_iff_ne, beq_eq_false_iff_ne, bne_eq_false_iff_eq, decide_eq_true_eq, decide_eq_false_iff_not, Bool.not_eq_true', Bool.not_eq_false', ne_eq, beq_true, beq_false, bne_self_eq_false, not_true_eq_false, not_false_eq_true, gt_iff_lt, ge_iff_le, Int.not_lt, Int.not_le, Bool.true_eq_false, Bool.false_eq_true] <;> omega)); conv => whnf)
        | (refine ⟨_, h1, ?_⟩; conv => whnf)
        | (refine ⟨_, h2, ?_⟩; conv => whnf)
        | (refine ⟨_, h3, ?_⟩; conv => whnf)
        | (refine ⟨_, h4, ?_⟩; conv => whnf)
        | (refine ⟨_, h5, ?_⟩; conv => whnf)
        | (refine ⟨_, speaks26, ?_⟩; conv => whnf)
        | (refine ⟨le_rfl' ?_, ?_⟩; rfl; conv => whnf)
        | (refine ⟨⟨?_, ?_⟩, ?_⟩; omega; omega; conv => whnf)
        | (refine ⟨⟨?_, ?_, ?_⟩, ?_⟩; rfl; omega; omega; conv => whnf)
        | (refine ⟨rfl, ?_, ?_⟩; decide; conv => whnf))
      try exact rfl
  · refine Ev.of (hnU _ (.inr (.inr rfl))) Tryd.func4 rfl rfl ?_
    conv => whnf
    repeat (first
      | (refine sel_yes ?_ ?_; (first | assumption | (simp only [beq_iff_eq, bne_iff_ne, beq_eq_false_iff_ne, bne_eq_false_iff_eq, decide_eq_true_eq, decide_eq_false_iff_not, Bool.not_eq_true', Bool.not_eq_false', ne_eq, beq_true, beq_false, bne_self_eq_false, not_true_eq_false, not_false_eq_true, gt_iff_lt, ge_iff_le, Int.not_lt, Int.not_le, Bool.true_eq_false, Bool.false_eq_true] <;> omega)); conv => whnf)
      | (refine sel_no ?_ ?_; (first | assumption | (simp only [beq_iff_eq, bne_iff_ne, beq_eq_false_iff_ne, bne_eq_false_iff_eq, decide_eq_true_eq, decide_eq_false_iff_not, Bool.not_eq_true', Bool.not_eq_false', ne_eq, beq_true, beq_false, bne_self_eq_false, not_true_eq_false, not_false_eq_true, gt_iff_lt, ge_iff_le, Int.not_lt, Int.not_le, Bool.true_eq_false, Bool.false_eq_true] <;> omega)); conv => whnf)
      | (refine ⟨_, h1, ?_⟩; conv => whnf)
      | (refine ⟨_, speaks26, ?_⟩; conv => whnf)
      | (refine ⟨le_rfl' ?_, ?_⟩; rfl; conv => whnf)
      | (refine ⟨⟨?_, ?_⟩, ?_⟩; omega; omega; conv => whnf)
      | (refine ⟨⟨?_, ?_, ?_⟩, ?_⟩; rfl; omega; omega; conv => whnf)
      | (refine ⟨rfl, ?_, ?_⟩; decide; conv => whnf))
    try exact rfl
end Go.Proofs.YtjfjagnnefmepaaDoor.AB
end
