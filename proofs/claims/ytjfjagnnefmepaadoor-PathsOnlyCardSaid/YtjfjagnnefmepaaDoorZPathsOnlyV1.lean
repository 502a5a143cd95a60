/- What PathsOnly is proved with: what the program's functions make of their arguments, by the evaluator. -/
import Derived.Test.YtjfjagnnefmepaaDoorZPathsOnlyV0
import Derived.Test.YtjfjagnnefmepaaDoorZPathsOnlyA2
import Derived.Test.YtjfjagnnefmepaaDoorZPathsOnlyA1
import Derived.Test.YtjfjagnnefmepaaDoorZPathsOnlyL0
section
set_option linter.unusedVariables false
set_option linter.unusedSimpArgs false
open Go Go.Ab Go.Proofs Go.Vl Go.RowKit
namespace Go.Proofs.YtjfjagnnefmepaaDoor.AB
set_option maxRecDepth 100000
set_option maxHeartbeats 8000000
set_option linter.unusedSimpArgs false
set_option linter.unusedVariables false
theorem rec_reg0 {P : Program} {o0 o1 : Oper} {Q : Exit → Act → List Frame → World → Prop} {a : Act} {c0 : Frame} {cs : List Frame} {w : World} {d0 d1 : Nat} (h0 : o0.op = .call ⟨.builtin .recover, #[], #[]⟩ ∧ o0.dst = some d0 ∧ o0.guard = none) (h1 : o1.op = .assign (.tmp d0) ∧ o1.dst = some d1 ∧ o1.guard = none) (hu : c0.mode = .returning) (hd : d0 < a.tmps.size)
    (hq : Q .normal ((a.put (some d0) .nilIface).put (some d1) .nilIface) (c0 :: cs) w) : wpOpsS P #[o0, o1] Q (List.range 2) a (c0 :: cs) w := by
  obtain ⟨dst0, op0, ty0, pos0, after0, guard0⟩ := o0
  obtain ⟨dst1, op1, ty1, pos1, after1, guard1⟩ := o1
  simp only at h0 h1
  obtain ⟨rfl, rfl, rfl⟩ := h0
  obtain ⟨rfl, rfl, rfl⟩ := h1
  have e : List.range 2 = [0, 1] := rfl
  rw [e]
  have r0 : recoverD (c0 :: cs) = none := by
    unfold recoverD
    simp only [hu]
  have ev : (a.put (some d0) Value.nilIface).eval (.tmp d0) = Value.nilIface := by simp [Act.put, Act.eval, hd]
  simp [wpOpsS, Region.wanted, execOp, resolve, invoke, builtin, r0, ev, Oper.upon_value]
  exact hq
section
variable {ext : Exts}
theorem callsD0 {L : World → Prop} (hS : Sound (cfg ext) L) {base : Nat} {G0 G : Gh} {w0 w : World} {hp0 hp : Hp} (inv : FInv base G0 w0 hp0 G hp w) (hL : ∀ w', Below base w0 w' → L w') {caps : Array Value} (hc : VRs G w [.ref 0 0, .ref 1 0] caps.toList) :
    CallsD Tryd.prog 53 caps .returning w fun e u' w' => e = .returned (.tuple #[]) ∧ u' = .returning ∧ ∃ G' hp', FInv base G0 w0 hp0 G' hp' w' ∧ Grow G w G' w' ∧ hp'.h = hp.h ∧ hp'.a = hp.a := by
  refine callsD_of_wpS Tryd.func53 caught1_body ?_
  intro c0 cs hu
  refine wpS_seq (wpS_region ?_)
  have hsz : caps.size = 2 := by have := hc.length; simpa using this
  refine rec_reg0 (d0 := 5) (d1 := 2) ⟨rfl, rfl, rfl⟩ ⟨rfl, rfl, rfl⟩ hu ?_ ?_
  · show 5 < (caps ++ Array.replicate (Tryd.f53.ntmps - caps.size) undef).size
    rw [Array.size_append, Array.size_replicate, hsz]; decide
  show Code.wpS _ (atP (bodyOf Tryd.f53) [true]) _ _ _ _
  have hsz2 : (caps ++ Array.replicate (Tryd.f53.ntmps - caps.size) undef).size = 19 := by
    rw [Array.size_append, Array.size_replicate, hsz]; rfl
  have hV : VR G w .nilif .nilIface := rfl
  have h0 : FInv base G w hp G hp w := ⟨inv.sim, Grow.refl _ _, Below.refl _ _, inv.lb, inv.fb, inv.fa, Nat.le_refl _, Nat.le_refl _, fun _ _ => rfl, fun _ _ h => h, inv.fb, fun _ _ h _ => h⟩
  have ht0 : TOK G w (init [.ref 0 0, .ref 1 0]) (caps ++ Array.replicate (Tryd.f53.ntmps - caps.size) undef) := init_ok hc _
  have ht1 := TOK.put (s := ⟨init [.ref 0 0, .ref 1 0], hp⟩) (a := { tmps := caps ++ Array.replicate (Tryd.f53.ntmps - caps.size) undef, defers := [] }) (dst := some 5) ht0 hV (fun d hd => by cases hd; rw [hsz2]; decide)
  have ht2 := TOK.put (dst := some 2) ht1 hV (fun d hd => by cases hd; rw [put_size, hsz2]; decide)
  refine wpS_of_wp (wp_mono ((rec_nil hS (S := ((((⟨init [.ref 0 0, .ref 1 0], hp⟩ : St).put (some 5) .nilif).put (some 2) .nilif).bump 2)) ⟨rfl, trivial⟩).out base G w hp 19 _ w G (by decide) (fun w' hw' => hL w' (inv.below.trans hw')) ⟨h0.bump 2, ht2, rfl, ?_⟩) ?_)
  · rw [put_size, put_size, hsz2]
  · intro e a' w' hp1
    rcases hp1 with ⟨ex, s', G', rfl, ⟨rfl, hH⟩, hC⟩ | ⟨v, rfl, hx, _⟩
    · obtain ⟨x, g1, g2⟩ := resOf_ok hC (fn := Tryd.f53) (v := .tup []) rfl
      obtain ⟨arr, rfl, harr⟩ := g2
      simp only [VRs] at harr
      have harr' : arr = #[] := by cases arr; simp_all
      subst harr'
      refine ⟨hC.d, .returning, ?_, _, g1, rfl, rfl, G', s'.hp, inv.trans hC.inv, hC.inv.grow, by rw [hH]; rfl, by rw [hH]; rfl⟩
      rw [← hu]
    · exact hx.elim
theorem caught_body : Tryd.f27.body = some (bodyOf Tryd.f27) := rfl
/-- what a deferred call is: of caught's closure, which holds the two results -/
def dfr (caps : Array Value) : Deferred := { target := .fn (.func 53) caps, args := #[] }
/-- caught, up to the call -/
theorem caught_start {L : World → Prop} (hS : Sound (cfg ext) L) {fc : Nat} {cap : List V} {Q : Exit → Act → World → Prop} {base : Nat} {G0 : Gh} {w0 : World} {hp0 : Hp} {a : Act} {w : World} {G : Gh} (hL : ∀ w', Below base w0 w' → L w') (hC : CInv [] base G0 w0 hp0 13 ⟨init [.fn fc cap], hp0⟩ a w G) (h00 : hp0 = Hp.empty)
    (hq : ∀ (caps : Array Value) (S : St) a' w' G', CInv [dfr caps] base G0 w0 hp0 13 S a' w' G' → VRs G' w' [.ref 0 0, .ref 1 0] caps.toList → Has S.t [(0, .fn fc cap), (2, .ref 0 0), (3, .ref 1 0)] → S.hp.n = 4 → S.hp.m = 4 → Has S.hp.h [(0, some (.cells zC false)), (1, some (.cells [.int .i64 0] false))] →
      (atP (bodyOf Tryd.f27) [true, true]).wp Tryd.prog Q a' w') :
    (bodyOf Tryd.f27).wp Tryd.prog Q a w := by
  subst h00
  have hx : xCode (cfg ext) (atP (bodyOf Tryd.f27) [false]) ⟨init [.fn fc cap], Hp.empty⟩ (fun ex s' => ex = .normal ∧ Has s'.t [(0, .fn fc cap), (2, .ref 0 0), (3, .ref 1 0)] ∧ s'.hp.n = 2 ∧ s'.hp.m = 2 ∧ Has s'.hp.h [(0, some (.cells zC false)), (1, some (.cells [.int .i64 0] false))]) := by
    conv => whnf
    exact ⟨rfl, ⟨rfl, rfl, rfl, trivial⟩, rfl, rfl, rfl, rfl, trivial⟩
  obtain ⟨K, ex, s1, h1, rfl, ht, hn, hm, hh⟩ := xCode_ok _ _ _ hx
  refine wp_seq (wp_mono (code_ok (hS.env K) hS.mixed (N := 13) (M := 13) (by decide) hL K _ _ a w G _ s1 (by kernel_rfl) hC (h1 K (Nat.le_refl _))) ?_)
  rintro e a1 w1 ⟨rfl, G1, C1⟩
  show (atP (bodyOf Tryd.f27) [true]).wp _ _ _ _
  refine wp_seq (wp_region ?_)
  generalize hQ : Exit.then _ _ = Q'
  have hstep : ∀ o : Oper, o.op = .makeFunc (.func 53) #[] #[.tmp 2, .tmp 3] → o.dst = some 4 → o.guard = none → ∀ ops, stepOp Tryd.prog ((cfg ext).env 0) ops false s1.hp.n s1.hp.m 0 o (s1.bump 2) = some ((s1.bump 2).put (some 4) (.fn 53 [s1.t 2, s1.t 3])) := by
    rintro ⟨dst, op, ty, pos, after, guard⟩ h1 h2 h3 ops
    simp only at h1 h2 h3
    subst h1 h2 h3
    rfl
  have R : RInv [] (fun j => j < 2) s1.hp.n s1.hp.m base G0 w0 Hp.empty 13 (s1.bump 2) a1 w1 G1 :=
    ⟨C1.inv.bump 2, C1.t, C1.d, C1.N, C1.inv.n, C1.inv.m, fun j hj => ⟨by simp only [St.bump]; omega, C1.inv.fb _ (by omega)⟩, fun j hj => ⟨by simp only [St.bump]; omega, C1.inv.fa _ (by omega)⟩⟩
  show wpOps Tryd.prog _ Q' [0, 1] a1 w1
  rw [wpOps_cons]
  refine stepOp_ok (hS.env 0) hL R (i := 0) (by decide) rfl (fun d hd => by cases hd; decide) (hstep _ rfl rfl rfl _) (fun a2 w2 G2 R2 => ?_)
  rw [wpOps_cons]
  refine wpOp_at rfl (wanted_none rfl _) ?_
  have hf := R2.t 4
  obtain ⟨caps, e1, e2⟩ : VR G2 w2 (.fn 53 [s1.t 2, s1.t 3]) (a2.tmps.getD 4 undef) := hf
  have e1' : a2.eval (.tmp 4) = .func (.func 53) #[] caps := e1
  unfold Oper.wp
  have hrun : ∀ (o : Oper), o.op = .defer ⟨.value (.tmp 4), #[], #[]⟩ → (execOp a2.eval o).run Tryd.prog w2 = .ok (.defer (dfr caps)) w2 := by
    rintro ⟨dst, op, ty, pos, after, guard⟩ h1
    simp only at h1
    subst h1
    simp [execOp, resolve, Deferred.ofValue, e1', dfr]
  rw [hrun _ rfl, Oper.upon_defer]
  subst hQ
  rw [ht.2.1, ht.2.2.1] at e2
  refine hq caps ((s1.bump 2).put (some 4) (.fn 53 [s1.t 2, s1.t 3])) _ w2 G2 ⟨R2.inv, R2.t, ?_, R2.N⟩ e2 ⟨ht.1, ht.2.1, ht.2.2.1, trivial⟩ (by show s1.hp.n + 2 = 4; omega) (by show s1.hp.m + 2 = 4; omega) hh
  show dfr caps :: a2.defers = [dfr caps]
  rw [R2.d]
end
end Go.Proofs.YtjfjagnnefmepaaDoor.AB
end

section
set_option linter.unusedVariables false
set_option linter.unusedSimpArgs false
open Go Go.Ab Go.Proofs Go.Vl Go.RowKit
namespace Go.Proofs.YtjfjagnnefmepaaDoor.AB
set_option maxRecDepth 100000
set_option maxHeartbeats 8000000
set_option linter.unusedSimpArgs false
set_option linter.unusedVariables false
/-- the end of a call upon data -/
theorem pure_end {P : Program} {D : List Deferred} {S : Nat → Nat → Prop} {w w' : World} {N : Nat} {s : St} {a : Act} {G' : Gh} {fn : Func} {r0 r : V} {hp2 : Hp} (hC : CInv D w.heap.size (stab S) w Hp.empty N s a w' G') (hr : resOf P fn s = some r0) (hz : fz 6 s.hp r0 = some (r, hp2)) :
    ∃ v, (results fn a.tmps).run P w' = .ok v w' ∧ ∃ x S', Ending.returned v = .returned x ∧ Below w.heap.size w w' ∧ (∀ r o, S r o → S' r o) ∧ (∀ r o, S' r o → r < w'.heap.size ∧ (r < w.heap.size → S r o)) ∧ VR (stab S') w' r x := by
  have hC0 : CInv [] w.heap.size (stab S) w Hp.empty N s { tmps := a.tmps, defers := [] } w' G' := ⟨hC.inv, hC.t, rfl, hC.N⟩
  obtain ⟨x, g1, g2⟩ := resOf_ok hC0 hr
  obtain ⟨ow, hs⟩ := hC.inv.sim
  obtain ⟨G2, F, hv2⟩ := fz_ok 6 G' s.hp r0 r hp2 x hz hs g2
  exact ⟨x, g1, x, G2.S, rfl, hC.inv.below, fun q o hq => F.grow.S q o (hC.inv.grow.S q o hq), fun q o hq => ⟨F.sim.S q o hq, fun hlt => hC.inv.s0 q o (F.s0 q o hq hlt) hlt⟩, hv2⟩
theorem goes53 : Goes Tryd.prog 53 := ⟨_, Tryd.func53, rfl, by decide⟩
theorem invoke53 (caps : Array Value) (w : World) : (invoke (.fn (.func 53) caps) #[]).run Tryd.prog w = .ok (.enter 53 caps) w := by
  obtain ⟨fn, h1, h2, h3⟩ := goes53
  have h2' : fn.body ≠ none := by rintro hb; simp [hb] at h2
  simp [invoke, callFunc, h1, h2', h3]
section
variable {ext : Exts}
/-- caught: the closure panics with a refusal -/
theorem caught_pan {L : World → Prop} (hS : Sound (cfg ext) L) {fc : Nat} {cap : List V} (hg : Goes Tryd.prog fc) (hz : fzPL (fzP 6) cap = some cap) (hP : PanC Tryd.prog L fc cap refusal) : PureC Tryd.prog L 27 [.fn fc cap] (.tup [A nilT, .int .i64 260]) := by
  intro S w xs hLw hSz hxs
  refine calls_of_wp_defers Tryd.func27 caught_body ?_
  have hxl : xs.size = 1 := by have := hxs.length; simpa using this
  have hN : (xs ++ Array.replicate (Tryd.f27.ntmps - xs.size) undef).size = 13 := by
    rw [Array.size_append, Array.size_replicate, hxl]; rfl
  have hL : ∀ w', Below w.heap.size w w' → L w' := fun w' hw' => hS.low w w' hLw hw'
  have hC : CInv [] w.heap.size (stab S) w Hp.empty 13 ⟨init [.fn fc cap], Hp.empty⟩ { tmps := xs ++ Array.replicate (Tryd.f27.ntmps - xs.size) undef, defers := [] } w (stab S) :=
    ⟨⟨⟨fun _ => none, hSz, fun b x hb => (by cases hb), fun i A hA => (by cases hA)⟩, Grow.refl _ _, Below.refl _ _, Nat.le_refl _, fun _ _ => rfl, fun _ _ _ => rfl, Nat.le_refl _, Nat.le_refl _, fun _ _ => rfl, fun _ _ h => h, fun _ _ => rfl, fun _ _ h _ => h⟩, init_ok hxs _, rfl, hN⟩
  refine caught_start hS hL hC rfl ?_
  intro caps s1 a1 w1 G1 C1 hv ht hn hm hh
  have C2 : CInv [dfr caps] w.heap.size G1 w1 s1.hp 13 s1 a1 w1 G1 := ⟨⟨C1.inv.sim, Grow.refl _ _, Below.refl _ _, C1.inv.lb, C1.inv.fb, C1.inv.fa, Nat.le_refl _, Nat.le_refl _, fun _ _ => rfl, fun _ _ h => h, C1.inv.fb, fun _ _ h _ => h⟩, C1.t, C1.d, C1.N⟩
  have hL2 : ∀ w', Below w.heap.size w1 w' → L w' := fun w' hw' => hL w' (C1.inv.below.trans hw')
  refine wp_seq (wp_region ?_)
  generalize hQ : Exit.then _ _ = Q'
  have hstep : ∀ o : Oper, o.op = .move (.tmp 0) → o.dst = some 5 → o.guard = none → ∀ ops, stepOp Tryd.prog ((cfg ext).env 0) ops false s1.hp.n s1.hp.m 0 o (s1.bump 3) = some ((s1.bump 3).put (some 5) (s1.t 0)) := by
    rintro ⟨dst, op, ty, pos, after, guard⟩ h1 h2 h3 ops
    simp only at h1 h2 h3
    subst h1 h2 h3
    rfl
  have R : RInv [dfr caps] (fun j => j < 3) s1.hp.n s1.hp.m w.heap.size G1 w1 s1.hp 13 (s1.bump 3) a1 w1 G1 :=
    ⟨C2.inv.bump 3, C2.t, C2.d, C2.N, C2.inv.n, C2.inv.m, fun j hj => ⟨by simp only [St.bump]; omega, C2.inv.fb _ (by omega)⟩, fun j hj => ⟨by simp only [St.bump]; omega, C2.inv.fa _ (by omega)⟩⟩
  show wpOps Tryd.prog _ Q' [0, 1, 2] a1 w1
  rw [wpOps_cons]
  refine stepOp_ok (hS.env 0) hL2 R (i := 0) (by decide) rfl (fun d hd => by cases hd; decide) (hstep _ rfl rfl rfl _) (fun a2 w2 G2 R2 => ?_)
  rw [wpOps_cons]
  refine wpOp_at rfl (wanted_none rfl _) ?_
  have hf : VR G2 w2 (s1.t 0) (a2.tmps.getD 5 undef) := R2.t 5
  rw [ht.1] at hf
  obtain ⟨cs, e1, e2⟩ := hf
  have e1' : a2.eval (.tmp 5) = .func (.func fc) #[] cs := e1
  have hv2 : VRs G2 w2 cap ((#[] : Array Value) ++ cs).toList := by simpa using e2
  have hzz := fzPL_ok (fun v v' x => fzP_ok 6 v v' x) hz hv2
  obtain ⟨ow, hsim⟩ := R2.inv.sim
  have href : VRs G2 w2 [.ref 0 0, .ref 1 0] caps.toList := VRs.mono R2.inv.grow _ _ hv
  have hrun : ∀ (o : Oper), o.op = .call ⟨.value (.tmp 5), #[], #[]⟩ → (execOp a2.eval o).run Tryd.prog w2 = .ok (.enter fc (#[] ++ cs)) w2 := by
    intro o ho
    have := run_call (P := Tryd.prog) (a := a2) ho e1' hg w2
    simpa using this
  unfold Oper.wp
  rw [hrun _ rfl, Oper.upon_enter]
  refine (hP G2.S w2 _ (hL2 w2 R2.inv.below) hsim.S hzz).mono ?_
  rintro e w3 ⟨rfl, hb⟩
  subst hQ
  show Leaves Tryd.prog Tryd.f27 a2.tmps _ a2.defers (.panicking [{ v := refusal, recovered := false }]) w3
  rw [R2.d]
  have hsz : ∀ q o, G2.S q o → q < w3.heap.size := fun q o hq => Nat.lt_of_lt_of_le (hsim.S q o hq) hb.size
  obtain ⟨p1, p2⟩ := grow_pure (S' := G2.S) R2.inv hb (fun _ _ h => h) (fun q o hq => ⟨hsz q o hq, fun _ => hq⟩)
  refine leaves_cons (by simp) (invoke53 caps w3) ?_
  refine (callsD1 hS p2 hL2 (VRs.mono p1 _ _ href) ?_ ?_).mono ?_
  · show s1.hp.n + 3 = 7; omega
  · exact hh
  rintro e u w4 ⟨rfl, rfl, G4, hp4, inv4, hg4, hH4⟩
  show Leaves Tryd.prog Tryd.f27 a2.tmps _ [] .returning w4
  have hC4 : CInv [] w.heap.size (stab S) w Hp.empty 13 ⟨((s1.bump 3).put (some 5) (s1.t 0)).t, hp4⟩ { tmps := a2.tmps, defers := [] } w4 G4 :=
    ⟨C1.inv.trans inv4, (R2.t.mono p1).mono hg4, rfl, R2.N⟩
  obtain ⟨t1, hp1⟩ := s1
  obtain ⟨h4, n4, a4, m4⟩ := hp4
  have e4 : (⟨(((⟨t1, hp1⟩ : St).bump 3).put (some 5) (t1 0)).t, ⟨h4, n4, a4, m4⟩⟩ : St) = ⟨updL (((⟨t1, hp1⟩ : St).bump 3).put (some 5) (t1 0)).t [(2, .ref 0 0), (3, .ref 1 0)], ⟨updL h4 [(0, some (.cells zC false)), (1, some (.cells [.int .i64 260] false))], n4, a4, m4⟩⟩ :=
    St.knows (s := ⟨(((⟨t1, hp1⟩ : St).bump 3).put (some 5) (t1 0)).t, ⟨h4, n4, a4, m4⟩⟩) [(2, .ref 0 0), (3, .ref 1 0)] n4 ⟨ht.2.1, ht.2.2.1, trivial⟩ rfl [(0, some (.cells zC false)), (1, some (.cells [.int .i64 260] false))] hH4
  rw [e4] at hC4
  refine pure_end (fn := Tryd.f27) (a := { tmps := a2.tmps, defers := [] }) (r0 := .tup [.agg zC, .int .i64 260]) (hp2 := ⟨updL h4 [(0, some (.cells zC false)), (1, some (.cells [.int .i64 260] false))], n4, a4, m4⟩) hC4 ?_ ?_
  · rfl
  · rfl
end
end Go.Proofs.YtjfjagnnefmepaaDoor.AB
end

section
set_option linter.unusedVariables false
set_option linter.unusedSimpArgs false
open Go Go.Ab Go.Proofs Go.Vl Go.RowKit
namespace Go.Proofs.YtjfjagnnefmepaaDoor.AB
set_option maxRecDepth 100000
set_option maxHeartbeats 8000000
set_option linter.unusedSimpArgs false
set_option linter.unusedVariables false
/-- a call of a closure upon data -/
theorem xCall {C : Cfg} {ops : List Oper} {n0 m0 i : Nat} {o : Oper} {os : List Oper} {s : St} {Q : St → Prop} {f : Operand} {at_ : Array TypeId} {k : Nat} {cap : List V} {r : V} (ho : o.op = .call ⟨.value f, #[], at_⟩) (hg : o.guard = none) (hf : val s.t f = .fn k cap) (hb : C.byref k = false) (hz : fzPL (fzP 6) cap = some cap) (hE : C.Ev k cap r)
    (hq : xOps C ops false n0 m0 (i + 1) os (s.put o.dst r) Q) : xOps C ops false n0 m0 i (o :: os) s Q := by
  obtain ⟨dst, op, ty, pos, after, guard⟩ := o
  simp only at ho hg
  subst ho hg
  simp only [xOps, xOp, hf, hb, Bool.false_and]
  have e : asData false s.hp cap = some (cap, s.hp) := fzPL_fz (fzP_fz 6) _ _ s.hp hz
  refine opt_of (x := (cap, s.hp)) (by simpa using e) ⟨r, hE, ?_⟩
  rw [keepH_self]
  exact hq
theorem xseqq {C : Cfg} {id : Nat} {ops : Array Oper} {b : Code} {s : St} {Q : Ex → St → Prop} (h : xOps C ops.toList false s.hp.n s.hp.m 0 ops.toList (s.bump ops.toList.length) fun s' => xCode C b s' Q) : xCode C (.seq (.region id ops false) b) s Q := h
section
variable {ext : Exts}
/-- caught: the closure tells a value -/
theorem caught_ok {L : World → Prop} (hS : Sound (cfg ext) L) {fc : Nat} {cap : List V} {v : T} {e : Int} (hb : byref fc = false) (hz : fzPL (fzP 6) cap = some cap) (hE : (cfg ext).Ev fc cap (A v)) (hC : (cfg ext).Ev 14 [A v] (.int .i64 e)) (hO : e = 0 → (cfg ext).Ev 37 [A v] (A v)) :
    PureC Tryd.prog L 27 [.fn fc cap] (if e = 0 then .tup [A v, .int .i64 0] else .tup [A nilT, .int .i64 2]) := by
  intro S w xs hLw hSz hxs
  refine calls_of_wp_defers Tryd.func27 caught_body ?_
  have hxl : xs.size = 1 := by have := hxs.length; simpa using this
  have hN : (xs ++ Array.replicate (Tryd.f27.ntmps - xs.size) undef).size = 13 := by
    rw [Array.size_append, Array.size_replicate, hxl]; rfl
  have hL : ∀ w', Below w.heap.size w w' → L w' := fun w' hw' => hS.low w w' hLw hw'
  have hC0 : CInv [] w.heap.size (stab S) w Hp.empty 13 ⟨init [.fn fc cap], Hp.empty⟩ { tmps := xs ++ Array.replicate (Tryd.f27.ntmps - xs.size) undef, defers := [] } w (stab S) :=
    ⟨⟨⟨fun _ => none, hSz, fun b x hb => (by cases hb), fun i A hA => (by cases hA)⟩, Grow.refl _ _, Below.refl _ _, Nat.le_refl _, fun _ _ => rfl, fun _ _ _ => rfl, Nat.le_refl _, Nat.le_refl _, fun _ _ => rfl, fun _ _ h => h, fun _ _ => rfl, fun _ _ h _ => h⟩, init_ok hxs _, rfl, hN⟩
  refine caught_start hS hL hC0 rfl ?_
  intro caps s1 a1 w1 G1 C1 hv ht hn hm hh
  have C2 : CInv [dfr caps] w.heap.size G1 w1 s1.hp 13 s1 a1 w1 G1 := ⟨⟨C1.inv.sim, Grow.refl _ _, Below.refl _ _, C1.inv.lb, C1.inv.fb, C1.inv.fa, Nat.le_refl _, Nat.le_refl _, fun _ _ => rfl, fun _ _ h => h, C1.inv.fb, fun _ _ h _ => h⟩, C1.t, C1.d, C1.N⟩
  have hL2 : ∀ w', Below w.heap.size w1 w' → L w' := fun w' hw' => hL w' (C1.inv.below.trans hw')
  obtain ⟨cs, k, hck, hx⟩ : ∃ (cs : List V) (k : Int), ((e = 0 ∧ cs = cellsV v ∧ k = 0) ∨ (e ≠ 0 ∧ cs = zC ∧ k = 2)) ∧ xCode (cfg ext) (atP (bodyOf Tryd.f27) [true, true]) s1 (fun ex s' => ex = .ret ∧ Has s'.t [(2, .ref 0 0), (3, .ref 1 0)] ∧ Has s'.hp.h [(0, some (.cells cs false)), (1, some (.cells [.int .i64 k] false))]) := by
    by_cases h0 : e = 0
    · refine ⟨cellsV v, 0, .inl ⟨h0, rfl, rfl⟩, ?_⟩
      have g0 : (e != 0) = false := by simp [h0]
      have hO' := hO h0
      rw [St.knows (s := s1) _ 4 ht hn _ hh]
      refine xseqq ?_
      refine xMv rfl rfl (xCall rfl rfl rfl hb hz hE ?_)
      conv => whnf
      refine ⟨_, hC, ?_⟩
      conv => whnf
      refine sel_no (by (first | assumption | (simp only [beq_iff_eq, bne_iff_ne, beq_eq_false_iff_ne, bne_eq_false_iff_eq, decide_eq_true_eq, decide_eq_false_iff_not, Bool.not_eq_true', Bool.not_eq_false', ne_eq, beq_true, beq_false, bne_self_eq_false, not_true_eq_false, not_false_eq_true, gt_iff_lt, ge_iff_le, Int.not_lt, Int.not_le, Bool.true_eq_false, Bool.false_eq_true] <;> omega))) ?_
      conv => whnf
      refine ⟨_, hO', ?_⟩
      conv => whnf
      exact ⟨rfl, ⟨rfl, rfl, trivial⟩, rfl, rfl, trivial⟩
    · refine ⟨zC, 2, .inr ⟨h0, rfl, rfl⟩, ?_⟩
      have g0 : (e != 0) = true := by simp [h0]
      rw [St.knows (s := s1) _ 4 ht hn _ hh]
      refine xseqq ?_
      refine xMv rfl rfl (xCall rfl rfl rfl hb hz hE ?_)
      conv => whnf
      refine ⟨_, hC, ?_⟩
      conv => whnf
      refine sel_yes (by (first | assumption | (simp only [beq_iff_eq, bne_iff_ne, beq_eq_false_iff_ne, bne_eq_false_iff_eq, decide_eq_true_eq, decide_eq_false_iff_not, Bool.not_eq_true', Bool.not_eq_false', ne_eq, beq_true, beq_false, bne_self_eq_false, not_true_eq_false, not_false_eq_true, gt_iff_lt, ge_iff_le, Int.not_lt, Int.not_le, Bool.true_eq_false, Bool.false_eq_true] <;> omega))) ?_
      conv => whnf
      exact ⟨rfl, ⟨rfl, rfl, trivial⟩, rfl, rfl, trivial⟩
  obtain ⟨K, ex, s2, h1, rfl, ht2, hh2⟩ := xCode_ok _ _ _ hx
  refine wp_mono (code_ok (hS.env K) hS.mixed (N := 13) (M := 13) (by decide) hL2 K _ _ a1 w1 G1 _ s2 (by kernel_rfl) C2 (h1 K (Nat.le_refl _))) ?_
  rintro ee a3 w3 ⟨rfl, G3, C3⟩
  show Leaves Tryd.prog Tryd.f27 a3.tmps _ a3.defers .returning w3
  rw [C3.d]
  refine leaves_cons (by simp) (invoke53 caps w3) ?_
  refine (callsD0 hS C3.inv hL2 (VRs.mono C3.inv.grow _ _ hv)).mono ?_
  rintro ee u w4 ⟨rfl, rfl, G4, hp4, inv4, hg4, hH4, _⟩
  show Leaves Tryd.prog Tryd.f27 a3.tmps _ [] .returning w4
  have hC4 : CInv [] w.heap.size (stab S) w Hp.empty 13 ⟨s2.t, hp4⟩ { tmps := a3.tmps, defers := [] } w4 G4 :=
    ⟨C1.inv.trans inv4, C3.t.mono hg4, rfl, C3.N⟩
  rw [← hH4] at hh2
  obtain ⟨t2, hp2⟩ := s2
  obtain ⟨h4, n4, a4, m4⟩ := hp4
  have e4 : (⟨t2, ⟨h4, n4, a4, m4⟩⟩ : St) = ⟨updL t2 [(2, .ref 0 0), (3, .ref 1 0)], ⟨updL h4 [(0, some (.cells cs false)), (1, some (.cells [.int .i64 k] false))], n4, a4, m4⟩⟩ :=
    St.knows (s := ⟨t2, ⟨h4, n4, a4, m4⟩⟩) [(2, .ref 0 0), (3, .ref 1 0)] n4 ht2 rfl [(0, some (.cells cs false)), (1, some (.cells [.int .i64 k] false))] hh2
  rw [e4] at hC4
  rcases hck with ⟨h0, rfl, rfl⟩ | ⟨h0, rfl, rfl⟩
  · rw [if_pos h0]
    refine pure_end (fn := Tryd.f27) (a := { tmps := a3.tmps, defers := [] }) (r0 := .tup [A v, .int .i64 0]) (hp2 := ⟨updL h4 [(0, some (.cells (cellsV v) false)), (1, some (.cells [.int .i64 0] false))], n4, a4, m4⟩) hC4 ?_ ?_
    · rfl
    · rfl
  · rw [if_neg h0]
    refine pure_end (fn := Tryd.f27) (a := { tmps := a3.tmps, defers := [] }) (r0 := .tup [.agg zC, .int .i64 2]) (hp2 := ⟨updL h4 [(0, some (.cells zC false)), (1, some (.cells [.int .i64 2] false))], n4, a4, m4⟩) hC4 ?_ ?_
    · rfl
    · rfl
end
end Go.Proofs.YtjfjagnnefmepaaDoor.AB
end

section
set_option linter.unusedVariables false
set_option linter.unusedSimpArgs false
open Go Go.Ab Go.Proofs Go.Vl
namespace Go.Proofs.YtjfjagnnefmepaaDoor.AB
set_option maxRecDepth 100000
set_option maxHeartbeats 8000000
set_option linter.unusedSimpArgs false
set_option linter.unusedVariables false
section
variable {ext : Exts}
theorem part_tup {v s : T} (h : (cfg ext).Ev 54 [A v, A s] (optV (partF v s))) : ∃ b, (cfg ext).Ev 54 [A v, A s] (.tup [A ((partF v s).getD nilT), .bool b]) := by
  cases hp : partF v s with
  | none => rw [hp] at h; exact ⟨false, h⟩
  | some w => rw [hp] at h; exact ⟨true, h⟩
/-- paths.put, where the path leads nowhere -/
theorem tpan {L : World → Prop} (hS : Sound (cfg ext) L) (hn : Non ext) (h26 : E26 ext) (x : T) : ∀ (p : List T) (v : T), Good v → (∀ s ∈ p, Good s) → putF v p x = none → PanC Tryd.prog L 29 [A v, .sl false (encL p) p.length, A x] refusal
  | [], v, hv, hp, h => by cases h
  | s :: p, v, hv, hp, h => by
    have hs : Good s := hp s (by simp)
    have hp' : ∀ s' ∈ p, Good s' := fun s' h => hp s' (by simp [h])
    have ih := tpan hS hn h26 x p ((partF v s).getD nilT) (old_good hv hs) hp'
    obtain ⟨b, hP⟩ := part_tup (tpart hn h26 v s hv.row)
    unfold putF at h
    by_cases h4 : v.f0 = 4
    · rw [if_pos h4] at h
      cases hi : idxF v.f3.length s with
      | some i =>
        rw [hi] at h
        simp only [Option.map_eq_none_iff] at h
        exact tpan2 hS hn h26 v s x p hv h4 hi (ih h)
      | none =>
        rw [hi] at h
        simp only at h
        split at h
        · rename_i hc
          simp only [Option.map_eq_none_iff] at h
          exact tpan3 hS hn h26 v s x p hv h4 hc.1 hc.2 (ih h)
        · rename_i hc
          exact tpan1 hS hn v s x _ b p h4 hi hc hP
    · rw [if_neg h4] at h
      split at h
      · rename_i h06
        simp only [Option.map_eq_none_iff] at h
        exact tpan4 hS hn v s x _ b p hv h06 hP (ih h)
      · rename_i h06
        exact tpan0 hS hn v s x _ b p h4 (fun h => h06 (.inl h)) (fun h => h06 (.inr h)) hP
/-- the closure of Put -/
theorem tput1 (hn : Non ext) (h26 : E26 ext) (x v w : T) (p : List T) (hv : Good v) (hp : ∀ s ∈ p, Good s) (h : putF v p x = some w) : (cfg ext).Ev 28 [.ptr (enc v) 0, .ptr [.sl false (encL p) p.length] 0, .ptr (enc x) 0] (A w) := by
  have hE := tput hn h26 x p v w hv hp h
  refine Ev.of (hn 28 (by decide) (by decide)) Tryd.func28 rfl rfl ?_
  rw [enc_eq, enc_eq]
  conv => whnf
  refine ⟨le_rfl' ?_, ?_⟩
  · rfl
  conv => whnf
  refine ⟨le_rfl' ?_, ?_⟩
  · rfl
  conv => whnf
  refine ⟨le_rfl' ?_, ?_⟩
  · rfl
  conv => whnf
  refine ⟨_, hE, ?_⟩
  conv => whnf
  rfl
theorem tpan1c {L : World → Prop} (hS : Sound (cfg ext) L) (hn : Non ext) (h26 : E26 ext) (x v : T) (p : List T) (hv : Good v) (hp : ∀ s ∈ p, Good s) (h : putF v p x = none) : PanC Tryd.prog L 28 [.ptr (enc v) 0, .ptr [.sl false (encL p) p.length] 0, .ptr (enc x) 0] refusal := by
  have hE := tpan hS hn h26 x p v hv hp h
  refine PanC.of_SW (C := cfg ext) (fn := Tryd.f28) hS Tryd.func28 rfl ?_
  rw [enc_eq, enc_eq]
  refine SW.seq (SW.of_x hS (by kernel_rfl) ?_)
  conv => whnf
  refine SW.seq (SW.region hS 3 rfl (by kernel_rfl) ?_)
  conv => whnf
  refine ⟨le_rfl' ?_, ?_⟩
  · rfl
  conv => whnf
  refine ⟨le_rfl' ?_, ?_⟩
  · rfl
  conv => whnf
  refine ⟨le_rfl' ?_, ?_⟩
  · rfl
  conv => whnf
  refine OpW.pan (panAt (cap := []) hE put_goes rfl rfl rfl ?_ ?_)
  · rfl
  · rfl
/-- what is wrong with a path -/
theorem lasked (hn : Non ext) (h26 : E26 ext) (h73 : E73 ext) (l : List T) (hl : l.length ≤ 1048576) (hw : ∀ a ∈ l, WfV a) (Q : Ex → St → Prop) (d : Nat) :
    ∀ (i : Nat) (z : St), l.length - i = d → i ≤ l.length → Has z.t [(9, .sl false (encL l) l.length), (10, .int .i64 l.length), (11, .int .i64 i)] → z.hp.n = 7 →
      (∀ z' : St, z'.t 2 = .int .i64 3 → ¬ (∀ a ∈ l.drop i, okB a = true) → Q .ret z') →
      (∀ z' : St, (∀ a ∈ l.drop i, okB a = true) → Q (.exit 0) z') →
      Go.Ab.Loop (cfg ext) (lpOf Tryd.f26) 7 z Q := by
  induction d with
  | zero =>
    intro i z hd hi ht hz hr hq
    have g : decide ((i : Int) < (l.length : Int)) = false := decide_eq_false (by omega)
    rw [St.knows _ _ ht hz]
    refine Loop.round ?_
    conv => whnf
    repeat (first
      | (refine sel_yes ?_ ?_; (first | assumption | (simp only [beq_iff_eq, bne_iff_ne, beq_eq_false_iff_ne, bne_eq_false_iff_eq, decide_eq_true_eq, decide_eq_false_iff_not, Bool.not_eq_true', Bool.not_eq_false', ne_eq, beq_true, beq_false, bne_self_eq_false, not_true_eq_false, not_false_eq_true, gt_iff_lt, ge_iff_le, Int.not_lt, Int.not_le, Bool.true_eq_false, Bool.false_eq_true] <;> omega)); conv => whnf)
      | (refine sel_no ?_ ?_; (first | assumption | (simp only [beq_iff_eq, bne_iff_ne, beq_eq_false_iff_ne, bne_eq_false_iff_eq, decide_eq_true_eq, decide_eq_false_iff_not, Bool.not_eq_true', Bool.not_eq_false', ne_eq, beq_true, beq_false, bne_self_eq_false, not_true_eq_false, not_false_eq_true, gt_iff_lt, ge_iff_le, Int.not_lt, Int.not_le, Bool.true_eq_false, Bool.false_eq_true] <;> omega)); conv => whnf)
      | (refine ⟨le_rfl' ?_, ?_⟩; rfl; conv => whnf)
      | (refine ⟨⟨?_, ?_⟩, ?_⟩; omega; omega; conv => whnf)
      | (refine ⟨⟨?_, ?_, ?_⟩, ?_⟩; rfl; omega; omega; conv => whnf)
      | (refine ⟨rfl, ?_, ?_⟩; decide; conv => whnf))
    try exact rfl
    exact hq _ (by intro a ha; rw [List.drop_eq_nil_of_le (by omega)] at ha; cases ha)
  | succ d ih =>
    intro i z hd hi ht hz hr hq
    have hlt : i < l.length := by omega
    have g : decide ((i : Int) < (l.length : Int)) = true := decide_eq_true (by omega)
    have eD := List.drop_eq_getElem_cons hlt
    have e1 : IntKind.i64.wrap ((i : Int) + 1) = ((i + 1 : Nat) : Int) := wrapN (by omega) (by omega)
    have hE := t22 hn h26 h73 l[i] (hw _ (List.getElem_mem hlt))
    rw [St.knows _ _ ht hz]
    refine Loop.round ?_
    conv => whnf
    repeat (first
      | (refine sel_yes ?_ ?_; (first | assumption | (simp only [beq_iff_eq, bne_iff_ne, beq_eq_false_iff_ne, bne_eq_false_iff_eq, decide_eq_true_eq, decide_eq_false_iff_not, Bool.not_eq_true', Bool.not_eq_false', ne_eq, beq_true, beq_false, bne_self_eq_false, not_true_eq_false, not_false_eq_true, gt_iff_lt, ge_iff_le, Int.not_lt, Int.not_le, Bool.true_eq_false, Bool.false_eq_true] <;> omega)); conv => whnf)
      | (refine sel_no ?_ ?_; (first | assumption | (simp only [beq_iff_eq, bne_iff_ne, beq_eq_false_iff_ne, bne_eq_false_iff_eq, decide_eq_true_eq, decide_eq_false_iff_not, Bool.not_eq_true', Bool.not_eq_false', ne_eq, beq_true, beq_false, bne_self_eq_false, not_true_eq_false, not_false_eq_true, gt_iff_lt, ge_iff_le, Int.not_lt, Int.not_le, Bool.true_eq_false, Bool.false_eq_true] <;> omega)); conv => whnf)
      | (refine ⟨le_rfl' ?_, ?_⟩; rfl; conv => whnf)
      | (refine ⟨⟨?_, ?_⟩, ?_⟩; omega; omega; conv => whnf)
      | (refine ⟨⟨?_, ?_, ?_⟩, ?_⟩; rfl; omega; omega; conv => whnf)
      | (refine ⟨rfl, ?_, ?_⟩; decide; conv => whnf))
    try exact rfl
    refine ldA (i := i) hlt ?_
    conv => whnf
    cases ho : okB l[i] with
    | false =>
      rw [ho] at hE
      refine ⟨_, hE, ?_⟩
      conv => whnf
      exact hr _ rfl (fun g => by have := g l[i] (by rw [eD]; exact List.mem_cons_self); rw [ho] at this; cases this)
    | true =>
      rw [ho] at hE
      refine ⟨_, hE, ?_⟩
      conv => whnf
      refine ih (i + 1) _ (by omega) (by omega) ⟨rfl, rfl, ?_, trivial⟩ rfl (fun z' a c => hr z' a (fun g => c (fun x hx => g x (by rw [eD]; exact List.mem_cons_of_mem _ hx)))) (fun z' e => hq z' (fun x hx => by rw [eD] at hx; rcases List.mem_cons.1 hx with rfl | hx; exact ho; exact e x hx))
      conv => lhs; whnf
      exact vi e1
noncomputable def askZ (l : List T) : Int := if 16 < l.length then 2 else if l.all okB = true then 0 else 3
theorem tasked (hn : Non ext) (h26 : E26 ext) (h73 : E73 ext) (l : List T) (hl : l.length ≤ 9223372036854775807) (hw : ∀ a ∈ l, WfV a) : (cfg ext).Ev 26 [.sl false (encL l) l.length] (.int .i64 (askZ l)) := by
  have key : ∃ r, (cfg ext).Ev 26 [.sl false (encL l) l.length] r ∧ r = .int .i64 (askZ l) := by
    refine Ev.ofF (hn 26 (by decide) (by decide)) Tryd.func26 rfl rfl ?_
    conv => whnf
    by_cases h : 16 < l.length
    · have g : decide ((l.length : Int) > 16) = true := decide_eq_true (by omega)
      repeat (first
        | (refine sel_yes ?_ ?_; (first | assumption | (simp only [beq_iff_eq, bne_iff_ne, beq_eq_false_iff_ne, bne_eq_false_iff_eq, decide_eq_true_eq, decide_eq_false_iff_not, Bool.not_eq_true', Bool.not_eq_false', ne_eq, beq_true, beq_false, bne_self_eq_false, not_true_eq_false, not_false_eq_true, gt_iff_lt, ge_iff_le, Int.not_lt, Int.not_le, Bool.true_eq_false, Bool.false_eq_true] <;> omega)); conv => whnf)
        | (refine sel_no ?_ ?_; (first | assumption | (simp only [beq_iff_eq, bne_iff_ne, beq_eq_false_iff_ne, bne_eq_false_iff_eq, decide_eq_true_eq, decide_eq_false_iff_not, Bool.not_eq_true', Bool.not_eq_false', ne_eq, beq_true, beq_false, bne_self_eq_false, not_true_eq_false, not_false_eq_true, gt_iff_lt, ge_iff_le, Int.not_lt, Int.not_le, Bool.true_eq_false, Bool.false_eq_true] <;> omega)); conv => whnf)
        | (refine ⟨le_rfl' ?_, ?_⟩; rfl; conv => whnf)
        | (refine ⟨⟨?_, ?_⟩, ?_⟩; omega; omega; conv => whnf)
        | (refine ⟨⟨?_, ?_, ?_⟩, ?_⟩; rfl; omega; omega; conv => whnf)
        | (refine ⟨rfl, ?_, ?_⟩; decide; conv => whnf))
      try exact rfl
      exact Fin.tmp (i := 2) rfl rfl (vi (by unfold askZ; rw [if_pos h]))
    · have g : decide ((l.length : Int) > 16) = false := decide_eq_false (by omega)
      repeat (first
        | (refine sel_yes ?_ ?_; (first | assumption | (simp only [beq_iff_eq, bne_iff_ne, beq_eq_false_iff_ne, bne_eq_false_iff_eq, decide_eq_true_eq, decide_eq_false_iff_not, Bool.not_eq_true', Bool.not_eq_false', ne_eq, beq_true, beq_false, bne_self_eq_false, not_true_eq_false, not_false_eq_true, gt_iff_lt, ge_iff_le, Int.not_lt, Int.not_le, Bool.true_eq_false, Bool.false_eq_true] <;> omega)); conv => whnf)
        | (refine sel_no ?_ ?_; (first | assumption | (simp only [beq_iff_eq, bne_iff_ne, beq_eq_false_iff_ne, bne_eq_false_iff_eq, decide_eq_true_eq, decide_eq_false_iff_not, Bool.not_eq_true', Bool.not_eq_false', ne_eq, beq_true, beq_false, bne_self_eq_false, not_true_eq_false, not_false_eq_true, gt_iff_lt, ge_iff_le, Int.not_lt, Int.not_le, Bool.true_eq_false, Bool.false_eq_true] <;> omega)); conv => whnf)
        | (refine ⟨le_rfl' ?_, ?_⟩; rfl; conv => whnf)
        | (refine ⟨⟨?_, ?_⟩, ?_⟩; omega; omega; conv => whnf)
        | (refine ⟨⟨?_, ?_, ?_⟩, ?_⟩; rfl; omega; omega; conv => whnf)
        | (refine ⟨rfl, ?_, ?_⟩; decide; conv => whnf))
      try exact rfl
      refine lasked hn h26 h73 l (by omega) hw _ l.length 0 _ rfl (by omega) ⟨rfl, rfl, rfl, trivial⟩ rfl (fun z a b => ?_) (fun z b => ?_)
      · exact Fin.tmp (i := 2) rfl a (vi (by unfold askZ; rw [if_neg h, if_neg (show ¬ (l.all okB = true) from fun h => b (List.all_eq_true.1 h))]))
      · conv => whnf
        exact Fin.tmp (i := 2) rfl rfl (vi (by unfold askZ; rw [if_neg h, if_pos (show l.all okB = true from List.all_eq_true.2 b)]))
  obtain ⟨r, h, rfl⟩ := key
  exact h
end
end Go.Proofs.YtjfjagnnefmepaaDoor.AB
end

section
set_option linter.unusedVariables false
set_option linter.unusedSimpArgs false
open Go Go.Ab Go.Proofs Go.Vl
namespace Go.Proofs.YtjfjagnnefmepaaDoor.AB
set_option maxRecDepth 100000
set_option maxHeartbeats 8000000
set_option linter.unusedSimpArgs false
set_option linter.unusedVariables false
section
variable {ext : Exts}
def ownE (ext : Exts) (v : T) : Prop := (cfg ext).Ev 37 [A v] (A v)
/-- a row of which the first ones are told -/
theorem stM {hp : Hp} {b v : Nat} {l : List T} {z : List V} {cap : Option Nat} {e : Int} {k : Nat} {x : T} {Q : V × Hp → Prop} (h : hp.a b = some ⟨v, 4, encL l ++ z, cap, 0⟩) (hz : 4 ≤ z.length) (he : e = (k : Int)) (hk : k = l.length)
    (q : ∀ a', a' b = some ⟨v, 4, encL (l ++ [x]) ++ z.drop 4, cap, 0⟩ → Q (.tup [], ⟨hp.h, hp.n, a', hp.m⟩)) :
    opt ((storeV hp (.aref b v (0 + e.toNat * 4)) [.int .i64 x.f0, .int .i64 x.f1, .str x.f2, .sl false (encL x.f3) x.f3.length]).bind fun hp' => some (.tup [], hp')) Q := by
  subst he hk
  refine opt_store h (Nat.zero_le _) (by rw [List.length_append, encL_len]; simp; omega) (fun a' h1 _ => q a' ?_)
  rw [h1, show 0 + ((l.length : Nat) : Int).toNat * 4 = l.length * 4 by simp, ← enc_eq]
  have e4 : (enc x).length = 4 := by rw [enc_eq]; rfl
  have ez : z = z.take 4 ++ z.drop 4 := (List.take_append_drop 4 z).symm
  have := fill_mid (x := encL l) (y := z.take 4) (z := z.drop 4) (u := enc x) (by rw [e4]; simp; omega)
  rw [encL_len, List.append_assoc, ← ez] at this
  rw [this, encL_app]
  simp only [encL, List.append_nil]
theorem trunc_arr2 {z : St} {b v n : Nat} {l : List T} {y : List V} {cap : Option Nat} (hy : y.map (cleanV n) = y) (h : z.hp.a b = some ⟨v, 4, encL l ++ y, cap, 0⟩) : (z.trunc n).hp.a b = some ⟨v, 4, encL l ++ y, cap, 0⟩ := by
  show (match z.hp.a b with | some A => some { A with cs := A.cs.map (cleanV n) } | none => none) = _
  rw [h]
  simp only [List.map_append, map_encL, hy]
theorem clean_zeros (n : Nat) : ∀ k, ((List.replicate k zC).flatten).map (cleanV n) = (List.replicate k zC).flatten
  | 0 => rfl
  | k + 1 => by
    rw [List.replicate_succ, List.flatten_cons, List.map_append, clean_zeros n k]; rfl
theorem drop_zeros (k : Nat) : ((List.replicate (k + 1) zC).flatten).drop 4 = (List.replicate k zC).flatten := by
  rw [List.replicate_succ, List.flatten_cons]; rfl
theorem len_zeros (k : Nat) : ((List.replicate k zC).flatten).length = k * 4 := by
  induction k with
  | zero => rfl
  | succ k ih => rw [List.replicate_succ, List.flatten_cons, List.length_append, ih]; show 4 + k * 4 = _; omega
theorem lownp (v : T) (hl : v.f3.length ≤ 1000000) (E : ∀ a ∈ v.f3, ownE ext a) (b : Nat) (Q : Ex → St → Prop) (d : Nat) :
    ∀ (i : Nat) (z : St), v.f3.length - i = d → i ≤ v.f3.length → Has z.t [(1, .ref 0 0), (2, .ref 1 0), (3, .rsl false b 0 0 v.f3.length), (17, .sl false (encL v.f3) v.f3.length), (18, .int .i64 v.f3.length), (19, .int .i64 i)] → z.hp.n = 15 → Has z.hp.h [(0, some (.cells (cellsV v) false)), (1, some (.cells zC false))] → z.hp.a b = some ⟨0, 4, encL (v.f3.take i) ++ (List.replicate (v.f3.length - i) zC).flatten, some v.f3.length, 0⟩ → b < z.hp.m →
      (∀ z' : St, Has z'.t [(1, .ref 0 0), (2, .ref 1 0), (3, .rsl false b 0 0 v.f3.length)] → Has z'.hp.h [(0, some (.cells (cellsV v) false)), (1, some (.cells zC false))] → z'.hp.a b = some ⟨0, 4, encL v.f3, some v.f3.length, 0⟩ → b < z'.hp.m → Q (.exit 0) z') →
      Go.Ab.Loop (cfg ext) (lpOf Tryd.f37) 15 z Q := by
  induction d with
  | zero =>
    intro i z hd hi ht hz hb ha hm hq
    have g : decide ((i : Int) < (v.f3.length : Int)) = false := decide_eq_false (by omega)
    rw [St.knows _ _ ht hz _ hb]
    refine Loop.round ?_
    conv => whnf
    repeat (first
      | (refine sel_yes ?_ ?_; (first | assumption | (simp only [beq_iff_eq, bne_iff_ne, beq_eq_false_iff_ne, bne_eq_false_iff_eq, decide_eq_true_eq, decide_eq_false_iff_not, Bool.not_eq_true', Bool.not_eq_false', ne_eq, beq_true, beq_false, bne_self_eq_false, not_true_eq_false, not_false_eq_true, gt_iff_lt, ge_iff_le, Int.not_lt, Int.not_le, Bool.true_eq_false, Bool.false_eq_true] <;> omega)); conv => whnf)
      | (refine sel_no ?_ ?_; (first | assumption | (simp only [beq_iff_eq, bne_iff_ne, beq_eq_false_iff_ne, bne_eq_false_iff_eq, decide_eq_true_eq, decide_eq_false_iff_not, Bool.not_eq_true', Bool.not_eq_false', ne_eq, beq_true, beq_false, bne_self_eq_false, not_true_eq_false, not_false_eq_true, gt_iff_lt, ge_iff_le, Int.not_lt, Int.not_le, Bool.true_eq_false, Bool.false_eq_true] <;> omega)); conv => whnf)
      | (refine ⟨le_rfl' ?_, ?_⟩; rfl; conv => whnf)
      | (refine ⟨⟨?_, ?_⟩, ?_⟩; omega; omega; conv => whnf)
      | (refine ⟨⟨?_, ?_, ?_⟩, ?_⟩; rfl; omega; omega; conv => whnf)
      | (refine ⟨rfl, ?_, ?_⟩; decide; conv => whnf))
    try exact rfl
    refine hq _ ⟨rfl, rfl, rfl, trivial⟩ ⟨rfl, rfl, trivial⟩ ?_ (Nat.lt_of_lt_of_le hm (Nat.le_add_right _ _))
    have e1 : v.f3.length - i = 0 := by omega
    have e2 : v.f3.take i = v.f3 := List.take_of_length_le (by omega)
    rw [e1, e2] at ha
    have ha' : z.hp.a b = some ⟨0, 4, encL v.f3, some v.f3.length, 0⟩ := by simpa using ha
    exact ha'
  | succ d ih =>
    intro i z hd hi ht hz hb ha hm hq
    have hlt : i < v.f3.length := by omega
    have g : decide ((i : Int) < (v.f3.length : Int)) = true := decide_eq_true (by omega)
    have e1 : IntKind.i64.wrap ((i : Int) + 1) = ((i + 1 : Nat) : Int) := wrapN (by omega) (by omega)
    have hE := E v.f3[i] (List.getElem_mem hlt)
    rw [St.knows _ _ ht hz _ hb]
    refine Loop.round ?_
    conv => whnf
    repeat (first
      | (refine sel_yes ?_ ?_; (first | assumption | (simp only [beq_iff_eq, bne_iff_ne, beq_eq_false_iff_ne, bne_eq_false_iff_eq, decide_eq_true_eq, decide_eq_false_iff_not, Bool.not_eq_true', Bool.not_eq_false', ne_eq, beq_true, beq_false, bne_self_eq_false, not_true_eq_false, not_false_eq_true, gt_iff_lt, ge_iff_le, Int.not_lt, Int.not_le, Bool.true_eq_false, Bool.false_eq_true] <;> omega)); conv => whnf)
      | (refine sel_no ?_ ?_; (first | assumption | (simp only [beq_iff_eq, bne_iff_ne, beq_eq_false_iff_ne, bne_eq_false_iff_eq, decide_eq_true_eq, decide_eq_false_iff_not, Bool.not_eq_true', Bool.not_eq_false', ne_eq, beq_true, beq_false, bne_self_eq_false, not_true_eq_false, not_false_eq_true, gt_iff_lt, ge_iff_le, Int.not_lt, Int.not_le, Bool.true_eq_false, Bool.false_eq_true] <;> omega)); conv => whnf)
      | (refine ⟨le_rfl' ?_, ?_⟩; rfl; conv => whnf)
      | (refine ⟨⟨?_, ?_⟩, ?_⟩; omega; omega; conv => whnf)
      | (refine ⟨⟨?_, ?_, ?_⟩, ?_⟩; rfl; omega; omega; conv => whnf)
      | (refine ⟨rfl, ?_, ?_⟩; decide; conv => whnf))
    try exact rfl
    refine ldA (i := i) hlt ?_
    conv => whnf
    refine ⟨_, hE, ?_⟩
    conv => whnf
    refine ⟨bnd rfl hlt, ?_⟩
    conv => whnf
    refine stM (x := v.f3[i]) (l := v.f3.take i) (k := i) ha (by rw [len_zeros]; omega) rfl (by simp; omega) (fun a2 ha2 => ?_)
    conv => whnf
    refine ih (i + 1) _ (by omega) (by omega) ⟨rfl, rfl, rfl, rfl, rfl, ?_, trivial⟩ rfl ⟨rfl, rfl, trivial⟩ ?_ (Nat.lt_of_lt_of_le hm (by (conv => lhs; whnf); (repeat ((conv => rhs; whnf); first | with_reducible exact Nat.le_refl _ | refine Nat.le_trans ?_ (Nat.le_add_right _ _) | refine Nat.le_succ_of_le ?_ | exact Nat.le_refl _)))) hq
    · conv => lhs; whnf
      exact vi e1
    · have e2 : v.f3.take i ++ [v.f3[i]] = v.f3.take (i + 1) := by rw [List.take_add_one, List.getElem?_eq_getElem hlt]; rfl
      have e3 : v.f3.length - i = (v.f3.length - (i + 1)) + 1 := by omega
      rw [e2, e3, drop_zeros] at ha2
      exact trunc_arr2 (clean_zeros _ _) ha2
theorem townp1 (hn : Non ext) (v : T) (hl : v.f3.length ≤ 1000000) (E : ∀ a ∈ v.f3, ownE ext a) : ownE ext v := by
  have key : ∃ r, (cfg ext).Ev 37 [A v] r ∧ r = A v := by
    refine Ev.ofF (hn 37 (by decide) (by decide)) Tryd.func37 rfl rfl ?_
    conv => whnf
    by_cases h0 : v.f3 = []
    · have g0 : ((v.f3.length : Int) == 0) = true := by rw [h0]; rfl
      repeat (first
        | (refine sel_yes ?_ ?_; (first | assumption | (simp only [beq_iff_eq, bne_iff_ne, beq_eq_false_iff_ne, bne_eq_false_iff_eq, decide_eq_true_eq, decide_eq_false_iff_not, Bool.not_eq_true', Bool.not_eq_false', ne_eq, beq_true, beq_false, bne_self_eq_false, not_true_eq_false, not_false_eq_true, gt_iff_lt, ge_iff_le, Int.not_lt, Int.not_le, Bool.true_eq_false, Bool.false_eq_true] <;> omega)); conv => whnf)
        | (refine sel_no ?_ ?_; (first | assumption | (simp only [beq_iff_eq, bne_iff_ne, beq_eq_false_iff_ne, bne_eq_false_iff_eq, decide_eq_true_eq, decide_eq_false_iff_not, Bool.not_eq_true', Bool.not_eq_false', ne_eq, beq_true, beq_false, bne_self_eq_false, not_true_eq_false, not_false_eq_true, gt_iff_lt, ge_iff_le, Int.not_lt, Int.not_le, Bool.true_eq_false, Bool.false_eq_true] <;> omega)); conv => whnf)
        | (refine ⟨le_rfl' ?_, ?_⟩; rfl; conv => whnf)
        | (refine ⟨⟨?_, ?_⟩, ?_⟩; omega; omega; conv => whnf)
        | (refine ⟨⟨?_, ?_, ?_⟩, ?_⟩; rfl; omega; omega; conv => whnf)
        | (refine ⟨rfl, ?_, ?_⟩; decide; conv => whnf))
      try exact rfl
      exact FinAgg (k1 := .i64) (k2 := .i64) rfl (by unfold A; rw [h0]; rfl)
    · have hp : 0 < v.f3.length := List.length_pos_iff.2 h0
      have g0 : ((v.f3.length : Int) == 0) = false := by simp; omega
      repeat (first
        | (refine sel_yes ?_ ?_; (first | assumption | (simp only [beq_iff_eq, bne_iff_ne, beq_eq_false_iff_ne, bne_eq_false_iff_eq, decide_eq_true_eq, decide_eq_false_iff_not, Bool.not_eq_true', Bool.not_eq_false', ne_eq, beq_true, beq_false, bne_self_eq_false, not_true_eq_false, not_false_eq_true, gt_iff_lt, ge_iff_le, Int.not_lt, Int.not_le, Bool.true_eq_false, Bool.false_eq_true] <;> omega)); conv => whnf)
        | (refine sel_no ?_ ?_; (first | assumption | (simp only [beq_iff_eq, bne_iff_ne, beq_eq_false_iff_ne, bne_eq_false_iff_eq, decide_eq_true_eq, decide_eq_false_iff_not, Bool.not_eq_true', Bool.not_eq_false', ne_eq, beq_true, beq_false, bne_self_eq_false, not_true_eq_false, not_false_eq_true, gt_iff_lt, ge_iff_le, Int.not_lt, Int.not_le, Bool.true_eq_false, Bool.false_eq_true] <;> omega)); conv => whnf)
        | (refine ⟨le_rfl' ?_, ?_⟩; rfl; conv => whnf)
        | (refine ⟨⟨?_, ?_⟩, ?_⟩; omega; omega; conv => whnf)
        | (refine ⟨⟨?_, ?_, ?_⟩, ?_⟩; rfl; omega; omega; conv => whnf)
        | (refine ⟨rfl, ?_, ?_⟩; decide; conv => whnf))
      try exact rfl
      refine opt_make (n := v.f3.length) (k := .i64) (k' := .i64) (t := 22) (e := 24) (l := .tmp 14) (c := .tmp 14) (z := zC) ?_ ?_ ?_ ?_ ?_ ?_ ?_ ?_
      · rfl
      · rfl
      · rfl
      · rfl
      · rfl
      · rfl
      · exact ⟨by show v.f3.length * 56 ≤ 140737488355328; omega, by show v.f3.length ≤ 140737488355328; omega⟩
      conv => whnf
      refine lownp v hl E _ _ v.f3.length 0 _ (by omega) (by omega) ⟨rfl, rfl, rfl, rfl, rfl, rfl, trivial⟩ rfl ?_ ?_ ?_ (fun z a b c d => ?_)
      · exact ⟨rfl, rfl, trivial⟩
      · rfl
      · exact Nat.le_of_ble_eq_true rfl
      · rw [St.knows (s := z) _ z.hp.n a rfl _ b]
        conv => whnf
        exact Fin.row (k1 := .i64) (k2 := .i64) rfl c (encL_len _) (encC _) rfl
  obtain ⟨r, h, rfl⟩ := key
  exact h
mutual
theorem ownV1 (hn : Non ext) : (v : T) → partsV v ≤ 1000000 → ownE ext v
  | ⟨k, n, t, l⟩, h => townp1 hn ⟨k, n, t, l⟩ (by
      simp only [partsV] at h
      have := partsL_len l
      show l.length ≤ 1000000
      omega) (fun a ha => ownL1 hn l (by simp only [partsV] at h; omega) a ha)
theorem ownL1 (hn : Non ext) : (l : List T) → partsL l ≤ 1000000 → ∀ a ∈ l, ownE ext a
  | [], _, a, ha => by cases ha
  | v :: l, h, a, ha => by
    simp only [partsL] at h
    rcases List.mem_cons.1 ha with e | ha
    · rw [e]; exact ownV1 hn v (by omega)
    · exact ownL1 hn l (by omega) a ha
end
theorem townG (hn : Non ext) {v : T} (h : okB v = true) : ownE ext v := ownV1 hn v (by have := (okB_iff.1 h).2.2; omega)
end
end Go.Proofs.YtjfjagnnefmepaaDoor.AB
end

section
set_option linter.unusedVariables false
set_option linter.unusedSimpArgs false
open Go Go.Ab Go.Proofs Go.Vl
namespace Go.Proofs.YtjfjagnnefmepaaDoor.AB
set_option maxRecDepth 100000
set_option maxHeartbeats 8000000
set_option linter.unusedSimpArgs false
set_option linter.unusedVariables false
/-- what is put stands there, and what is put there then counts -/
theorem put_put (x y : T) : ∀ (p : List T) (v a : T), Good v → (∀ s ∈ p, Good s) → putF v p x = some a → ∃ c, putF v p y = some c ∧ putF a p y = some c ∧ atF a p = some x
  | [], v, a, hv, hp, h => by cases h; exact ⟨y, rfl, rfl, rfl⟩
  | s :: p, v, a, hv, hp, h => by
    have hs : Good s := hp s (by simp)
    have hp' : ∀ s' ∈ p, Good s' := fun s' h => hp s' (by simp [h])
    have ih := put_put x y p ((partF v s).getD nilT)
    have hog := old_good hv hs
    unfold putF at h
    by_cases h4 : v.f0 = 4
    · rw [if_pos h4] at h
      cases hi : idxF v.f3.length s with
      | some i =>
        rw [hi] at h
        simp only [Option.map_eq_some_iff] at h
        obtain ⟨w, hw, rfl⟩ := h
        obtain ⟨c, c1, c2, c3⟩ := ih w hog hp' hw
        have hb : i < v.f3.length := by
          unfold idxF at hi
          split at hi <;> cases hi
          omega
        have hl : (v.f3.set i w).length = v.f3.length := List.length_set
        have hx : partF ⟨4, 0, ⟨#[]⟩, v.f3.set i w⟩ s = some w := by
          unfold partF
          rw [if_neg (show ¬ (4 : Int) = 6 by decide), if_pos rfl]
          simp only [hl, hi]
          rw [List.getElem?_set_self (by omega)]
        refine ⟨⟨4, 0, ⟨#[]⟩, v.f3.set i c⟩, ?_, ?_, ?_⟩
        · unfold putF; rw [if_pos h4, hi]; simp only [c1, Option.map_some]
        · unfold putF; rw [if_pos rfl]; simp only [hl, hi, hx, Option.getD_some, c2, Option.map_some, List.set_set]
        · unfold atF; rw [hx]; exact c3
      | none =>
        rw [hi] at h
        simp only at h
        split at h
        · rename_i hc
          simp only [Option.map_eq_some_iff] at h
          obtain ⟨w, hw, rfl⟩ := h
          obtain ⟨c, c1, c2, c3⟩ := ih w hog hp' hw
          have hl : (v.f3 ++ [w]).length = v.f3.length + 1 := by simp
          have hi2 : idxF (v.f3.length + 1) s = some v.f3.length := by
            unfold idxF; rw [if_pos ⟨hc.1, by omega, by rw [hc.2]; omega⟩, hc.2]; simp
          have hx : partF ⟨4, 0, ⟨#[]⟩, v.f3 ++ [w]⟩ s = some w := by
            unfold partF
            rw [if_neg (show ¬ (4 : Int) = 6 by decide), if_pos rfl]
            simp only [hl, hi2]
            simp
          refine ⟨⟨4, 0, ⟨#[]⟩, v.f3 ++ [c]⟩, ?_, ?_, ?_⟩
          · unfold putF; rw [if_pos h4, hi]; simp only; rw [if_pos hc]; simp only [c1, Option.map_some]
          · unfold putF; rw [if_pos rfl]; simp only [hl, hi2, hx, Option.getD_some, c2, Option.map_some]
            simp
          · unfold atF; rw [hx]; exact c3
        · cases h
    · rw [if_neg h4] at h
      split at h
      · rename_i h06
        simp only [Option.map_eq_some_iff] at h
        obtain ⟨w, hw, rfl⟩ := h
        obtain ⟨c, c1, c2, c3⟩ := ih w hog hp' hw
        have hev : v.f3.length % 2 = 0 := by
          rcases h06 with h0 | h6
          · rw [hv.nil h0]; rfl
          · exact (OK.row (okB_iff.1 hv.ok)).2 h6
        obtain ⟨i1, i2, i3⟩ := ins_all v.f3 s w c hev
        have hx : partF ⟨6, 0, ⟨#[]⟩, insF v.f3 s w⟩ s = some w := by
          unfold partF
          rw [if_pos rfl, i1, if_pos rfl]; exact i3
        refine ⟨⟨6, 0, ⟨#[]⟩, insF v.f3 s c⟩, ?_, ?_, ?_⟩
        · unfold putF; rw [if_neg h4, if_pos h06]; simp only [c1, Option.map_some]
        · unfold putF; rw [if_neg (show ¬ (6 : Int) = 4 by decide), if_pos (.inr rfl)]; simp only [hx, Option.getD_some, c2, Option.map_some, i2]
        · unfold atF; rw [hx]; exact c3
      · cases h
section
variable {ext : Exts}
/-- paths.Get of what is right -/
theorem tGet (hn : Non ext) (h26 : E26 ext) (h73 : E73 ext) (v x : T) (p : List T) (hv : Good v) (hp : ∀ s ∈ p, Good s) (hl : p.length ≤ 16) (hx : atF v p = some x) : (cfg ext).Ev 13 [A v, .sl false (encL p) p.length] (.tup [A x, .bool true, .int .i64 0]) := by
  have h1 := t22 hn h26 h73 v hv.wf
  rw [if_pos hv.ok] at h1
  have h2 := tasked hn h26 h73 p (by omega) (fun s hs => (hp s hs).wf)
  have e2 : askZ p = 0 := by unfold askZ; rw [if_neg (by omega), if_pos (List.all_eq_true.2 fun s hs => (hp s hs).ok)]
  rw [e2] at h2
  have h3 := tat hn h26 v hv p (by omega) hp
  rw [hx] at h3
  have h4 : (cfg ext).Ev 37 [A x] (A x) := townG hn (at_good p hv hp hx).ok
  refine Ev.of (hn 13 (by decide) (by decide)) Tryd.func13 rfl rfl ?_
  conv => whnf
  refine ⟨_, h1, ?_⟩
  conv => whnf
  refine ⟨_, h2, ?_⟩
  conv => whnf
  refine ⟨_, h3, ?_⟩
  conv => whnf
  refine ⟨_, h4, ?_⟩
  conv => whnf
  rfl
end
end Go.Proofs.YtjfjagnnefmepaaDoor.AB
end

section
set_option linter.unusedVariables false
set_option linter.unusedSimpArgs false
open Go Go.Ab Go.Proofs Go.Vl Go.RowKit
namespace Go.Proofs.YtjfjagnnefmepaaDoor.AB
set_option maxRecDepth 100000
set_option maxHeartbeats 8000000
set_option linter.unusedSimpArgs false
set_option linter.unusedVariables false
mutual
theorem enc_inj : (a b : T) → enc a = enc b → a = b
  | ⟨a0, a1, a2, a3⟩, ⟨b0, b1, b2, b3⟩, h => by
    rw [enc_eq, enc_eq] at h
    simp only [List.cons.injEq, V.int.injEq, V.str.injEq, V.sl.injEq, true_and, and_true] at h
    obtain ⟨h0, h1, h2, h3, _⟩ := h
    have := encL_inj a3 b3 h3
    rw [h0, h1, h2, this]
theorem encL_inj : (l m : List T) → encL l = encL m → l = m
  | [], [], _ => rfl
  | [], b :: m, h => by have := congrArg List.length h; rw [encL_len, encL_len] at this; simp at this
  | a :: l, [], h => by have := congrArg List.length h; rw [encL_len, encL_len] at this; simp at this
  | a :: l, b :: m, h => by
    have e : enc a = enc b ∧ encL l = encL m := by
      have ha : (enc a).length = 4 := by rw [enc_eq]; rfl
      have hb : (enc b).length = 4 := by rw [enc_eq]; rfl
      have h' : enc a ++ encL l = enc b ++ encL m := h
      exact List.append_inj h' (by rw [ha, hb])
    rw [enc_inj a b e.1, encL_inj l m e.2]
end
theorem sndL : Sound (cfg ext0) LaidW := Sound.of LaidW.below mixed okf ext_ok extR_ok
/-- what Put hands to caught -/
def putCl (v : T) (p : List T) (x : T) : List V := [.fn 28 [.ptr (enc v) 0, .ptr [.sl false (encL p) p.length] 0, .ptr (enc x) 0]]
theorem putCl_inj {v v' x x' : T} {p p' : List T} (h : putCl v p x = putCl v' p' x') : v = v' ∧ p = p' ∧ x = x' := by
  simp only [putCl, List.cons.injEq, V.fn.injEq, V.ptr.injEq, V.sl.injEq, true_and, and_true] at h
  exact ⟨enc_inj _ _ h.1, encL_inj _ _ h.2.1.1, enc_inj _ _ h.2.2⟩
/-- what caught tells of it -/
noncomputable def putRes (v : T) (p : List T) (x : T) : V := match putF v p x with
  | none => .tup [A nilT, .int .i64 260]
  | some w => if okB w = true then .tup [A w, .int .i64 0] else .tup [A nilT, .int .i64 2]
theorem wf_mk {k : Int} {l : List T} (hk : In64 k) (hl : l.length ≤ 1000000) (h : ∀ a ∈ l, WfV a) : WfV ⟨k, 0, ⟨#[]⟩, l⟩ := by
  simp only [WfV]
  exact ⟨hk, by unfold In64; omega, Nat.zero_le _, by omega, wfL_of l h⟩
theorem put_wf : ∀ (p : List T) (v x w : T), Good v → (∀ s ∈ p, Good s) → WfV x → putF v p x = some w → WfV w
  | [], v, x, w, hv, hp, hx, h => by cases h; exact hx
  | s :: p, v, x, w, hv, hp, hx, h => by
    have hs : Good s := hp s (by simp)
    have hp' : ∀ s' ∈ p, Good s' := fun s' h => hp s' (by simp [h])
    have ih := fun u => put_wf p ((partF v s).getD nilT) x u (old_good hv hs) hp' hx
    have hlen := (OK.row (okB_iff.1 hv.ok)).1
    have hw := hv.row.wfl
    unfold putF at h
    by_cases h4 : v.f0 = 4
    · rw [if_pos h4] at h
      cases hi : idxF v.f3.length s with
      | some i =>
        rw [hi] at h
        simp only [Option.map_eq_some_iff] at h
        obtain ⟨u, hu, rfl⟩ := h
        refine wf_mk (by unfold In64; omega) (by rw [List.length_set]; omega) (fun a ha => ?_)
        rcases List.mem_or_eq_of_mem_set ha with h | rfl
        · exact hw a h
        · exact ih a hu
      | none =>
        rw [hi] at h
        simp only at h
        split at h
        · simp only [Option.map_eq_some_iff] at h
          obtain ⟨u, hu, rfl⟩ := h
          refine wf_mk (by unfold In64; omega) (by rw [List.length_append]; show v.f3.length + 1 ≤ _; omega) (fun a ha => ?_)
          rcases List.mem_append.1 ha with h | h
          · exact hw a h
          · rw [List.mem_singleton.1 h]; exact ih u hu
        · cases h
    · rw [if_neg h4] at h
      split at h
      · simp only [Option.map_eq_some_iff] at h
        obtain ⟨u, hu, rfl⟩ := h
        unfold insF
        split
        · refine wf_mk (by unfold In64; omega) (by rw [List.length_set]; omega) (fun a ha => ?_)
          rcases List.mem_or_eq_of_mem_set ha with h | rfl
          · exact hw a h
          · exact ih a hu
        · refine wf_mk (by unfold In64; omega) (by simp; omega) (fun a ha => ?_)
          rcases List.mem_append.1 ha with h | h
          · rcases List.mem_append.1 h with h | h
            · exact hw a (List.mem_of_mem_take h)
            · simp only [List.mem_cons, List.not_mem_nil, or_false] at h
              rcases h with rfl | rfl
              · exact hs.wf
              · exact ih a hu
          · exact hw a (List.mem_of_mem_drop h)
      · cases h
theorem caughtPut (v x : T) (p : List T) (hv : Good v) (hp : ∀ s ∈ p, Good s) (hx : WfV x) : PureC Tryd.prog LaidW 27 (putCl v p x) (putRes v p x) := by
  have hz : fzPL (fzP 6) [.ptr (enc v) 0, .ptr [.sl false (encL p) p.length] 0, .ptr (enc x) 0] = some [.ptr (enc v) 0, .ptr [.sl false (encL p) p.length] 0, .ptr (enc x) 0] := rfl
  unfold putRes
  cases h : putF v p x with
  | none => exact caught_pan sndL ⟨_, Tryd.func28, rfl, by decide⟩ hz (tpan1c sndL non0 e26 x v p hv hp h)
  | some w =>
    have hE := tput1 (ext := ext0) non0 e26 x v w p hv hp h
    have hC := t22 non0 e26 e73 w (put_wf p v x w hv hp hx h)
    have := caught_ok sndL (e := if okB w = true then 0 else 3) rfl hz hE hC (fun h0 => townG non0 (by by_cases hk : okB w = true; exact hk; rw [if_neg hk] at h0; cases h0))
    by_cases hk : okB w = true
    · simp only [hk, if_true] at this ⊢; exact this
    · simp only [hk, if_false, Bool.false_eq_true] at this ⊢
      exact this
/-- what is walked above -/
def upL : List Nat := [9, 12, 4, 3, 7, 5, 6, 8, 1000000, 23, 15, 17, 25, 1000000]
def upF (f : Nat) : Bool := upL.any fun k => Nat.beq f k && Nat.blt k 1000000
abbrev CT := Tab Tryd.prog LaidW
/-- the upper configuration: what lies below is as the lower one says, caught as a table says -/
noncomputable def cfgU (T : CT) : Cfg := ((Tab.of sndL).with 27 T).cfg upF
theorem up {T : CT} {f : Nat} {av : List V} {r : V} (hf : upF f = false) (hc : f ≠ 27) (h : (cfg ext0).Ev f av r) : (cfgU T).Ev f av r := Tab.ev hf (Tab.with_ne hc h)
theorem upC {T : CT} {av : List V} {r : V} (h : T.ok 27 av r) : (cfgU T).Ev 27 av r := Tab.ev (by decide) (Tab.with_at h)
theorem hnU {T : CT} {f : Nat} (h : upF f = true) : (cfgU T).ext f = none := Tab.none h
theorem upL_ok : (upL.all fun k => !(Nat.blt k 1000000) || okF k) = true := by decide
theorem upF_ok : ∀ f, upF f = true → okF f = true := by
  intro f h
  obtain ⟨k, hk, h⟩ := List.any_eq_true.1 h
  simp only [Bool.and_eq_true] at h
  have e := Nat.eq_of_beq_eq_true h.1
  have h1 := List.all_eq_true.1 upL_ok k hk
  rw [h.2] at h1
  rw [e]
  simpa using h1
theorem sndU (T : CT) : Sound (cfgU T) LaidW := Tab.sound _ LaidW.below mixed (okf.sub upF_ok)
/-- the table of Put -/
noncomputable def putT : CT := ⟨fun f a r => f = 27 ∧ ∃ (v x : T) (p : List T), (Good v ∧ (∀ s ∈ p, Good s) ∧ WfV x) ∧ a = putCl v p x ∧ r = putRes v p x, fun f a r r' h h' => by
  obtain ⟨_, v, x, p, _, rfl, rfl⟩ := h
  obtain ⟨_, v', x', p', _, h1, rfl⟩ := h'
  obtain ⟨rfl, rfl, rfl⟩ := putCl_inj h1
  rfl, fun f a r h => by
  obtain ⟨rfl, v, x, p, ⟨h1, h2, h3⟩, rfl, rfl⟩ := h
  exact ⟨⟨_, Tryd.func27, rfl, by decide⟩, caughtPut v x p h1 h2 h3⟩⟩
/-- a table that speaks of Put -/
def PutT (T : CT) : Prop := ∀ (v x : Go.Vl.T) (p : List Go.Vl.T), Good v → (∀ s ∈ p, Good s) → WfV x → T.ok 27 (putCl v p x) (putRes v p x)
theorem putT_put : PutT putT := fun v x p h1 h2 h3 => ⟨rfl, v, x, p, ⟨h1, h2, h3⟩, rfl, rfl⟩
end Go.Proofs.YtjfjagnnefmepaaDoor.AB
end

section
set_option linter.unusedVariables false
set_option linter.unusedSimpArgs false
open Go Go.Ab Go.Proofs Go.Vl Go.RowKit
namespace Go.Proofs.YtjfjagnnefmepaaDoor.AB
set_option maxRecDepth 100000
set_option maxHeartbeats 8000000
set_option linter.unusedSimpArgs false
set_option linter.unusedVariables false
theorem cl_eq (v x : T) (p : List T) : putCl v p x = [.fn 28 [.ptr [.int .i64 v.f0, .int .i64 v.f1, .str v.f2, .sl false (encL v.f3) v.f3.length] 0, .ptr [.sl false (encL p) p.length] 0, .ptr [.int .i64 x.f0, .int .i64 x.f1, .str x.f2, .sl false (encL x.f3) x.f3.length] 0]] := by
  unfold putCl; rw [enc_eq, enc_eq]
/-- what Put tells -/
noncomputable def putAll (v : T) (p : List T) (x : T) : V :=
  if okB v = true then if askZ p = 0 then if okB x = true then putRes v p x else .tup [A nilT, .int .i64 3] else .tup [A nilT, .int .i64 (askZ p)] else .tup [A nilT, .int .i64 3]
theorem ask0 {p : List T} (h : askZ p = 0) : p.length ≤ 16 ∧ ∀ s ∈ p, okB s = true := by
  unfold askZ at h
  split at h
  · cases h
  · split at h
    · rename_i h1 h2; exact ⟨by omega, List.all_eq_true.1 h2⟩
    · cases h
theorem askn {p : List T} (h : askZ p ≠ 0) : askZ p = 2 ∨ askZ p = 3 := by
  unfold askZ at h ⊢
  split
  · exact .inl rfl
  · rename_i h1
    rw [if_neg h1] at h
    split
    · rename_i h2; rw [if_pos h2] at h; exact absurd rfl h
    · exact .inr rfl
theorem putRes_tup (v x : T) (p : List T) : ∃ (u : T) (e : Int), putRes v p x = .tup [A u, .int .i64 e] := by
  unfold putRes
  split
  · exact ⟨_, _, rfl⟩
  · split <;> exact ⟨_, _, rfl⟩
section
variable {T : CT}
theorem tPut (hT : PutT T) (v x : Go.Vl.T) (p : List Go.Vl.T) (hv : WfV v) (hp : ∀ s ∈ p, WfV s) (hx : WfV x) (hl : p.length ≤ 9223372036854775807) : (cfgU T).Ev 9 [A v, .sl false (encL p) p.length, A x] (putAll v p x) := by
  have h1 := up (T := T) (by decide) (by decide) (t22 non0 e26 e73 v hv)
  have h2 := up (T := T) (by decide) (by decide) (tasked non0 e26 e73 p hl hp)
  have h3 := up (T := T) (by decide) (by decide) (t22 non0 e26 e73 x hx)
  unfold putAll
  by_cases hv' : okB v = true
  · rw [if_pos hv'] at h1 ⊢
    by_cases ha : askZ p = 0
    · rw [if_pos ha]
      rw [ha] at h2
      by_cases hx' : okB x = true
      · rw [if_pos hx'] at h3 ⊢
        have h4 := upC (hT v x p ⟨hv, hv'⟩ (fun s hs => ⟨hp s hs, (ask0 ha).2 s hs⟩) hx)
        rw [cl_eq] at h4
        obtain ⟨u, e, hu⟩ := putRes_tup v x p
        rw [hu] at h4 ⊢
        refine Ev.of (hnU (by decide)) Tryd.func9 rfl rfl ?_
        conv => whnf
        repeat (first
          | (refine sel_yes ?_ ?_; (first | assumption | (simp only [beq_iff_eq, bne_iff_ne, beq_eq_false_iff_ne, bne_eq_false_iff_eq, decide_eq_true_eq, decide_eq_false_iff_not, Bool.not_eq_true', Bool.not_eq_false', ne_eq, beq_true, beq_false, bne_self_eq_false, not_true_eq_false, not_false_eq_true, gt_iff_lt, ge_iff_le, Int.not_lt, Int.not_le, Bool.true_eq_false, Bool.false_eq_true] <;> omega)); conv => whnf)
          | (refine sel_no ?_ ?_; (first | assumption | (simp only [beq_iff_eq, bne_iff_ne, beq_eq_false_iff_ne, bne_eq_false_iff_eq, decide_eq_true_eq, decide_eq_false_iff_not, Bool.not_eq_true', Bool.not_eq_false', ne_eq, beq_true, beq_false, bne_self_eq_false, not_true_eq_false, not_false_eq_true, gt_iff_lt, ge_iff_le, Int.not_lt, Int.not_le, Bool.true_eq_false, Bool.false_eq_true] <;> omega)); conv => whnf)
          | (refine ⟨_, h1, ?_⟩; conv => whnf)
          | (refine ⟨_, h2, ?_⟩; conv => whnf)
          | (refine ⟨_, h3, ?_⟩; conv => whnf)
          | (refine ⟨_, h4, ?_⟩; conv => whnf)
          | (refine ⟨le_rfl' ?_, ?_⟩; rfl; conv => whnf)
          | (refine ⟨⟨?_, ?_⟩, ?_⟩; omega; omega; conv => whnf)
          | (refine ⟨⟨?_, ?_, ?_⟩, ?_⟩; rfl; omega; omega; conv => whnf)
          | (refine ⟨rfl, ?_, ?_⟩; decide; conv => whnf))
        try exact rfl
      · rw [if_neg hx'] at h3 ⊢
        refine Ev.of (hnU (by decide)) Tryd.func9 rfl rfl ?_
        conv => whnf
        repeat (first
          | (refine sel_yes ?_ ?_; (first | assumption | (simp only [beq_iff_eq, bne_iff_ne, beq_eq_false_iff_ne, bne_eq_false_iff_eq, decide_eq_true_eq, decide_eq_false_iff_not, Bool.not_eq_true', Bool.not_eq_false', ne_eq, beq_true, beq_false, bne_self_eq_false, not_true_eq_false, not_false_eq_true, gt_iff_lt, ge_iff_le, Int.not_lt, Int.not_le, Bool.true_eq_false, Bool.false_eq_true] <;> omega)); conv => whnf)
          | (refine sel_no ?_ ?_; (first | assumption | (simp only [beq_iff_eq, bne_iff_ne, beq_eq_false_iff_ne, bne_eq_false_iff_eq, decide_eq_true_eq, decide_eq_false_iff_not, Bool.not_eq_true', Bool.not_eq_false', ne_eq, beq_true, beq_false, bne_self_eq_false, not_true_eq_false, not_false_eq_true, gt_iff_lt, ge_iff_le, Int.not_lt, Int.not_le, Bool.true_eq_false, Bool.false_eq_true] <;> omega)); conv => whnf)
          | (refine ⟨_, h1, ?_⟩; conv => whnf)
          | (refine ⟨_, h2, ?_⟩; conv => whnf)
          | (refine ⟨_, h3, ?_⟩; conv => whnf)
          | (refine ⟨le_rfl' ?_, ?_⟩; rfl; conv => whnf)
          | (refine ⟨⟨?_, ?_⟩, ?_⟩; omega; omega; conv => whnf)
          | (refine ⟨⟨?_, ?_, ?_⟩, ?_⟩; rfl; omega; omega; conv => whnf)
          | (refine ⟨rfl, ?_, ?_⟩; decide; conv => whnf))
        try exact rfl
    · rw [if_neg ha]
      rcases askn ha with e | e
      all_goals rw [e] at h2 ⊢
      all_goals refine Ev.of (hnU (by decide)) Tryd.func9 rfl rfl ?_
      · conv => whnf
        repeat (first
          | (refine sel_yes ?_ ?_; (first | assumption | (simp only [beq_iff_eq, bne_iff_ne, beq_eq_false_iff_ne, bne_eq_false_iff_eq, decide_eq_true_eq, decide_eq_false_iff_not, Bool.not_eq_true', Bool.not_eq_false', ne_eq, beq_true, beq_false, bne_self_eq_false, not_true_eq_false, not_false_eq_true, gt_iff_lt, ge_iff_le, Int.not_lt, Int.not_le, Bool.true_eq_false, Bool.false_eq_true] <;> omega)); conv => whnf)
          | (refine sel_no ?_ ?_; (first | assumption | (simp only [beq_iff_eq, bne_iff_ne, beq_eq_false_iff_ne, bne_eq_false_iff_eq, decide_eq_true_eq, decide_eq_false_iff_not, Bool.not_eq_true', Bool.not_eq_false', ne_eq, beq_true, beq_false, bne_self_eq_false, not_true_eq_false, not_false_eq_true, gt_iff_lt, ge_iff_le, Int.not_lt, Int.not_le, Bool.true_eq_false, Bool.false_eq_true] <;> omega)); conv => whnf)
          | (refine ⟨_, h1, ?_⟩; conv => whnf)
          | (refine ⟨_, h2, ?_⟩; conv => whnf)
          | (refine ⟨_, h3, ?_⟩; conv => whnf)
          | (refine ⟨le_rfl' ?_, ?_⟩; rfl; conv => whnf)
          | (refine ⟨⟨?_, ?_⟩, ?_⟩; omega; omega; conv => whnf)
          | (refine ⟨⟨?_, ?_, ?_⟩, ?_⟩; rfl; omega; omega; conv => whnf)
          | (refine ⟨rfl, ?_, ?_⟩; decide; conv => whnf))
        try exact rfl
      · conv => whnf
        repeat (first
          | (refine sel_yes ?_ ?_; (first | assumption | (simp only [beq_iff_eq, bne_iff_ne, beq_eq_false_iff_ne, bne_eq_false_iff_eq, decide_eq_true_eq, decide_eq_false_iff_not, Bool.not_eq_true', Bool.not_eq_false', ne_eq, beq_true, beq_false, bne_self_eq_false, not_true_eq_false, not_false_eq_true, gt_iff_lt, ge_iff_le, Int.not_lt, Int.not_le, Bool.true_eq_false, Bool.false_eq_true] <;> omega)); conv => whnf)
          | (refine sel_no ?_ ?_; (first | assumption | (simp only [beq_iff_eq, bne_iff_ne, beq_eq_false_iff_ne, bne_eq_false_iff_eq, decide_eq_true_eq, decide_eq_false_iff_not, Bool.not_eq_true', Bool.not_eq_false', ne_eq, beq_true, beq_false, bne_self_eq_false, not_true_eq_false, not_false_eq_true, gt_iff_lt, ge_iff_le, Int.not_lt, Int.not_le, Bool.true_eq_false, Bool.false_eq_true] <;> omega)); conv => whnf)
          | (refine ⟨_, h1, ?_⟩; conv => whnf)
          | (refine ⟨_, h2, ?_⟩; conv => whnf)
          | (refine ⟨_, h3, ?_⟩; conv => whnf)
          | (refine ⟨le_rfl' ?_, ?_⟩; rfl; conv => whnf)
          | (refine ⟨⟨?_, ?_⟩, ?_⟩; omega; omega; conv => whnf)
          | (refine ⟨⟨?_, ?_, ?_⟩, ?_⟩; rfl; omega; omega; conv => whnf)
          | (refine ⟨rfl, ?_, ?_⟩; decide; conv => whnf))
        try exact rfl
  · rw [if_neg hv'] at h1 ⊢
    refine Ev.of (hnU (by decide)) Tryd.func9 rfl rfl ?_
    conv => whnf
    repeat (first
      | (refine sel_yes ?_ ?_; (first | assumption | (simp only [beq_iff_eq, bne_iff_ne, beq_eq_false_iff_ne, bne_eq_false_iff_eq, decide_eq_true_eq, decide_eq_false_iff_not, Bool.not_eq_true', Bool.not_eq_false', ne_eq, beq_true, beq_false, bne_self_eq_false, not_true_eq_false, not_false_eq_true, gt_iff_lt, ge_iff_le, Int.not_lt, Int.not_le, Bool.true_eq_false, Bool.false_eq_true] <;> omega)); conv => whnf)
      | (refine sel_no ?_ ?_; (first | assumption | (simp only [beq_iff_eq, bne_iff_ne, beq_eq_false_iff_ne, bne_eq_false_iff_eq, decide_eq_true_eq, decide_eq_false_iff_not, Bool.not_eq_true', Bool.not_eq_false', ne_eq, beq_true, beq_false, bne_self_eq_false, not_true_eq_false, not_false_eq_true, gt_iff_lt, ge_iff_le, Int.not_lt, Int.not_le, Bool.true_eq_false, Bool.false_eq_true] <;> omega)); conv => whnf)
      | (refine ⟨_, h1, ?_⟩; conv => whnf)
      | (refine ⟨le_rfl' ?_, ?_⟩; rfl; conv => whnf)
      | (refine ⟨⟨?_, ?_⟩, ?_⟩; omega; omega; conv => whnf)
      | (refine ⟨⟨?_, ?_, ?_⟩, ?_⟩; rfl; omega; omega; conv => whnf)
      | (refine ⟨rfl, ?_, ?_⟩; decide; conv => whnf))
    try exact rfl
end
end Go.Proofs.YtjfjagnnefmepaaDoor.AB
end

section
set_option linter.unusedVariables false
set_option linter.unusedSimpArgs false
open Go Go.Ab Go.Proofs Go.Vl
namespace Go.Proofs.YtjfjagnnefmepaaDoor.AB
set_option maxRecDepth 100000
set_option maxHeartbeats 1600000
set_option linter.unusedSimpArgs false
section
variable {ext : Exts}
noncomputable def eqT (a b : T) : Bool := @decide (a = b) (Classical.propDecidable _)
theorem eqT_iff {a b : T} : eqT a b = true ↔ a = b := by unfold eqT; exact @decide_eq_true_iff _ (Classical.propDecidable _)
theorem eqT_self (a : T) : eqT a a = true := eqT_iff.2 rfl
noncomputable def eqL (a b : List T) : Bool := @decide (a = b) (Classical.propDecidable _)
theorem eqL_iff {a b : List T} : eqL a b = true ↔ a = b := by unfold eqL; exact @decide_eq_true_iff _ (Classical.propDecidable _)
theorem eqL_self (a : List T) : eqL a a = true := eqL_iff.2 rfl
theorem eqL_cons {a b : T} {l m : List T} : eqL (a :: l) (b :: m) = (eqT a b && eqL l m) := by
  rw [Bool.eq_iff_iff, Bool.and_eq_true, eqL_iff, eqT_iff, eqL_iff]
  exact ⟨fun h => by injection h with h1 h2; exact ⟨h1, h2⟩, fun h => by rw [h.1, h.2]⟩
theorem eqL_drop {l m : List T} {i : Nat} (h1 : i < l.length) (h2 : i < m.length) : eqL (l.drop i) (m.drop i) = (eqT l[i] m[i] && eqL (l.drop (i + 1)) (m.drop (i + 1))) := by
  rw [List.drop_eq_getElem_cons h1, List.drop_eq_getElem_cons h2, eqL_cons]
theorem wrapN1 {i : Nat} (h : i + 1 ≤ 9223372036854775807) : V.int .i64 (IntKind.i64.wrap ((i : Int) + 1)) = V.int .i64 ((i + 1 : Nat) : Int) := by
  rw [IntKind.wrap_i64]; exact vi (by omega)
theorem lplain (k n : Int) (t : ByteArray) (l : List T) (k' n' : Int) (t' : ByteArray) (m : List T) (hm : l.length = m.length) (hl : l.length ≤ 9223372036854775807) (E : ∀ a ∈ l, ∀ b ∈ m, (cfg ext).Ev 11 [A a, A b] (.bool (eqT a b))) (Q : Ex → St → Prop) (d : Nat) :
    ∀ (i : Nat) (z : St), l.length - i = d → i ≤ l.length → Has z.t [(37, .int .i64 i), (36, .int .i64 l.length), (2, .ref 0 0), (3, .ref 1 0)] →
      Has z.hp.h [(0, some (.cells [.int .i64 k, .int .i64 n, .str t, .sl false (encL l) l.length] false)), (1, some (.cells [.int .i64 k', .int .i64 n', .str t', .sl false (encL m) m.length] false))] → z.hp.n = 35 →
      (∀ z', z'.t 4 = .bool false → eqL (l.drop i) (m.drop i) = false → Q .ret z') → (∀ z', eqL (l.drop i) (m.drop i) = true → Q (.exit 0) z') →
      Go.Ab.Loop (cfg ext) (lpOf Tryd.f11) 35 z Q := by
  induction d with
  | zero =>
    intro i z hd hi ht hh hn hr hq
    obtain rfl : i = l.length := by omega
    rw [St.knows _ _ ht hn _ hh]
    refine Loop.round ?_
    conv => whnf
    refine sel_no (by simp) ?_
    conv => whnf
    exact hq _ (by rw [List.drop_length, hm, List.drop_length]; exact eqL_self _)
  | succ d ih =>
    intro i z hd hi ht hh hn hr hq
    have h1 : i < l.length := by omega
    have h2 : i < m.length := by omega
    have hE := E _ (List.getElem_mem h1) _ (List.getElem_mem h2)
    have eD := eqL_drop h1 h2
    rw [St.knows _ _ ht hn _ hh]
    refine Loop.round ?_
    conv => whnf
    refine sel_yes (by simp; omega) ?_
    conv => whnf
    refine ⟨⟨by omega, by omega⟩, ?_⟩
    conv => whnf
    refine ldA (i := i) h1 ?_
    conv => whnf
    refine ⟨⟨by omega, by omega⟩, ?_⟩
    conv => whnf
    refine ldA (i := i) h2 ?_
    conv => whnf
    refine ⟨_, hE, ?_⟩
    cases he : eqT l[i] m[i] with
    | false =>
      conv => whnf
      exact hr _ rfl (by rw [eD, he]; rfl)
    | true =>
      conv => whnf
      refine ih (i + 1) _ (by omega) (by omega) ⟨?_, rfl, rfl, rfl, trivial⟩ ⟨rfl, rfl, trivial⟩ rfl (fun z' a b => hr z' a (by rw [eD, he]; exact b)) (fun z' a => hq z' (by rw [eD, he]; exact a))
      conv => lhs; whnf
      exact wrapN1 (by omega)
mutual
theorem tplain (hn : Non ext) : (a : T) → WfV a → (b : T) → (cfg ext).Ev 11 [A a, A b] (.bool (eqT a b))
  | ⟨k, n, t, l⟩, hw, ⟨k', n', t', m⟩ => by
    have E : ∀ a ∈ l, ∀ b ∈ m, (cfg ext).Ev 11 [A a, A b] (.bool (eqT a b)) := fun a ha b _ => tplainL hn l (by simp only [WfV] at hw; exact hw.2.2.2.2) a ha b
    have hl : l.length ≤ 9223372036854775807 := by simp only [WfV] at hw; exact hw.2.2.2.1
    have no (h : ¬ (k = k' ∧ n = n' ∧ t = t' ∧ l.length = m.length)) : eqT ⟨k, n, t, l⟩ ⟨k', n', t', m⟩ = false := by
      cases e : eqT ⟨k, n, t, l⟩ ⟨k', n', t', m⟩ with
      | false => rfl
      | true => have := eqT_iff.1 e; injection this with e1 e2 e3 e4; exact absurd ⟨e1, e2, e3, by rw [e4]⟩ h
    refine Ev.of (hn 11 (by decide) (by decide)) Tryd.func11 rfl rfl ?_
    conv => whnf
    by_cases h1 : k = k'
    · by_cases h2 : n = n'
      · by_cases h3 : t = t'
        · have h3' : (!(t.toList == t'.toList)) = false := by rw [h3]; simp
          by_cases h4 : l.length = m.length
          · have h4' : ((l.length : Int) != (m.length : Int)) = false := by rw [h4]; simp
            repeat (first
              | (refine sel_no ?_ ?_; (first | exact h3' | exact h4' | (simp only [bne_eq_false_iff_eq, beq_eq_false_iff_ne, beq_iff_eq, beq_false, Bool.not_eq_true']; omega) | (rw [h3']; rfl) | (rw [h4']; rfl)); conv => whnf)
              | (refine sel_yes ?_ ?_; (first | (simp only [bne_eq_false_iff_eq, beq_eq_false_iff_ne, beq_iff_eq, beq_false, Bool.not_eq_true']; omega) | (rw [h3']; rfl) | (rw [h4']; rfl)); conv => whnf))
            refine lplain k n t l k' n' t' m h4 hl E _ _ 0 _ rfl (by omega) ⟨rfl, rfl, rfl, rfl, trivial⟩ ⟨rfl, rfl, trivial⟩ rfl (fun z a b => ?_) (fun z a => ?_)
            · conv => whnf
              rw [a]
              refine congrArg V.bool ?_
              simp only [List.drop_zero] at b
              cases e : eqT ⟨k, n, t, l⟩ ⟨k', n', t', m⟩ with
              | false => rfl
              | true => have := eqT_iff.1 e; injection this with e1 e2 e3 e4; rw [e4, eqL_self] at b; cases b
            · conv => whnf
              refine congrArg V.bool ?_
              simp only [List.drop_zero] at a
              have := eqL_iff.1 a
              rw [h1, h2, h3, this, eqT_self]
          · rw [no (fun h => h4 h.2.2.2)]
            have h4' : ((l.length : Int) != (m.length : Int)) = true := by simp; omega
            repeat (first
              | (refine sel_no ?_ ?_; (first | exact h3' | (simp only [bne_eq_false_iff_eq, beq_eq_false_iff_ne, beq_iff_eq, beq_false, Bool.not_eq_true']; omega) | (rw [h3']; rfl)); conv => whnf)
              | (refine sel_yes ?_ ?_; (first | exact h4' | (simp only [bne_eq_false_iff_eq, beq_eq_false_iff_ne, beq_iff_eq, beq_false, Bool.not_eq_true']; omega) | (rw [h3']; rfl) | (rw [h4']; rfl)); conv => whnf))
        · rw [no (fun h => h3 h.2.2.1)]
          have h3' : (!(t.toList == t'.toList)) = true := by
            rw [Bool.not_eq_true', beq_eq_false_iff_ne]
            intro h
            exact h3 (Go.WideShapes.bytes_inj (by rw [ByteArray.toList_eq, ByteArray.toList_eq] at h; exact h))
          repeat (first
            | (refine sel_no ?_ ?_; (first | (simp only [bne_eq_false_iff_eq, beq_eq_false_iff_ne, beq_iff_eq, beq_false, Bool.not_eq_true']; omega) | (rw [h3']; rfl)); conv => whnf)
            | (refine sel_yes ?_ ?_; (first | exact h3' | (simp only [bne_eq_false_iff_eq, beq_eq_false_iff_ne, beq_iff_eq, beq_false, Bool.not_eq_true']; omega) | (rw [h3']; rfl)); conv => whnf))
      · rw [no (fun h => h2 h.2.1)]
        repeat (first
          | (refine sel_yes ?_ ?_; (first | assumption | (simp only [beq_iff_eq, bne_iff_ne, beq_eq_false_iff_ne, bne_eq_false_iff_eq, decide_eq_true_eq, decide_eq_false_iff_not, Bool.not_eq_true', Bool.not_eq_false', ne_eq, beq_true, beq_false, bne_self_eq_false, not_true_eq_false, not_false_eq_true, gt_iff_lt, ge_iff_le, Int.not_lt, Int.not_le, Bool.true_eq_false, Bool.false_eq_true] <;> omega)); conv => whnf)
          | (refine sel_no ?_ ?_; (first | assumption | (simp only [beq_iff_eq, bne_iff_ne, beq_eq_false_iff_ne, bne_eq_false_iff_eq, decide_eq_true_eq, decide_eq_false_iff_not, Bool.not_eq_true', Bool.not_eq_false', ne_eq, beq_true, beq_false, bne_self_eq_false, not_true_eq_false, not_false_eq_true, gt_iff_lt, ge_iff_le, Int.not_lt, Int.not_le, Bool.true_eq_false, Bool.false_eq_true] <;> omega)); conv => whnf)
          | (refine ⟨le_rfl' ?_, ?_⟩; rfl; conv => whnf)
          | (refine ⟨⟨?_, ?_⟩, ?_⟩; omega; omega; conv => whnf)
          | (refine ⟨⟨?_, ?_, ?_⟩, ?_⟩; rfl; omega; omega; conv => whnf)
          | (refine ⟨rfl, ?_, ?_⟩; decide; conv => whnf))
        try exact rfl
    · rw [no (fun h => h1 h.1)]
      repeat (first
        | (refine sel_yes ?_ ?_; (first | assumption | (simp only [beq_iff_eq, bne_iff_ne, beq_eq_false_iff_ne, bne_eq_false_iff_eq, decide_eq_true_eq, decide_eq_false_iff_not, Bool.not_eq_true', Bool.not_eq_false', ne_eq, beq_true, beq_false, bne_self_eq_false, not_true_eq_false, not_false_eq_true, gt_iff_lt, ge_iff_le, Int.not_lt, Int.not_le, Bool.true_eq_false, Bool.false_eq_true] <;> omega)); conv => whnf)
        | (refine sel_no ?_ ?_; (first | assumption | (simp only [beq_iff_eq, bne_iff_ne, beq_eq_false_iff_ne, bne_eq_false_iff_eq, decide_eq_true_eq, decide_eq_false_iff_not, Bool.not_eq_true', Bool.not_eq_false', ne_eq, beq_true, beq_false, bne_self_eq_false, not_true_eq_false, not_false_eq_true, gt_iff_lt, ge_iff_le, Int.not_lt, Int.not_le, Bool.true_eq_false, Bool.false_eq_true] <;> omega)); conv => whnf)
        | (refine ⟨le_rfl' ?_, ?_⟩; rfl; conv => whnf)
        | (refine ⟨⟨?_, ?_⟩, ?_⟩; omega; omega; conv => whnf)
        | (refine ⟨⟨?_, ?_, ?_⟩, ?_⟩; rfl; omega; omega; conv => whnf)
        | (refine ⟨rfl, ?_, ?_⟩; decide; conv => whnf))
      try exact rfl
theorem tplainL (hn : Non ext) : (l : List T) → WfL l → ∀ a ∈ l, ∀ b : T, (cfg ext).Ev 11 [A a, A b] (.bool (eqT a b))
  | [], _, a, ha, _ => by cases ha
  | v :: l, hw, a, ha, b => by
    simp only [WfL] at hw
    rcases List.mem_cons.1 ha with e | h
    · rw [e]; exact tplain hn v hw.1 b
    · exact tplainL hn l hw.2 a h b
end
end
end Go.Proofs.YtjfjagnnefmepaaDoor.AB
end

section
set_option linter.unusedVariables false
set_option linter.unusedSimpArgs false
open Go Go.Ab Go.Proofs Go.Vl Go.RowKit
namespace Go.Proofs.YtjfjagnnefmepaaDoor.AB
set_option maxRecDepth 100000
set_option maxHeartbeats 8000000
set_option linter.unusedSimpArgs false
set_option linter.unusedVariables false
def pA : T := ⟨3, 0, ⟨#[97]⟩, []⟩
def pB : T := ⟨3, 0, ⟨#[98]⟩, []⟩
def p1 : T := ⟨2, 1, ⟨#[]⟩, []⟩
def p3 : T := ⟨2, 3, ⟨#[]⟩, []⟩
def pL : T := ⟨4, 0, ⟨#[]⟩, []⟩
def pM : T := ⟨6, 0, ⟨#[]⟩, [pA, ⟨6, 0, ⟨#[]⟩, [pB, p1]⟩]⟩
section
variable {ext : Exts}
theorem tText (hn : Non ext) (s : ByteArray) : (cfg ext).Ev 34 [.str s] (A ⟨3, 0, s, []⟩) := by
  refine Ev.of (hn 34 (by decide) (by decide)) Tryd.func34 rfl rfl ?_
  conv => whnf
  rfl
theorem tInt (hn : Non ext) (n : Int) : (cfg ext).Ev 35 [.int .i64 n] (A ⟨2, n, ⟨#[]⟩, []⟩) := by
  refine Ev.of (hn 35 (by decide) (by decide)) Tryd.func35 rfl rfl ?_
  conv => whnf
  rfl
end
theorem u_A : utfB ⟨#[97]⟩ = true := by kernel_rfl
theorem u_B : utfB ⟨#[98]⟩ = true := by kernel_rfl
theorem z_1 (b : UInt8) : (⟨#[b]⟩ : ByteArray).size = 1 := rfl
theorem z_0 : (⟨#[]⟩ : ByteArray).size = 0 := rfl
theorem k_nil : okB nilT = true := by
  rw [okB_iff]
  simp [OK, OkV, OkL, FormV, PlainV, deepV, deepL, partsV, partsL, Rise, nilT, pA, pB, p1, p3, pL, pM, u_A, u_B, z_1, z_0]
theorem k_A : okB pA = true := by
  rw [okB_iff]
  simp [OK, OkV, OkL, FormV, PlainV, deepV, deepL, partsV, partsL, Rise, nilT, pA, pB, p1, p3, pL, pM, u_A, u_B, z_1, z_0]
theorem k_B : okB pB = true := by
  rw [okB_iff]
  simp [OK, OkV, OkL, FormV, PlainV, deepV, deepL, partsV, partsL, Rise, nilT, pA, pB, p1, p3, pL, pM, u_A, u_B, z_1, z_0]
theorem k_1 : okB p1 = true := by
  rw [okB_iff]
  simp [OK, OkV, OkL, FormV, PlainV, deepV, deepL, partsV, partsL, Rise, nilT, pA, pB, p1, p3, pL, pM, u_A, u_B, z_1, z_0]
theorem k_3 : okB p3 = true := by
  rw [okB_iff]
  simp [OK, OkV, OkL, FormV, PlainV, deepV, deepL, partsV, partsL, Rise, nilT, pA, pB, p1, p3, pL, pM, u_A, u_B, z_1, z_0]
theorem k_L : okB pL = true := by
  rw [okB_iff]
  simp [OK, OkV, OkL, FormV, PlainV, deepV, deepL, partsV, partsL, Rise, nilT, pA, pB, p1, p3, pL, pM, u_A, u_B, z_1, z_0]
theorem k_M : okB pM = true := by
  rw [okB_iff]
  simp [OK, OkV, OkL, FormV, PlainV, deepV, deepL, partsV, partsL, Rise, nilT, pA, pB, p1, p3, pL, pM, u_A, u_B, z_1, z_0]
  exact ⟨fun i _ h => absurd h (by omega), fun i _ h => absurd h (by omega)⟩
theorem k_put : putF nilT [pA, pB] p1 = some pM := by kernel_rfl
theorem k_at : atF pM [pA, pB] = some p1 := by kernel_rfl
theorem k_pan : putF pL [p3] pA = none := by kernel_rfl
theorem w_nil : WfV nilT := by simp [nilT, WfV, WfL, In64, z_0]
theorem w_A : WfV pA := by simp [pA, WfV, WfL, In64, z_0, z_1]
theorem w_B : WfV pB := by simp [pB, WfV, WfL, In64, z_0, z_1]
theorem w_1 : WfV p1 := by simp [p1, WfV, WfL, In64, z_0, z_1]
theorem w_3 : WfV p3 := by simp [p3, WfV, WfL, In64, z_0, z_1]
theorem w_L : WfV pL := by simp [pL, WfV, WfL, In64, z_0, z_1]
theorem w_M : WfV pM := by simp [pM, pA, pB, p1, WfV, WfL, In64, z_0, z_1]
section
variable {T : CT}
theorem s_put1 (hT : PutT T) : (cfgU T).Ev 9 [A nilT, .sl false (encL [pA, pB]) 2, A p1] (.tup [A pM, .int .i64 0]) := by
  have h := tPut hT nilT p1 [pA, pB] w_nil (by simp [w_A, w_B]) w_1 (by decide)
  have e : putAll nilT [pA, pB] p1 = .tup [A pM, .int .i64 0] := by
    have a : askZ [pA, pB] = 0 := by simp [askZ, k_A, k_B]
    unfold putAll putRes
    rw [if_pos k_nil, if_pos a, if_pos k_1, k_put]
    simp only [k_M, if_true]
  rw [e] at h
  exact h
theorem s_put2 (hT : PutT T) : (cfgU T).Ev 9 [A pL, .sl false (encL [p3]) 1, A pA] (.tup [A nilT, .int .i64 260]) := by
  have h := tPut hT pL pA [p3] w_L (by simp [w_3]) w_A (by decide)
  have e : putAll pL [p3] pA = .tup [A nilT, .int .i64 260] := by
    have a : askZ [p3] = 0 := by simp [askZ, k_3]
    unfold putAll putRes
    rw [if_pos k_L, if_pos a, if_pos k_A, k_pan]
  rw [e] at h
  exact h
theorem s_get : (cfgU T).Ev 13 [A pM, .sl false (encL [pA, pB]) 2] (.tup [A p1, .bool true, .int .i64 0]) :=
  up (T := T) (by decide) (by decide) (tGet non0 e26 e73 pM p1 [pA, pB] ⟨w_M, k_M⟩ (by simp; exact ⟨⟨w_A, k_A⟩, ⟨w_B, k_B⟩⟩) (by decide) k_at)
theorem speaks26 (hT : PutT T) : (cfgU T).Ev 12 [] (.bool true) := by
  have h1 := up (T := T) (by decide) (by decide) (tText non0 ⟨#[97]⟩)
  have h2 := up (T := T) (by decide) (by decide) (tText non0 ⟨#[98]⟩)
  have h3 := up (T := T) (by decide) (by decide) (tInt non0 1)
  have h4 := up (T := T) (by decide) (by decide) (tInt non0 3)
  have h5 := s_put1 hT
  have h6 := s_put2 hT
  have h7 := s_get (T := T)
  refine Ev.of (hnU (by decide)) Tryd.func12 rfl rfl ?_
  conv => whnf
  repeat (first
    | (refine sel_yes ?_ ?_; (first | assumption | (simp only [beq_iff_eq, bne_iff_ne, beq_eq_false_iff_ne, bne_eq_false_iff_eq, decide_eq_true_eq, decide_eq_false_iff_not, Bool.not_eq_true', Bool.not_eq_false', ne_eq, beq_true, beq_false, bne_self_eq_false, not_true_eq_false, not_false_eq_true, gt_iff_lt, ge_iff_le, Int.not_lt, Int.not_le, Bool.true_eq_false, Bool.false_eq_true] <;> omega)); conv => whnf)
    | (refine sel_no ?_ ?_; (first | assumption | (simp only [beq_iff_eq, bne_iff_ne, beq_eq_false_iff_ne, bne_eq_false_iff_eq, decide_eq_true_eq, decide_eq_false_iff_not, Bool.not_eq_true', Bool.not_eq_false', ne_eq, beq_true, beq_false, bne_self_eq_false, not_true_eq_false, not_false_eq_true, gt_iff_lt, ge_iff_le, Int.not_lt, Int.not_le, Bool.true_eq_false, Bool.false_eq_true] <;> omega)); conv => whnf)
    | (refine ⟨_, h1, ?_⟩; conv => whnf)
    | (refine ⟨_, h2, ?_⟩; conv => whnf)
    | (refine ⟨_, h3, ?_⟩; conv => whnf)
    | (refine ⟨_, h4, ?_⟩; conv => whnf)
    | (refine ⟨_, h5, ?_⟩; conv => whnf)
    | (refine ⟨_, h6, ?_⟩; conv => whnf)
    | (refine ⟨_, h7, ?_⟩; conv => whnf)
    | (refine ⟨le_rfl' ?_, ?_⟩; rfl; conv => whnf)
    | (refine ⟨⟨?_, ?_⟩, ?_⟩; omega; omega; conv => whnf)
    | (refine ⟨⟨?_, ?_, ?_⟩, ?_⟩; rfl; omega; omega; conv => whnf)
    | (refine ⟨rfl, ?_, ?_⟩; decide; conv => whnf))
  try exact rfl
end
/-- what the upper configuration says of a law, the machine does -/
theorem evT_calls {T : CT} {f : Nat} {vs : List V} (h : (cfgU T).Ev f vs (.bool true)) (W : World) (hT : LaidW W) (xs : Array Value) (hv : VRs (stab (inW W)) W vs xs.toList) :
    Calls Tryd.prog f xs W fun e w' => e = .returned (.bool true) ∧ Below W.heap.size W w' := by
  obtain ⟨K, hK⟩ := h.out
  refine ((((sndU T).env K).call _ _ _ (hK K (Nat.le_refl _))).2 (inW W) W xs hT (fun r o h => h) hv).mono ?_
  rintro e w' ⟨x, S', rfl, hb, _, _, hx⟩
  exact ⟨by rw [show x = .bool true from hx], hb⟩
theorem tup2 {u u' : T} {e e' : Int} (h : V.tup [A u, .int .i64 e] = .tup [A u', .int .i64 e']) : u = u' ∧ e = e' := by
  simp only [V.tup.injEq, List.cons.injEq, V.int.injEq, true_and, and_true] at h
  exact ⟨enc_inj _ _ (by rw [enc_eq, enc_eq]; exact (V.agg.inj h.1)), h.2⟩
theorem putAll_tup (v x : T) (p : List T) : ∃ (u : T) (e : Int), putAll v p x = .tup [A u, .int .i64 e] := by
  unfold putAll
  split
  · split
    · split
      · exact putRes_tup v x p
      · exact ⟨_, _, rfl⟩
    · exact ⟨_, _, rfl⟩
  · exact ⟨_, _, rfl⟩

end Go.Proofs.YtjfjagnnefmepaaDoor.AB
end

section
set_option linter.unusedVariables false
set_option linter.unusedSimpArgs false
open Go Go.Ab Go.Proofs Go.Vl Go.RowKit
namespace Go.Proofs.YtjfjagnnefmepaaDoor.AB
set_option maxRecDepth 100000
set_option maxHeartbeats 8000000
set_option linter.unusedSimpArgs false
set_option linter.unusedVariables false
def mapT : T := ⟨6, 0, ⟨#[]⟩, []⟩
theorem map_good : Good mapT := by
  refine ⟨?_, okB_iff.2 ⟨?_, by decide, by decide⟩⟩
  · unfold mapT; simp [WfV, WfL, In64]
    exact Nat.zero_le _
  · rw [okV_eq]
    refine ⟨?_, ?_, trivial⟩
    · unfold PlainV; simp [mapT]
    · unfold FormV; simp [mapT]
      intro i _ h; simp at h
/-- what is wrong with some paths -/
noncomputable def askL : List (List T) → Int
  | [] => 0
  | p :: l => if askZ p = 0 then askL l else askZ p
theorem askL_0 : ∀ (l : List (List T)), askL l = 0 → ∀ p ∈ l, askZ p = 0
  | [], _, p, hp => by cases hp
  | q :: l, h, p, hp => by
    unfold askL at h
    split at h
    · rename_i h0
      rcases List.mem_cons.1 hp with rfl | hp
      · exact h0
      · exact askL_0 l h p hp
    · rename_i h0; exact absurd h h0
theorem askL_n : ∀ (l : List (List T)), askL l ≠ 0 → askL l = 2 ∨ askL l = 3
  | [], h => absurd rfl h
  | q :: l, h => by
    unfold askL at h ⊢
    split
    · rename_i h0; rw [if_pos h0] at h; exact askL_n l h
    · rename_i h0; exact askn h0
/-- what stands at some paths alone -/
noncomputable def onlyG (v : T) : List (List T) → T → T × Int
  | [], out => (out, 0)
  | p :: l, out => match atF v p with
    | none => onlyG v l out
    | some x => match putF out p x with
      | none => (nilT, 260)
      | some w => if okB w = true then onlyG v l w else (nilT, 2)
noncomputable def onlyZ (v : T) (l : List (List T)) : T × Int := if okB v = true then if 65536 < l.length then (nilT, 2) else if askL l = 0 then onlyG v l mapT else (nilT, askL l) else (nilT, 3)
def tupZ (r : T × Int) : V := .tup [A r.1, .int .i64 r.2]
section
variable {C : CT}
theorem lonly1 (v : T) (l : List (List T)) (hl : l.length ≤ 65536) (hp : ∀ p ∈ l, p.length ≤ 9223372036854775807 ∧ ∀ s ∈ p, WfV s) (Q : Ex → St → Prop) (d : Nat) :
    ∀ (i : Nat) (z : St), l.length - i = d → i ≤ l.length → Has z.t [(1, .sl false (encR l) l.length), (2, .ref 0 0), (4, .ref 1 0), (27, .sl false (encR l) l.length), (28, .int .i64 l.length), (29, .int .i64 i)] → z.hp.n = 14 → Has z.hp.h [(0, some (.cells (cellsV v) false)), (1, some (.cells zC false))] →
      (∀ z' : St, Has z'.t [(4, .ref 1 0), (5, .int .i64 (askL (l.drop i)))] → Has z'.hp.h [(1, some (.cells zC false))] → askL (l.drop i) ≠ 0 → Q .ret z') →
      (∀ z' : St, Has z'.t [(1, .sl false (encR l) l.length), (2, .ref 0 0), (4, .ref 1 0)] → z'.hp.n = 15 → Has z'.hp.h [(0, some (.cells (cellsV v) false)), (1, some (.cells zC false))] → askL (l.drop i) = 0 → Q (.exit 0) z') →
      Go.Ab.Loop (cfgU C) (lpN Tryd.f15 0) 14 z Q := by
  induction d with
  | zero =>
    intro i z hd hi ht hz hb hr hq
    have g : decide ((i : Int) < (l.length : Int)) = false := decide_eq_false (by omega)
    rw [St.knows _ _ ht hz _ hb]
    refine Loop.round ?_
    conv => whnf
    repeat (first
      | (refine sel_yes ?_ ?_; (first | assumption | (simp only [beq_iff_eq, bne_iff_ne, beq_eq_false_iff_ne, bne_eq_false_iff_eq, decide_eq_true_eq, decide_eq_false_iff_not, Bool.not_eq_true', Bool.not_eq_false', ne_eq, beq_true, beq_false, bne_self_eq_false, not_true_eq_false, not_false_eq_true, gt_iff_lt, ge_iff_le, Int.not_lt, Int.not_le, Bool.true_eq_false, Bool.false_eq_true] <;> omega)); conv => whnf)
      | (refine sel_no ?_ ?_; (first | assumption | (simp only [beq_iff_eq, bne_iff_ne, beq_eq_false_iff_ne, bne_eq_false_iff_eq, decide_eq_true_eq, decide_eq_false_iff_not, Bool.not_eq_true', Bool.not_eq_false', ne_eq, beq_true, beq_false, bne_self_eq_false, not_true_eq_false, not_false_eq_true, gt_iff_lt, ge_iff_le, Int.not_lt, Int.not_le, Bool.true_eq_false, Bool.false_eq_true] <;> omega)); conv => whnf)
      | (refine ⟨le_rfl' ?_, ?_⟩; rfl; conv => whnf)
      | (refine ⟨⟨?_, ?_⟩, ?_⟩; omega; omega; conv => whnf)
      | (refine ⟨⟨?_, ?_, ?_⟩, ?_⟩; rfl; omega; omega; conv => whnf)
      | (refine ⟨rfl, ?_, ?_⟩; decide; conv => whnf))
    try exact rfl
    exact hq _ ⟨rfl, rfl, rfl, trivial⟩ rfl ⟨rfl, rfl, trivial⟩ (by rw [List.drop_eq_nil_of_le (by omega)]; rfl)
  | succ d ih =>
    intro i z hd hi ht hz hb hr hq
    have hlt : i < l.length := by omega
    have g : decide ((i : Int) < (l.length : Int)) = true := decide_eq_true (by omega)
    have eD := List.drop_eq_getElem_cons hlt
    have e1 : IntKind.i64.wrap ((i : Int) + 1) = ((i + 1 : Nat) : Int) := wrapN (by omega) (by omega)
    have hm := hp _ (List.getElem_mem hlt)
    have hE := up (T := C) (by decide) (by decide) (tasked non0 e26 e73 l[i] hm.1 hm.2)
    rw [St.knows _ _ ht hz _ hb]
    refine Loop.round ?_
    conv => whnf
    repeat (first
      | (refine sel_yes ?_ ?_; (first | assumption | (simp only [beq_iff_eq, bne_iff_ne, beq_eq_false_iff_ne, bne_eq_false_iff_eq, decide_eq_true_eq, decide_eq_false_iff_not, Bool.not_eq_true', Bool.not_eq_false', ne_eq, beq_true, beq_false, bne_self_eq_false, not_true_eq_false, not_false_eq_true, gt_iff_lt, ge_iff_le, Int.not_lt, Int.not_le, Bool.true_eq_false, Bool.false_eq_true] <;> omega)); conv => whnf)
      | (refine sel_no ?_ ?_; (first | assumption | (simp only [beq_iff_eq, bne_iff_ne, beq_eq_false_iff_ne, bne_eq_false_iff_eq, decide_eq_true_eq, decide_eq_false_iff_not, Bool.not_eq_true', Bool.not_eq_false', ne_eq, beq_true, beq_false, bne_self_eq_false, not_true_eq_false, not_false_eq_true, gt_iff_lt, ge_iff_le, Int.not_lt, Int.not_le, Bool.true_eq_false, Bool.false_eq_true] <;> omega)); conv => whnf)
      | (refine ⟨le_rfl' ?_, ?_⟩; rfl; conv => whnf)
      | (refine ⟨⟨?_, ?_⟩, ?_⟩; omega; omega; conv => whnf)
      | (refine ⟨⟨?_, ?_, ?_⟩, ?_⟩; rfl; omega; omega; conv => whnf)
      | (refine ⟨rfl, ?_, ?_⟩; decide; conv => whnf))
    try exact rfl
    refine ldRR (i := i) hlt ?_
    conv => whnf
    refine ⟨_, hE, ?_⟩
    conv => whnf
    by_cases h0 : askZ l[i] = 0
    · have e2 : askL (l.drop i) = askL (l.drop (i + 1)) := by rw [eD]; conv => lhs; unfold askL
                                                              rw [if_pos h0]
      have g2 : (askZ l[i] != 0) = false := by simp [h0]
      refine sel_no g2 ?_
      conv => whnf
      refine ih (i + 1) _ (by omega) (by omega) ⟨rfl, rfl, rfl, rfl, rfl, ?_, trivial⟩ rfl ⟨rfl, rfl, trivial⟩ (fun z' a b c => hr z' (by rw [e2]; exact a) b (by rw [e2]; exact c)) (fun z' a b c e => hq z' a b c (by rw [e2]; exact e))
      conv => lhs; whnf
      exact vi e1
    · have e2 : askL (l.drop i) = askZ l[i] := by rw [eD]; unfold askL; rw [if_neg h0]
      have g2 : (askZ l[i] != 0) = true := by simp [h0]
      refine sel_yes g2 ?_
      conv => whnf
      exact hr _ ⟨rfl, by rw [e2]; rfl, trivial⟩ ⟨rfl, trivial⟩ (by rw [e2]; exact h0)
def cellsW (c : Bool) (v : T) : List V := [.int .i64 v.f0, .int .i64 v.f1, .str v.f2, .sl c (encL v.f3) v.f3.length]
theorem lonly2 (hT : PutT C) (v : T) (hv : Good v) (l : List (List T)) (hl : l.length ≤ 65536) (hp : ∀ p ∈ l, p.length ≤ 16 ∧ ∀ s ∈ p, Good s) (Q : Ex → St → Prop) (d : Nat) :
    ∀ (i : Nat) (w : T) (c : Bool) (z : St), l.length - i = d → i ≤ l.length → Good w → Has z.t [(2, .ref 0 0), (4, .ref 1 0), (10, .ref 16 0), (41, .sl false (encR l) l.length), (42, .int .i64 l.length), (43, .int .i64 i)] → z.hp.n = 21 → Has z.hp.h [(0, some (.cells (cellsV v) false)), (1, some (.cells zC false)), (16, some (.cells (cellsW c w) false))] →
      (∀ (z' : St) (e : Int), Has z'.t [(4, .ref 1 0), (5, .int .i64 e)] → Has z'.hp.h [(1, some (.cells zC false))] → onlyG v (l.drop i) w = (nilT, e) → Q .ret z') →
      (∀ (z' : St) (u : T) (c' : Bool), Has z'.t [(4, .ref 1 0), (10, .ref 16 0)] → z'.hp.n = z'.hp.n → Has z'.hp.h [(1, some (.cells zC false)), (16, some (.cells (cellsW c' u) false))] → onlyG v (l.drop i) w = (u, 0) → Q (.exit 2) z') →
      Go.Ab.Loop (cfgU C) (lpN Tryd.f15 1) 21 z Q := by
  induction d with
  | zero =>
    intro i w c z hd hi hw ht hz hb hr hq
    have g : decide ((i : Int) < (l.length : Int)) = false := decide_eq_false (by omega)
    rw [St.knows _ _ ht hz _ hb]
    refine Loop.round ?_
    conv => whnf
    repeat (first
      | (refine sel_yes ?_ ?_; (first | assumption | (simp only [beq_iff_eq, bne_iff_ne, beq_eq_false_iff_ne, bne_eq_false_iff_eq, decide_eq_true_eq, decide_eq_false_iff_not, Bool.not_eq_true', Bool.not_eq_false', ne_eq, beq_true, beq_false, bne_self_eq_false, not_true_eq_false, not_false_eq_true, gt_iff_lt, ge_iff_le, Int.not_lt, Int.not_le, Bool.true_eq_false, Bool.false_eq_true] <;> omega)); conv => whnf)
      | (refine sel_no ?_ ?_; (first | assumption | (simp only [beq_iff_eq, bne_iff_ne, beq_eq_false_iff_ne, bne_eq_false_iff_eq, decide_eq_true_eq, decide_eq_false_iff_not, Bool.not_eq_true', Bool.not_eq_false', ne_eq, beq_true, beq_false, bne_self_eq_false, not_true_eq_false, not_false_eq_true, gt_iff_lt, ge_iff_le, Int.not_lt, Int.not_le, Bool.true_eq_false, Bool.false_eq_true] <;> omega)); conv => whnf)
      | (refine ⟨le_rfl' ?_, ?_⟩; rfl; conv => whnf)
      | (refine ⟨⟨?_, ?_⟩, ?_⟩; omega; omega; conv => whnf)
      | (refine ⟨⟨?_, ?_, ?_⟩, ?_⟩; rfl; omega; omega; conv => whnf)
      | (refine ⟨rfl, ?_, ?_⟩; decide; conv => whnf))
    try exact rfl
    exact hq _ w c ⟨rfl, rfl, trivial⟩ rfl ⟨rfl, rfl, trivial⟩ (by rw [List.drop_eq_nil_of_le (by omega)]; rfl)
  | succ d ih =>
    intro i w c z hd hi hw ht hz hb hr hq
    have hlt : i < l.length := by omega
    have g : decide ((i : Int) < (l.length : Int)) = true := decide_eq_true (by omega)
    have eD := List.drop_eq_getElem_cons hlt
    have e1 : IntKind.i64.wrap ((i : Int) + 1) = ((i + 1 : Nat) : Int) := wrapN (by omega) (by omega)
    have hm := hp _ (List.getElem_mem hlt)
    have hE := up (T := C) (by decide) (by decide) (tat non0 e26 v hv l[i] (by omega) hm.2)
    have e0 : onlyG v (l.drop i) w = match atF v l[i] with
        | none => onlyG v (l.drop (i + 1)) w
        | some x => match putF w l[i] x with
          | none => (nilT, 260)
          | some w' => if okB w' = true then onlyG v (l.drop (i + 1)) w' else (nilT, 2) := by
      rw [eD]; conv => lhs; unfold onlyG
    rw [St.knows _ _ ht hz _ hb]
    refine Loop.round ?_
    conv => whnf
    repeat (first
      | (refine sel_yes ?_ ?_; (first | assumption | (simp only [beq_iff_eq, bne_iff_ne, beq_eq_false_iff_ne, bne_eq_false_iff_eq, decide_eq_true_eq, decide_eq_false_iff_not, Bool.not_eq_true', Bool.not_eq_false', ne_eq, beq_true, beq_false, bne_self_eq_false, not_true_eq_false, not_false_eq_true, gt_iff_lt, ge_iff_le, Int.not_lt, Int.not_le, Bool.true_eq_false, Bool.false_eq_true] <;> omega)); conv => whnf)
      | (refine sel_no ?_ ?_; (first | assumption | (simp only [beq_iff_eq, bne_iff_ne, beq_eq_false_iff_ne, bne_eq_false_iff_eq, decide_eq_true_eq, decide_eq_false_iff_not, Bool.not_eq_true', Bool.not_eq_false', ne_eq, beq_true, beq_false, bne_self_eq_false, not_true_eq_false, not_false_eq_true, gt_iff_lt, ge_iff_le, Int.not_lt, Int.not_le, Bool.true_eq_false, Bool.false_eq_true] <;> omega)); conv => whnf)
      | (refine ⟨le_rfl' ?_, ?_⟩; rfl; conv => whnf)
      | (refine ⟨⟨?_, ?_⟩, ?_⟩; omega; omega; conv => whnf)
      | (refine ⟨⟨?_, ?_, ?_⟩, ?_⟩; rfl; omega; omega; conv => whnf)
      | (refine ⟨rfl, ?_, ?_⟩; decide; conv => whnf))
    try exact rfl
    refine ldRR (i := i) hlt ?_
    conv => whnf
    refine ⟨_, hE, ?_⟩
    cases hx : atF v l[i] with
    | none =>
      rw [hx] at e0
      conv => whnf
      refine ih (i + 1) w c _ (by omega) (by omega) hw ⟨rfl, rfl, rfl, rfl, rfl, ?_, trivial⟩ rfl ⟨rfl, rfl, rfl, trivial⟩ (fun z' e a b c => hr z' e a b (e0.trans c)) (fun z' u c' a b c e => hq z' u c' a b c (e0.trans e))
      conv => lhs; whnf
      exact vi e1
    | some x =>
      rw [hx] at e0
      dsimp only at e0
      have gx := at_good l[i] hv hm.2 hx
      have ha : askZ l[i] = 0 := by unfold askZ; rw [if_neg (by omega), if_pos (List.all_eq_true.2 fun s hs => (hm.2 s hs).ok)]
      have hP := tPut (T := C) hT w x l[i] hw.wf (fun s hs => (hm.2 s hs).wf) gx.wf (by omega)
      have eP : putAll w l[i] x = putRes w l[i] x := by unfold putAll; rw [if_pos hw.ok, if_pos ha, if_pos gx.ok]
      rw [eP] at hP
      unfold putRes at hP
      cases hy : putF w l[i] x with
      | none =>
        rw [hy] at hP e0
        conv => whnf
        repeat (first
          | (refine sel_yes ?_ ?_; (first | assumption | (simp only [beq_iff_eq, bne_iff_ne, beq_eq_false_iff_ne, bne_eq_false_iff_eq, decide_eq_true_eq, decide_eq_false_iff_not, Bool.not_eq_true', Bool.not_eq_false', ne_eq, beq_true, beq_false, bne_self_eq_false, not_true_eq_false, not_false_eq_true, gt_iff_lt, ge_iff_le, Int.not_lt, Int.not_le, Bool.true_eq_false, Bool.false_eq_true] <;> omega)); conv => whnf)
          | (refine sel_no ?_ ?_; (first | assumption | (simp only [beq_iff_eq, bne_iff_ne, beq_eq_false_iff_ne, bne_eq_false_iff_eq, decide_eq_true_eq, decide_eq_false_iff_not, Bool.not_eq_true', Bool.not_eq_false', ne_eq, beq_true, beq_false, bne_self_eq_false, not_true_eq_false, not_false_eq_true, gt_iff_lt, ge_iff_le, Int.not_lt, Int.not_le, Bool.true_eq_false, Bool.false_eq_true] <;> omega)); conv => whnf)
          | (refine ⟨_, hP, ?_⟩; conv => whnf)
          | (refine ⟨le_rfl' ?_, ?_⟩; rfl; conv => whnf)
          | (refine ⟨⟨?_, ?_⟩, ?_⟩; omega; omega; conv => whnf)
          | (refine ⟨⟨?_, ?_, ?_⟩, ?_⟩; rfl; omega; omega; conv => whnf)
          | (refine ⟨rfl, ?_, ?_⟩; decide; conv => whnf))
        try exact rfl
        exact hr _ 260 ⟨rfl, rfl, trivial⟩ ⟨rfl, trivial⟩ e0
      | some w' =>
        rw [hy] at hP e0
        simp only at hP e0
        cases hk : okB w' with
        | false =>
          rw [hk] at hP e0
          conv => whnf
          repeat (first
            | (refine sel_yes ?_ ?_; (first | assumption | (simp only [beq_iff_eq, bne_iff_ne, beq_eq_false_iff_ne, bne_eq_false_iff_eq, decide_eq_true_eq, decide_eq_false_iff_not, Bool.not_eq_true', Bool.not_eq_false', ne_eq, beq_true, beq_false, bne_self_eq_false, not_true_eq_false, not_false_eq_true, gt_iff_lt, ge_iff_le, Int.not_lt, Int.not_le, Bool.true_eq_false, Bool.false_eq_true] <;> omega)); conv => whnf)
            | (refine sel_no ?_ ?_; (first | assumption | (simp only [beq_iff_eq, bne_iff_ne, beq_eq_false_iff_ne, bne_eq_false_iff_eq, decide_eq_true_eq, decide_eq_false_iff_not, Bool.not_eq_true', Bool.not_eq_false', ne_eq, beq_true, beq_false, bne_self_eq_false, not_true_eq_false, not_false_eq_true, gt_iff_lt, ge_iff_le, Int.not_lt, Int.not_le, Bool.true_eq_false, Bool.false_eq_true] <;> omega)); conv => whnf)
            | (refine ⟨_, hP, ?_⟩; conv => whnf)
            | (refine ⟨le_rfl' ?_, ?_⟩; rfl; conv => whnf)
            | (refine ⟨⟨?_, ?_⟩, ?_⟩; omega; omega; conv => whnf)
            | (refine ⟨⟨?_, ?_, ?_⟩, ?_⟩; rfl; omega; omega; conv => whnf)
            | (refine ⟨rfl, ?_, ?_⟩; decide; conv => whnf))
          try exact rfl
          exact hr _ 2 ⟨rfl, rfl, trivial⟩ ⟨rfl, trivial⟩ e0
        | true =>
          rw [hk] at hP e0
          conv => whnf
          repeat (first
            | (refine sel_yes ?_ ?_; (first | assumption | (simp only [beq_iff_eq, bne_iff_ne, beq_eq_false_iff_ne, bne_eq_false_iff_eq, decide_eq_true_eq, decide_eq_false_iff_not, Bool.not_eq_true', Bool.not_eq_false', ne_eq, beq_true, beq_false, bne_self_eq_false, not_true_eq_false, not_false_eq_true, gt_iff_lt, ge_iff_le, Int.not_lt, Int.not_le, Bool.true_eq_false, Bool.false_eq_true] <;> omega)); conv => whnf)
            | (refine sel_no ?_ ?_; (first | assumption | (simp only [beq_iff_eq, bne_iff_ne, beq_eq_false_iff_ne, bne_eq_false_iff_eq, decide_eq_true_eq, decide_eq_false_iff_not, Bool.not_eq_true', Bool.not_eq_false', ne_eq, beq_true, beq_false, bne_self_eq_false, not_true_eq_false, not_false_eq_true, gt_iff_lt, ge_iff_le, Int.not_lt, Int.not_le, Bool.true_eq_false, Bool.false_eq_true] <;> omega)); conv => whnf)
            | (refine ⟨_, hP, ?_⟩; conv => whnf)
            | (refine ⟨le_rfl' ?_, ?_⟩; rfl; conv => whnf)
            | (refine ⟨⟨?_, ?_⟩, ?_⟩; omega; omega; conv => whnf)
            | (refine ⟨⟨?_, ?_, ?_⟩, ?_⟩; rfl; omega; omega; conv => whnf)
            | (refine ⟨rfl, ?_, ?_⟩; decide; conv => whnf))
          try exact rfl
          refine ih (i + 1) w' false _ (by omega) (by omega) ⟨put_wf l[i] w x w' hw hm.2 gx.wf hy, hk⟩ ⟨rfl, rfl, rfl, rfl, rfl, ?_, trivial⟩ rfl ⟨rfl, rfl, rfl, trivial⟩ (fun z' e a b c => hr z' e a b (e0.trans c)) (fun z' u c' a b c e => hq z' u c' a b c (e0.trans e))
          conv => lhs; whnf
          exact vi e1
theorem tOnly (hT : PutT C) (v : T) (hv : WfV v) (l : List (List T)) (hl : l.length ≤ 9223372036854775807) (hp : ∀ p ∈ l, p.length ≤ 9223372036854775807 ∧ ∀ s ∈ p, WfV s) : (cfgU C).Ev 15 [A v, .sl false (encR l) l.length] (tupZ (onlyZ v l)) := by
  have h1 := up (T := C) (by decide) (by decide) (t22 non0 e26 e73 v hv)
  have key : ∃ r, (cfgU C).Ev 15 [A v, .sl false (encR l) l.length] r ∧ r = tupZ (onlyZ v l) := by
    refine Ev.ofE (hnU (by decide)) Tryd.func15 rfl rfl ?_
    unfold onlyZ
    by_cases hk : okB v = true
    · rw [if_pos hk] at h1 ⊢
      by_cases h2 : 65536 < l.length
      · rw [if_pos h2]
        have g : decide ((l.length : Int) > 65536) = true := decide_eq_true (by omega)
        conv => whnf
        repeat (first
          | (refine sel_yes ?_ ?_; (first | assumption | (simp only [beq_iff_eq, bne_iff_ne, beq_eq_false_iff_ne, bne_eq_false_iff_eq, decide_eq_true_eq, decide_eq_false_iff_not, Bool.not_eq_true', Bool.not_eq_false', ne_eq, beq_true, beq_false, bne_self_eq_false, not_true_eq_false, not_false_eq_true, gt_iff_lt, ge_iff_le, Int.not_lt, Int.not_le, Bool.true_eq_false, Bool.false_eq_true] <;> omega)); conv => whnf)
          | (refine sel_no ?_ ?_; (first | assumption | (simp only [beq_iff_eq, bne_iff_ne, beq_eq_false_iff_ne, bne_eq_false_iff_eq, decide_eq_true_eq, decide_eq_false_iff_not, Bool.not_eq_true', Bool.not_eq_false', ne_eq, beq_true, beq_false, bne_self_eq_false, not_true_eq_false, not_false_eq_true, gt_iff_lt, ge_iff_le, Int.not_lt, Int.not_le, Bool.true_eq_false, Bool.false_eq_true] <;> omega)); conv => whnf)
          | (refine ⟨_, h1, ?_⟩; conv => whnf)
          | (refine ⟨le_rfl' ?_, ?_⟩; rfl; conv => whnf)
          | (refine ⟨⟨?_, ?_⟩, ?_⟩; omega; omega; conv => whnf)
          | (refine ⟨⟨?_, ?_, ?_⟩, ?_⟩; rfl; omega; omega; conv => whnf)
          | (refine ⟨rfl, ?_, ?_⟩; decide; conv => whnf))
        try exact rfl
      · rw [if_neg h2]
        have g : decide ((l.length : Int) > 65536) = false := decide_eq_false (by omega)
        conv => whnf
        repeat (first
          | (refine sel_yes ?_ ?_; (first | assumption | (simp only [beq_iff_eq, bne_iff_ne, beq_eq_false_iff_ne, bne_eq_false_iff_eq, decide_eq_true_eq, decide_eq_false_iff_not, Bool.not_eq_true', Bool.not_eq_false', ne_eq, beq_true, beq_false, bne_self_eq_false, not_true_eq_false, not_false_eq_true, gt_iff_lt, ge_iff_le, Int.not_lt, Int.not_le, Bool.true_eq_false, Bool.false_eq_true] <;> omega)); conv => whnf)
          | (refine sel_no ?_ ?_; (first | assumption | (simp only [beq_iff_eq, bne_iff_ne, beq_eq_false_iff_ne, bne_eq_false_iff_eq, decide_eq_true_eq, decide_eq_false_iff_not, Bool.not_eq_true', Bool.not_eq_false', ne_eq, beq_true, beq_false, bne_self_eq_false, not_true_eq_false, not_false_eq_true, gt_iff_lt, ge_iff_le, Int.not_lt, Int.not_le, Bool.true_eq_false, Bool.false_eq_true] <;> omega)); conv => whnf)
          | (refine ⟨_, h1, ?_⟩; conv => whnf)
          | (refine ⟨le_rfl' ?_, ?_⟩; rfl; conv => whnf)
          | (refine ⟨⟨?_, ?_⟩, ?_⟩; omega; omega; conv => whnf)
          | (refine ⟨⟨?_, ?_, ?_⟩, ?_⟩; rfl; omega; omega; conv => whnf)
          | (refine ⟨rfl, ?_, ?_⟩; decide; conv => whnf))
        try exact rfl
        refine lonly1 v l (by omega) hp _ l.length 0 _ rfl (by omega) ⟨rfl, rfl, rfl, rfl, rfl, rfl, trivial⟩ rfl ⟨rfl, rfl, trivial⟩ (fun z a b c => ?_) (fun z a b c e => ?_)
        · rw [List.drop_zero] at a c
          rw [if_neg c]
          rw [St.knows (s := z) _ z.hp.n a rfl _ b]
          conv => whnf
          rfl
        · rw [List.drop_zero] at e
          rw [if_pos e]
          have hg : ∀ p ∈ l, p.length ≤ 16 ∧ ∀ s ∈ p, Good s := fun p hm => by
            have := ask0 (askL_0 l e p hm)
            exact ⟨this.1, fun s hs => ⟨(hp p hm).2 s hs, this.2 s hs⟩⟩
          rw [St.knows (s := z) _ _ a b _ c]
          conv => whnf
          refine lonly2 hT v ⟨hv, hk⟩ l (by omega) hg _ l.length 0 mapT true _ rfl (by omega) map_good ⟨rfl, rfl, rfl, rfl, rfl, rfl, trivial⟩ rfl ⟨rfl, rfl, rfl, trivial⟩ (fun z e a b c => ?_) (fun z u c' a b c e => ?_)
          · rw [List.drop_zero] at c
            rw [c]
            rw [St.knows (s := z) _ z.hp.n a rfl _ b]
            conv => whnf
            rfl
          · rw [List.drop_zero] at e
            rw [e]
            rw [St.knows (s := z) _ z.hp.n a rfl _ c]
            conv => whnf
            rfl
    · rw [if_neg hk] at h1 ⊢
      conv => whnf
      repeat (first
        | (refine sel_yes ?_ ?_; (first | assumption | (simp only [beq_iff_eq, bne_iff_ne, beq_eq_false_iff_ne, bne_eq_false_iff_eq, decide_eq_true_eq, decide_eq_false_iff_not, Bool.not_eq_true', Bool.not_eq_false', ne_eq, beq_true, beq_false, bne_self_eq_false, not_true_eq_false, not_false_eq_true, gt_iff_lt, ge_iff_le, Int.not_lt, Int.not_le, Bool.true_eq_false, Bool.false_eq_true] <;> omega)); conv => whnf)
        | (refine sel_no ?_ ?_; (first | assumption | (simp only [beq_iff_eq, bne_iff_ne, beq_eq_false_iff_ne, bne_eq_false_iff_eq, decide_eq_true_eq, decide_eq_false_iff_not, Bool.not_eq_true', Bool.not_eq_false', ne_eq, beq_true, beq_false, bne_self_eq_false, not_true_eq_false, not_false_eq_true, gt_iff_lt, ge_iff_le, Int.not_lt, Int.not_le, Bool.true_eq_false, Bool.false_eq_true] <;> omega)); conv => whnf)
        | (refine ⟨_, h1, ?_⟩; conv => whnf)
        | (refine ⟨le_rfl' ?_, ?_⟩; rfl; conv => whnf)
        | (refine ⟨⟨?_, ?_⟩, ?_⟩; omega; omega; conv => whnf)
        | (refine ⟨⟨?_, ?_, ?_⟩, ?_⟩; rfl; omega; omega; conv => whnf)
        | (refine ⟨rfl, ?_, ?_⟩; decide; conv => whnf))
      try exact rfl
  obtain ⟨r, h, rfl⟩ := key
  exact h
end
end Go.Proofs.YtjfjagnnefmepaaDoor.AB
end

section
set_option linter.unusedVariables false
set_option linter.unusedSimpArgs false
open Go Go.Ab Go.Proofs Go.Vl
namespace Go.Proofs.YtjfjagnnefmepaaDoor.AB
set_option maxRecDepth 100000
set_option maxHeartbeats 1600000
set_option linter.unusedSimpArgs false
theorem St.knowsA {s : St} (L : List (Nat × V)) (n : Nat) (h : Has s.t L) (hn : s.hp.n = n) (B : List (Nat × Option Bx) := []) (hB : Has s.hp.h B := by trivial) (D : List (Nat × Option Arr) := []) (hD : Has s.hp.a D := by trivial) : s = ⟨updL s.t L, ⟨updL s.hp.h B, n, updL s.hp.a D, s.hp.m⟩⟩ := by
  rw [updL_has _ _ h, updL_has _ _ hB, updL_has _ _ hD, ← hn]
section
variable {ext : Exts}
theorem lvals (l m : List T) (hm : l.length = m.length) (hl : l.length ≤ 9223372036854775807) (E : ∀ a ∈ l, ∀ b ∈ m, (cfg ext).Ev 11 [A a, A b] (.bool (eqT a b))) (Q : Ex → St → Prop) (d : Nat) :
    ∀ (i : Nat) (z : St), l.length - i = d → i ≤ l.length → Has z.t [(13, .int .i64 i), (12, .int .i64 l.length), (0, .sl false (encL l) l.length), (1, .sl false (encL m) m.length)] → z.hp.n = 9 →
      (∀ z', z'.t 4 = .bool false → eqL (l.drop i) (m.drop i) = false → Q .ret z') → (∀ z', eqL (l.drop i) (m.drop i) = true → Q (.exit 0) z') →
      Go.Ab.Loop (cfg ext) (lpOf Tryd.f46) 9 z Q := by
  induction d with
  | zero =>
    intro i z hd hi ht hn hr hq
    obtain rfl : i = l.length := by omega
    rw [St.knows _ _ ht hn]
    refine Loop.round ?_
    conv => whnf
    refine sel_no (by simp) ?_
    conv => whnf
    exact hq _ (by rw [List.drop_length, hm, List.drop_length]; exact eqL_self _)
  | succ d ih =>
    intro i z hd hi ht hn hr hq
    have h1 : i < l.length := by omega
    have h2 : i < m.length := by omega
    have hE := E _ (List.getElem_mem h1) _ (List.getElem_mem h2)
    have eD := eqL_drop h1 h2
    rw [St.knows _ _ ht hn]
    refine Loop.round ?_
    conv => whnf
    refine sel_yes (by simp; omega) ?_
    conv => whnf
    refine ⟨⟨by omega, by omega⟩, ?_⟩
    conv => whnf
    refine ldA (i := i) h1 ?_
    conv => whnf
    refine ⟨⟨by omega, by omega⟩, ?_⟩
    conv => whnf
    refine ldA (i := i) h2 ?_
    conv => whnf
    refine ⟨_, hE, ?_⟩
    cases he : eqT l[i] m[i] with
    | false =>
      conv => whnf
      exact hr _ rfl (by rw [eD, he]; rfl)
    | true =>
      conv => whnf
      refine ih (i + 1) _ (by omega) (by omega) ⟨?_, rfl, rfl, rfl, trivial⟩ rfl (fun z' a b => hr z' a (by rw [eD, he]; exact b)) (fun z' a => hq z' (by rw [eD, he]; exact a))
      conv => lhs; whnf
      exact wrapN1 (by omega)
theorem tvals (hn : Non ext) (l m : List T) (hl : l.length ≤ 9223372036854775807) (hw : ∀ v ∈ l, WfV v) : (cfg ext).Ev 46 [.sl false (encL l) l.length, .sl false (encL m) m.length] (.bool (eqL l m)) := by
  refine Ev.of (hn 46 (by decide) (by decide)) Tryd.func46 rfl rfl ?_
  conv => whnf
  by_cases h : l.length = m.length
  · have h' : ((l.length : Int) != (m.length : Int)) = false := by rw [h]; simp
    refine sel_no h' ?_
    conv => whnf
    refine lvals l m h hl (fun a ha b _ => tplain hn a (hw a ha) b) _ _ 0 _ rfl (by omega) ⟨rfl, rfl, rfl, rfl, trivial⟩ rfl (fun z a b => ?_) (fun z a => ?_)
    · conv => whnf
      rw [a]
      simp only [List.drop_zero] at b
      rw [b]
      exact rfl
    · conv => whnf
      simp only [List.drop_zero] at a
      rw [a]
  · have h' : ((l.length : Int) != (m.length : Int)) = true := by simp; omega
    refine sel_yes h' ?_
    conv => whnf
    refine congrArg V.bool ?_
    cases e : eqL l m with
    | false => rfl
    | true => exact absurd (by rw [eqL_iff.1 e]) h
end
end Go.Proofs.YtjfjagnnefmepaaDoor.AB
end

section
set_option linter.unusedVariables false
set_option linter.unusedSimpArgs false
open Go Go.Ab Go.Proofs Go.Vl
namespace Go.Vl
theorem bytes_cmp : ∀ a b : List UInt8, (if Op.bytesLess a b = true then (-1 : Int) else if (!(Op.bytesLess a b || a == b)) = true then 1 else 0) = Lib.compareBytes a b
  | [], [] => by simp [Op.bytesLess, Lib.compareBytes]
  | [], _ :: _ => by simp [Op.bytesLess, Lib.compareBytes]
  | _ :: _, [] => by simp [Op.bytesLess, Lib.compareBytes]
  | a :: x, b :: y => by
    have ih := bytes_cmp x y
    simp only [Op.bytesLess, Lib.compareBytes]
    rcases u8_lt_or a b with h | rfl | h
    · simp [h]
    · simp only [u8_irr a, if_false] at ih ⊢
      simp only [decide_false, Bool.false_or, beq_self_eq_true, Bool.true_and, List.cons_beq_cons] at ih ⊢
      exact ih
    · have h1 := u8_asym h
      have hne : (a == b) = false := by
        rw [beq_eq_false_iff_ne]; rintro rfl; exact u8_irr a h
      simp [h1, h, hne]
end Go.Vl
namespace Go.Proofs.YtjfjagnnefmepaaDoor.AB
set_option maxRecDepth 100000
set_option maxHeartbeats 4000000
set_option linter.unusedSimpArgs false
section
variable {ext : Exts}
theorem rsign (hn : Non ext) (x y : Bool) : (cfg ext).Ev 118 [.bool x, .bool y] (.int .i64 (if x = true then -1 else if y = true then 1 else 0)) := by
  refine Ev.of (hn 118 (by decide) (by decide)) Tryd.func118 rfl rfl ?_
  cases x
  · cases y
    · conv => whnf
      try exact rfl
    · conv => whnf
      try exact rfl
  · conv => whnf
    try exact rfl
theorem rcoll (hn : Non ext) (k : Int) : (cfg ext).Ev 106 [.int .i64 k] (.bool (decide (k = 4 ∨ k = 5 ∨ k = 6))) := by
  by_cases h4 : k = 4
  · subst h4
    refine Ev.of (hn 106 (by decide) (by decide)) Tryd.func106 rfl rfl ?_
    conv => whnf
    try exact rfl
  · by_cases h5 : k = 5
    · subst h5
      refine Ev.of (hn 106 (by decide) (by decide)) Tryd.func106 rfl rfl ?_
      conv => whnf
      try exact rfl
    · by_cases h6 : k = 6
      · subst h6
        refine Ev.of (hn 106 (by decide) (by decide)) Tryd.func106 rfl rfl ?_
        conv => whnf
        try exact rfl
      · rw [show decide (k = 4 ∨ k = 5 ∨ k = 6) = false from decide_eq_false (by omega)]
        refine Ev.of (hn 106 (by decide) (by decide)) Tryd.func106 rfl rfl ?_
        conv => whnf
        repeat (first
          | (refine sel_yes ?_ ?_; (first | assumption | (simp only [beq_iff_eq, bne_iff_ne, beq_eq_false_iff_ne, bne_eq_false_iff_eq, decide_eq_true_eq, decide_eq_false_iff_not, Bool.not_eq_true', Bool.not_eq_false', ne_eq, beq_true, beq_false, bne_self_eq_false, not_true_eq_false, not_false_eq_true, gt_iff_lt, ge_iff_le, Int.not_lt, Int.not_le, Bool.true_eq_false, Bool.false_eq_true] <;> omega)); conv => whnf)
          | (refine sel_no ?_ ?_; (first | assumption | (simp only [beq_iff_eq, bne_iff_ne, beq_eq_false_iff_ne, bne_eq_false_iff_eq, decide_eq_true_eq, decide_eq_false_iff_not, Bool.not_eq_true', Bool.not_eq_false', ne_eq, beq_true, beq_false, bne_self_eq_false, not_true_eq_false, not_false_eq_true, gt_iff_lt, ge_iff_le, Int.not_lt, Int.not_le, Bool.true_eq_false, Bool.false_eq_true] <;> omega)); conv => whnf)
          | (refine ⟨le_rfl' ?_, ?_⟩; rfl; conv => whnf)
          | (refine ⟨⟨?_, ?_⟩, ?_⟩; omega; omega; conv => whnf)
          | (refine ⟨⟨?_, ?_, ?_⟩, ?_⟩; rfl; omega; omega; conv => whnf)
          | (refine ⟨rfl, ?_, ?_⟩; decide; conv => whnf))
        try exact rfl
        exact congrArg V.bool (by rw [beq_eq_false_iff_ne]; exact h6)
end
end Go.Proofs.YtjfjagnnefmepaaDoor.AB
end

section
set_option linter.unusedVariables false
set_option linter.unusedSimpArgs false
open Go Go.Ab Go.Proofs Go.Vl
namespace Go.Proofs.YtjfjagnnefmepaaDoor.AB
set_option maxRecDepth 100000
set_option maxHeartbeats 8000000
set_option linter.unusedSimpArgs false
section
variable {ext : Exts}
abbrev encX' (k n : Int) (t : ByteArray) (l : List T) : List V := [.int .i64 k, .int .i64 n, .str t, .sl false (encL l) l.length]
theorem lrcmp (k n : Int) (t : ByteArray) (l : List T) (k' n' : Int) (t' : ByteArray) (m : List T) (hl : l.length ≤ 9223372036854775807) (E : ∀ a ∈ l, ∀ b ∈ m, (cfg ext).Ev 107 [A a, A b] (.int .i64 (cmpV a b))) (N : Nat) (hN : N = 19 ∨ N = 21 ∨ N = 23) (Q : Ex → St → Prop) (d : Nat) :
    ∀ (i : Nat) (z : St), l.length - i = d → i ≤ l.length → i ≤ m.length → Has z.t [(5, .int .i64 i), (2, .ref 0 0), (3, .ref 1 0)] → Has z.hp.h [(0, some (.cells (encX' k n t l) false)), (1, some (.cells (encX' k' n' t' m) false))] → z.hp.n = N →
      (∀ (z' : St) (c : Int), z'.t 4 = .int .i64 c → c = cmpL (l.drop i) (m.drop i) → Q .ret z') →
      (∀ (z' : St), Has z'.t [(2, .ref 0 0), (3, .ref 1 0)] → Has z'.hp.h [(0, some (.cells (encX' k n t l) false)), (1, some (.cells (encX' k' n' t' m) false))] → cmpL (l.drop i) (m.drop i) = (if l.length < m.length then -1 else if l.length > m.length then 1 else 0) → Q (.exit 1) z') →
      Go.Ab.Loop (cfg ext) (lpOf Tryd.f107) N z Q := by
  induction d with
  | zero =>
    intro i z hd hi him ht hh hz hr hq
    obtain rfl : i = l.length := by omega
    have e : cmpL (l.drop l.length) (m.drop l.length) = (if l.length < m.length then -1 else if l.length > m.length then 1 else 0) := by
      rw [List.drop_length]
      by_cases h : l.length < m.length
      · rw [if_pos h, List.drop_eq_getElem_cons h, cmpL]
      · rw [if_neg h, if_neg (by omega), List.drop_eq_nil_of_le (by omega), cmpL]
    have g1 : decide ((l.length : Int) < (l.length : Int)) = false := decide_eq_false (by omega)
    rcases hN with rfl | rfl | rfl
    all_goals
      rw [St.knows _ _ ht hz _ hh]
      refine Loop.round ?_
      conv => whnf
      repeat (first
        | (refine sel_yes ?_ ?_; (first | assumption | (simp only [beq_iff_eq, bne_iff_ne, beq_eq_false_iff_ne, bne_eq_false_iff_eq, decide_eq_true_eq, decide_eq_false_iff_not, Bool.not_eq_true', Bool.not_eq_false', ne_eq, beq_true, beq_false, bne_self_eq_false, not_true_eq_false, not_false_eq_true, gt_iff_lt, ge_iff_le, Int.not_lt, Int.not_le, Bool.true_eq_false, Bool.false_eq_true] <;> omega)); conv => whnf)
        | (refine sel_no ?_ ?_; (first | assumption | (simp only [beq_iff_eq, bne_iff_ne, beq_eq_false_iff_ne, bne_eq_false_iff_eq, decide_eq_true_eq, decide_eq_false_iff_not, Bool.not_eq_true', Bool.not_eq_false', ne_eq, beq_true, beq_false, bne_self_eq_false, not_true_eq_false, not_false_eq_true, gt_iff_lt, ge_iff_le, Int.not_lt, Int.not_le, Bool.true_eq_false, Bool.false_eq_true] <;> omega)); conv => whnf)
        | (refine ⟨le_rfl' ?_, ?_⟩; rfl; conv => whnf)
        | (refine ⟨⟨?_, ?_⟩, ?_⟩; omega; omega; conv => whnf)
        | (refine ⟨⟨?_, ?_, ?_⟩, ?_⟩; rfl; omega; omega; conv => whnf)
        | (refine ⟨rfl, ?_, ?_⟩; decide; conv => whnf))
      try exact rfl
      exact hq _ ⟨rfl, rfl, trivial⟩ ⟨rfl, rfl, trivial⟩ e
  | succ d ih =>
    intro i z hd hi him ht hh hz hr hq
    have h1 : i < l.length := by omega
    by_cases h2 : i < m.length
    · have hE := E _ (List.getElem_mem h1) _ (List.getElem_mem h2)
      have eC : cmpL (l.drop i) (m.drop i) = if cmpV l[i] m[i] = 0 then cmpL (l.drop (i + 1)) (m.drop (i + 1)) else cmpV l[i] m[i] := cmpL_drop l m i h1 h2
      have g1 : decide ((i : Int) < (l.length : Int)) = true := decide_eq_true (by omega)
      have g2 : decide ((i : Int) < (m.length : Int)) = true := decide_eq_true (by omega)
      rcases hN with rfl | rfl | rfl
      all_goals
        rw [St.knows _ _ ht hz _ hh]
        refine Loop.round ?_
        conv => whnf
        repeat (first
          | (refine sel_yes ?_ ?_; (first | assumption | (simp only [beq_iff_eq, bne_iff_ne, beq_eq_false_iff_ne, bne_eq_false_iff_eq, decide_eq_true_eq, decide_eq_false_iff_not, Bool.not_eq_true', Bool.not_eq_false', ne_eq, beq_true, beq_false, bne_self_eq_false, not_true_eq_false, not_false_eq_true, gt_iff_lt, ge_iff_le, Int.not_lt, Int.not_le, Bool.true_eq_false, Bool.false_eq_true] <;> omega)); conv => whnf)
          | (refine sel_no ?_ ?_; (first | assumption | (simp only [beq_iff_eq, bne_iff_ne, beq_eq_false_iff_ne, bne_eq_false_iff_eq, decide_eq_true_eq, decide_eq_false_iff_not, Bool.not_eq_true', Bool.not_eq_false', ne_eq, beq_true, beq_false, bne_self_eq_false, not_true_eq_false, not_false_eq_true, gt_iff_lt, ge_iff_le, Int.not_lt, Int.not_le, Bool.true_eq_false, Bool.false_eq_true] <;> omega)); conv => whnf)
          | (refine ⟨le_rfl' ?_, ?_⟩; rfl; conv => whnf)
          | (refine ⟨⟨?_, ?_⟩, ?_⟩; omega; omega; conv => whnf)
          | (refine ⟨⟨?_, ?_, ?_⟩, ?_⟩; rfl; omega; omega; conv => whnf)
          | (refine ⟨rfl, ?_, ?_⟩; decide; conv => whnf))
        try exact rfl
        refine ldA (i := i) h1 ?_
        conv => whnf
        refine ⟨⟨by omega, by omega⟩, ?_⟩
        conv => whnf
        refine ldA (i := i) h2 ?_
        conv => whnf
        refine ⟨_, hE, ?_⟩
        conv => whnf
        refine sel_split (fun hc => ?_) (fun hc => ?_)
        · conv => whnf
          have hc' : cmpV l[i] m[i] ≠ 0 := by simpa using hc
          exact hr _ _ rfl (by rw [eC, if_neg hc'])
        · conv => whnf
          have hc' : cmpV l[i] m[i] = 0 := by simpa using hc
          rw [if_pos hc'] at eC
          refine ih (i + 1) _ (by omega) (by omega) (by omega) ⟨?_, rfl, rfl, trivial⟩ ⟨rfl, rfl, trivial⟩ rfl (fun z' c a b => hr z' c a (by rw [eC]; exact b)) (fun z' a b c => hq z' a b (by rw [eC]; exact c))
          conv => lhs; whnf
          exact wrapN1 (by omega)
    · have g1 : decide ((i : Int) < (l.length : Int)) = true := decide_eq_true (by omega)
      have g2 : decide ((i : Int) < (m.length : Int)) = false := decide_eq_false (by omega)
      have e : cmpL (l.drop i) (m.drop i) = (if l.length < m.length then -1 else if l.length > m.length then 1 else 0) := by
        rw [if_neg (by omega), if_pos (by omega), List.drop_eq_getElem_cons h1, List.drop_eq_nil_of_le (show m.length ≤ i by omega), cmpL]
      rcases hN with rfl | rfl | rfl
      all_goals
        rw [St.knows _ _ ht hz _ hh]
        refine Loop.round ?_
        conv => whnf
        repeat (first
          | (refine sel_yes ?_ ?_; (first | assumption | (simp only [beq_iff_eq, bne_iff_ne, beq_eq_false_iff_ne, bne_eq_false_iff_eq, decide_eq_true_eq, decide_eq_false_iff_not, Bool.not_eq_true', Bool.not_eq_false', ne_eq, beq_true, beq_false, bne_self_eq_false, not_true_eq_false, not_false_eq_true, gt_iff_lt, ge_iff_le, Int.not_lt, Int.not_le, Bool.true_eq_false, Bool.false_eq_true] <;> omega)); conv => whnf)
          | (refine sel_no ?_ ?_; (first | assumption | (simp only [beq_iff_eq, bne_iff_ne, beq_eq_false_iff_ne, bne_eq_false_iff_eq, decide_eq_true_eq, decide_eq_false_iff_not, Bool.not_eq_true', Bool.not_eq_false', ne_eq, beq_true, beq_false, bne_self_eq_false, not_true_eq_false, not_false_eq_true, gt_iff_lt, ge_iff_le, Int.not_lt, Int.not_le, Bool.true_eq_false, Bool.false_eq_true] <;> omega)); conv => whnf)
          | (refine ⟨le_rfl' ?_, ?_⟩; rfl; conv => whnf)
          | (refine ⟨⟨?_, ?_⟩, ?_⟩; omega; omega; conv => whnf)
          | (refine ⟨⟨?_, ?_, ?_⟩, ?_⟩; rfl; omega; omega; conv => whnf)
          | (refine ⟨rfl, ?_, ?_⟩; decide; conv => whnf))
        try exact rfl
        exact hq _ ⟨rfl, rfl, trivial⟩ ⟨rfl, rfl, trivial⟩ e
mutual
theorem rcmp (hn : Non ext) : (a : T) → WfV a → (b : T) → (cfg ext).Ev 107 [A a, A b] (.int .i64 (cmpV a b))
  | ⟨k, n, t, l⟩, hw, ⟨k', n', t', m⟩ => by
    simp only [WfV] at hw
    have E : ∀ a ∈ l, ∀ b ∈ m, (cfg ext).Ev 107 [A a, A b] (.int .i64 (cmpV a b)) := fun a ha b _ => rcmpL hn l hw.2.2.2.2 a ha b
    have eV : cmpV ⟨k, n, t, l⟩ ⟨k', n', t', m⟩ = if k = k' then (if k = 1 ∨ k = 2 then cmpI n n' else if k = 3 then Lib.compareBytes t.data.toList t'.data.toList else if k = 4 ∨ k = 5 ∨ k = 6 then cmpL l m else 0) else cmpI k k' := by rw [cmpV]
    by_cases hk : k = k'
    · rw [if_pos hk] at eV
      subst hk
      by_cases h12 : k = 1 ∨ k = 2
      · rw [if_pos h12] at eV
        have hs := rsign hn (decide (n < n')) (decide (n > n'))
        rw [show (if decide (n < n') = true then (-1 : Int) else if decide (n > n') = true then 1 else 0) = cmpI n n' from by unfold cmpI; simp] at hs
        rw [eV]
        rcases h12 with rfl | rfl
        all_goals
          refine Ev.of (hn 107 (by decide) (by decide)) Tryd.func107 rfl rfl ?_
          conv => whnf
          repeat (first
            | (refine sel_yes ?_ ?_; (first | assumption | (simp only [beq_iff_eq, bne_iff_ne, beq_eq_false_iff_ne, bne_eq_false_iff_eq, decide_eq_true_eq, decide_eq_false_iff_not, Bool.not_eq_true', Bool.not_eq_false', ne_eq, beq_true, beq_false, bne_self_eq_false, not_true_eq_false, not_false_eq_true, gt_iff_lt, ge_iff_le, Int.not_lt, Int.not_le, Bool.true_eq_false, Bool.false_eq_true] <;> omega)); conv => whnf)
            | (refine sel_no ?_ ?_; (first | assumption | (simp only [beq_iff_eq, bne_iff_ne, beq_eq_false_iff_ne, bne_eq_false_iff_eq, decide_eq_true_eq, decide_eq_false_iff_not, Bool.not_eq_true', Bool.not_eq_false', ne_eq, beq_true, beq_false, bne_self_eq_false, not_true_eq_false, not_false_eq_true, gt_iff_lt, ge_iff_le, Int.not_lt, Int.not_le, Bool.true_eq_false, Bool.false_eq_true] <;> omega)); conv => whnf)
            | (refine ⟨_, hs, ?_⟩; conv => whnf)
            | (refine ⟨le_rfl' ?_, ?_⟩; rfl; conv => whnf)
            | (refine ⟨⟨?_, ?_⟩, ?_⟩; omega; omega; conv => whnf)
            | (refine ⟨⟨?_, ?_, ?_⟩, ?_⟩; rfl; omega; omega; conv => whnf)
            | (refine ⟨rfl, ?_, ?_⟩; decide; conv => whnf))
          try exact rfl
      · rw [if_neg h12] at eV
        by_cases h3 : k = 3
        · rw [if_pos h3] at eV
          have hs := rsign hn (Op.bytesLess t.toList t'.toList) (!(Op.bytesLess t.toList t'.toList || t.toList == t'.toList))
          rw [bytes_cmp, show Lib.compareBytes t.toList t'.toList = Lib.compareBytes t.data.toList t'.data.toList from by rw [ByteArray.toList_eq, ByteArray.toList_eq]] at hs
          rw [eV]
          subst h3
          refine Ev.of (hn 107 (by decide) (by decide)) Tryd.func107 rfl rfl ?_
          conv => whnf
          refine ⟨_, hs, ?_⟩
          conv => whnf
          try exact rfl
        · rw [if_neg h3] at eV
          by_cases h4 : k = 4 ∨ k = 5 ∨ k = 6
          · rw [if_pos h4] at eV
            have hs := rsign hn (decide ((l.length : Int) < (m.length : Int))) (decide ((l.length : Int) > (m.length : Int)))
            rw [eV]
            rcases h4 with rfl | rfl | rfl
            all_goals
              refine Ev.of (hn 107 (by decide) (by decide)) Tryd.func107 rfl rfl ?_
              conv => whnf
              refine lrcmp _ n t l _ n' t' m hw.2.2.2.1 E _ (by first | exact .inl rfl | exact .inr (.inl rfl) | exact .inr (.inr rfl)) _ _ 0 _ rfl (Nat.zero_le _) (Nat.zero_le _) ⟨rfl, rfl, rfl, trivial⟩ ⟨rfl, rfl, trivial⟩ rfl (fun z c a b => ?_) (fun z a b c => ?_)
              · conv => whnf
                rw [a]
                simp only [List.drop_zero] at b
                rw [b]
                exact rfl
              · rw [St.knows _ z.hp.n a rfl _ b]
                conv => whnf
                refine ⟨_, hs, ?_⟩
                conv => whnf
                simp only [List.drop_zero] at c
                exact vi (by rw [c]; simp)
          · rw [if_neg h4] at eV
            rw [eV]
            refine Ev.of (hn 107 (by decide) (by decide)) Tryd.func107 rfl rfl ?_
            conv => whnf
            repeat (first
              | (refine sel_yes ?_ ?_; (first | assumption | (simp only [beq_iff_eq, bne_iff_ne, beq_eq_false_iff_ne, bne_eq_false_iff_eq, decide_eq_true_eq, decide_eq_false_iff_not, Bool.not_eq_true', Bool.not_eq_false', ne_eq, beq_true, beq_false, bne_self_eq_false, not_true_eq_false, not_false_eq_true, gt_iff_lt, ge_iff_le, Int.not_lt, Int.not_le, Bool.true_eq_false, Bool.false_eq_true] <;> omega)); conv => whnf)
              | (refine sel_no ?_ ?_; (first | assumption | (simp only [beq_iff_eq, bne_iff_ne, beq_eq_false_iff_ne, bne_eq_false_iff_eq, decide_eq_true_eq, decide_eq_false_iff_not, Bool.not_eq_true', Bool.not_eq_false', ne_eq, beq_true, beq_false, bne_self_eq_false, not_true_eq_false, not_false_eq_true, gt_iff_lt, ge_iff_le, Int.not_lt, Int.not_le, Bool.true_eq_false, Bool.false_eq_true] <;> omega)); conv => whnf)
              | (refine ⟨le_rfl' ?_, ?_⟩; rfl; conv => whnf)
              | (refine ⟨⟨?_, ?_⟩, ?_⟩; omega; omega; conv => whnf)
              | (refine ⟨⟨?_, ?_, ?_⟩, ?_⟩; rfl; omega; omega; conv => whnf)
              | (refine ⟨rfl, ?_, ?_⟩; decide; conv => whnf))
            try exact rfl
    · rw [if_neg hk] at eV
      have hs := rsign hn (decide (k < k')) true
      rw [show (if decide (k < k') = true then (-1 : Int) else if true = true then 1 else 0) = cmpI k k' from by unfold cmpI; by_cases h : k < k'; simp [h]; simp [h]; omega] at hs
      rw [eV]
      refine Ev.of (hn 107 (by decide) (by decide)) Tryd.func107 rfl rfl ?_
      conv => whnf
      repeat (first
        | (refine sel_yes ?_ ?_; (first | assumption | (simp only [beq_iff_eq, bne_iff_ne, beq_eq_false_iff_ne, bne_eq_false_iff_eq, decide_eq_true_eq, decide_eq_false_iff_not, Bool.not_eq_true', Bool.not_eq_false', ne_eq, beq_true, beq_false, bne_self_eq_false, not_true_eq_false, not_false_eq_true, gt_iff_lt, ge_iff_le, Int.not_lt, Int.not_le, Bool.true_eq_false, Bool.false_eq_true] <;> omega)); conv => whnf)
        | (refine sel_no ?_ ?_; (first | assumption | (simp only [beq_iff_eq, bne_iff_ne, beq_eq_false_iff_ne, bne_eq_false_iff_eq, decide_eq_true_eq, decide_eq_false_iff_not, Bool.not_eq_true', Bool.not_eq_false', ne_eq, beq_true, beq_false, bne_self_eq_false, not_true_eq_false, not_false_eq_true, gt_iff_lt, ge_iff_le, Int.not_lt, Int.not_le, Bool.true_eq_false, Bool.false_eq_true] <;> omega)); conv => whnf)
        | (refine ⟨_, hs, ?_⟩; conv => whnf)
        | (refine ⟨le_rfl' ?_, ?_⟩; rfl; conv => whnf)
        | (refine ⟨⟨?_, ?_⟩, ?_⟩; omega; omega; conv => whnf)
        | (refine ⟨⟨?_, ?_, ?_⟩, ?_⟩; rfl; omega; omega; conv => whnf)
        | (refine ⟨rfl, ?_, ?_⟩; decide; conv => whnf))
      try exact rfl
theorem rcmpL (hn : Non ext) : (l : List T) → WfL l → ∀ a ∈ l, ∀ b : T, (cfg ext).Ev 107 [A a, A b] (.int .i64 (cmpV a b))
  | [], _, a, ha, _ => by cases ha
  | v :: l, hw, a, ha, b => by
    simp only [WfL] at hw
    rcases List.mem_cons.1 ha with e | h
    · rw [e]; exact rcmp hn v hw.1 b
    · exact rcmpL hn l hw.2 a h b
end
end
end Go.Proofs.YtjfjagnnefmepaaDoor.AB
end

section
set_option linter.unusedVariables false
set_option linter.unusedSimpArgs false
open Go Go.Ab Go.Proofs Go.Vl
namespace Go.Proofs.YtjfjagnnefmepaaDoor.AB
set_option maxRecDepth 100000
set_option maxHeartbeats 8000000
set_option linter.unusedSimpArgs false
section
variable {ext : Exts}
theorem lutf2 (s : ByteArray) (p : Nat) (hp : p < s.size) (hs : s.size ≤ 4611686018427387904) (n : Nat) (hn : n = 2 ∨ n = 3 ∨ n = 4) (hpn : p + n ≤ s.size) (N : Nat) (Q : Ex → St → Prop) (d : Nat) :
    ∀ (i : Nat) (z : St), n - i = d → 2 ≤ i → i ≤ n → Has z.t [(9, .int .i64 i), (6, .int .i64 n), (0, .str s), (1, .int .i64 p)] → z.hp.n = N →
      (∀ z' : St, z'.t 4 = .int .i64 0 → (¬ ∀ j, i ≤ j → j < n → 128 ≤ by_ s (p + j) ∧ by_ s (p + j) ≤ 191) → Q .ret z') →
      (∀ z' : St, Has z'.t [(6, .int .i64 n)] → (∀ j, i ≤ j → j < n → 128 ≤ by_ s (p + j) ∧ by_ s (p + j) ≤ 191) → Q (.exit 2) z') →
      Go.Ab.Loop (cfg ext) (lpOf Tryd.f117) N z Q := by
  induction d with
  | zero =>
    intro i z hd h2 hi ht hz hr hq
    obtain rfl : i = n := by omega
    have g : decide ((i : Int) < (i : Int)) = false := decide_eq_false (by omega)
    rw [St.knows _ _ ht hz]
    refine Loop.round ?_
    conv => whnf
    repeat (first
      | (refine sel_yes ?_ ?_; (first | assumption | (simp only [beq_iff_eq, bne_iff_ne, beq_eq_false_iff_ne, bne_eq_false_iff_eq, decide_eq_true_eq, decide_eq_false_iff_not, Bool.not_eq_true', Bool.not_eq_false', ne_eq, beq_true, beq_false, bne_self_eq_false, not_true_eq_false, not_false_eq_true, gt_iff_lt, ge_iff_le, Int.not_lt, Int.not_le, Bool.true_eq_false, Bool.false_eq_true] <;> omega)); conv => whnf)
      | (refine sel_no ?_ ?_; (first | assumption | (simp only [beq_iff_eq, bne_iff_ne, beq_eq_false_iff_ne, bne_eq_false_iff_eq, decide_eq_true_eq, decide_eq_false_iff_not, Bool.not_eq_true', Bool.not_eq_false', ne_eq, beq_true, beq_false, bne_self_eq_false, not_true_eq_false, not_false_eq_true, gt_iff_lt, ge_iff_le, Int.not_lt, Int.not_le, Bool.true_eq_false, Bool.false_eq_true] <;> omega)); conv => whnf)
      | (refine ⟨le_rfl' ?_, ?_⟩; rfl; conv => whnf)
      | (refine ⟨⟨?_, ?_⟩, ?_⟩; omega; omega; conv => whnf)
      | (refine ⟨⟨?_, ?_, ?_⟩, ?_⟩; rfl; omega; omega; conv => whnf)
      | (refine ⟨rfl, ?_, ?_⟩; decide; conv => whnf))
    try exact rfl
    exact hq _ ⟨rfl, trivial⟩ (fun j h1 h2 => by omega)
  | succ d ih =>
    intro i z hd h2 hi ht hz hr hq
    have g : decide ((i : Int) < (n : Int)) = true := decide_eq_true (by omega)
    have hw : IntKind.i64.wrap ((p : Int) + (i : Int)) = ((p + i : Nat) : Int) := by rw [IntKind.wrap_i64]; omega
    have hb : ((s.data.toList.getD (IntKind.i64.wrap ((p : Int) + (i : Int))).toNat 0).toNat : Int) = (by_ s (p + i) : Int) := by rw [hw, Int.toNat_natCast, getD_by s (p + i) (by omega)]
    have hw1 : IntKind.i64.wrap ((i : Int) + 1) = ((i + 1 : Nat) : Int) := by rw [IntKind.wrap_i64]; omega
    by_cases c1 : 128 ≤ by_ s (p + i)
    · by_cases c2 : by_ s (p + i) ≤ 191
      · rw [St.knows _ _ ht hz]
        refine Loop.round ?_
        conv => whnf
        repeat (first
          | (refine sel_yes ?_ ?_; (first | assumption | (simp only [beq_iff_eq, bne_iff_ne, beq_eq_false_iff_ne, bne_eq_false_iff_eq, decide_eq_true_eq, decide_eq_false_iff_not, Bool.not_eq_true', Bool.not_eq_false', ne_eq, beq_true, beq_false, bne_self_eq_false, not_true_eq_false, not_false_eq_true, gt_iff_lt, ge_iff_le, Int.not_lt, Int.not_le, Bool.true_eq_false, Bool.false_eq_true] <;> omega)); conv => whnf)
          | (refine sel_no ?_ ?_; (first | assumption | (simp only [beq_iff_eq, bne_iff_ne, beq_eq_false_iff_ne, bne_eq_false_iff_eq, decide_eq_true_eq, decide_eq_false_iff_not, Bool.not_eq_true', Bool.not_eq_false', ne_eq, beq_true, beq_false, bne_self_eq_false, not_true_eq_false, not_false_eq_true, gt_iff_lt, ge_iff_le, Int.not_lt, Int.not_le, Bool.true_eq_false, Bool.false_eq_true] <;> omega)); conv => whnf)
          | (refine ⟨le_rfl' ?_, ?_⟩; rfl; conv => whnf)
          | (refine ⟨⟨?_, ?_⟩, ?_⟩; omega; omega; conv => whnf)
          | (refine ⟨⟨?_, ?_, ?_⟩, ?_⟩; rfl; omega; omega; conv => whnf)
          | (refine ⟨rfl, ?_, ?_⟩; decide; conv => whnf))
        try exact rfl
        refine ih (i + 1) _ (by omega) (by omega) (by omega) ⟨?_, rfl, rfl, rfl, trivial⟩ rfl (fun z' a b => hr z' a (fun g => b (fun j h1 h2 => g j (by omega) h2))) (fun z' a b => hq z' a (fun j h1 h2 => ?_))
        · conv => lhs; whnf
          exact vi hw1
        · rcases Nat.lt_or_ge i j with h | h
          · exact b j (by omega) h2
          · obtain rfl : j = i := by omega
            exact ⟨c1, c2⟩
      · rw [St.knows _ _ ht hz]
        refine Loop.round ?_
        conv => whnf
        repeat (first
          | (refine sel_yes ?_ ?_; (first | assumption | (simp only [beq_iff_eq, bne_iff_ne, beq_eq_false_iff_ne, bne_eq_false_iff_eq, decide_eq_true_eq, decide_eq_false_iff_not, Bool.not_eq_true', Bool.not_eq_false', ne_eq, beq_true, beq_false, bne_self_eq_false, not_true_eq_false, not_false_eq_true, gt_iff_lt, ge_iff_le, Int.not_lt, Int.not_le, Bool.true_eq_false, Bool.false_eq_true] <;> omega)); conv => whnf)
          | (refine sel_no ?_ ?_; (first | assumption | (simp only [beq_iff_eq, bne_iff_ne, beq_eq_false_iff_ne, bne_eq_false_iff_eq, decide_eq_true_eq, decide_eq_false_iff_not, Bool.not_eq_true', Bool.not_eq_false', ne_eq, beq_true, beq_false, bne_self_eq_false, not_true_eq_false, not_false_eq_true, gt_iff_lt, ge_iff_le, Int.not_lt, Int.not_le, Bool.true_eq_false, Bool.false_eq_true] <;> omega)); conv => whnf)
          | (refine ⟨le_rfl' ?_, ?_⟩; rfl; conv => whnf)
          | (refine ⟨⟨?_, ?_⟩, ?_⟩; omega; omega; conv => whnf)
          | (refine ⟨⟨?_, ?_, ?_⟩, ?_⟩; rfl; omega; omega; conv => whnf)
          | (refine ⟨rfl, ?_, ?_⟩; decide; conv => whnf))
        try exact rfl
        exact hr _ rfl (fun g => c2 (g i (Nat.le_refl _) (by omega)).2)
    · rw [St.knows _ _ ht hz]
      refine Loop.round ?_
      conv => whnf
      repeat (first
        | (refine sel_yes ?_ ?_; (first | assumption | (simp only [beq_iff_eq, bne_iff_ne, beq_eq_false_iff_ne, bne_eq_false_iff_eq, decide_eq_true_eq, decide_eq_false_iff_not, Bool.not_eq_true', Bool.not_eq_false', ne_eq, beq_true, beq_false, bne_self_eq_false, not_true_eq_false, not_false_eq_true, gt_iff_lt, ge_iff_le, Int.not_lt, Int.not_le, Bool.true_eq_false, Bool.false_eq_true] <;> omega)); conv => whnf)
        | (refine sel_no ?_ ?_; (first | assumption | (simp only [beq_iff_eq, bne_iff_ne, beq_eq_false_iff_ne, bne_eq_false_iff_eq, decide_eq_true_eq, decide_eq_false_iff_not, Bool.not_eq_true', Bool.not_eq_false', ne_eq, beq_true, beq_false, bne_self_eq_false, not_true_eq_false, not_false_eq_true, gt_iff_lt, ge_iff_le, Int.not_lt, Int.not_le, Bool.true_eq_false, Bool.false_eq_true] <;> omega)); conv => whnf)
        | (refine ⟨le_rfl' ?_, ?_⟩; rfl; conv => whnf)
        | (refine ⟨⟨?_, ?_⟩, ?_⟩; omega; omega; conv => whnf)
        | (refine ⟨⟨?_, ?_, ?_⟩, ?_⟩; rfl; omega; omega; conv => whnf)
        | (refine ⟨rfl, ?_, ?_⟩; decide; conv => whnf))
      try exact rfl
      exact hr _ rfl (fun g => c1 (g i (Nat.le_refl _) (by omega)).1)
theorem vi' {k : IntKind} {a b : Int} (h : a = b) : V.int k a = V.int k b := by rw [h]
theorem rutf (h0 : Non ext) (s : ByteArray) (p : Nat) (hp : p < s.size) (hs : s.size ≤ 4611686018427387904) : (cfg ext).Ev 117 [.str s, .int .i64 p] (.int .i64 (utfN s p)) := by
  have hb0 : ((s.data.toList.getD (p : Int).toNat 0).toNat : Int) = (by_ s p : Int) := by rw [Int.toNat_natCast, getD_by s p hp]
  have l0 := by_lt s p
  have l1 := by_lt s (p + 1)
  have hw1 : IntKind.i64.wrap ((p : Int) + 1) = ((p + 1 : Nat) : Int) := by rw [IntKind.wrap_i64]; omega
  have hw2 : IntKind.i64.wrap ((p : Int) + 2) = ((p + 2 : Nat) : Int) := by rw [IntKind.wrap_i64]; omega
  have hw3 : IntKind.i64.wrap ((p : Int) + 3) = ((p + 3 : Nat) : Int) := by rw [IntKind.wrap_i64]; omega
  have hw4 : IntKind.i64.wrap ((p : Int) + 4) = ((p + 4 : Nat) : Int) := by rw [IntKind.wrap_i64]; omega
  have key : ∃ r, (cfg ext).Ev 117 [.str s, .int .i64 p] r ∧ r = .int .i64 (utfN s p) := by
    refine Ev.ofF (h0 117 (by decide) (by decide)) Tryd.func117 rfl rfl ?_
    conv => whnf
    repeat (first
      | (refine sel_yes ?_ ?_; (first | assumption | (simp only [beq_iff_eq, bne_iff_ne, beq_eq_false_iff_ne, bne_eq_false_iff_eq, decide_eq_true_eq, decide_eq_false_iff_not, Bool.not_eq_true', Bool.not_eq_false', ne_eq, beq_true, beq_false, bne_self_eq_false, not_true_eq_false, not_false_eq_true, gt_iff_lt, ge_iff_le, Int.not_lt, Int.not_le, Bool.true_eq_false, Bool.false_eq_true] <;> omega)); conv => whnf)
      | (refine sel_no ?_ ?_; (first | assumption | (simp only [beq_iff_eq, bne_iff_ne, beq_eq_false_iff_ne, bne_eq_false_iff_eq, decide_eq_true_eq, decide_eq_false_iff_not, Bool.not_eq_true', Bool.not_eq_false', ne_eq, beq_true, beq_false, bne_self_eq_false, not_true_eq_false, not_false_eq_true, gt_iff_lt, ge_iff_le, Int.not_lt, Int.not_le, Bool.true_eq_false, Bool.false_eq_true] <;> omega)); conv => whnf)
      | (refine ⟨le_rfl' ?_, ?_⟩; rfl; conv => whnf)
      | (refine ⟨⟨?_, ?_⟩, ?_⟩; omega; omega; conv => whnf)
      | (refine ⟨⟨?_, ?_, ?_⟩, ?_⟩; rfl; omega; omega; conv => whnf)
      | (refine ⟨rfl, ?_, ?_⟩; decide; conv => whnf))
    try exact rfl
    by_cases c0 : by_ s p < 128
    · repeat (first
        | (refine sel_yes ?_ ?_; (first | assumption | (simp only [beq_iff_eq, bne_iff_ne, beq_eq_false_iff_ne, bne_eq_false_iff_eq, decide_eq_true_eq, decide_eq_false_iff_not, Bool.not_eq_true', Bool.not_eq_false', ne_eq, beq_true, beq_false, bne_self_eq_false, not_true_eq_false, not_false_eq_true, gt_iff_lt, ge_iff_le, Int.not_lt, Int.not_le, Bool.true_eq_false, Bool.false_eq_true] <;> omega)); conv => whnf)
        | (refine sel_no ?_ ?_; (first | assumption | (simp only [beq_iff_eq, bne_iff_ne, beq_eq_false_iff_ne, bne_eq_false_iff_eq, decide_eq_true_eq, decide_eq_false_iff_not, Bool.not_eq_true', Bool.not_eq_false', ne_eq, beq_true, beq_false, bne_self_eq_false, not_true_eq_false, not_false_eq_true, gt_iff_lt, ge_iff_le, Int.not_lt, Int.not_le, Bool.true_eq_false, Bool.false_eq_true] <;> omega)); conv => whnf)
        | (refine ⟨le_rfl' ?_, ?_⟩; rfl; conv => whnf)
        | (refine ⟨⟨?_, ?_⟩, ?_⟩; omega; omega; conv => whnf)
        | (refine ⟨⟨?_, ?_, ?_⟩, ?_⟩; rfl; omega; omega; conv => whnf)
        | (refine ⟨rfl, ?_, ?_⟩; decide; conv => whnf))
      try exact rfl
      exact ⟨vi (by unfold utfN utfR; rw [if_pos c0]; rfl)⟩
    · by_cases c1 : 194 ≤ by_ s p ∧ by_ s p ≤ 223
      · skip
        have e : utfN s p = chkN (s.size - p) (by_ s (p + 1)) (by_ s (p + 2)) (by_ s (p + 3)) 2 128 191 := by
          unfold utfN utfR
          repeat' split
          all_goals first | rfl | (exfalso; omega)
        by_cases d1 : p + 2 ≤ s.size
        · have hb1 : ((s.data.toList.getD (IntKind.i64.wrap ((p : Int) + 1)).toNat 0).toNat : Int) = (by_ s (p + 1) : Int) := by rw [hw1, Int.toNat_natCast, getD_by s (p + 1) (by omega)]
          by_cases d2 : 128 ≤ by_ s (p + 1)
          · by_cases d3 : by_ s (p + 1) ≤ 191
            · repeat (first
                | (refine sel_yes ?_ ?_; (first | assumption | (simp only [beq_iff_eq, bne_iff_ne, beq_eq_false_iff_ne, bne_eq_false_iff_eq, decide_eq_true_eq, decide_eq_false_iff_not, Bool.not_eq_true', Bool.not_eq_false', ne_eq, beq_true, beq_false, bne_self_eq_false, not_true_eq_false, not_false_eq_true, gt_iff_lt, ge_iff_le, Int.not_lt, Int.not_le, Bool.true_eq_false, Bool.false_eq_true] <;> omega)); conv => whnf)
                | (refine sel_no ?_ ?_; (first | assumption | (simp only [beq_iff_eq, bne_iff_ne, beq_eq_false_iff_ne, bne_eq_false_iff_eq, decide_eq_true_eq, decide_eq_false_iff_not, Bool.not_eq_true', Bool.not_eq_false', ne_eq, beq_true, beq_false, bne_self_eq_false, not_true_eq_false, not_false_eq_true, gt_iff_lt, ge_iff_le, Int.not_lt, Int.not_le, Bool.true_eq_false, Bool.false_eq_true] <;> omega)); conv => whnf)
                | (refine ⟨le_rfl' ?_, ?_⟩; rfl; conv => whnf)
                | (refine ⟨⟨?_, ?_⟩, ?_⟩; omega; omega; conv => whnf)
                | (refine ⟨⟨?_, ?_, ?_⟩, ?_⟩; rfl; omega; omega; conv => whnf)
                | (refine ⟨rfl, ?_, ?_⟩; decide; conv => whnf))
              try exact rfl
              refine lutf2 s p hp hs 2 (by decide) d1 _ _ 0 2 _ rfl (by decide) (by decide) ⟨rfl, rfl, rfl, rfl, trivial⟩ rfl (fun z a b => ?_) (fun z a b => ?_)
              · refine Fin.tmp (i := 4) rfl a (vi ?_)
                rw [e]
                unfold chkN
                repeat' split
                all_goals first | rfl | (exfalso; exact b (fun j h1 h2 => by (have : j = 2 ∨ j = 3 := by omega); rcases this with rfl | rfl <;> omega))
              · rw [St.knows _ z.hp.n a rfl]
                conv => whnf
                refine ⟨vi ?_⟩
                rw [e]
                unfold chkN
                repeat' split
                all_goals first | rfl | (exfalso; omega)
            · repeat (first
                | (refine sel_yes ?_ ?_; (first | assumption | (simp only [beq_iff_eq, bne_iff_ne, beq_eq_false_iff_ne, bne_eq_false_iff_eq, decide_eq_true_eq, decide_eq_false_iff_not, Bool.not_eq_true', Bool.not_eq_false', ne_eq, beq_true, beq_false, bne_self_eq_false, not_true_eq_false, not_false_eq_true, gt_iff_lt, ge_iff_le, Int.not_lt, Int.not_le, Bool.true_eq_false, Bool.false_eq_true] <;> omega)); conv => whnf)
                | (refine sel_no ?_ ?_; (first | assumption | (simp only [beq_iff_eq, bne_iff_ne, beq_eq_false_iff_ne, bne_eq_false_iff_eq, decide_eq_true_eq, decide_eq_false_iff_not, Bool.not_eq_true', Bool.not_eq_false', ne_eq, beq_true, beq_false, bne_self_eq_false, not_true_eq_false, not_false_eq_true, gt_iff_lt, ge_iff_le, Int.not_lt, Int.not_le, Bool.true_eq_false, Bool.false_eq_true] <;> omega)); conv => whnf)
                | (refine ⟨le_rfl' ?_, ?_⟩; rfl; conv => whnf)
                | (refine ⟨⟨?_, ?_⟩, ?_⟩; omega; omega; conv => whnf)
                | (refine ⟨⟨?_, ?_, ?_⟩, ?_⟩; rfl; omega; omega; conv => whnf)
                | (refine ⟨rfl, ?_, ?_⟩; decide; conv => whnf))
              try exact rfl
              refine ⟨vi ?_⟩
              rw [e]; unfold chkN; rw [if_neg (by omega), if_pos (by omega)]; rfl
          · repeat (first
              | (refine sel_yes ?_ ?_; (first | assumption | (simp only [beq_iff_eq, bne_iff_ne, beq_eq_false_iff_ne, bne_eq_false_iff_eq, decide_eq_true_eq, decide_eq_false_iff_not, Bool.not_eq_true', Bool.not_eq_false', ne_eq, beq_true, beq_false, bne_self_eq_false, not_true_eq_false, not_false_eq_true, gt_iff_lt, ge_iff_le, Int.not_lt, Int.not_le, Bool.true_eq_false, Bool.false_eq_true] <;> omega)); conv => whnf)
              | (refine sel_no ?_ ?_; (first | assumption | (simp only [beq_iff_eq, bne_iff_ne, beq_eq_false_iff_ne, bne_eq_false_iff_eq, decide_eq_true_eq, decide_eq_false_iff_not, Bool.not_eq_true', Bool.not_eq_false', ne_eq, beq_true, beq_false, bne_self_eq_false, not_true_eq_false, not_false_eq_true, gt_iff_lt, ge_iff_le, Int.not_lt, Int.not_le, Bool.true_eq_false, Bool.false_eq_true] <;> omega)); conv => whnf)
              | (refine ⟨le_rfl' ?_, ?_⟩; rfl; conv => whnf)
              | (refine ⟨⟨?_, ?_⟩, ?_⟩; omega; omega; conv => whnf)
              | (refine ⟨⟨?_, ?_, ?_⟩, ?_⟩; rfl; omega; omega; conv => whnf)
              | (refine ⟨rfl, ?_, ?_⟩; decide; conv => whnf))
            try exact rfl
            refine ⟨vi ?_⟩
            rw [e]; unfold chkN; rw [if_neg (by omega), if_pos (by omega)]; rfl
        · repeat (first
            | (refine sel_yes ?_ ?_; (first | assumption | (simp only [beq_iff_eq, bne_iff_ne, beq_eq_false_iff_ne, bne_eq_false_iff_eq, decide_eq_true_eq, decide_eq_false_iff_not, Bool.not_eq_true', Bool.not_eq_false', ne_eq, beq_true, beq_false, bne_self_eq_false, not_true_eq_false, not_false_eq_true, gt_iff_lt, ge_iff_le, Int.not_lt, Int.not_le, Bool.true_eq_false, Bool.false_eq_true] <;> omega)); conv => whnf)
            | (refine sel_no ?_ ?_; (first | assumption | (simp only [beq_iff_eq, bne_iff_ne, beq_eq_false_iff_ne, bne_eq_false_iff_eq, decide_eq_true_eq, decide_eq_false_iff_not, Bool.not_eq_true', Bool.not_eq_false', ne_eq, beq_true, beq_false, bne_self_eq_false, not_true_eq_false, not_false_eq_true, gt_iff_lt, ge_iff_le, Int.not_lt, Int.not_le, Bool.true_eq_false, Bool.false_eq_true] <;> omega)); conv => whnf)
            | (refine ⟨le_rfl' ?_, ?_⟩; rfl; conv => whnf)
            | (refine ⟨⟨?_, ?_⟩, ?_⟩; omega; omega; conv => whnf)
            | (refine ⟨⟨?_, ?_, ?_⟩, ?_⟩; rfl; omega; omega; conv => whnf)
            | (refine ⟨rfl, ?_, ?_⟩; decide; conv => whnf))
          try exact rfl
          refine ⟨vi ?_⟩
          rw [e]; unfold chkN; rw [if_pos (by omega)]; rfl
      · by_cases c2 : by_ s p = 224
        · skip
          have e : utfN s p = chkN (s.size - p) (by_ s (p + 1)) (by_ s (p + 2)) (by_ s (p + 3)) 3 160 191 := by
            unfold utfN utfR
            repeat' split
            all_goals first | rfl | (exfalso; omega)
          by_cases d1 : p + 3 ≤ s.size
          · have hb1 : ((s.data.toList.getD (IntKind.i64.wrap ((p : Int) + 1)).toNat 0).toNat : Int) = (by_ s (p + 1) : Int) := by rw [hw1, Int.toNat_natCast, getD_by s (p + 1) (by omega)]
            by_cases d2 : 160 ≤ by_ s (p + 1)
            · by_cases d3 : by_ s (p + 1) ≤ 191
              · repeat (first
                  | (refine sel_yes ?_ ?_; (first | assumption | (simp only [beq_iff_eq, bne_iff_ne, beq_eq_false_iff_ne, bne_eq_false_iff_eq, decide_eq_true_eq, decide_eq_false_iff_not, Bool.not_eq_true', Bool.not_eq_false', ne_eq, beq_true, beq_false, bne_self_eq_false, not_true_eq_false, not_false_eq_true, gt_iff_lt, ge_iff_le, Int.not_lt, Int.not_le, Bool.true_eq_false, Bool.false_eq_true] <;> omega)); conv => whnf)
                  | (refine sel_no ?_ ?_; (first | assumption | (simp only [beq_iff_eq, bne_iff_ne, beq_eq_false_iff_ne, bne_eq_false_iff_eq, decide_eq_true_eq, decide_eq_false_iff_not, Bool.not_eq_true', Bool.not_eq_false', ne_eq, beq_true, beq_false, bne_self_eq_false, not_true_eq_false, not_false_eq_true, gt_iff_lt, ge_iff_le, Int.not_lt, Int.not_le, Bool.true_eq_false, Bool.false_eq_true] <;> omega)); conv => whnf)
                  | (refine ⟨le_rfl' ?_, ?_⟩; rfl; conv => whnf)
                  | (refine ⟨⟨?_, ?_⟩, ?_⟩; omega; omega; conv => whnf)
                  | (refine ⟨⟨?_, ?_, ?_⟩, ?_⟩; rfl; omega; omega; conv => whnf)
                  | (refine ⟨rfl, ?_, ?_⟩; decide; conv => whnf))
                try exact rfl
                refine lutf2 s p hp hs 3 (by decide) d1 _ _ 1 2 _ rfl (by decide) (by decide) ⟨rfl, rfl, rfl, rfl, trivial⟩ rfl (fun z a b => ?_) (fun z a b => ?_)
                · refine Fin.tmp (i := 4) rfl a (vi ?_)
                  rw [e]
                  unfold chkN
                  repeat' split
                  all_goals first | rfl | (exfalso; exact b (fun j h1 h2 => by (have : j = 2 ∨ j = 3 := by omega); rcases this with rfl | rfl <;> omega))
                · rw [St.knows _ z.hp.n a rfl]
                  have b2 := b 2 (by decide) (by decide)
                  conv => whnf
                  refine ⟨vi ?_⟩
                  rw [e]
                  unfold chkN
                  repeat' split
                  all_goals first | rfl | (exfalso; omega)
              · repeat (first
                  | (refine sel_yes ?_ ?_; (first | assumption | (simp only [beq_iff_eq, bne_iff_ne, beq_eq_false_iff_ne, bne_eq_false_iff_eq, decide_eq_true_eq, decide_eq_false_iff_not, Bool.not_eq_true', Bool.not_eq_false', ne_eq, beq_true, beq_false, bne_self_eq_false, not_true_eq_false, not_false_eq_true, gt_iff_lt, ge_iff_le, Int.not_lt, Int.not_le, Bool.true_eq_false, Bool.false_eq_true] <;> omega)); conv => whnf)
                  | (refine sel_no ?_ ?_; (first | assumption | (simp only [beq_iff_eq, bne_iff_ne, beq_eq_false_iff_ne, bne_eq_false_iff_eq, decide_eq_true_eq, decide_eq_false_iff_not, Bool.not_eq_true', Bool.not_eq_false', ne_eq, beq_true, beq_false, bne_self_eq_false, not_true_eq_false, not_false_eq_true, gt_iff_lt, ge_iff_le, Int.not_lt, Int.not_le, Bool.true_eq_false, Bool.false_eq_true] <;> omega)); conv => whnf)
                  | (refine ⟨le_rfl' ?_, ?_⟩; rfl; conv => whnf)
                  | (refine ⟨⟨?_, ?_⟩, ?_⟩; omega; omega; conv => whnf)
                  | (refine ⟨⟨?_, ?_, ?_⟩, ?_⟩; rfl; omega; omega; conv => whnf)
                  | (refine ⟨rfl, ?_, ?_⟩; decide; conv => whnf))
                try exact rfl
                refine ⟨vi ?_⟩
                rw [e]; unfold chkN; rw [if_neg (by omega), if_pos (by omega)]; rfl
            · repeat (first
                | (refine sel_yes ?_ ?_; (first | assumption | (simp only [beq_iff_eq, bne_iff_ne, beq_eq_false_iff_ne, bne_eq_false_iff_eq, decide_eq_true_eq, decide_eq_false_iff_not, Bool.not_eq_true', Bool.not_eq_false', ne_eq, beq_true, beq_false, bne_self_eq_false, not_true_eq_false, not_false_eq_true, gt_iff_lt, ge_iff_le, Int.not_lt, Int.not_le, Bool.true_eq_false, Bool.false_eq_true] <;> omega)); conv => whnf)
                | (refine sel_no ?_ ?_; (first | assumption | (simp only [beq_iff_eq, bne_iff_ne, beq_eq_false_iff_ne, bne_eq_false_iff_eq, decide_eq_true_eq, decide_eq_false_iff_not, Bool.not_eq_true', Bool.not_eq_false', ne_eq, beq_true, beq_false, bne_self_eq_false, not_true_eq_false, not_false_eq_true, gt_iff_lt, ge_iff_le, Int.not_lt, Int.not_le, Bool.true_eq_false, Bool.false_eq_true] <;> omega)); conv => whnf)
                | (refine ⟨le_rfl' ?_, ?_⟩; rfl; conv => whnf)
                | (refine ⟨⟨?_, ?_⟩, ?_⟩; omega; omega; conv => whnf)
                | (refine ⟨⟨?_, ?_, ?_⟩, ?_⟩; rfl; omega; omega; conv => whnf)
                | (refine ⟨rfl, ?_, ?_⟩; decide; conv => whnf))
              try exact rfl
              refine ⟨vi ?_⟩
              rw [e]; unfold chkN; rw [if_neg (by omega), if_pos (by omega)]; rfl
          · repeat (first
              | (refine sel_yes ?_ ?_; (first | assumption | (simp only [beq_iff_eq, bne_iff_ne, beq_eq_false_iff_ne, bne_eq_false_iff_eq, decide_eq_true_eq, decide_eq_false_iff_not, Bool.not_eq_true', Bool.not_eq_false', ne_eq, beq_true, beq_false, bne_self_eq_false, not_true_eq_false, not_false_eq_true, gt_iff_lt, ge_iff_le, Int.not_lt, Int.not_le, Bool.true_eq_false, Bool.false_eq_true] <;> omega)); conv => whnf)
              | (refine sel_no ?_ ?_; (first | assumption | (simp only [beq_iff_eq, bne_iff_ne, beq_eq_false_iff_ne, bne_eq_false_iff_eq, decide_eq_true_eq, decide_eq_false_iff_not, Bool.not_eq_true', Bool.not_eq_false', ne_eq, beq_true, beq_false, bne_self_eq_false, not_true_eq_false, not_false_eq_true, gt_iff_lt, ge_iff_le, Int.not_lt, Int.not_le, Bool.true_eq_false, Bool.false_eq_true] <;> omega)); conv => whnf)
              | (refine ⟨le_rfl' ?_, ?_⟩; rfl; conv => whnf)
              | (refine ⟨⟨?_, ?_⟩, ?_⟩; omega; omega; conv => whnf)
              | (refine ⟨⟨?_, ?_, ?_⟩, ?_⟩; rfl; omega; omega; conv => whnf)
              | (refine ⟨rfl, ?_, ?_⟩; decide; conv => whnf))
            try exact rfl
            refine ⟨vi ?_⟩
            rw [e]; unfold chkN; rw [if_pos (by omega)]; rfl
        · by_cases c3 : by_ s p = 237
          · skip
            have e : utfN s p = chkN (s.size - p) (by_ s (p + 1)) (by_ s (p + 2)) (by_ s (p + 3)) 3 128 159 := by
              unfold utfN utfR
              repeat' split
              all_goals first | rfl | (exfalso; omega)
            by_cases d1 : p + 3 ≤ s.size
            · have hb1 : ((s.data.toList.getD (IntKind.i64.wrap ((p : Int) + 1)).toNat 0).toNat : Int) = (by_ s (p + 1) : Int) := by rw [hw1, Int.toNat_natCast, getD_by s (p + 1) (by omega)]
              by_cases d2 : 128 ≤ by_ s (p + 1)
              · by_cases d3 : by_ s (p + 1) ≤ 159
                · repeat (first
                    | (refine sel_yes ?_ ?_; (first | assumption | (simp only [beq_iff_eq, bne_iff_ne, beq_eq_false_iff_ne, bne_eq_false_iff_eq, decide_eq_true_eq, decide_eq_false_iff_not, Bool.not_eq_true', Bool.not_eq_false', ne_eq, beq_true, beq_false, bne_self_eq_false, not_true_eq_false, not_false_eq_true, gt_iff_lt, ge_iff_le, Int.not_lt, Int.not_le, Bool.true_eq_false, Bool.false_eq_true] <;> omega)); conv => whnf)
                    | (refine sel_no ?_ ?_; (first | assumption | (simp only [beq_iff_eq, bne_iff_ne, beq_eq_false_iff_ne, bne_eq_false_iff_eq, decide_eq_true_eq, decide_eq_false_iff_not, Bool.not_eq_true', Bool.not_eq_false', ne_eq, beq_true, beq_false, bne_self_eq_false, not_true_eq_false, not_false_eq_true, gt_iff_lt, ge_iff_le, Int.not_lt, Int.not_le, Bool.true_eq_false, Bool.false_eq_true] <;> omega)); conv => whnf)
                    | (refine ⟨le_rfl' ?_, ?_⟩; rfl; conv => whnf)
                    | (refine ⟨⟨?_, ?_⟩, ?_⟩; omega; omega; conv => whnf)
                    | (refine ⟨⟨?_, ?_, ?_⟩, ?_⟩; rfl; omega; omega; conv => whnf)
                    | (refine ⟨rfl, ?_, ?_⟩; decide; conv => whnf))
                  try exact rfl
                  refine lutf2 s p hp hs 3 (by decide) d1 _ _ 1 2 _ rfl (by decide) (by decide) ⟨rfl, rfl, rfl, rfl, trivial⟩ rfl (fun z a b => ?_) (fun z a b => ?_)
                  · refine Fin.tmp (i := 4) rfl a (vi ?_)
                    rw [e]
                    unfold chkN
                    repeat' split
                    all_goals first | rfl | (exfalso; exact b (fun j h1 h2 => by (have : j = 2 ∨ j = 3 := by omega); rcases this with rfl | rfl <;> omega))
                  · rw [St.knows _ z.hp.n a rfl]
                    have b2 := b 2 (by decide) (by decide)
                    conv => whnf
                    refine ⟨vi ?_⟩
                    rw [e]
                    unfold chkN
                    repeat' split
                    all_goals first | rfl | (exfalso; omega)
                · repeat (first
                    | (refine sel_yes ?_ ?_; (first | assumption | (simp only [beq_iff_eq, bne_iff_ne, beq_eq_false_iff_ne, bne_eq_false_iff_eq, decide_eq_true_eq, decide_eq_false_iff_not, Bool.not_eq_true', Bool.not_eq_false', ne_eq, beq_true, beq_false, bne_self_eq_false, not_true_eq_false, not_false_eq_true, gt_iff_lt, ge_iff_le, Int.not_lt, Int.not_le, Bool.true_eq_false, Bool.false_eq_true] <;> omega)); conv => whnf)
                    | (refine sel_no ?_ ?_; (first | assumption | (simp only [beq_iff_eq, bne_iff_ne, beq_eq_false_iff_ne, bne_eq_false_iff_eq, decide_eq_true_eq, decide_eq_false_iff_not, Bool.not_eq_true', Bool.not_eq_false', ne_eq, beq_true, beq_false, bne_self_eq_false, not_true_eq_false, not_false_eq_true, gt_iff_lt, ge_iff_le, Int.not_lt, Int.not_le, Bool.true_eq_false, Bool.false_eq_true] <;> omega)); conv => whnf)
                    | (refine ⟨le_rfl' ?_, ?_⟩; rfl; conv => whnf)
                    | (refine ⟨⟨?_, ?_⟩, ?_⟩; omega; omega; conv => whnf)
                    | (refine ⟨⟨?_, ?_, ?_⟩, ?_⟩; rfl; omega; omega; conv => whnf)
                    | (refine ⟨rfl, ?_, ?_⟩; decide; conv => whnf))
                  try exact rfl
                  refine ⟨vi ?_⟩
                  rw [e]; unfold chkN; rw [if_neg (by omega), if_pos (by omega)]; rfl
              · repeat (first
                  | (refine sel_yes ?_ ?_; (first | assumption | (simp only [beq_iff_eq, bne_iff_ne, beq_eq_false_iff_ne, bne_eq_false_iff_eq, decide_eq_true_eq, decide_eq_false_iff_not, Bool.not_eq_true', Bool.not_eq_false', ne_eq, beq_true, beq_false, bne_self_eq_false, not_true_eq_false, not_false_eq_true, gt_iff_lt, ge_iff_le, Int.not_lt, Int.not_le, Bool.true_eq_false, Bool.false_eq_true] <;> omega)); conv => whnf)
                  | (refine sel_no ?_ ?_; (first | assumption | (simp only [beq_iff_eq, bne_iff_ne, beq_eq_false_iff_ne, bne_eq_false_iff_eq, decide_eq_true_eq, decide_eq_false_iff_not, Bool.not_eq_true', Bool.not_eq_false', ne_eq, beq_true, beq_false, bne_self_eq_false, not_true_eq_false, not_false_eq_true, gt_iff_lt, ge_iff_le, Int.not_lt, Int.not_le, Bool.true_eq_false, Bool.false_eq_true] <;> omega)); conv => whnf)
                  | (refine ⟨le_rfl' ?_, ?_⟩; rfl; conv => whnf)
                  | (refine ⟨⟨?_, ?_⟩, ?_⟩; omega; omega; conv => whnf)
                  | (refine ⟨⟨?_, ?_, ?_⟩, ?_⟩; rfl; omega; omega; conv => whnf)
                  | (refine ⟨rfl, ?_, ?_⟩; decide; conv => whnf))
                try exact rfl
                refine ⟨vi ?_⟩
                rw [e]; unfold chkN; rw [if_neg (by omega), if_pos (by omega)]; rfl
            · repeat (first
                | (refine sel_yes ?_ ?_; (first | assumption | (simp only [beq_iff_eq, bne_iff_ne, beq_eq_false_iff_ne, bne_eq_false_iff_eq, decide_eq_true_eq, decide_eq_false_iff_not, Bool.not_eq_true', Bool.not_eq_false', ne_eq, beq_true, beq_false, bne_self_eq_false, not_true_eq_false, not_false_eq_true, gt_iff_lt, ge_iff_le, Int.not_lt, Int.not_le, Bool.true_eq_false, Bool.false_eq_true] <;> omega)); conv => whnf)
                | (refine sel_no ?_ ?_; (first | assumption | (simp only [beq_iff_eq, bne_iff_ne, beq_eq_false_iff_ne, bne_eq_false_iff_eq, decide_eq_true_eq, decide_eq_false_iff_not, Bool.not_eq_true', Bool.not_eq_false', ne_eq, beq_true, beq_false, bne_self_eq_false, not_true_eq_false, not_false_eq_true, gt_iff_lt, ge_iff_le, Int.not_lt, Int.not_le, Bool.true_eq_false, Bool.false_eq_true] <;> omega)); conv => whnf)
                | (refine ⟨le_rfl' ?_, ?_⟩; rfl; conv => whnf)
                | (refine ⟨⟨?_, ?_⟩, ?_⟩; omega; omega; conv => whnf)
                | (refine ⟨⟨?_, ?_, ?_⟩, ?_⟩; rfl; omega; omega; conv => whnf)
                | (refine ⟨rfl, ?_, ?_⟩; decide; conv => whnf))
              try exact rfl
              refine ⟨vi ?_⟩
              rw [e]; unfold chkN; rw [if_pos (by omega)]; rfl
          · by_cases c4 : 224 ≤ by_ s p ∧ by_ s p ≤ 239
            · skip
              have e : utfN s p = chkN (s.size - p) (by_ s (p + 1)) (by_ s (p + 2)) (by_ s (p + 3)) 3 128 191 := by
                unfold utfN utfR
                repeat' split
                all_goals first | rfl | (exfalso; omega)
              by_cases d1 : p + 3 ≤ s.size
              · have hb1 : ((s.data.toList.getD (IntKind.i64.wrap ((p : Int) + 1)).toNat 0).toNat : Int) = (by_ s (p + 1) : Int) := by rw [hw1, Int.toNat_natCast, getD_by s (p + 1) (by omega)]
                by_cases d2 : 128 ≤ by_ s (p + 1)
                · by_cases d3 : by_ s (p + 1) ≤ 191
                  · repeat (first
                      | (refine sel_yes ?_ ?_; (first | assumption | (simp only [beq_iff_eq, bne_iff_ne, beq_eq_false_iff_ne, bne_eq_false_iff_eq, decide_eq_true_eq, decide_eq_false_iff_not, Bool.not_eq_true', Bool.not_eq_false', ne_eq, beq_true, beq_false, bne_self_eq_false, not_true_eq_false, not_false_eq_true, gt_iff_lt, ge_iff_le, Int.not_lt, Int.not_le, Bool.true_eq_false, Bool.false_eq_true] <;> omega)); conv => whnf)
                      | (refine sel_no ?_ ?_; (first | assumption | (simp only [beq_iff_eq, bne_iff_ne, beq_eq_false_iff_ne, bne_eq_false_iff_eq, decide_eq_true_eq, decide_eq_false_iff_not, Bool.not_eq_true', Bool.not_eq_false', ne_eq, beq_true, beq_false, bne_self_eq_false, not_true_eq_false, not_false_eq_true, gt_iff_lt, ge_iff_le, Int.not_lt, Int.not_le, Bool.true_eq_false, Bool.false_eq_true] <;> omega)); conv => whnf)
                      | (refine ⟨le_rfl' ?_, ?_⟩; rfl; conv => whnf)
                      | (refine ⟨⟨?_, ?_⟩, ?_⟩; omega; omega; conv => whnf)
                      | (refine ⟨⟨?_, ?_, ?_⟩, ?_⟩; rfl; omega; omega; conv => whnf)
                      | (refine ⟨rfl, ?_, ?_⟩; decide; conv => whnf))
                    try exact rfl
                    refine lutf2 s p hp hs 3 (by decide) d1 _ _ 1 2 _ rfl (by decide) (by decide) ⟨rfl, rfl, rfl, rfl, trivial⟩ rfl (fun z a b => ?_) (fun z a b => ?_)
                    · refine Fin.tmp (i := 4) rfl a (vi ?_)
                      rw [e]
                      unfold chkN
                      repeat' split
                      all_goals first | rfl | (exfalso; exact b (fun j h1 h2 => by (have : j = 2 ∨ j = 3 := by omega); rcases this with rfl | rfl <;> omega))
                    · rw [St.knows _ z.hp.n a rfl]
                      have b2 := b 2 (by decide) (by decide)
                      conv => whnf
                      refine ⟨vi ?_⟩
                      rw [e]
                      unfold chkN
                      repeat' split
                      all_goals first | rfl | (exfalso; omega)
                  · repeat (first
                      | (refine sel_yes ?_ ?_; (first | assumption | (simp only [beq_iff_eq, bne_iff_ne, beq_eq_false_iff_ne, bne_eq_false_iff_eq, decide_eq_true_eq, decide_eq_false_iff_not, Bool.not_eq_true', Bool.not_eq_false', ne_eq, beq_true, beq_false, bne_self_eq_false, not_true_eq_false, not_false_eq_true, gt_iff_lt, ge_iff_le, Int.not_lt, Int.not_le, Bool.true_eq_false, Bool.false_eq_true] <;> omega)); conv => whnf)
                      | (refine sel_no ?_ ?_; (first | assumption | (simp only [beq_iff_eq, bne_iff_ne, beq_eq_false_iff_ne, bne_eq_false_iff_eq, decide_eq_true_eq, decide_eq_false_iff_not, Bool.not_eq_true', Bool.not_eq_false', ne_eq, beq_true, beq_false, bne_self_eq_false, not_true_eq_false, not_false_eq_true, gt_iff_lt, ge_iff_le, Int.not_lt, Int.not_le, Bool.true_eq_false, Bool.false_eq_true] <;> omega)); conv => whnf)
                      | (refine ⟨le_rfl' ?_, ?_⟩; rfl; conv => whnf)
                      | (refine ⟨⟨?_, ?_⟩, ?_⟩; omega; omega; conv => whnf)
                      | (refine ⟨⟨?_, ?_, ?_⟩, ?_⟩; rfl; omega; omega; conv => whnf)
                      | (refine ⟨rfl, ?_, ?_⟩; decide; conv => whnf))
                    try exact rfl
                    refine ⟨vi ?_⟩
                    rw [e]; unfold chkN; rw [if_neg (by omega), if_pos (by omega)]; rfl
                · repeat (first
                    | (refine sel_yes ?_ ?_; (first | assumption | (simp only [beq_iff_eq, bne_iff_ne, beq_eq_false_iff_ne, bne_eq_false_iff_eq, decide_eq_true_eq, decide_eq_false_iff_not, Bool.not_eq_true', Bool.not_eq_false', ne_eq, beq_true, beq_false, bne_self_eq_false, not_true_eq_false, not_false_eq_true, gt_iff_lt, ge_iff_le, Int.not_lt, Int.not_le, Bool.true_eq_false, Bool.false_eq_true] <;> omega)); conv => whnf)
                    | (refine sel_no ?_ ?_; (first | assumption | (simp only [beq_iff_eq, bne_iff_ne, beq_eq_false_iff_ne, bne_eq_false_iff_eq, decide_eq_true_eq, decide_eq_false_iff_not, Bool.not_eq_true', Bool.not_eq_false', ne_eq, beq_true, beq_false, bne_self_eq_false, not_true_eq_false, not_false_eq_true, gt_iff_lt, ge_iff_le, Int.not_lt, Int.not_le, Bool.true_eq_false, Bool.false_eq_true] <;> omega)); conv => whnf)
                    | (refine ⟨le_rfl' ?_, ?_⟩; rfl; conv => whnf)
                    | (refine ⟨⟨?_, ?_⟩, ?_⟩; omega; omega; conv => whnf)
                    | (refine ⟨⟨?_, ?_, ?_⟩, ?_⟩; rfl; omega; omega; conv => whnf)
                    | (refine ⟨rfl, ?_, ?_⟩; decide; conv => whnf))
                  try exact rfl
                  refine ⟨vi ?_⟩
                  rw [e]; unfold chkN; rw [if_neg (by omega), if_pos (by omega)]; rfl
              · repeat (first
                  | (refine sel_yes ?_ ?_; (first | assumption | (simp only [beq_iff_eq, bne_iff_ne, beq_eq_false_iff_ne, bne_eq_false_iff_eq, decide_eq_true_eq, decide_eq_false_iff_not, Bool.not_eq_true', Bool.not_eq_false', ne_eq, beq_true, beq_false, bne_self_eq_false, not_true_eq_false, not_false_eq_true, gt_iff_lt, ge_iff_le, Int.not_lt, Int.not_le, Bool.true_eq_false, Bool.false_eq_true] <;> omega)); conv => whnf)
                  | (refine sel_no ?_ ?_; (first | assumption | (simp only [beq_iff_eq, bne_iff_ne, beq_eq_false_iff_ne, bne_eq_false_iff_eq, decide_eq_true_eq, decide_eq_false_iff_not, Bool.not_eq_true', Bool.not_eq_false', ne_eq, beq_true, beq_false, bne_self_eq_false, not_true_eq_false, not_false_eq_true, gt_iff_lt, ge_iff_le, Int.not_lt, Int.not_le, Bool.true_eq_false, Bool.false_eq_true] <;> omega)); conv => whnf)
                  | (refine ⟨le_rfl' ?_, ?_⟩; rfl; conv => whnf)
                  | (refine ⟨⟨?_, ?_⟩, ?_⟩; omega; omega; conv => whnf)
                  | (refine ⟨⟨?_, ?_, ?_⟩, ?_⟩; rfl; omega; omega; conv => whnf)
                  | (refine ⟨rfl, ?_, ?_⟩; decide; conv => whnf))
                try exact rfl
                refine ⟨vi ?_⟩
                rw [e]; unfold chkN; rw [if_pos (by omega)]; rfl
            · by_cases c5 : by_ s p = 240
              · skip
                have e : utfN s p = chkN (s.size - p) (by_ s (p + 1)) (by_ s (p + 2)) (by_ s (p + 3)) 4 144 191 := by
                  unfold utfN utfR
                  repeat' split
                  all_goals first | rfl | (exfalso; omega)
                by_cases d1 : p + 4 ≤ s.size
                · have hb1 : ((s.data.toList.getD (IntKind.i64.wrap ((p : Int) + 1)).toNat 0).toNat : Int) = (by_ s (p + 1) : Int) := by rw [hw1, Int.toNat_natCast, getD_by s (p + 1) (by omega)]
                  by_cases d2 : 144 ≤ by_ s (p + 1)
                  · by_cases d3 : by_ s (p + 1) ≤ 191
                    · repeat (first
                        | (refine sel_yes ?_ ?_; (first | assumption | (simp only [beq_iff_eq, bne_iff_ne, beq_eq_false_iff_ne, bne_eq_false_iff_eq, decide_eq_true_eq, decide_eq_false_iff_not, Bool.not_eq_true', Bool.not_eq_false', ne_eq, beq_true, beq_false, bne_self_eq_false, not_true_eq_false, not_false_eq_true, gt_iff_lt, ge_iff_le, Int.not_lt, Int.not_le, Bool.true_eq_false, Bool.false_eq_true] <;> omega)); conv => whnf)
                        | (refine sel_no ?_ ?_; (first | assumption | (simp only [beq_iff_eq, bne_iff_ne, beq_eq_false_iff_ne, bne_eq_false_iff_eq, decide_eq_true_eq, decide_eq_false_iff_not, Bool.not_eq_true', Bool.not_eq_false', ne_eq, beq_true, beq_false, bne_self_eq_false, not_true_eq_false, not_false_eq_true, gt_iff_lt, ge_iff_le, Int.not_lt, Int.not_le, Bool.true_eq_false, Bool.false_eq_true] <;> omega)); conv => whnf)
                        | (refine ⟨le_rfl' ?_, ?_⟩; rfl; conv => whnf)
                        | (refine ⟨⟨?_, ?_⟩, ?_⟩; omega; omega; conv => whnf)
                        | (refine ⟨⟨?_, ?_, ?_⟩, ?_⟩; rfl; omega; omega; conv => whnf)
                        | (refine ⟨rfl, ?_, ?_⟩; decide; conv => whnf))
                      try exact rfl
                      refine lutf2 s p hp hs 4 (by decide) d1 _ _ 2 2 _ rfl (by decide) (by decide) ⟨rfl, rfl, rfl, rfl, trivial⟩ rfl (fun z a b => ?_) (fun z a b => ?_)
                      · refine Fin.tmp (i := 4) rfl a (vi ?_)
                        rw [e]
                        unfold chkN
                        repeat' split
                        all_goals first | rfl | (exfalso; exact b (fun j h1 h2 => by (have : j = 2 ∨ j = 3 := by omega); rcases this with rfl | rfl <;> omega))
                      · rw [St.knows _ z.hp.n a rfl]
                        have b2 := b 2 (by decide) (by decide)
                        have b3 := b 3 (by decide) (by decide)
                        conv => whnf
                        refine ⟨vi ?_⟩
                        rw [e]
                        unfold chkN
                        repeat' split
                        all_goals first | rfl | (exfalso; omega)
                    · repeat (first
                        | (refine sel_yes ?_ ?_; (first | assumption | (simp only [beq_iff_eq, bne_iff_ne, beq_eq_false_iff_ne, bne_eq_false_iff_eq, decide_eq_true_eq, decide_eq_false_iff_not, Bool.not_eq_true', Bool.not_eq_false', ne_eq, beq_true, beq_false, bne_self_eq_false, not_true_eq_false, not_false_eq_true, gt_iff_lt, ge_iff_le, Int.not_lt, Int.not_le, Bool.true_eq_false, Bool.false_eq_true] <;> omega)); conv => whnf)
                        | (refine sel_no ?_ ?_; (first | assumption | (simp only [beq_iff_eq, bne_iff_ne, beq_eq_false_iff_ne, bne_eq_false_iff_eq, decide_eq_true_eq, decide_eq_false_iff_not, Bool.not_eq_true', Bool.not_eq_false', ne_eq, beq_true, beq_false, bne_self_eq_false, not_true_eq_false, not_false_eq_true, gt_iff_lt, ge_iff_le, Int.not_lt, Int.not_le, Bool.true_eq_false, Bool.false_eq_true] <;> omega)); conv => whnf)
                        | (refine ⟨le_rfl' ?_, ?_⟩; rfl; conv => whnf)
                        | (refine ⟨⟨?_, ?_⟩, ?_⟩; omega; omega; conv => whnf)
                        | (refine ⟨⟨?_, ?_, ?_⟩, ?_⟩; rfl; omega; omega; conv => whnf)
                        | (refine ⟨rfl, ?_, ?_⟩; decide; conv => whnf))
                      try exact rfl
                      refine ⟨vi ?_⟩
                      rw [e]; unfold chkN; rw [if_neg (by omega), if_pos (by omega)]; rfl
                  · repeat (first
                      | (refine sel_yes ?_ ?_; (first | assumption | (simp only [beq_iff_eq, bne_iff_ne, beq_eq_false_iff_ne, bne_eq_false_iff_eq, decide_eq_true_eq, decide_eq_false_iff_not, Bool.not_eq_true', Bool.not_eq_false', ne_eq, beq_true, beq_false, bne_self_eq_false, not_true_eq_false, not_false_eq_true, gt_iff_lt, ge_iff_le, Int.not_lt, Int.not_le, Bool.true_eq_false, Bool.false_eq_true] <;> omega)); conv => whnf)
                      | (refine sel_no ?_ ?_; (first | assumption | (simp only [beq_iff_eq, bne_iff_ne, beq_eq_false_iff_ne, bne_eq_false_iff_eq, decide_eq_true_eq, decide_eq_false_iff_not, Bool.not_eq_true', Bool.not_eq_false', ne_eq, beq_true, beq_false, bne_self_eq_false, not_true_eq_false, not_false_eq_true, gt_iff_lt, ge_iff_le, Int.not_lt, Int.not_le, Bool.true_eq_false, Bool.false_eq_true] <;> omega)); conv => whnf)
                      | (refine ⟨le_rfl' ?_, ?_⟩; rfl; conv => whnf)
                      | (refine ⟨⟨?_, ?_⟩, ?_⟩; omega; omega; conv => whnf)
                      | (refine ⟨⟨?_, ?_, ?_⟩, ?_⟩; rfl; omega; omega; conv => whnf)
                      | (refine ⟨rfl, ?_, ?_⟩; decide; conv => whnf))
                    try exact rfl
                    refine ⟨vi ?_⟩
                    rw [e]; unfold chkN; rw [if_neg (by omega), if_pos (by omega)]; rfl
                · repeat (first
                    | (refine sel_yes ?_ ?_; (first | assumption | (simp only [beq_iff_eq, bne_iff_ne, beq_eq_false_iff_ne, bne_eq_false_iff_eq, decide_eq_true_eq, decide_eq_false_iff_not, Bool.not_eq_true', Bool.not_eq_false', ne_eq, beq_true, beq_false, bne_self_eq_false, not_true_eq_false, not_false_eq_true, gt_iff_lt, ge_iff_le, Int.not_lt, Int.not_le, Bool.true_eq_false, Bool.false_eq_true] <;> omega)); conv => whnf)
                    | (refine sel_no ?_ ?_; (first | assumption | (simp only [beq_iff_eq, bne_iff_ne, beq_eq_false_iff_ne, bne_eq_false_iff_eq, decide_eq_true_eq, decide_eq_false_iff_not, Bool.not_eq_true', Bool.not_eq_false', ne_eq, beq_true, beq_false, bne_self_eq_false, not_true_eq_false, not_false_eq_true, gt_iff_lt, ge_iff_le, Int.not_lt, Int.not_le, Bool.true_eq_false, Bool.false_eq_true] <;> omega)); conv => whnf)
                    | (refine ⟨le_rfl' ?_, ?_⟩; rfl; conv => whnf)
                    | (refine ⟨⟨?_, ?_⟩, ?_⟩; omega; omega; conv => whnf)
                    | (refine ⟨⟨?_, ?_, ?_⟩, ?_⟩; rfl; omega; omega; conv => whnf)
                    | (refine ⟨rfl, ?_, ?_⟩; decide; conv => whnf))
                  try exact rfl
                  refine ⟨vi ?_⟩
                  rw [e]; unfold chkN; rw [if_pos (by omega)]; rfl
              · by_cases c6 : by_ s p = 244
                · skip
                  have e : utfN s p = chkN (s.size - p) (by_ s (p + 1)) (by_ s (p + 2)) (by_ s (p + 3)) 4 128 143 := by
                    unfold utfN utfR
                    repeat' split
                    all_goals first | rfl | (exfalso; omega)
                  by_cases d1 : p + 4 ≤ s.size
                  · have hb1 : ((s.data.toList.getD (IntKind.i64.wrap ((p : Int) + 1)).toNat 0).toNat : Int) = (by_ s (p + 1) : Int) := by rw [hw1, Int.toNat_natCast, getD_by s (p + 1) (by omega)]
                    by_cases d2 : 128 ≤ by_ s (p + 1)
                    · by_cases d3 : by_ s (p + 1) ≤ 143
                      · repeat (first
                          | (refine sel_yes ?_ ?_; (first | assumption | (simp only [beq_iff_eq, bne_iff_ne, beq_eq_false_iff_ne, bne_eq_false_iff_eq, decide_eq_true_eq, decide_eq_false_iff_not, Bool.not_eq_true', Bool.not_eq_false', ne_eq, beq_true, beq_false, bne_self_eq_false, not_true_eq_false, not_false_eq_true, gt_iff_lt, ge_iff_le, Int.not_lt, Int.not_le, Bool.true_eq_false, Bool.false_eq_true] <;> omega)); conv => whnf)
                          | (refine sel_no ?_ ?_; (first | assumption | (simp only [beq_iff_eq, bne_iff_ne, beq_eq_false_iff_ne, bne_eq_false_iff_eq, decide_eq_true_eq, decide_eq_false_iff_not, Bool.not_eq_true', Bool.not_eq_false', ne_eq, beq_true, beq_false, bne_self_eq_false, not_true_eq_false, not_false_eq_true, gt_iff_lt, ge_iff_le, Int.not_lt, Int.not_le, Bool.true_eq_false, Bool.false_eq_true] <;> omega)); conv => whnf)
                          | (refine ⟨le_rfl' ?_, ?_⟩; rfl; conv => whnf)
                          | (refine ⟨⟨?_, ?_⟩, ?_⟩; omega; omega; conv => whnf)
                          | (refine ⟨⟨?_, ?_, ?_⟩, ?_⟩; rfl; omega; omega; conv => whnf)
                          | (refine ⟨rfl, ?_, ?_⟩; decide; conv => whnf))
                        try exact rfl
                        refine lutf2 s p hp hs 4 (by decide) d1 _ _ 2 2 _ rfl (by decide) (by decide) ⟨rfl, rfl, rfl, rfl, trivial⟩ rfl (fun z a b => ?_) (fun z a b => ?_)
                        · refine Fin.tmp (i := 4) rfl a (vi ?_)
                          rw [e]
                          unfold chkN
                          repeat' split
                          all_goals first | rfl | (exfalso; exact b (fun j h1 h2 => by (have : j = 2 ∨ j = 3 := by omega); rcases this with rfl | rfl <;> omega))
                        · rw [St.knows _ z.hp.n a rfl]
                          have b2 := b 2 (by decide) (by decide)
                          have b3 := b 3 (by decide) (by decide)
                          conv => whnf
                          refine ⟨vi ?_⟩
                          rw [e]
                          unfold chkN
                          repeat' split
                          all_goals first | rfl | (exfalso; omega)
                      · repeat (first
                          | (refine sel_yes ?_ ?_; (first | assumption | (simp only [beq_iff_eq, bne_iff_ne, beq_eq_false_iff_ne, bne_eq_false_iff_eq, decide_eq_true_eq, decide_eq_false_iff_not, Bool.not_eq_true', Bool.not_eq_false', ne_eq, beq_true, beq_false, bne_self_eq_false, not_true_eq_false, not_false_eq_true, gt_iff_lt, ge_iff_le, Int.not_lt, Int.not_le, Bool.true_eq_false, Bool.false_eq_true] <;> omega)); conv => whnf)
                          | (refine sel_no ?_ ?_; (first | assumption | (simp only [beq_iff_eq, bne_iff_ne, beq_eq_false_iff_ne, bne_eq_false_iff_eq, decide_eq_true_eq, decide_eq_false_iff_not, Bool.not_eq_true', Bool.not_eq_false', ne_eq, beq_true, beq_false, bne_self_eq_false, not_true_eq_false, not_false_eq_true, gt_iff_lt, ge_iff_le, Int.not_lt, Int.not_le, Bool.true_eq_false, Bool.false_eq_true] <;> omega)); conv => whnf)
                          | (refine ⟨le_rfl' ?_, ?_⟩; rfl; conv => whnf)
                          | (refine ⟨⟨?_, ?_⟩, ?_⟩; omega; omega; conv => whnf)
                          | (refine ⟨⟨?_, ?_, ?_⟩, ?_⟩; rfl; omega; omega; conv => whnf)
                          | (refine ⟨rfl, ?_, ?_⟩; decide; conv => whnf))
                        try exact rfl
                        refine ⟨vi ?_⟩
                        rw [e]; unfold chkN; rw [if_neg (by omega), if_pos (by omega)]; rfl
                    · repeat (first
                        | (refine sel_yes ?_ ?_; (first | assumption | (simp only [beq_iff_eq, bne_iff_ne, beq_eq_false_iff_ne, bne_eq_false_iff_eq, decide_eq_true_eq, decide_eq_false_iff_not, Bool.not_eq_true', Bool.not_eq_false', ne_eq, beq_true, beq_false, bne_self_eq_false, not_true_eq_false, not_false_eq_true, gt_iff_lt, ge_iff_le, Int.not_lt, Int.not_le, Bool.true_eq_false, Bool.false_eq_true] <;> omega)); conv => whnf)
                        | (refine sel_no ?_ ?_; (first | assumption | (simp only [beq_iff_eq, bne_iff_ne, beq_eq_false_iff_ne, bne_eq_false_iff_eq, decide_eq_true_eq, decide_eq_false_iff_not, Bool.not_eq_true', Bool.not_eq_false', ne_eq, beq_true, beq_false, bne_self_eq_false, not_true_eq_false, not_false_eq_true, gt_iff_lt, ge_iff_le, Int.not_lt, Int.not_le, Bool.true_eq_false, Bool.false_eq_true] <;> omega)); conv => whnf)
                        | (refine ⟨le_rfl' ?_, ?_⟩; rfl; conv => whnf)
                        | (refine ⟨⟨?_, ?_⟩, ?_⟩; omega; omega; conv => whnf)
                        | (refine ⟨⟨?_, ?_, ?_⟩, ?_⟩; rfl; omega; omega; conv => whnf)
                        | (refine ⟨rfl, ?_, ?_⟩; decide; conv => whnf))
                      try exact rfl
                      refine ⟨vi ?_⟩
                      rw [e]; unfold chkN; rw [if_neg (by omega), if_pos (by omega)]; rfl
                  · repeat (first
                      | (refine sel_yes ?_ ?_; (first | assumption | (simp only [beq_iff_eq, bne_iff_ne, beq_eq_false_iff_ne, bne_eq_false_iff_eq, decide_eq_true_eq, decide_eq_false_iff_not, Bool.not_eq_true', Bool.not_eq_false', ne_eq, beq_true, beq_false, bne_self_eq_false, not_true_eq_false, not_false_eq_true, gt_iff_lt, ge_iff_le, Int.not_lt, Int.not_le, Bool.true_eq_false, Bool.false_eq_true] <;> omega)); conv => whnf)
                      | (refine sel_no ?_ ?_; (first | assumption | (simp only [beq_iff_eq, bne_iff_ne, beq_eq_false_iff_ne, bne_eq_false_iff_eq, decide_eq_true_eq, decide_eq_false_iff_not, Bool.not_eq_true', Bool.not_eq_false', ne_eq, beq_true, beq_false, bne_self_eq_false, not_true_eq_false, not_false_eq_true, gt_iff_lt, ge_iff_le, Int.not_lt, Int.not_le, Bool.true_eq_false, Bool.false_eq_true] <;> omega)); conv => whnf)
                      | (refine ⟨le_rfl' ?_, ?_⟩; rfl; conv => whnf)
                      | (refine ⟨⟨?_, ?_⟩, ?_⟩; omega; omega; conv => whnf)
                      | (refine ⟨⟨?_, ?_, ?_⟩, ?_⟩; rfl; omega; omega; conv => whnf)
                      | (refine ⟨rfl, ?_, ?_⟩; decide; conv => whnf))
                    try exact rfl
                    refine ⟨vi ?_⟩
                    rw [e]; unfold chkN; rw [if_pos (by omega)]; rfl
                · by_cases c7 : 240 ≤ by_ s p ∧ by_ s p ≤ 244
                  · skip
                    have e : utfN s p = chkN (s.size - p) (by_ s (p + 1)) (by_ s (p + 2)) (by_ s (p + 3)) 4 128 191 := by
                      unfold utfN utfR
                      repeat' split
                      all_goals first | rfl | (exfalso; omega)
                    by_cases d1 : p + 4 ≤ s.size
                    · have hb1 : ((s.data.toList.getD (IntKind.i64.wrap ((p : Int) + 1)).toNat 0).toNat : Int) = (by_ s (p + 1) : Int) := by rw [hw1, Int.toNat_natCast, getD_by s (p + 1) (by omega)]
                      by_cases d2 : 128 ≤ by_ s (p + 1)
                      · by_cases d3 : by_ s (p + 1) ≤ 191
                        · repeat (first
                            | (refine sel_yes ?_ ?_; (first | assumption | (simp only [beq_iff_eq, bne_iff_ne, beq_eq_false_iff_ne, bne_eq_false_iff_eq, decide_eq_true_eq, decide_eq_false_iff_not, Bool.not_eq_true', Bool.not_eq_false', ne_eq, beq_true, beq_false, bne_self_eq_false, not_true_eq_false, not_false_eq_true, gt_iff_lt, ge_iff_le, Int.not_lt, Int.not_le, Bool.true_eq_false, Bool.false_eq_true] <;> omega)); conv => whnf)
                            | (refine sel_no ?_ ?_; (first | assumption | (simp only [beq_iff_eq, bne_iff_ne, beq_eq_false_iff_ne, bne_eq_false_iff_eq, decide_eq_true_eq, decide_eq_false_iff_not, Bool.not_eq_true', Bool.not_eq_false', ne_eq, beq_true, beq_false, bne_self_eq_false, not_true_eq_false, not_false_eq_true, gt_iff_lt, ge_iff_le, Int.not_lt, Int.not_le, Bool.true_eq_false, Bool.false_eq_true] <;> omega)); conv => whnf)
                            | (refine ⟨le_rfl' ?_, ?_⟩; rfl; conv => whnf)
                            | (refine ⟨⟨?_, ?_⟩, ?_⟩; omega; omega; conv => whnf)
                            | (refine ⟨⟨?_, ?_, ?_⟩, ?_⟩; rfl; omega; omega; conv => whnf)
                            | (refine ⟨rfl, ?_, ?_⟩; decide; conv => whnf))
                          try exact rfl
                          refine lutf2 s p hp hs 4 (by decide) d1 _ _ 2 2 _ rfl (by decide) (by decide) ⟨rfl, rfl, rfl, rfl, trivial⟩ rfl (fun z a b => ?_) (fun z a b => ?_)
                          · refine Fin.tmp (i := 4) rfl a (vi ?_)
                            rw [e]
                            unfold chkN
                            repeat' split
                            all_goals first | rfl | (exfalso; exact b (fun j h1 h2 => by (have : j = 2 ∨ j = 3 := by omega); rcases this with rfl | rfl <;> omega))
                          · rw [St.knows _ z.hp.n a rfl]
                            have b2 := b 2 (by decide) (by decide)
                            have b3 := b 3 (by decide) (by decide)
                            conv => whnf
                            refine ⟨vi ?_⟩
                            rw [e]
                            unfold chkN
                            repeat' split
                            all_goals first | rfl | (exfalso; omega)
                        · repeat (first
                            | (refine sel_yes ?_ ?_; (first | assumption | (simp only [beq_iff_eq, bne_iff_ne, beq_eq_false_iff_ne, bne_eq_false_iff_eq, decide_eq_true_eq, decide_eq_false_iff_not, Bool.not_eq_true', Bool.not_eq_false', ne_eq, beq_true, beq_false, bne_self_eq_false, not_true_eq_false, not_false_eq_true, gt_iff_lt, ge_iff_le, Int.not_lt, Int.not_le, Bool.true_eq_false, Bool.false_eq_true] <;> omega)); conv => whnf)
                            | (refine sel_no ?_ ?_; (first | assumption | (simp only [beq_iff_eq, bne_iff_ne, beq_eq_false_iff_ne, bne_eq_false_iff_eq, decide_eq_true_eq, decide_eq_false_iff_not, Bool.not_eq_true', Bool.not_eq_false', ne_eq, beq_true, beq_false, bne_self_eq_false, not_true_eq_false, not_false_eq_true, gt_iff_lt, ge_iff_le, Int.not_lt, Int.not_le, Bool.true_eq_false, Bool.false_eq_true] <;> omega)); conv => whnf)
                            | (refine ⟨le_rfl' ?_, ?_⟩; rfl; conv => whnf)
                            | (refine ⟨⟨?_, ?_⟩, ?_⟩; omega; omega; conv => whnf)
                            | (refine ⟨⟨?_, ?_, ?_⟩, ?_⟩; rfl; omega; omega; conv => whnf)
                            | (refine ⟨rfl, ?_, ?_⟩; decide; conv => whnf))
                          try exact rfl
                          refine ⟨vi ?_⟩
                          rw [e]; unfold chkN; rw [if_neg (by omega), if_pos (by omega)]; rfl
                      · repeat (first
                          | (refine sel_yes ?_ ?_; (first | assumption | (simp only [beq_iff_eq, bne_iff_ne, beq_eq_false_iff_ne, bne_eq_false_iff_eq, decide_eq_true_eq, decide_eq_false_iff_not, Bool.not_eq_true', Bool.not_eq_false', ne_eq, beq_true, beq_false, bne_self_eq_false, not_true_eq_false, not_false_eq_true, gt_iff_lt, ge_iff_le, Int.not_lt, Int.not_le, Bool.true_eq_false, Bool.false_eq_true] <;> omega)); conv => whnf)
                          | (refine sel_no ?_ ?_; (first | assumption | (simp only [beq_iff_eq, bne_iff_ne, beq_eq_false_iff_ne, bne_eq_false_iff_eq, decide_eq_true_eq, decide_eq_false_iff_not, Bool.not_eq_true', Bool.not_eq_false', ne_eq, beq_true, beq_false, bne_self_eq_false, not_true_eq_false, not_false_eq_true, gt_iff_lt, ge_iff_le, Int.not_lt, Int.not_le, Bool.true_eq_false, Bool.false_eq_true] <;> omega)); conv => whnf)
                          | (refine ⟨le_rfl' ?_, ?_⟩; rfl; conv => whnf)
                          | (refine ⟨⟨?_, ?_⟩, ?_⟩; omega; omega; conv => whnf)
                          | (refine ⟨⟨?_, ?_, ?_⟩, ?_⟩; rfl; omega; omega; conv => whnf)
                          | (refine ⟨rfl, ?_, ?_⟩; decide; conv => whnf))
                        try exact rfl
                        refine ⟨vi ?_⟩
                        rw [e]; unfold chkN; rw [if_neg (by omega), if_pos (by omega)]; rfl
                    · repeat (first
                        | (refine sel_yes ?_ ?_; (first | assumption | (simp only [beq_iff_eq, bne_iff_ne, beq_eq_false_iff_ne, bne_eq_false_iff_eq, decide_eq_true_eq, decide_eq_false_iff_not, Bool.not_eq_true', Bool.not_eq_false', ne_eq, beq_true, beq_false, bne_self_eq_false, not_true_eq_false, not_false_eq_true, gt_iff_lt, ge_iff_le, Int.not_lt, Int.not_le, Bool.true_eq_false, Bool.false_eq_true] <;> omega)); conv => whnf)
                        | (refine sel_no ?_ ?_; (first | assumption | (simp only [beq_iff_eq, bne_iff_ne, beq_eq_false_iff_ne, bne_eq_false_iff_eq, decide_eq_true_eq, decide_eq_false_iff_not, Bool.not_eq_true', Bool.not_eq_false', ne_eq, beq_true, beq_false, bne_self_eq_false, not_true_eq_false, not_false_eq_true, gt_iff_lt, ge_iff_le, Int.not_lt, Int.not_le, Bool.true_eq_false, Bool.false_eq_true] <;> omega)); conv => whnf)
                        | (refine ⟨le_rfl' ?_, ?_⟩; rfl; conv => whnf)
                        | (refine ⟨⟨?_, ?_⟩, ?_⟩; omega; omega; conv => whnf)
                        | (refine ⟨⟨?_, ?_, ?_⟩, ?_⟩; rfl; omega; omega; conv => whnf)
                        | (refine ⟨rfl, ?_, ?_⟩; decide; conv => whnf))
                      try exact rfl
                      refine ⟨vi ?_⟩
                      rw [e]; unfold chkN; rw [if_pos (by omega)]; rfl
                  · have e : utfN s p = 0 := by
                      unfold utfN utfR
                      repeat' split
                      all_goals first | rfl | (exfalso; omega)
                    by_cases c9 : by_ s p < 194
                    · repeat (first
                        | (refine sel_yes ?_ ?_; (first | assumption | (simp only [beq_iff_eq, bne_iff_ne, beq_eq_false_iff_ne, bne_eq_false_iff_eq, decide_eq_true_eq, decide_eq_false_iff_not, Bool.not_eq_true', Bool.not_eq_false', ne_eq, beq_true, beq_false, bne_self_eq_false, not_true_eq_false, not_false_eq_true, gt_iff_lt, ge_iff_le, Int.not_lt, Int.not_le, Bool.true_eq_false, Bool.false_eq_true] <;> omega)); conv => whnf)
                        | (refine sel_no ?_ ?_; (first | assumption | (simp only [beq_iff_eq, bne_iff_ne, beq_eq_false_iff_ne, bne_eq_false_iff_eq, decide_eq_true_eq, decide_eq_false_iff_not, Bool.not_eq_true', Bool.not_eq_false', ne_eq, beq_true, beq_false, bne_self_eq_false, not_true_eq_false, not_false_eq_true, gt_iff_lt, ge_iff_le, Int.not_lt, Int.not_le, Bool.true_eq_false, Bool.false_eq_true] <;> omega)); conv => whnf)
                        | (refine ⟨le_rfl' ?_, ?_⟩; rfl; conv => whnf)
                        | (refine ⟨⟨?_, ?_⟩, ?_⟩; omega; omega; conv => whnf)
                        | (refine ⟨⟨?_, ?_, ?_⟩, ?_⟩; rfl; omega; omega; conv => whnf)
                        | (refine ⟨rfl, ?_, ?_⟩; decide; conv => whnf))
                      try exact rfl
                      exact ⟨vi (by rw [e]; rfl)⟩
                    · repeat (first
                        | (refine sel_yes ?_ ?_; (first | assumption | (simp only [beq_iff_eq, bne_iff_ne, beq_eq_false_iff_ne, bne_eq_false_iff_eq, decide_eq_true_eq, decide_eq_false_iff_not, Bool.not_eq_true', Bool.not_eq_false', ne_eq, beq_true, beq_false, bne_self_eq_false, not_true_eq_false, not_false_eq_true, gt_iff_lt, ge_iff_le, Int.not_lt, Int.not_le, Bool.true_eq_false, Bool.false_eq_true] <;> omega)); conv => whnf)
                        | (refine sel_no ?_ ?_; (first | assumption | (simp only [beq_iff_eq, bne_iff_ne, beq_eq_false_iff_ne, bne_eq_false_iff_eq, decide_eq_true_eq, decide_eq_false_iff_not, Bool.not_eq_true', Bool.not_eq_false', ne_eq, beq_true, beq_false, bne_self_eq_false, not_true_eq_false, not_false_eq_true, gt_iff_lt, ge_iff_le, Int.not_lt, Int.not_le, Bool.true_eq_false, Bool.false_eq_true] <;> omega)); conv => whnf)
                        | (refine ⟨le_rfl' ?_, ?_⟩; rfl; conv => whnf)
                        | (refine ⟨⟨?_, ?_⟩, ?_⟩; omega; omega; conv => whnf)
                        | (refine ⟨⟨?_, ?_, ?_⟩, ?_⟩; rfl; omega; omega; conv => whnf)
                        | (refine ⟨rfl, ?_, ?_⟩; decide; conv => whnf))
                      try exact rfl
                      exact ⟨vi (by rw [e]; rfl)⟩
  obtain ⟨r, h, rfl⟩ := key
  exact h
end
end Go.Proofs.YtjfjagnnefmepaaDoor.AB
end

section
set_option linter.unusedVariables false
set_option linter.unusedSimpArgs false
open Go Go.Ab Go.Proofs Go.Vl
namespace Go.Proofs.YtjfjagnnefmepaaDoor.AB
set_option maxRecDepth 100000
set_option maxHeartbeats 8000000
set_option linter.unusedSimpArgs false
section
variable {ext : Exts}
/-- how many letters a text has from a place on; none: it is no UTF-8 -/
def lettersF (s : ByteArray) : Nat → Nat → Option Nat
  | 0, _ => some 0
  | f + 1, p => if p < s.size then (if utfN s p = 0 then none else (lettersF s f (p + utfN s p)).map (· + 1)) else some 0
theorem utfGo_letters (s : ByteArray) : ∀ (f p : Nat), (lettersF s f p).isSome = utfGo s f p
  | 0, p => rfl
  | f + 1, p => by
    simp only [lettersF, utfGo]
    by_cases h : p < s.size
    · rw [if_pos h, if_pos h]
      rcases utfN_dec s p with ⟨e, hb⟩ | ⟨e, h0, hb⟩
      · rw [if_pos e, if_pos (show (Utf8.decode s p).1 = 65533 ∧ (Utf8.decode s p).2 = 1 from hb)]; rfl
      · rw [if_neg (by omega), if_neg (show ¬ ((Utf8.decode s p).1 = 65533 ∧ (Utf8.decode s p).2 = 1) from hb), e]
        rw [← utfGo_letters s f]
        cases lettersF s f (p + (Utf8.decode s p).2) <;> rfl
    · rw [if_neg h, if_neg h]; rfl
theorem lletters (hn : Non ext) (s : ByteArray) (hs : s.size ≤ 4611686018427387904) (Q : Ex → St → Prop) (f : Nat) :
    ∀ (p c : Nat) (z : St), s.size ≤ p + f → p ≤ s.size + 4 → c ≤ p → Has z.t [(4, .int .i64 p), (3, .int .i64 c), (0, .str s)] → z.hp.n = 3 →
      (∀ z' : St, z'.t 2 = .int .i64 (-1) → lettersF s f p = none → Q .ret z') →
      (∀ (z' : St) (k : Nat), Has z'.t [(3, .int .i64 ((c + k : Nat) : Int))] → lettersF s f p = some k → Q (.exit 0) z') →
      Go.Ab.Loop (cfg ext) (lpOf Tryd.f105) 3 z Q := by
  induction f with
  | zero =>
    intro p c z hf hp hc ht hz hr hq
    have g : decide ((p : Int) < (s.size : Int)) = false := decide_eq_false (by omega)
    rw [St.knows _ _ ht hz]
    refine Loop.round ?_
    conv => whnf
    repeat (first
      | (refine sel_yes ?_ ?_; (first | assumption | (simp only [beq_iff_eq, bne_iff_ne, beq_eq_false_iff_ne, bne_eq_false_iff_eq, decide_eq_true_eq, decide_eq_false_iff_not, Bool.not_eq_true', Bool.not_eq_false', ne_eq, beq_true, beq_false, bne_self_eq_false, not_true_eq_false, not_false_eq_true, gt_iff_lt, ge_iff_le, Int.not_lt, Int.not_le, Bool.true_eq_false, Bool.false_eq_true] <;> omega)); conv => whnf)
      | (refine sel_no ?_ ?_; (first | assumption | (simp only [beq_iff_eq, bne_iff_ne, beq_eq_false_iff_ne, bne_eq_false_iff_eq, decide_eq_true_eq, decide_eq_false_iff_not, Bool.not_eq_true', Bool.not_eq_false', ne_eq, beq_true, beq_false, bne_self_eq_false, not_true_eq_false, not_false_eq_true, gt_iff_lt, ge_iff_le, Int.not_lt, Int.not_le, Bool.true_eq_false, Bool.false_eq_true] <;> omega)); conv => whnf)
      | (refine ⟨le_rfl' ?_, ?_⟩; rfl; conv => whnf)
      | (refine ⟨⟨?_, ?_⟩, ?_⟩; omega; omega; conv => whnf)
      | (refine ⟨⟨?_, ?_, ?_⟩, ?_⟩; rfl; omega; omega; conv => whnf)
      | (refine ⟨rfl, ?_, ?_⟩; decide; conv => whnf))
    try exact rfl
    exact hq _ 0 ⟨rfl, trivial⟩ rfl
  | succ f ih =>
    intro p c z hf hp hc ht hz hr hq
    by_cases h : p < s.size
    · have g : decide ((p : Int) < (s.size : Int)) = true := decide_eq_true (by omega)
      have hu := rutf hn s p h hs
      have el : lettersF s (f + 1) p = if utfN s p = 0 then none else (lettersF s f (p + utfN s p)).map (· + 1) := by simp only [lettersF]; rw [if_pos h]
      by_cases h0 : utfN s p = 0
      · rw [if_pos h0] at el
        rw [h0] at hu
        rw [St.knows _ _ ht hz]
        refine Loop.round ?_
        conv => whnf
        repeat (first
          | (refine sel_yes ?_ ?_; (first | assumption | (simp only [beq_iff_eq, bne_iff_ne, beq_eq_false_iff_ne, bne_eq_false_iff_eq, decide_eq_true_eq, decide_eq_false_iff_not, Bool.not_eq_true', Bool.not_eq_false', ne_eq, beq_true, beq_false, bne_self_eq_false, not_true_eq_false, not_false_eq_true, gt_iff_lt, ge_iff_le, Int.not_lt, Int.not_le, Bool.true_eq_false, Bool.false_eq_true] <;> omega)); conv => whnf)
          | (refine sel_no ?_ ?_; (first | assumption | (simp only [beq_iff_eq, bne_iff_ne, beq_eq_false_iff_ne, bne_eq_false_iff_eq, decide_eq_true_eq, decide_eq_false_iff_not, Bool.not_eq_true', Bool.not_eq_false', ne_eq, beq_true, beq_false, bne_self_eq_false, not_true_eq_false, not_false_eq_true, gt_iff_lt, ge_iff_le, Int.not_lt, Int.not_le, Bool.true_eq_false, Bool.false_eq_true] <;> omega)); conv => whnf)
          | (refine ⟨_, hu, ?_⟩; conv => whnf)
          | (refine ⟨le_rfl' ?_, ?_⟩; rfl; conv => whnf)
          | (refine ⟨⟨?_, ?_⟩, ?_⟩; omega; omega; conv => whnf)
          | (refine ⟨⟨?_, ?_, ?_⟩, ?_⟩; rfl; omega; omega; conv => whnf)
          | (refine ⟨rfl, ?_, ?_⟩; decide; conv => whnf))
        try exact rfl
        exact hr _ rfl el
      · rw [if_neg h0] at el
        have hle : utfN s p ≤ 4 := by
          rcases utfN_dec s p with ⟨e, _⟩ | ⟨e, _, _⟩
          · omega
          · have := dec_le s p; omega
        have g0 : ((utfN s p : Int) == 0) = false := by rw [beq_eq_false_iff_ne]; omega
        have hw1 : IntKind.i64.wrap ((p : Int) + (utfN s p : Int)) = ((p + utfN s p : Nat) : Int) := by rw [IntKind.wrap_i64]; omega
        have hw2 : IntKind.i64.wrap ((c : Int) + 1) = ((c + 1 : Nat) : Int) := by rw [IntKind.wrap_i64]; omega
        rw [St.knows _ _ ht hz]
        refine Loop.round ?_
        conv => whnf
        repeat (first
          | (refine sel_yes ?_ ?_; (first | assumption | (simp only [beq_iff_eq, bne_iff_ne, beq_eq_false_iff_ne, bne_eq_false_iff_eq, decide_eq_true_eq, decide_eq_false_iff_not, Bool.not_eq_true', Bool.not_eq_false', ne_eq, beq_true, beq_false, bne_self_eq_false, not_true_eq_false, not_false_eq_true, gt_iff_lt, ge_iff_le, Int.not_lt, Int.not_le, Bool.true_eq_false, Bool.false_eq_true] <;> omega)); conv => whnf)
          | (refine sel_no ?_ ?_; (first | assumption | (simp only [beq_iff_eq, bne_iff_ne, beq_eq_false_iff_ne, bne_eq_false_iff_eq, decide_eq_true_eq, decide_eq_false_iff_not, Bool.not_eq_true', Bool.not_eq_false', ne_eq, beq_true, beq_false, bne_self_eq_false, not_true_eq_false, not_false_eq_true, gt_iff_lt, ge_iff_le, Int.not_lt, Int.not_le, Bool.true_eq_false, Bool.false_eq_true] <;> omega)); conv => whnf)
          | (refine ⟨_, hu, ?_⟩; conv => whnf)
          | (refine ⟨le_rfl' ?_, ?_⟩; rfl; conv => whnf)
          | (refine ⟨⟨?_, ?_⟩, ?_⟩; omega; omega; conv => whnf)
          | (refine ⟨⟨?_, ?_, ?_⟩, ?_⟩; rfl; omega; omega; conv => whnf)
          | (refine ⟨rfl, ?_, ?_⟩; decide; conv => whnf))
        try exact rfl
        refine ih (p + utfN s p) (c + 1) _ (by omega) (by omega) (by omega) ⟨?_, ?_, rfl, trivial⟩ rfl (fun z' a b => hr z' a (by rw [el, b]; rfl)) (fun z' k a b => hq z' (k + 1) (by rw [show c + (k + 1) = c + 1 + k by omega]; exact a) (by rw [el, b]; rfl))
        · conv => lhs; whnf
          exact vi hw1
        · conv => lhs; whnf
          exact vi hw2
    · have g : decide ((p : Int) < (s.size : Int)) = false := decide_eq_false (by omega)
      rw [St.knows _ _ ht hz]
      refine Loop.round ?_
      conv => whnf
      repeat (first
        | (refine sel_yes ?_ ?_; (first | assumption | (simp only [beq_iff_eq, bne_iff_ne, beq_eq_false_iff_ne, bne_eq_false_iff_eq, decide_eq_true_eq, decide_eq_false_iff_not, Bool.not_eq_true', Bool.not_eq_false', ne_eq, beq_true, beq_false, bne_self_eq_false, not_true_eq_false, not_false_eq_true, gt_iff_lt, ge_iff_le, Int.not_lt, Int.not_le, Bool.true_eq_false, Bool.false_eq_true] <;> omega)); conv => whnf)
        | (refine sel_no ?_ ?_; (first | assumption | (simp only [beq_iff_eq, bne_iff_ne, beq_eq_false_iff_ne, bne_eq_false_iff_eq, decide_eq_true_eq, decide_eq_false_iff_not, Bool.not_eq_true', Bool.not_eq_false', ne_eq, beq_true, beq_false, bne_self_eq_false, not_true_eq_false, not_false_eq_true, gt_iff_lt, ge_iff_le, Int.not_lt, Int.not_le, Bool.true_eq_false, Bool.false_eq_true] <;> omega)); conv => whnf)
        | (refine ⟨le_rfl' ?_, ?_⟩; rfl; conv => whnf)
        | (refine ⟨⟨?_, ?_⟩, ?_⟩; omega; omega; conv => whnf)
        | (refine ⟨⟨?_, ?_, ?_⟩, ?_⟩; rfl; omega; omega; conv => whnf)
        | (refine ⟨rfl, ?_, ?_⟩; decide; conv => whnf))
      try exact rfl
      exact hq _ 0 ⟨rfl, trivial⟩ (by simp only [lettersF]; rw [if_neg h])
/-- how many letters a text has; below 0: it is no UTF-8 -/
def lettersZ (s : ByteArray) : Int := match lettersF s s.size 0 with | some k => k | none => -1
theorem rletters (hn : Non ext) (s : ByteArray) (hs : s.size ≤ 4611686018427387904) : (cfg ext).Ev 105 [.str s] (.int .i64 (lettersZ s)) := by
  have key : ∃ r, (cfg ext).Ev 105 [.str s] r ∧ r = .int .i64 (lettersZ s) := by
    refine Ev.ofF (hn 105 (by decide) (by decide)) Tryd.func105 rfl rfl ?_
    conv => whnf
    refine lletters hn s hs _ s.size 0 0 _ (by omega) (by omega) (Nat.le_refl _) ⟨rfl, rfl, rfl, trivial⟩ rfl (fun z a b => ?_) (fun z k a b => ?_)
    · exact Fin.tmp (i := 2) rfl a (vi (by unfold lettersZ; rw [b]))
    · rw [St.knows _ z.hp.n a rfl]
      conv => whnf
      exact ⟨vi (by unfold lettersZ; rw [b]; simp)⟩
  obtain ⟨r, h, rfl⟩ := key
  exact h
theorem letters_ok (s : ByteArray) : decide (lettersZ s ≥ 0) = utfB s := by
  have := utfGo_letters s s.size 0
  unfold utfB
  rw [← this]
  unfold lettersZ
  cases lettersF s s.size 0 with
  | none => rfl
  | some k => simp
end
end Go.Proofs.YtjfjagnnefmepaaDoor.AB
end

section
set_option linter.unusedVariables false
set_option linter.unusedSimpArgs false
open Go Go.Ab Go.Proofs Go.Vl
namespace Go.Proofs.YtjfjagnnefmepaaDoor.AB
set_option maxRecDepth 100000
set_option maxHeartbeats 8000000
set_option linter.unusedSimpArgs false
section
variable {ext : Exts}
noncomputable def propB (p : Prop) : Bool := @decide p (Classical.propDecidable p)
theorem propB_iff {p : Prop} : propB p = true ↔ p := by unfold propB; exact @decide_eq_true_iff p (Classical.propDecidable p)
theorem propB_yes {p : Prop} (h : p) : propB p = true := propB_iff.2 h
theorem propB_no {p : Prop} (h : ¬ p) : propB p = false := by
  cases e : propB p with
  | false => rfl
  | true => exact absurd (propB_iff.1 e) h
/-- from a place on, a row rises -/
def RiseF (st : Nat) (l : List T) (i : Nat) : Prop := ∀ j, i ≤ j → j % st = 0 → ∀ (h : j < l.length) (h0 : st ≤ j), cmpV (l[j - st]'(by omega)) (l[j]) < 0
theorem rise_F {st : Nat} (hst : 0 < st) (l : List T) : RiseF st l st ↔ Rise st l := by
  constructor
  · intro h i hi hlt
    have := h (i + st) (by omega) (by rw [Nat.add_mod_right]; exact hi) hlt (by omega)
    simpa using this
  · intro h j h1 h2 h3 h4
    have := h (j - st) (by have := Nat.sub_add_cancel h4; rw [← this, Nat.add_mod_right] at h2; exact h2) (by omega)
    simpa [Nat.sub_add_cancel h4] using this
theorem lown01 (k n : Int) (t : ByteArray) (l : List T) (hl : l.length ≤ 1024) (E : ∀ a ∈ l, ∀ b ∈ l, (cfg ext).Ev 107 [A a, A b] (.int .i64 (cmpV a b))) (st : Nat) (hst : st = 1 ∨ st = 2) (N : Nat) (Q : Ex → St → Prop) (d : Nat) :
    ∀ (i : Nat) (z : St), l.length ≤ i + st * d → i ≤ l.length + 2 → st ≤ i → i % st = 0 → Has z.t [(4, .int .i64 i), (3, .int .i64 st), (1, .ref 0 0)] → Has z.hp.h [(0, some (.cells (encX' k n t l) false))] → z.hp.n = N + 1 →
      (∀ z' : St, z'.t 2 = .bool false → ¬ RiseF st l i → Q .ret z') → (∀ z' : St, RiseF st l i → Q (.exit 0) z') →
      Go.Ab.Loop (cfg ext) (lpOf Tryd.f81) (N + 1) z Q := by
  induction d with
  | zero =>
    intro i z hd hi h1 hm ht hh hz hr hq
    have g : decide ((i : Int) < (l.length : Int)) = false := decide_eq_false (by omega)
    rw [St.knows _ _ ht hz _ hh]
    refine Loop.round ?_
    conv => whnf
    repeat (first
      | (refine sel_yes ?_ ?_; (first | assumption | (simp only [beq_iff_eq, bne_iff_ne, beq_eq_false_iff_ne, bne_eq_false_iff_eq, decide_eq_true_eq, decide_eq_false_iff_not, Bool.not_eq_true', Bool.not_eq_false', ne_eq, beq_true, beq_false, bne_self_eq_false, not_true_eq_false, not_false_eq_true, gt_iff_lt, ge_iff_le, Int.not_lt, Int.not_le, Bool.true_eq_false, Bool.false_eq_true] <;> omega)); conv => whnf)
      | (refine sel_no ?_ ?_; (first | assumption | (simp only [beq_iff_eq, bne_iff_ne, beq_eq_false_iff_ne, bne_eq_false_iff_eq, decide_eq_true_eq, decide_eq_false_iff_not, Bool.not_eq_true', Bool.not_eq_false', ne_eq, beq_true, beq_false, bne_self_eq_false, not_true_eq_false, not_false_eq_true, gt_iff_lt, ge_iff_le, Int.not_lt, Int.not_le, Bool.true_eq_false, Bool.false_eq_true] <;> omega)); conv => whnf)
      | (refine ⟨le_rfl' ?_, ?_⟩; rfl; conv => whnf)
      | (refine ⟨⟨?_, ?_⟩, ?_⟩; omega; omega; conv => whnf)
      | (refine ⟨⟨?_, ?_, ?_⟩, ?_⟩; rfl; omega; omega; conv => whnf)
      | (refine ⟨rfl, ?_, ?_⟩; decide; conv => whnf))
    try exact rfl
    exact hq _ (fun j h2 h3 h4 _ => by omega)
  | succ d ih =>
    intro i z hd hi h1 hm ht hh hz hr hq
    by_cases hlt : i < l.length
    · have g : decide ((i : Int) < (l.length : Int)) = true := decide_eq_true (by omega)
      have hE := E _ (List.getElem_mem (show i - st < l.length by omega)) _ (List.getElem_mem hlt)
      have hw : IntKind.i64.wrap ((i : Int) - (st : Int)) = ((i - st : Nat) : Int) := by rw [IntKind.wrap_i64]; omega
      have hw1 : IntKind.i64.wrap ((i : Int) + (st : Int)) = ((i + st : Nat) : Int) := by rw [IntKind.wrap_i64]; omega
      have hto : (IntKind.i64.wrap ((i : Int) - (st : Int))).toNat = i - st := by rw [hw, Int.toNat_natCast]
      have hld : ∀ {Q : V → Prop}, Q (A (l[i - st]'(by omega))) → (IntKind.i64.wrap ((i : Int) - (st : Int))).toNat * 4 + 4 ≤ (encL l).length ∧ opt (one (some true) (sub (encL l) ((IntKind.i64.wrap ((i : Int) - (st : Int))).toNat * 4) 4)) fun v => fv v Q := by
        intro Q hq
        rw [hto]
        exact ldA (by omega) hq
      rw [St.knows _ _ ht hz _ hh]
      refine Loop.round ?_
      conv => whnf
      repeat (first
        | (refine sel_yes ?_ ?_; (first | assumption | (simp only [beq_iff_eq, bne_iff_ne, beq_eq_false_iff_ne, bne_eq_false_iff_eq, decide_eq_true_eq, decide_eq_false_iff_not, Bool.not_eq_true', Bool.not_eq_false', ne_eq, beq_true, beq_false, bne_self_eq_false, not_true_eq_false, not_false_eq_true, gt_iff_lt, ge_iff_le, Int.not_lt, Int.not_le, Bool.true_eq_false, Bool.false_eq_true] <;> omega)); conv => whnf)
        | (refine sel_no ?_ ?_; (first | assumption | (simp only [beq_iff_eq, bne_iff_ne, beq_eq_false_iff_ne, bne_eq_false_iff_eq, decide_eq_true_eq, decide_eq_false_iff_not, Bool.not_eq_true', Bool.not_eq_false', ne_eq, beq_true, beq_false, bne_self_eq_false, not_true_eq_false, not_false_eq_true, gt_iff_lt, ge_iff_le, Int.not_lt, Int.not_le, Bool.true_eq_false, Bool.false_eq_true] <;> omega)); conv => whnf)
        | (refine ⟨le_rfl' ?_, ?_⟩; rfl; conv => whnf)
        | (refine ⟨⟨?_, ?_⟩, ?_⟩; omega; omega; conv => whnf)
        | (refine ⟨⟨?_, ?_, ?_⟩, ?_⟩; rfl; omega; omega; conv => whnf)
        | (refine ⟨rfl, ?_, ?_⟩; decide; conv => whnf))
      try exact rfl
      refine hld ?_
      conv => whnf
      refine ⟨⟨by omega, by omega⟩, ?_⟩
      conv => whnf
      refine ldA (i := i) hlt ?_
      conv => whnf
      refine ⟨_, hE, ?_⟩
      conv => whnf
      by_cases hc : cmpV (l[i - st]'(by omega)) l[i] < 0
      · have hc' : decide (cmpV (l[i - st]'(by omega)) l[i] ≥ 0) = false := decide_eq_false (by omega)
        refine sel_no hc' ?_
        conv => whnf
        refine ih (i + st) _ (by rw [Nat.mul_succ] at hd; omega) (by omega) (by omega) (by rw [Nat.add_mod_right]; exact hm) ⟨?_, rfl, rfl, trivial⟩ ⟨?_, trivial⟩ rfl (fun z' a b => hr z' a (fun g => b (fun j h2 h3 h4 h5 => g j (by omega) h3 h4 h5))) (fun z' a => hq z' (fun j h2 h3 h4 h5 => ?_))
        · conv => lhs; whnf
          exact vi hw1
        · rfl
        · by_cases hj : i + st ≤ j
          · exact a j hj h3 h4 h5
          · obtain rfl : j = i := by
              rcases hst with rfl | rfl <;> omega
            exact hc
      · have hc' : decide (cmpV (l[i - st]'(by omega)) l[i] ≥ 0) = true := decide_eq_true (by omega)
        refine sel_yes hc' ?_
        conv => whnf
        exact hr _ rfl (fun g => hc (g i (Nat.le_refl _) hm hlt h1))
    · have g : decide ((i : Int) < (l.length : Int)) = false := decide_eq_false (by omega)
      rw [St.knows _ _ ht hz _ hh]
      refine Loop.round ?_
      conv => whnf
      repeat (first
        | (refine sel_yes ?_ ?_; (first | assumption | (simp only [beq_iff_eq, bne_iff_ne, beq_eq_false_iff_ne, bne_eq_false_iff_eq, decide_eq_true_eq, decide_eq_false_iff_not, Bool.not_eq_true', Bool.not_eq_false', ne_eq, beq_true, beq_false, bne_self_eq_false, not_true_eq_false, not_false_eq_true, gt_iff_lt, ge_iff_le, Int.not_lt, Int.not_le, Bool.true_eq_false, Bool.false_eq_true] <;> omega)); conv => whnf)
        | (refine sel_no ?_ ?_; (first | assumption | (simp only [beq_iff_eq, bne_iff_ne, beq_eq_false_iff_ne, bne_eq_false_iff_eq, decide_eq_true_eq, decide_eq_false_iff_not, Bool.not_eq_true', Bool.not_eq_false', ne_eq, beq_true, beq_false, bne_self_eq_false, not_true_eq_false, not_false_eq_true, gt_iff_lt, ge_iff_le, Int.not_lt, Int.not_le, Bool.true_eq_false, Bool.false_eq_true] <;> omega)); conv => whnf)
        | (refine ⟨le_rfl' ?_, ?_⟩; rfl; conv => whnf)
        | (refine ⟨⟨?_, ?_⟩, ?_⟩; omega; omega; conv => whnf)
        | (refine ⟨⟨?_, ?_, ?_⟩, ?_⟩; rfl; omega; omega; conv => whnf)
        | (refine ⟨rfl, ?_, ?_⟩; decide; conv => whnf))
      try exact rfl
      exact hq _ (fun j h2 h3 h4 _ => by omega)
end
end Go.Proofs.YtjfjagnnefmepaaDoor.AB
end
