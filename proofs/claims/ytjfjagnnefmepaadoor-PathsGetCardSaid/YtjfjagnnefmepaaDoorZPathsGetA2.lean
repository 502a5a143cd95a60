/- What PathsGet is proved with: an evaluator of the model's code over data, and that the machine does what it says. -/
import Derived.Test.YtjfjagnnefmepaaDoorZPathsGetA1
import Derived.Lib.Overlaps
import Derived.Laws.Externs
import Derived.Laws.Append
section
set_option linter.unusedVariables false
set_option linter.unusedSimpArgs false
set_option linter.unusedSimpArgs false
set_option linter.unusedVariables false
namespace Go.Ab
open Go.RowKit
section
variable {C : Cfg} {L : World → Prop} {X : Value → Prop} {ops : Array Oper} {i : Nat} {n0 m0 : Nat} {s : St}

/-- an operation that only looks -/
theorem OpW.same {o : Oper} {v : V} (hg : o.guard = none)
    (h : ∀ (base : Nat) (ow : Nat → Option (Bool × Nat)) (G : Gh) (a : Act) (w : World), HSimO base ow G s.hp w → TOK G w s.t a.tmps → ∃ x, (execOp a.eval o).run C.P w = .ok (.value x) w ∧ VR G w v x) : OpW C L ops i o n0 m0 s (fun s' => s' = s.put o.dst v) X := by
  refine ⟨fun base G0 w0 hp0 N a w G U K E hL R hU hi hd hK hE => wpOp_at hi (wanted_none hg _) ?_⟩
  obtain ⟨ow, hs⟩ := R.inv.sim
  obtain ⟨x, h1, h2⟩ := h base ow G a w hs R.t
  unfold Oper.wp
  rw [h1, Oper.upon_value]
  exact hK _ _ _ G rfl (R.step hU hd (hp' := s.hp) R.inv.sim (Grow.refl _ _) (Below.refl _ _) rfl rfl (fun _ _ => rfl) (fun _ _ h => h) (fun _ _ h _ => h) h2)

theorem OpW.mono {o : Oper} {Q Q' : St → Prop} (h : OpW C L ops i o n0 m0 s Q X) (hq : ∀ s', Q s' → Q' s') : OpW C L ops i o n0 m0 s Q' X :=
  ⟨fun base G0 w0 hp0 N a w G U K E hL R hU hi hd hK hE => h.out base G0 w0 hp0 N a w G U K E hL R hU hi hd (fun s' a' w' G' q R' => hK s' a' w' G' (hq _ q) R') hE⟩

theorem OpW.cap {o : Oper} {x : Operand} {ty : Nat} {b v n k : Nat} {A : Arr} (ho : o.op = .call ⟨.builtin .cap, #[x], #[ty]⟩) (hg : o.guard = none) (ht : isSlT C.P ty = true) (hx : val s.t x = .rsl false b v 0 n) (hA : s.hp.a b = some A) (hv : A.ver = v) (hk : A.cap = some k) (hz : A.sz ≠ 0) :
    OpW C L ops i o n0 m0 s (fun s' => s' = s.put o.dst (.int .i64 k)) X := by
  refine OpW.same hg fun base ow G a w hs ht' => ?_
  have hv' := eval_ok ht' x
  rw [hx] at hv'
  obtain ⟨r, z, D, o', cap, h1, h2, h3, h4, h5, h6⟩ := hv'
  obtain ⟨r1, D1, g1, g2, g3, ⟨arr, te, g4, g5, g6, g7, g8, g9, _⟩, _⟩ := hs.arr b A hA
  rw [hv] at g1
  rw [h1] at g1
  cases g1
  have e1 := (g9 k hk).1
  have e2 := h6 rfl
  have e3 : cap = k := by
    rw [Nat.zero_add] at e2
    exact Nat.eq_of_mul_eq_mul_right (Nat.pos_of_ne_zero hz) (by rw [e2]; exact e1)
  subst e3
  obtain ⟨e, hu⟩ := isSlT_spec ht
  obtain ⟨dst, op, ty', pos, after, guard⟩ := o
  simp only at ho
  subst ho
  refine ⟨goInt cap, ?_, by simp [VR, goInt]⟩
  simp [execOp, resolve, invoke, builtin, Builtin.cap_, h2, run_underlying hu]

/-- x[:hi], and hi goes beyond the length, within the room -/
theorem OpW.sliceTo {o : Oper} {x hi : Operand} {t e : Nat} {b v n k h : Nat} {A : Arr} (ho : o.op = .slice t x none (some hi) none) (hg : o.guard = none) (ht : tslice C.P t = some e) (hx : val s.t x = .rsl false b v 0 n) (hh : val s.t hi = .int .i64 h) (hA : s.hp.a b = some A) (hv : A.ver = v) (hk : A.cap = some k) (hz : A.sz = tsize C.P e) (hz0 : A.sz ≠ 0) (hle : h ≤ k) :
    OpW C L ops i o n0 m0 s (fun s' => s' = s.put o.dst (.rsl false b v 0 h)) X := by
  refine OpW.same hg fun base ow G a w hs ht' => ?_
  have hv' := eval_ok ht' x
  rw [hx] at hv'
  obtain ⟨r, z, D, o', cap, h1, h2, h3, h4, h5, h6⟩ := hv'
  obtain ⟨r1, D1, g1, g2, g3, ⟨arr, te, g4, g5, g6, g7, g8, g9, _⟩, _⟩ := hs.arr b A hA
  rw [hv] at g1
  rw [h1] at g1
  cases g1
  have e1 := (g9 k hk).1
  have e2 := h6 rfl
  have e3 : cap = k := by
    rw [Nat.zero_add] at e2
    exact Nat.eq_of_mul_eq_mul_right (Nat.pos_of_ne_zero hz0) (by rw [e2]; exact e1)
  subst e3
  have hhv := eval_ok ht' hi
  rw [hh] at hhv
  simp only [VR] at hhv
  have hu := tslice_spec ht
  obtain ⟨ie, hie⟩ := tslice_info ht
  have hpe : C.P.elem t = e := by simp [Program.elem, hu]
  have hu' : C.P.underlying t = some (.slice (C.P.elem t)) := by rw [hpe]; exact hu
  obtain ⟨dst, op, ty', pos, after, guard⟩ := o
  simp only at ho
  subst ho
  refine ⟨.slice (some ⟨r, o', none⟩) h cap, ?_, r, A.sz, D, o', cap, h1, rfl, hle, h4, fun h => (by cases h), h6⟩
  have hb : boundO (some (.int .i64 (h : Int))) cap 0 = some h := by
    simp only [boundO, bound]
    rw [if_pos ⟨by omega, by omega⟩]
    simp
  have b2 := (boundO_ok' (P := C.P) (G := G) (w := w) (x := some (.int .i64 (h : Int))) (a := some (.int .i64 (h : Int))) (show VR G w (.int .i64 (h : Int)) (.int .i64 (h : Int)) from rfl) hb (Nat.zero_le _)).2.1 _ rfl .sliceAcap cap (Nat.le_refl _)
  have b3 : (Instr.sliceBounds true n cap none (some (.int .i64 (h : Int))) none).run C.P w = .ok (0, h, cap) w := by
    simp [Instr.sliceBounds, b2]
  have b4 : cap = 0 → (if cap = 0 then some (⟨r, o', none⟩ : Addr) else some ((⟨r, o', none⟩ : Addr).add (0 * tsize C.P e))) = some ⟨r, o', none⟩ := fun h => if_pos h
  have b5 : ((⟨r, o', none⟩ : Addr).add (0 * tsize C.P e)) = ⟨r, o', none⟩ := by rw [Nat.zero_mul]; rfl
  simp only [execOp, Option.map_some, Option.map_none, h2, hhv]
  simp [run_sliceAt_slice w t _ _ _ _ hu', run_slice_any w t _ n cap hu', hpe, b3, run_sizeOf' hie, sliced, b5]
  intro _; rfl

theorem run_append_make {P : Program} (w : World) (t tn ty e : TypeId) (i : TypeInfo) (z : Value) (k kn : IntKind) (ht : P.underlying t = some (.slice e)) (htn : P.underlying tn = some (.int kn)) (hi : P.info? e = some i) (hz : i.zero = some z)
    (b : Addr) (sLen sCap : Nat) (olds : List Value) (hlo : olds.length = sLen * i.size) (holds : ∀ j v, olds[j]? = some v → w.cell? (b.add j) = some v)
    (n : Nat) (h0 : 0 < n) (hs : 0 < i.size) (hg : sCap < sLen + n) (h63 : ((sLen + n : Nat) : Int) ≤ 9223372036854775807) (h48 : (sLen + n) * i.bytes ≤ 140737488355328) :
    (Builtin.append_ #[t, tn] ty #[.slice (some b) sLen sCap, .int k n]).run P w =
      .ok (.slice (some ⟨w.heap.size, 0, none⟩) (sLen + n) (grownCap w (sLen + n) sCap e))
        (w.drew.alloc (.cells (olds.toArray ++ Builtin.zeroCells z.cells n ++ Builtin.zeroCells z.cells (grownCap w (sLen + n) sCap e - (sLen + n))) e)) := by
  have hn : ¬ (sLen + n ≤ sCap) := by omega
  have hw : IntKind.i64.wrap (n : Int) = n := by rw [IntKind.wrap_i64]; omega
  have h63' : ¬ (9223372036854775807 < ((sLen : Int) + (n : Int))) := by omega
  have hfit := growslice_fits hg h48
  have h48' : ¬ (281474976710656 < Builtin.nextslicecap (sLen + n) sCap * i.bytes) := by omega
  have hneg : ¬ ((n : Int) < 0) := by omega
  have hns : ¬ (n * i.size = 0) := Nat.mul_ne_zero (by omega) (by omega)
  have hle : n * i.bytes ≤ (sLen + n) * i.bytes := Nat.mul_le_mul_right _ (by omega)
  have h48i : ¬ (281474976710656 < (n : Int) * (i.bytes : Int)) := by
    rw [← Int.natCast_mul]
    omega
  have hfo := run_firstCells_some (P := P) w.drew i.size sLen b sLen sCap olds hlo (by simpa using holds)
  simp [Builtin.append_, run_underlying ht, run_underlying htn, sizeOf, typeInfo, zeroValue, hi, hz, asInt, asIntOf, hw, hn, hneg, hns, h63', h48', h48i, Question.forced, hfo, newRow, grownCap]

/-- append(x, make(.., q)...) beyond the room: a new array; what is behind the old cells is not told -/
theorem OpW.appendMake {o : Oper} {x y : Operand} {t u e : Nat} {kn : IntKind} {b v n k q : Nat} {A : Arr} {z cs : List V} (ho : o.op = .call ⟨.builtin .append, #[x, y], #[t, u]⟩) (hg : o.guard = none) (ht : tslice C.P t = some e) (hu : C.P.underlying u = some (.int kn)) (hz : tzero C.P e = some z) (hzs : z.length = tsize C.P e) (hz0 : tsize C.P e ≠ 0)
    (hx : val s.t x = .rsl false b v 0 n) (hy : val s.t y = .int .i64 q) (hA : s.hp.a b = some A) (hv : A.ver = v) (hk : A.cap = some k) (hsz : A.sz = tsize C.P e) (hc : content none s.hp (tsize C.P e) (.rsl false b v 0 n) = some (cs, n)) (hq : 0 < q) (hkq : k < n + q) (hbig : (n + q) * tbytes C.P e ≤ 140737488355328) (hbig' : n + q ≤ 140737488355328) :
    OpW C L ops i o n0 m0 s (fun s' => s' = ({ s with hp := { s.hp with a := upd s.hp.a (m0 + i) (some ⟨0, tsize C.P e, cs ++ List.replicate (q * tsize C.P e) .bad, none, 0⟩) } } : St).put o.dst (.rsl false (m0 + i) 0 0 (n + q))) X := by
  refine ⟨fun base G0 w0 hp0 N a w G U K E hL R hU hi hd hK hE => wpOp_at hi (wanted_none hg _) ?_⟩
  obtain ⟨ow, hs⟩ := R.inv.sim
  have hida := (R.ua i hU).2
  have hxv := eval_ok R.t x
  rw [hx] at hxv
  have hyv := eval_ok R.t y
  rw [hy] at hyv
  simp only [VR] at hyv
  have hxv0 := hxv
  obtain ⟨r, zz, D, o', cap, h1, h2, h3, h4, h5, h6⟩ := hxv0
  obtain ⟨r1, D1, g1, g2, g3, ⟨arr, te, g4, g5, g6, g7, g8, g9, _⟩, _⟩ := hs.arr b A hA
  rw [hv] at g1
  rw [h1] at g1
  cases g1
  have e1 := (g9 k hk).1
  have e2 := h6 rfl
  have e3 : cap = k := by
    rw [Nat.zero_add] at e2
    have hpos : 0 < A.sz := Nat.pos_of_ne_zero (by rw [hsz]; exact hz0)
    exact Nat.eq_of_mul_eq_mul_right hpos (by rw [e2]; exact e1)
  subst e3
  have hut := tslice_spec ht
  obtain ⟨ti, zv, hti, hzv, hzz, hzc⟩ := tzero_spec hz
  have hsz' := tsize_eq hti
  have hby := tbytes_eq hti
  have hzl : zv.cells.size = ti.size := by rw [← hsz', ← hzs, hzz]; simp
  obtain ⟨ad, kc, ys, e4, k1, k2, k3, k4, k5, k6⟩ := content_ok hs hxv hc
  rw [h2] at e4
  cases e4
  rw [hsz'] at k3
  rw [hby] at hbig
  have hrun := run_append_make (P := C.P) w t u o.type e ti zv .i64 kn hut hu hti hzv ⟨r, o', none⟩ n cap ys k3 (fun j v hj => k6 _ rfl j v hj) q hq (by omega) hkq (by omega) hbig
  generalize hK' : grownCap w (n + q) cap e = NC at hrun
  have hge : n + q ≤ NC := by rw [← hK']; exact grownCap_ge w _ _ _
  have hel : Elder w (w.drew.alloc (.cells (ys.toArray ++ Builtin.zeroCells zv.cells q ++ Builtin.zeroCells zv.cells (NC - (n + q))) e)) := Elder.trans (Elder.drew w) (Elder.alloc w.drew _)
  have hblk : (w.drew.alloc (.cells (ys.toArray ++ Builtin.zeroCells zv.cells q ++ Builtin.zeroCells zv.cells (NC - (n + q))) e)).heap[w.heap.size]? = some (.cells (ys.toArray ++ Builtin.zeroCells zv.cells q ++ Builtin.zeroCells zv.cells (NC - (n + q))) e (0, 0)) := newBlk w.drew _
  have hlen : (cs ++ List.replicate (q * tsize C.P e) V.bad).length = (ys ++ (Builtin.zeroCells zv.cells q).toList).length := by
    have := k2.length
    simp only [List.length_append, List.length_replicate, Array.length_toList, size_zeroC, hzl, hsz']; omega
  have hD : (ys.toArray ++ Builtin.zeroCells zv.cells q ++ Builtin.zeroCells zv.cells (NC - (n + q))).size = NC * tsize C.P e := by
    simp only [Array.size_append, List.size_toArray, k3, size_zeroC, hzl, hsz', ← Nat.add_mul]
    congr 1; omega
  have hbad : ∀ (G : Gh) (w : World) (l : List Value), VRs G w (List.replicate l.length V.bad) l := by
    intro G w l
    induction l with
    | nil => rfl
    | cons y l ih => exact ⟨y, l, rfl, trivial, ih⟩
  have hzq : (Builtin.zeroCells zv.cells q).toList.length = q * tsize C.P e := by simp only [Array.length_toList, size_zeroC, hzl, hsz']
  obtain ⟨G', p1, p2, p3, p4, p5, p6⟩ := hs.newArr hel (m0 + i) ⟨0, tsize C.P e, cs ++ List.replicate (q * tsize C.P e) .bad, none, 0⟩ (fun v _ => hida v) w.heap.size (NC * tsize C.P e) (Nat.le_refl _) R.inv.lb (fun G' hG hS => by
    refine ⟨_, e, hblk, hD, ?_, ?_, ?_, fun m hm => (by cases hm), fun q hq => ?_, Nat.zero_le _⟩
    · simp only [hlen, ← hD]; simp
    · simp only [hlen]
      simp only [Array.toList_append, List.take_left]
      refine (VRs.mono hG _ _ k2).append ?_
      have := hbad G' (w.drew.alloc (.cells (ys.toArray ++ Builtin.zeroCells zv.cells q ++ Builtin.zeroCells zv.cells (NC - (n + q))) e)) (Builtin.zeroCells zv.cells q).toList
      rw [hzq] at this
      exact this
    · intro y hy
      simp only [Array.toList_append, List.mem_append] at hy
      rcases hy with (hy | hy) | hy
      · exact k4 y hy
      · exact zeroC_sc zv hzc _ y hy
      · exact zeroC_sc zv hzc _ y hy
    · have := hs.S _ _ (hS _ _ hq); omega)
  obtain ⟨dst, op, ty', pos, after, guard⟩ := o
  simp only at ho
  subst ho
  simp only at hrun
  have hrun2 : (execOp a.eval { dst := dst, op := .call ⟨.builtin .append, #[x, y], #[t, u]⟩, type := ty', pos := pos, after := after, guard := guard }).run C.P w = .ok (.value (.slice (some ⟨w.heap.size, 0, none⟩) (n + q) NC)) (w.drew.alloc (.cells (ys.toArray ++ Builtin.zeroCells zv.cells q ++ Builtin.zeroCells zv.cells (NC - (n + q))) e)) := by
    simp [execOp, resolve, invoke, builtin, h2, hyv, hrun]
  unfold Oper.wp
  rw [hrun2, Oper.upon_value]
  refine hK _ _ _ G' rfl (R.step hU hd p2 p1 (Below.mono hel R.inv.lb) rfl rfl (fun b _ => p4 b) (fun j hj hf v => by rw [p5 j v (.inl hj)]; exact hf v) (fun q o h _ => p6 q o h) ?_)
  exact ⟨_, _, _, 0, NC, p3, rfl, hge, .inr rfl, by simp, fun _ => by simp⟩

/-- slices.overlaps, of which the model knows: two arrays of the call's own -/
theorem OpW.overlaps {o : Oper} {x y : Operand} {kf t tb e : Nat} {at_ : Array TypeId} {fn : Func} {c1 c2 : Bool} {b1 v1 o1 n1 b2 v2 o2 n2 : Nat} {A B : Arr} (ho : o.op = .call ⟨.value (.func kf), #[x, y], at_⟩) (hg : o.guard = none) (hf : C.P.funcs[kf]? = some fn) (hname : (fn.name == "runtime.NumGoroutine") = false) (hbd : fn.body.isNone = true) (hn : Extern.findNext fn = none) (he : Extern.find fn = some (Extern.SlicesOverlaps.overlaps #[t, t] #[tb]))
    (ht : tslice C.P t = some e) (hx : val s.t x = .rsl c1 b1 v1 o1 n1) (hy : val s.t y = .rsl c2 b2 v2 o2 n2) (hA : s.hp.a b1 = some A) (hB : s.hp.a b2 = some B) (hvA : A.ver = v1) (hvB : B.ver = v2) (hne : b1 ≠ b2) (hB0 : 0 < B.cs.length) :
    OpW C L ops i o n0 m0 s (fun s' => s' = s.put o.dst (.bool false)) X := by
  refine OpW.same hg fun base ow G a w hs ht' => ?_
  have hxv := eval_ok ht' x
  rw [hx] at hxv
  have hyv := eval_ok ht' y
  rw [hy] at hyv
  obtain ⟨r, z, D, o', cap, h1, h2, h3, h4, h5, h6⟩ := hxv
  obtain ⟨r', z', D', o'', cap', q1, q2, q3, q4, q5, q6⟩ := hyv
  obtain ⟨r1, D1, g1, g2, g3, ⟨arr, te, g4, g5, g6, g7, g8, g9, _⟩, _⟩ := hs.arr b1 A hA
  obtain ⟨r2, D2, k1, k2, k3, ⟨brr, tf, k4, k5, k6, k7, k8, k9, _⟩, _⟩ := hs.arr b2 B hB
  rw [hvA] at g1
  rw [h1] at g1
  cases g1
  rw [hvB] at k1
  rw [q1] at k1
  cases k1
  have hrr : r ≠ r' := by
    rintro rfl
    rw [g2] at k2
    exact hne (by simpa using k2)
  have hut := tslice_spec ht
  obtain ⟨ie, hie⟩ := tslice_info ht
  have hsA : w.shape? r = some (te, arr.size) := by simp [World.shape?, g4]
  have hsB : w.shape? r' = some (tf, brr.size) := by simp [World.shape?, k4]
  have hov := Lib.run_overlaps_apart (P := C.P) w t tb e hut (tsize C.P e) (fun w => run_sizeOf' hie w) ⟨r, o', none⟩ ⟨r', o'', none⟩ n1 cap n2 cap' hrr te tf arr.size brr.size hsA hsB (by omega) (by simp [World.frozen?, g4]) (by simp [World.frozen?, g4])
  obtain ⟨dst, op, ty', pos, after, guard⟩ := o
  simp only at ho
  subst ho
  refine ⟨.bool false, ?_, rfl⟩
  have hcf := run_callFunc_extern hf hname hbd hn he (#[.slice (some ⟨r, o', none⟩) n1 cap, .slice (some ⟨r', o'', none⟩) n2 cap'] ++ #[]) w
  have e0 : a.eval (.func kf) = .func (.func kf) #[] #[] := rfl
  simp [execOp, resolve, Deferred.ofValue, e0, invoke, h2, q2]
  simp at hcf
  rw [hcf, hov]
  rfl

/-- an array's room is some number: from there on it is known -/
theorem SW.split {M : Nat} {c : Code} {Q : Ex → St → Prop} {d b v n : Nat} {A : Arr} (ht : s.t d = .rsl false b v 0 n) (hA : s.hp.a b = some A) (hv : A.ver = v) (hc : A.cap = none)
    (h : ∀ k, n ≤ k → A.cs.length ≤ k * A.sz → SW C L M c ⟨s.t, { s.hp with a := upd s.hp.a b (some ⟨v, A.sz, A.cs ++ List.replicate (k * A.sz - A.cs.length) .bad, some k, A.ro⟩) }⟩ Q X) : SW C L M c s Q X := by
  refine ⟨fun base G0 w0 hp0 N a w G hM hL hC => ?_⟩
  have hx := hC.t d
  rw [ht] at hx
  obtain ⟨r, z, D, o', cap, h1, h2, h3, h4, h5, h6⟩ := hx
  obtain ⟨ow, hs⟩ := hC.inv.sim
  obtain ⟨r1, D1, g1, g2, g3, ⟨arr, te, g4, g5, g6, g7, g8, g9, g10, g11⟩, g12⟩ := hs.arr b A hA
  rw [hv] at g1
  rw [h1] at g1
  cases g1
  have e2 := h6 rfl
  rw [Nat.zero_add] at e2
  have hle : A.cs.length ≤ cap * A.sz := by omega
  have hbad : ∀ (l : List Value), VRs G w (List.replicate l.length V.bad) l := by
    intro l
    induction l with
    | nil => rfl
    | cons y l ih => exact ⟨y, l, rfl, trivial, ih⟩
  refine (h cap h3 hle).out base G0 w0 hp0 N a w G hM hL ⟨⟨⟨ow, hs.S, hs.box, fun i' A' hA' => ?_⟩, hC.inv.grow, hC.inv.below, hC.inv.lb, hC.inv.fb, hC.inv.fa, hC.inv.n, hC.inv.m, hC.inv.eb, hC.inv.ea, hC.inv.f0, hC.inv.s0⟩, hC.t, hC.d, hC.N⟩
  simp only [upd] at hA'
  split at hA'
  · rename_i hi'
    cases hA'
    subst hi'
    have hl : (A.cs ++ List.replicate (cap * A.sz - A.cs.length) V.bad).length = arr.toList.length := by simp; omega
    refine ⟨r, D, h1, g2, g3, ⟨arr, te, g4, g5, by simp; omega, ?_, g8, fun m hm => ?_, g10, by simp; omega⟩, by rw [← hv]; exact g12⟩
    · simp only [hl, List.take_length]
      have e : arr.toList = arr.toList.take A.cs.length ++ arr.toList.drop A.cs.length := (List.take_append_drop _ _).symm
      rw [e]
      refine g7.append ?_
      have := hbad (arr.toList.drop A.cs.length)
      have e3 : (arr.toList.drop A.cs.length).length = cap * A.sz - A.cs.length := by simp; omega
      rw [e3] at this
      exact this
    · cases hm; exact ⟨e2.symm, by simp; omega⟩
  · exact hs.arr i' A' hA'
end
end Go.Ab
end

section
set_option linter.unusedVariables false
set_option linter.unusedSimpArgs false
set_option linter.unusedSimpArgs false
set_option linter.unusedVariables false
namespace Go.Ab
open Go.RowKit

theorem fzPL_fz {g : V → Option V} {g' : Hp → V → Option (V × Hp)} (hg : ∀ v v' hp, g v = some v' → g' hp v = some (v', hp)) : ∀ (vs us : List V) (hp : Hp), fzPL g vs = some us → fzL g' hp vs = some (us, hp)
  | [], us, hp, h => by cases h; rfl
  | v :: vs, us, hp, h => by
    simp only [fzPL] at h
    split at h <;> try cases h
    rename_i v' hv
    split at h <;> cases h
    rename_i us' hus
    simp only [fzL, hg _ _ hp hv, fzPL_fz hg vs us' hp hus]
theorem fzP_fz : ∀ (d : Nat) (v v' : V) (hp : Hp), fzP d v = some v' → fz d hp v = some (v', hp)
  | 0, v, v', hp, h => by cases h
  | d + 1, v, v', hp, h => by
    cases v <;> simp only [fzP, reduceCtorEq, Option.some.injEq] at h <;> try subst h
    all_goals try rfl
    all_goals
      split at h <;> cases h
      rename_i c hc
      simp only [fz, fzPL_fz (fzP_fz d) _ _ hp hc]
section
variable {C : Cfg} {L : World → Prop}
/-- a function that is handed boxes and arrays, whose result is data -/
theorem RefC.of_SWz {f : Nat} {fn : Func} {body : Code} {as : List V} {hp hp' : Hp} {r : V} (h1 : C.P.funcs[f]? = some fn) (h2 : fn.body = some body)
    (h : SW C L fn.ntmps body ⟨init as, hp⟩ (fun ex s' => match ex with | .exit _ => False | _ => ∃ r0 hp2, resOf C.P fn s' = some r0 ∧ fz 6 s'.hp r0 = some (r, hp2) ∧ hp'.h = hp2.h ∧ hp2.n ≤ hp'.n ∧ hp2.m ≤ hp'.m ∧ ∀ i A, hp'.a i = some A → hp2.a i = some A) (fun _ => False)) : RefC C.P L f as hp r hp' := by
  intro base G w xs hL hs hB hfb hfa hxs
  refine calls_of_wp h1 h2 ?_
  have hC : CInv [] base G w hp (xs ++ Array.replicate (fn.ntmps - xs.size) undef).size ⟨init as, hp⟩ { tmps := xs ++ Array.replicate (fn.ntmps - xs.size) undef, defers := [] } w G :=
    ⟨⟨hs, Grow.refl _ _, Below.refl _ _, hB, hfb, hfa, Nat.le_refl _, Nat.le_refl _, fun _ _ => rfl, fun _ _ h => h, hfb, fun _ _ h _ => h⟩, init_ok hxs _, rfl, rfl⟩
  refine wp_mono (h.out base G w hp _ _ w G (by simp; omega) hL hC) ?_
  intro e a' w' hp1
  rcases hp1 with ⟨ex, s', G', rfl, h3, h4⟩ | ⟨v, rfl, hx, _⟩
  · have key : (∃ r0 hp2, resOf C.P fn s' = some r0 ∧ fz 6 s'.hp r0 = some (r, hp2) ∧ hp'.h = hp2.h ∧ hp2.n ≤ hp'.n ∧ hp2.m ≤ hp'.m ∧ ∀ i A, hp'.a i = some A → hp2.a i = some A) → a'.defers = [] ∧ ∃ v, (results fn a'.tmps).run C.P w' = .ok v w' ∧ ∃ x G', Ending.returned v = .returned x ∧ FInv base G w hp G' hp' w' ∧ VR G' w' r x := by
      rintro ⟨r0, hp2, hr, hz, k1, k2, k3, k4⟩
      obtain ⟨x, g1, g2⟩ := resOf_ok h4 hr
      obtain ⟨ow, hsim⟩ := h4.inv.sim
      obtain ⟨G1, F, hv⟩ := fz_ok 6 G' s'.hp r0 r hp2 x hz hsim g2
      have inv1 : FInv base G w hp G1 hp2 w' := ⟨⟨ow, F.sim⟩, h4.inv.grow.trans F.grow, h4.inv.below, h4.inv.lb, fun b hb' => by rw [F.rb]; exact h4.inv.fb b (by rw [← F.n]; exact hb'), fun i hi v => by rw [F.ra]; exact h4.inv.fa i (by rw [← F.m]; exact hi) v,
        by rw [F.n]; exact h4.inv.n, by rw [F.m]; exact h4.inv.m, fun b hb' => by rw [F.rb]; exact h4.inv.eb b hb', fun i hi hf v => (by rw [F.ra]; exact h4.inv.ea i hi hf v), h4.inv.f0, fun q o hq hb => h4.inv.s0 q o (F.s0 q o hq hb) hb⟩
      refine ⟨h4.d, x, g1, x, G1, rfl, ?_, (VR.mono (Grow.of_pu G1 w') _ _ hv)⟩
      have := (inv1.upTo k2 k3).drop k4
      have e : hp' = ⟨hp2.h, hp'.n, hp'.a, hp'.m⟩ := by rw [← k1]
      rw [e]
      exact this
    cases ex with
    | normal => exact key h3
    | ret => exact key h3
    | exit i => exact h3.elim
  · exact hx.elim
/-- the evaluator's own step, as one operation -/
theorem OpW.step {X : Value → Prop} {ops : Array Oper} {i : Nat} {o : Oper} {n0 m0 : Nat} {s s' : St} (hS : Sound C L) (k : Nat) (h : stepOp C.P (C.env k) ops.toList false n0 m0 i o s = some s') : OpW C L ops i o n0 m0 s (fun x => x = s') X :=
  ⟨fun base G0 w0 hp0 N a w G U K E hL R hU hi hd hK hE => stepOp_ok (hS.env k) hL R hU hi hd h fun a' w' G' R' => hK _ _ _ _ rfl R'⟩
end

/-- a configuration without calls -/
def noCfg (P : Program) : Cfg := ⟨P, fun _ => false, fun _ => none, fun _ => none, fun _ => false⟩
theorem noCfg_none (P : Program) : ∀ (k f : Nat) (as : List V) (hp : Hp), (noCfg P).R k f as hp = none
  | 0, f, as, hp => rfl
  | k + 1, f, as, hp => by simp [Cfg.R, noCfg, evalR]
theorem noCfg_sound {P : Program} {L : World → Prop} (hLB : ∀ w w', L w → Below w.heap.size w w' → L w') (hm : P.follows .mixedOrders = true) : Sound (noCfg P) L := by
  refine ⟨fun k => ⟨fun f as r h => ?_, fun f as hp r hp' h => ?_⟩, hm, hLB⟩
  · exfalso
    have h' : dataCall (noCfg P).ext ((noCfg P).R k) f as = some r := h
    have e : (noCfg P).ext f = none := rfl
    simp only [dataCall, e, noCfg_none] at h'
    cases h'
  · exfalso
    have h' : (noCfg P).R k f as hp = some (r, hp') := h
    rw [noCfg_none] at h'; cases h'

/-- what slices.Insert comes to: a row that is data -/
def insR (size bytes : Nat) (as : List V) (hp : Hp) : Option (V × Hp) :=
  match as with
  | [.sl true [] 0, .int .i64 i, .rsl false b2 v2 0 m] => match hp.a b2 with
    | some B => if i = 0 ∧ m ≠ 0 ∧ B.ver = v2 ∧ B.sz = size ∧ B.cs.length = m * size ∧ m * bytes ≤ maxRoom ∧ m ≤ maxRoom then
        match fzPL (fzP 5) B.cs with
        | some cs' => some (.sl false cs' m, ⟨hp.h, hp.n + 200, fun j => if hp.m ≤ j then none else hp.a j, hp.m + 200⟩)
        | none => none
      else none
    | none => none
  | [.rsl false b v 0 n, .int .i64 i, .rsl false b2 v2 0 m] => match hp.a b, hp.a b2 with
    | some A, some B => if (0 ≤ i ∧ i ≤ (n : Int)) ∧ m ≠ 0 ∧ Nat.beq b b2 = false ∧ b < hp.m ∧ b2 < hp.m ∧ A.ver = v ∧ A.sz = size ∧ A.cap = none ∧ A.ro = 0 ∧ A.cs.length = n * size ∧ B.ver = v2 ∧ B.sz = size ∧ B.cs.length = m * size ∧ (n + m) * bytes ≤ maxRoom ∧ n + m ≤ maxRoom then
        match fzPL (fzP 5) (A.cs.take (i.toNat * size) ++ B.cs ++ A.cs.drop (i.toNat * size)) with
        | some cs' => some (.sl false cs' (n + m), ⟨hp.h, hp.n + 200, fun j => if j = b then none else if hp.m ≤ j then none else hp.a j, hp.m + 200⟩)
        | none => none
      else none
    | _, _ => none
  | _ => none
end Go.Ab
end

section
set_option linter.unusedVariables false
set_option linter.unusedSimpArgs false
set_option linter.unusedSimpArgs false
set_option linter.unusedVariables false
namespace Go.Ab
open Go.RowKit
theorem Ev.uniq {C : Cfg} {f : Nat} {av : List V} {r r' : V} (h : C.Ev f av r) (h' : C.Ev f av r') : r = r' := by
  obtain ⟨K, h⟩ := h.out
  obtain ⟨K', h'⟩ := h'.out
  have a := h (max K K') (by omega)
  have b := h' (max K K') (by omega)
  rw [a] at b
  exact Option.some.inj b
/-- a table of calls from data to data that are known to be so -/
structure Tab (P : Program) (L : World → Prop) where
  ok : Nat → List V → V → Prop
  uniq : ∀ f a r r', ok f a r → ok f a r' → r = r'
  snd : ∀ f a r, ok f a r → Goes P f ∧ PureC P L f a r
/-- what a configuration says -/
def Tab.of {C : Cfg} {L : World → Prop} (hs : Sound C L) : Tab C.P L := ⟨C.Ev, fun _ _ _ _ h h' => Ev.uniq h h', fun f a r h => by
  obtain ⟨K, hK⟩ := h.out
  exact (hs.env K).call _ _ _ (hK K (Nat.le_refl _))⟩
/-- one table, and where it is asked of function k another one -/
def Tab.with {P : Program} {L : World → Prop} (T : Tab P L) (k : Nat) (U : Tab P L) : Tab P L := ⟨fun f a r => if f = k then U.ok f a r else T.ok f a r, fun f a r r' h h' => by
  by_cases e : f = k
  · simp only [e, if_true] at h h'; exact U.uniq _ _ _ _ h h'
  · simp only [e, if_false] at h h'; exact T.uniq _ _ _ _ h h', fun f a r h => by
  by_cases e : f = k
  · simp only [e, if_true] at h; rw [e]; exact U.snd _ _ _ h
  · simp only [e, if_false] at h; exact T.snd _ _ _ h⟩
theorem Tab.with_at {P : Program} {L : World → Prop} {T U : Tab P L} {k : Nat} {a : List V} {r : V} (h : U.ok k a r) : (T.with k U).ok k a r := by
  show if k = k then U.ok k a r else T.ok k a r
  rw [if_pos rfl]; exact h
theorem Tab.with_ne {P : Program} {L : World → Prop} {T U : Tab P L} {k f : Nat} {a : List V} {r : V} (hk : f ≠ k) (h : T.ok f a r) : (T.with k U).ok f a r := by
  show if f = k then U.ok f a r else T.ok f a r
  rw [if_neg hk]; exact h
/-- either of two that never speak of the same -/
def Tab.or {P : Program} {L : World → Prop} (T U : Tab P L) (hd : ∀ f a r r', T.ok f a r → U.ok f a r' → False) : Tab P L := ⟨fun f a r => T.ok f a r ∨ U.ok f a r, fun f a r r' h h' => by
  rcases h with h | h <;> rcases h' with h' | h'
  · exact T.uniq _ _ _ _ h h'
  · exact (hd _ _ _ _ h h').elim
  · exact (hd _ _ _ _ h' h).elim
  · exact U.uniq _ _ _ _ h h', fun f a r h => by
  rcases h with h | h
  · exact T.snd _ _ _ h
  · exact U.snd _ _ _ h⟩
/-- the configuration of a table and the functions that are to be walked -/
noncomputable def Tab.ext {P : Program} {L : World → Prop} (T : Tab P L) (okF : Nat → Bool) : Exts := fun f => match okF f with
  | true => none
  | false => some fun av => open Classical in if h : ∃ r, T.ok f av r then some (Classical.choose h) else none
noncomputable def Tab.cfg {P : Program} {L : World → Prop} (T : Tab P L) (okF : Nat → Bool) : Cfg := ⟨P, okF, T.ext okF, fun _ => none, fun _ => false⟩
theorem Tab.ev {P : Program} {L : World → Prop} {T : Tab P L} {okF : Nat → Bool} {f : Nat} {a : List V} {r : V} (hf : okF f = false) (h : T.ok f a r) : (T.cfg okF).Ev f a r := by
  have e : (T.cfg okF).ext f = some fun av => open Classical in if h : ∃ r, T.ok f av r then some (Classical.choose h) else none := by
    show T.ext okF f = _
    unfold Tab.ext
    rw [hf]
  refine Ev.ext e ?_
  have hex : ∃ r, T.ok f a r := ⟨r, h⟩
  simp only [dif_pos hex]
  rw [T.uniq _ _ _ _ (Classical.choose_spec hex) h]
theorem Tab.none {P : Program} {L : World → Prop} {T : Tab P L} {okF : Nat → Bool} {f : Nat} (hf : okF f = true) : (T.cfg okF).ext f = none := by
  show T.ext okF f = _
  unfold Tab.ext
  rw [hf]
theorem Tab.sound {P : Program} {L : World → Prop} (T : Tab P L) {okF : Nat → Bool} (hL : ∀ w w', L w → Below w.heap.size w w' → L w') (hm : P.follows .mixedOrders = true) (hok : OKF P okF) : Sound (T.cfg okF) L := by
  refine Sound.of hL hm hok ?_ (fun f g av hp r hp' _ hf => by cases hf)
  intro f g av r hf hg
  have hf' : T.ext okF f = some g := hf
  unfold Tab.ext at hf'
  cases ho : okF f with
  | true => rw [ho] at hf'; cases hf'
  | false =>
    rw [ho] at hf'
    cases hf'
    simp only at hg
    split at hg
    · rename_i hex
      cases hg
      exact T.snd _ _ _ (Classical.choose_spec hex)
    · cases hg
/-- fewer functions -/
theorem OKF.sub {P : Program} {okF okG : Nat → Bool} (h : OKF P okF) (hs : ∀ f, okG f = true → okF f = true) : OKF P okG := fun f fn body hf h1 h2 => h f fn body (hs f hf) h1 h2
end Go.Ab
end

section
set_option linter.unusedVariables false
set_option linter.unusedSimpArgs false
set_option linter.unusedSimpArgs false
set_option linter.unusedVariables false
namespace Go.Ab
open Go.RowKit
section
variable {C : Cfg} {L : World → Prop} {X : Value → Prop} {ops : Array Oper} {i : Nat} {n0 m0 : Nat} {s : St}
/-- x[lo:hi], and hi goes beyond the length, within the room -/
theorem OpW.sliceLH {o : Oper} {x lo hi : Operand} {t e : Nat} {b v n k l h : Nat} {A : Arr} (ho : o.op = .slice t x (some lo) (some hi) none) (hg : o.guard = none) (ht : tslice C.P t = some e) (hx : val s.t x = .rsl false b v 0 n) (hl : val s.t lo = .int .i64 l) (hh : val s.t hi = .int .i64 h) (hA : s.hp.a b = some A) (hv : A.ver = v) (hk : A.cap = some k) (hz : A.sz = tsize C.P e) (hz0 : A.sz ≠ 0) (hlh : l < h) (hle : h ≤ k) :
    OpW C L ops i o n0 m0 s (fun s' => s' = s.put o.dst (.rsl false b v (0 + l * A.sz) (h - l))) X := by
  refine OpW.same hg fun base ow G a w hs ht' => ?_
  have hv' := eval_ok ht' x
  rw [hx] at hv'
  obtain ⟨r, z, D, o', cap, h1, h2, h3, h4, h5, h6⟩ := hv'
  obtain ⟨r1, D1, g1, g2, g3, ⟨arr, te, g4, g5, g6, g7, g8, g9, _⟩, _⟩ := hs.arr b A hA
  rw [hv] at g1
  rw [h1] at g1
  cases g1
  have e1 := (g9 k hk).1
  have e2 := h6 rfl
  have e3 : cap = k := by
    rw [Nat.zero_add] at e2
    exact Nat.eq_of_mul_eq_mul_right (Nat.pos_of_ne_zero hz0) (by rw [e2]; exact e1)
  subst e3
  have hhv := eval_ok ht' hi
  rw [hh] at hhv
  have hlv := eval_ok ht' lo
  rw [hl] at hlv
  have hu := tslice_spec ht
  obtain ⟨ie, hie⟩ := tslice_info ht
  have hpe : C.P.elem t = e := by simp [Program.elem, hu]
  have hu' : C.P.underlying t = some (.slice (C.P.elem t)) := by rw [hpe]; exact hu
  obtain ⟨dst, op, ty', pos, after, guard⟩ := o
  simp only at ho
  subst ho
  have q1 : boundO (some (.int .i64 (h : Int))) cap cap = some h := by
    simp only [boundO, bound]
    rw [if_pos ⟨by omega, by omega⟩]
    simp
  have q2 : boundO (some (.int .i64 (l : Int))) h 0 = some l := by
    simp only [boundO, bound]
    rw [if_pos ⟨by omega, by omega⟩]
    simp
  have bo := boundO_ok' (P := C.P) (G := G) (w := w) (x := some (.int .i64 (h : Int))) (a := some (a.eval hi)) hhv q1 (Nat.le_refl _)
  have bl := boundO_ok' (P := C.P) (G := G) (w := w) (x := some (.int .i64 (l : Int))) (a := some (a.eval lo)) hlv q2 (Nat.zero_le _)
  have b1 := bo.2.1 _ rfl .sliceAcap cap (Nat.le_refl _)
  have b2 := bl.2.1 _ rfl .sliceB h (Nat.le_refl _)
  have b3 : (Instr.sliceBounds true n cap (some (a.eval lo)) (some (a.eval hi)) none).run C.P w = .ok (l, h, cap) w := by
    simp [Instr.sliceBounds, b1, b2]
  have e4 : tsize C.P e = A.sz := hz.symm
  refine ⟨.slice (some ⟨r, o' + l * A.sz, none⟩) (h - l) (cap - l), ?_, r, A.sz, D, o' + l * A.sz, cap - l, h1, rfl, by omega, ?_, fun h => (by cases h), fun _ => ?_⟩
  · simp only [execOp, Option.map_some, Option.map_none, h2]
    simp [run_sliceAt_slice w t _ _ _ _ hu', run_slice_any w t _ n cap hu', hpe, b3, run_sizeOf' hie, sliced, add_at, e4, show ¬ (cap = l) by omega]
  · rcases h4 with h4 | h4
    · omega
    · right; omega
  · have e5 : l * A.sz + (cap - l) * A.sz = cap * A.sz := by rw [← Nat.add_mul]; congr 1; omega
    omega
end
/-- x[lo:hi:max] -/
theorem sl3 {P : Program} {t e b v n i j : Nat} {k1 k2 k3 : IntKind} {x y z : Int} (ht : tslice P t = some e) (hx : x = (i : Int)) (hy : y = (j : Int)) (hz : z = (n : Int)) (h1 : i ≤ j) (h2 : j ≤ n) : ∃ u, sliceV P t (.rsl false b v 0 n) (some (.int k1 x)) (some (.int k2 y)) (some (.int k3 z)) = some u := by
  subst hx hy hz
  have b1 : (0 : Int) ≤ (n : Int) ∧ (n : Int) ≤ (n : Int) := ⟨by omega, by omega⟩
  have b2 : (0 : Int) ≤ (j : Int) ∧ (j : Int) ≤ (n : Int) := ⟨by omega, by omega⟩
  have b3 : (0 : Int) ≤ (i : Int) ∧ (i : Int) ≤ (j : Int) := ⟨by omega, by omega⟩
  simp only [sliceV, ht, bounds, boundO, bound, if_pos b1, if_pos b2, if_pos b3, Option.bind_some, Int.toNat_natCast]
  split
  · exact ⟨_, rfl⟩
  · split <;> exact ⟨_, rfl⟩
/-- append of what stands in the same array behind -/
theorem del_app {b v n i j k sz bytes : Nat} {F0 : List V} (hl : n * sz ≤ F0.length) (hk : n ≤ k) (hij : i ≤ j) (hjn : j ≤ n) (hb1 : n * bytes ≤ maxRoom) (hb2 : n ≤ maxRoom) :
    ∃ F, (∀ (hp : Hp) (ida : Nat), hp.a b = some ⟨v, sz, F0, some k, 0⟩ → appendV sz bytes hp ida (.rsl false b v 0 i) (.rsl false b v (0 + j * sz) (n - j)) = some (.rsl false b v 0 (i + (n - j)), ⟨hp.h, hp.n, upd hp.a b (some ⟨v, sz, F, some k, 0⟩), hp.m⟩)) ∧ F.length = F0.length ∧ sub F 0 ((i + (n - j)) * sz) = F0.take (i * sz) ++ (F0.drop (j * sz)).take ((n - j) * sz) := by
  have m1 : i * sz ≤ j * sz := Nat.mul_le_mul_right _ hij
  have m2 : j * sz ≤ n * sz := Nat.mul_le_mul_right _ hjn
  have m3 : (n - j) * sz = n * sz - j * sz := Nat.sub_mul _ _ _
  have c1 : ∀ hp : Hp, hp.a b = some ⟨v, sz, F0, some k, 0⟩ → content none hp sz (.rsl false b v 0 i) = some (sub F0 0 (i * sz), i) := fun hp hA => by
    simp only [content, hA]; rw [if_pos ⟨trivial, trivial, by omega⟩]
  have c2 : ∀ hp : Hp, hp.a b = some ⟨v, sz, F0, some k, 0⟩ → content none hp sz (.rsl false b v (0 + j * sz) (n - j)) = some (sub F0 (0 + j * sz) ((n - j) * sz), n - j) := fun hp hA => by
    simp only [content, hA]; rw [if_pos ⟨trivial, trivial, by omega⟩]
  by_cases h0 : n - j = 0
  · refine ⟨F0, fun hp ida hA => ?_, rfl, ?_⟩
    · have hself : upd hp.a b (some ⟨v, sz, F0, some k, 0⟩) = hp.a := by
        funext q; unfold upd; split
        · rename_i e; rw [e, hA]
        · rfl
      unfold appendV
      rw [c1 hp hA, c2 hp hA]
      simp only [h0, if_true, hself, Nat.add_zero]
    · rw [h0]; simp [sub]
  · refine ⟨fillL F0 (0 + i * sz) (sub F0 (0 + j * sz) ((n - j) * sz)), fun hp ida hA => ?_, ?_, ?_⟩
    · have n1 : (i + (n - j)) * bytes ≤ n * bytes := Nat.mul_le_mul_right _ (by omega)
      have n2 : (i + (n - j)) * sz ≤ k * sz := Nat.mul_le_mul_right _ (by omega)
      unfold appendV
      rw [c1 hp hA, c2 hp hA]
      simp only
      rw [if_neg h0, if_pos ⟨by omega, by omega⟩, hA]
      simp only
      rw [if_pos (by omega), if_pos (Nat.zero_le _)]
    · unfold fillL sub
      simp only [List.length_append, List.length_take, List.length_drop]
      omega
    · have m4 : (i + (n - j)) * sz = i * sz + (n - j) * sz := Nat.add_mul _ _ _
      unfold fillL sub
      simp only [Nat.zero_add, List.drop_zero]
      have e1 : (F0.take (i * sz)).length = i * sz := by simp; omega
      have e2 : ((F0.drop (j * sz)).take ((n - j) * sz)).length = (n - j) * sz := by simp; omega
      rw [List.take_append_of_le_length (by simp only [List.length_append, e1, e2]; omega), List.take_of_length_le (by simp only [List.length_append, e1, e2]; omega)]
/-- what slices.Delete comes to: a row that is data -/
def delR (size bytes : Nat) (as : List V) (hp : Hp) : Option (V × Hp) :=
  match as with
  | [.rsl false b v 0 n, .int .i64 i, .int .i64 j] => match hp.a b with
    | some A => if (0 ≤ i ∧ i < j ∧ j ≤ (n : Int)) ∧ b < hp.m ∧ A.ver = v ∧ A.sz = size ∧ A.cap = none ∧ A.ro = 0 ∧ A.cs.length = n * size ∧ n * bytes ≤ maxRoom ∧ n ≤ maxRoom then
        match fzPL (fzP 5) (A.cs.take (i.toNat * size) ++ A.cs.drop (j.toNat * size)) with
        | some cs' => some (.sl false cs' (i.toNat + (n - j.toNat)), ⟨hp.h, hp.n + 200, fun k => if k = b then none else if hp.m ≤ k then none else hp.a k, hp.m + 200⟩)
        | none => none
      else none
    | none => none
  | _ => none
end Go.Ab
end
