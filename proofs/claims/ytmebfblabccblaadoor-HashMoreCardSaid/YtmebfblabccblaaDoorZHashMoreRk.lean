-- cut down by bundle.py (the session's own program) from the text YtmebfblabccblaaDoorRk, to what this claim names
import Derived.Test.YtmebfblabccblaaDoorZHashMoreXH0
import Derived.OpenShut
import Derived.ShutString
import Derived.Deep.Slices
import Derived.ProofKit
import Derived.Lib.LaidU8T
import Derived.Lib.LaidIn
namespace Go.Proofs.YtmebfblabccblaaDoor.XH
open Go.RowKit Go.Proofs.YtmebfblabccblaaDoorW.PrintWords Go.Proofs.YtmebfblabccblaaDoorW.PrintLast Go.Proofs.YtmebfblabccblaaDoorW.PrintMore
attribute [local go_sem] max2_int min2_int max_two min_two max_three min_three max_four min_four   -- for this text's walks alone
set_option linter.unusedVariables false
set_option linter.unusedSimpArgs false

open Go.ChangeShapes Go.WideShapes Go.ChangeAt
open Go.ChangeMaps (open_string shut_string)
def In64 (n : Int) : Prop := -9223372036854775808 ≤ n ∧ n ≤ 9223372036854775807
theorem in64_of_wf {n : Int} (h : (Lit.int .i64 n).wf = true) : In64 n := by
  simp only [Lit.wf, Bool.and_eq_true, decide_eq_true_eq] at h
  have e1 : IntKind.i64.min = -9223372036854775808 := by decide +kernel
  have e2 : IntKind.i64.max = 9223372036854775807 := by decide +kernel
  rw [e1, e2] at h
  exact h
mutual
def WfV : S24 → Prop
  | ⟨k, n, t, l⟩ => In64 k ∧ In64 n ∧ t.size ≤ 9223372036854775807 ∧ l.length ≤ 9223372036854775807 ∧ WfL l
def WfL : List S24 → Prop
  | [] => True
  | v :: l => WfV v ∧ WfL l
end
theorem wfL_of : ∀ l : List S24, (∀ v ∈ l, WfV v) → WfL l
  | [], _ => by simp only [WfL]
  | v :: l, h => by
    simp only [WfL]
    exact ⟨h v List.mem_cons_self, wfL_of l (fun x hx => h x (List.mem_cons_of_mem _ hx))⟩
theorem list4 {α : Type} {l : List α} (h : l.length = 4) : ∃ a b c d, l = [a, b, c, d] := by
  match l, h with
  | [a, b, c, d], _ => exact ⟨a, b, c, d, rfl⟩
section
variable {H : Type} {enc : TypeId × Value → H} {W : World} {base : Nat} {spare : Nat → Bool} {held : Bool}
set_option maxRecDepth 100000 in
theorem open_cells (fuel : Nat) : ∀ (cs : List Value) (x : DataW H × List MemPlace), DataW.trod enc Tryd.prog W base spare held fuel 24 cs = some x → ∃ v : S24, k24.K W v cs ∧ WfV v := by
  induction fuel using Nat.strongRecOn with
  | _ fuel ih =>
  intro cs x h
  obtain ⟨xs, n, rfl, rfl, hl, hlen, hf⟩ := DataW.trod_struct Tryd.underlying24 h
  have c4 : Tryd.prog.cellsOf 24 = 4 := by kernel_rfl
  have ci : Tryd.prog.cellsOf 3 = 1 := by kernel_rfl
  have cj : Tryd.prog.cellsOf 2 = 1 := by kernel_rfl
  have cstr : Tryd.prog.cellsOf 9 = 1 := by kernel_rfl
  have csl : Tryd.prog.cellsOf 22 = 1 := by kernel_rfl
  rw [c4] at hl
  obtain ⟨b0, b1, b2, b3, rfl⟩ := list4 hl
  obtain ⟨y0, y1, y2, y3, rfl⟩ := list4 (show xs.length = 4 from hlen)
  · skip
    have h0 := hf 0 _ rfl
    have h1 := hf 1 _ rfl
    have h2 := hf 2 _ rfl
    have h3 := hf 3 _ rfl
    simp [ci] at h0
    simp [cj] at h1
    simp [cstr] at h2
    simp [csl] at h3
    obtain ⟨m0, e0, _, w0⟩ := DataW.trod_int Tryd.underlying3 h0
    obtain ⟨m1, e1, _, w1⟩ := DataW.trod_int Tryd.underlying2 h1
    obtain ⟨s, e2, _, w2⟩ := DataW.trod_string Tryd.underlying9 h2
    simp only [List.cons.injEq, and_true] at e0 e1 e2
    subst e0 e1 e2
    have ws : s.size ≤ 9223372036854775807 := by unfold maxLen at w2; omega
    rcases DataW.trod_slice Tryd.underlying22 h3 with ⟨e3, _⟩ | ⟨a, len, cap, elems, rest, n3, hn, e3, _, hb, hlc, hcm, hel, hread, _, _⟩
    · simp only [List.cons.injEq, and_true] at e3
      subst e3
      refine ⟨⟨m0, m1, s, []⟩, k24_mk W ⟨m0, m1, s, []⟩ (A3 := none) (c3 := 0) (Nat.le_refl _) (Kd.C_nil _ _), ?_⟩
      simp only [WfV, WfL]
      exact ⟨in64_of_wf w0, in64_of_wf w1, ws, by simp, trivial⟩
    · simp only [List.cons.injEq, and_true] at e3
      subst e3
      rw [c4] at hread
      have key : ∀ i, i < len → ∃ v : S24, (∃ c, c.length = 4 ∧ k24.K W v c ∧ ∀ j u, c[j]? = some u → W.cell? (a.add (i * 4 + j)) = some u) ∧ WfV v := by
        intro i hi
        have hr := hread i hi
        rw [List.getElem?_eq_getElem (by omega)] at hr
        obtain ⟨c, hc1, hc2⟩ := Option.bind_eq_some_iff.1 hr
        obtain ⟨v, hv, hw⟩ := ih n3 (by omega) c _ hc2
        obtain ⟨_, hcl, hcell⟩ := World.cells?_some hc1
        refine ⟨v, ⟨c, hcl, hv, fun j u hj => ?_⟩, hw⟩
        have hj4 : j < 4 := by rw [← hcl]; exact (List.getElem?_eq_some_iff.1 hj).1
        rw [← Go.Deep.add_add, hcell j hj4, hj]
      haveI : Inhabited S24 := ⟨z24⟩
      obtain ⟨f, hf⟩ := Go.Deep.choose_lt key
      have hlen : ((List.range len).map f).length = len := by simp
      have hmax : len ≤ 9223372036854775807 := by unfold maxLen at hcm; omega
      have hC : k24.C W (some a) ((List.range len).map f).length ((List.range len).map f) := by
        refine ⟨rfl, by rw [hlen]; exact hmax, fun _ => ⟨a, rfl, fun j p hj => ?_⟩⟩
        have hj' : j < len := by have := (List.getElem?_eq_some_iff.1 hj).1; simpa using this
        simp only [List.getElem?_map, List.getElem?_range hj', Option.map_some, Option.some.injEq] at hj
        subst hj
        exact (hf j hj').1
      refine ⟨⟨m0, m1, s, (List.range len).map f⟩, ?_, ?_⟩
      · have := k24_mk W ⟨m0, m1, s, (List.range len).map f⟩ (A3 := some a) (c3 := cap) (by simpa using hlc) hC
        simpa using this
      · simp only [WfV]
        refine ⟨in64_of_wf w0, in64_of_wf w1, ws, by rw [hlen]; exact hmax, wfL_of _ (fun v hv => ?_)⟩
        obtain ⟨i, hi, rfl⟩ := List.mem_map.1 hv
        exact (hf i (List.mem_range.1 hi)).2
end
theorem own : ownKnob Tryd.prog.godebug = none := by kernel_rfl
theorem laidOut : laidOutB Tryd.prog = true := by kernel_rfl
set_option maxRecDepth 100000 in
noncomputable def laidWorld (os : Os) : World :=
  let w0 := World.holding Tryd.prog os ⟨#[], #[], []⟩
  let put (h : Array Obj) (g : Nat) (cs : Array Value) : Array Obj := h.modify g fun
    | .cells _ t frozen => .cells cs t frozen
    | o => o
  let h1 := put w0.heap 1 (Lib.firstTab.map fun z => Value.int .u8 z).toArray
  let h2 := put h1 2 ((List.range 16).flatMap fun i => [Value.int .u8 (Lib.accLo i), Value.int .u8 (Lib.accHi i)]).toArray
  { w0 with heap := h2 }
end Go.Proofs.YtmebfblabccblaaDoor.XH
