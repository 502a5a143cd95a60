-- cut down by bundle.py (the session's own program) from the text YtmebfblabccblaaDoorRk3, to what this claim names
import Derived.Test.YtmebfblabccblaaDoorZHashMoreXH0
import Derived.Test.YtmebfblabccblaaDoorZHashMoreRk
import Derived.OpenShut
import Derived.ShutString
import Derived.Deep.Slices
import Derived.ProofKit
namespace Go.Proofs.YtmebfblabccblaaDoor.XH
open Go.RowKit Go.Proofs.YtmebfblabccblaaDoorW.PrintWords Go.Proofs.YtmebfblabccblaaDoorW.PrintLast Go.Proofs.YtmebfblabccblaaDoorW.PrintMore
attribute [local go_sem] max2_int min2_int max_two min_two max_three min_three max_four min_four   -- for this text's walks alone
set_option linter.unusedVariables false
set_option linter.unusedSimpArgs false

open Go.ChangeShapes Go.WideShapes Go.ChangeAt
open Go.ChangeMaps (open_string shut_string)
theorem list13 {α : Type} {l : List α} (h : l.length = 13) : ∃ a0 a1 a2 a3 a4 a5 a6 a7 a8 a9 a10 a11 a12, l = [a0, a1, a2, a3, a4, a5, a6, a7, a8, a9, a10, a11, a12] := by
  match l, h with
  | [a0, a1, a2, a3, a4, a5, a6, a7, a8, a9, a10, a11, a12], _ => exact ⟨a0, a1, a2, a3, a4, a5, a6, a7, a8, a9, a10, a11, a12, rfl⟩
section
variable {H : Type} {enc : TypeId × Value → H} {W : World} {base : Nat} {spare : Nat → Bool} {held : Bool}
set_option maxRecDepth 100000 in
theorem open_four {fuel : Nat} {b0 b1 b2 b3 : Value} {x : DataW H × List MemPlace} (h : DataW.trod enc Tryd.prog W base spare held fuel 24 [b0, b1, b2, b3] = some x) :
    ∃ (k n : Int) (t : ByteArray) (A : Option Addr) (c : Nat) (l : List S24), b0 = .int .i64 k ∧ b1 = .int .i64 n ∧ b2 = .string t ∧ b3 = .slice A l.length c ∧ Kd.C k24 W A l.length l ∧ l.length ≤ c ∧ WfV ⟨k, n, t, l⟩ := by
  obtain ⟨x, hK, hw⟩ := open_cells fuel _ _ h
  obtain ⟨A, c, e, hl, hC⟩ := k24_open hK
  simp only [List.cons.injEq, and_true] at e
  obtain ⟨e0, e1, e2, e3⟩ := e
  exact ⟨x.f0, x.f1, x.f2, A, c, x.f3, e0, e1, e2, e3, hC, hl, by cases x; exact hw⟩
set_option maxRecDepth 100000 in
set_option maxHeartbeats 1000000 in
theorem open_three {r : Reach} {b0 : Nat} {v : Value} {d : DataW H} {ps : List MemPlace} (hval : Value.okWide Tryd.prog W r b0 42 v) (h : DataW.Trod enc Tryd.prog W base spare held 42 v d ps) :
    ∃ (a0 a1 a2 : Int) (a3 : ByteArray) (A4 : Option Addr) (c4 : Nat) (l4 : List S24) (a5 a6 : Int) (a7 : ByteArray) (A8 : Option Addr) (c8 : Nat) (l8 : List S24) (a9 a10 : Int) (a11 : ByteArray) (A12 : Option Addr) (c12 : Nat) (l12 : List S24),
      v = .agg #[.int .i64 a0, .int .i64 a1, .int .i64 a2, .string a3, .slice A4 l4.length c4, .int .i64 a5, .int .i64 a6, .string a7, .slice A8 l8.length c8, .int .i64 a9, .int .i64 a10, .string a11, .slice A12 l12.length c12] ∧ In64 a0 ∧
      Kd.C k24 W A4 l4.length l4 ∧ l4.length ≤ c4 ∧ WfV ⟨a1, a2, a3, l4⟩ ∧ Kd.C k24 W A8 l8.length l8 ∧ l8.length ≤ c8 ∧ WfV ⟨a5, a6, a7, l8⟩ ∧ Kd.C k24 W A12 l12.length l12 ∧ l12.length ≤ c12 ∧ WfV ⟨a9, a10, a11, l12⟩ := by
  obtain ⟨cs, ecs, _⟩ := okWide_struct Tryd.underlying42 hval
  subst ecs
  obtain ⟨fuel, hf⟩ := h
  obtain ⟨xs, n, rfl, _, hl, hlen, hf⟩ := DataW.trod_struct Tryd.underlying42 hf
  have c13 : Tryd.prog.cellsOf 42 = 13 := by kernel_rfl
  have c4 : Tryd.prog.cellsOf 24 = 4 := by kernel_rfl
  have ci : Tryd.prog.cellsOf 3 = 1 := by kernel_rfl
  rw [c13] at hl
  obtain ⟨l⟩ := cs
  obtain ⟨b0, b1, b2, b3, b4, b5, b6, b7, b8, b9, b10, b11, b12, rfl⟩ := list13 hl
  obtain ⟨y0, y1, y2, y3, rfl⟩ := list4 (show xs.length = 4 from hlen)
  have h0 : DataW.trod enc Tryd.prog W base spare held n 3 (([b0, b1, b2, b3, b4, b5, b6, b7, b8, b9, b10, b11, b12].drop 0).take (Tryd.prog.cellsOf 3)) = some y0 := hf 0 _ rfl
  rw [ci] at h0
  have h0 : DataW.trod enc Tryd.prog W base spare held n 3 [b0] = some y0 := h0
  have h1 : DataW.trod enc Tryd.prog W base spare held n 24 (([b0, b1, b2, b3, b4, b5, b6, b7, b8, b9, b10, b11, b12].drop 1).take (Tryd.prog.cellsOf 24)) = some y1 := hf 1 _ rfl
  rw [c4] at h1
  have h1 : DataW.trod enc Tryd.prog W base spare held n 24 [b1, b2, b3, b4] = some y1 := h1
  have h2 : DataW.trod enc Tryd.prog W base spare held n 24 (([b0, b1, b2, b3, b4, b5, b6, b7, b8, b9, b10, b11, b12].drop 5).take (Tryd.prog.cellsOf 24)) = some y2 := hf 2 _ rfl
  rw [c4] at h2
  have h2 : DataW.trod enc Tryd.prog W base spare held n 24 [b5, b6, b7, b8] = some y2 := h2
  have h3 : DataW.trod enc Tryd.prog W base spare held n 24 (([b0, b1, b2, b3, b4, b5, b6, b7, b8, b9, b10, b11, b12].drop 9).take (Tryd.prog.cellsOf 24)) = some y3 := hf 3 _ rfl
  rw [c4] at h3
  have h3 : DataW.trod enc Tryd.prog W base spare held n 24 [b9, b10, b11, b12] = some y3 := h3
  obtain ⟨m0, e0, _, w0⟩ := DataW.trod_int Tryd.underlying3 h0
  simp only [List.cons.injEq, and_true] at e0
  subst e0
  obtain ⟨p0, p1, p2, A4, q4, l4, rfl, rfl, rfl, rfl, hC4, hc4, hw4⟩ := open_four h1
  obtain ⟨r0, r1, r2, A8, q8, l8, rfl, rfl, rfl, rfl, hC8, hc8, hw8⟩ := open_four h2
  obtain ⟨s0, s1, s2, A12, q12, l12, rfl, rfl, rfl, rfl, hC12, hc12, hw12⟩ := open_four h3
  exact ⟨m0, p0, p1, p2, A4, q4, l4, r0, r1, r2, A8, q8, l8, s0, s1, s2, A12, q12, l12, rfl, in64_of_wf w0, hC4, hc4, hw4, hC8, hc8, hw8, hC12, hc12, hw12⟩
end
end Go.Proofs.YtmebfblabccblaaDoor.XH
