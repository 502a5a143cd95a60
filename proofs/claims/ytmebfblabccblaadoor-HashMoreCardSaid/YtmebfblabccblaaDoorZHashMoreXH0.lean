-- cut down by bundle.py (the session's own program) from the text YtmebfblabccblaaDoorXH0, to what this claim names
-- laid by xprint.py (the session's own program) out of the translation; Lean checks it
import Derived.Test.YtmebfblabccblaaDoorProg
import Derived.Below
import Derived.Deep.Draws
import Derived.Deep.AppendLies
import Derived.Maps.AppendAt
import Derived.OwnWalk
import Derived.Laws.BytesArg
import Derived.Laws.MakeOwn
import Derived.Laws.OwnMore
import Derived.Deep.OwnRows
import Derived.Tactics
import Derived.Lib.ConvBytes
import Derived.Laws.Slices
import Derived.WalkKit
import Derived.KernelRfl
import Derived.RowKit3
import Derived.Deep.LoopGhost
import Derived.Deep.QuietTactic
import Derived.BigQuiet
import Derived.WideLaws
import Derived.Deep.DeepCutAuto
import Derived.Deep.CutBlock
import Derived.Deep.RegionHeld3
import Derived.Laws.Rows
import Derived.Lib.AppendStr
import Derived.ArgAppend
import Derived.Laws.IdiomCopy
import Derived.OrdersHeld
import Derived.Laws.BitsLemmas
import Derived.RowKit
import Derived.Test.YtmebfblabccblaaDoorZHashMoreShelf
import Derived.Laws.RangeAny
import Derived.Deep.RegionHeld3
import Derived.IntWalk
import Derived.Test.YtmebfblabccblaaDoorZHashMoreWWords
import Derived.Test.YtmebfblabccblaaDoorZHashMoreWLast
import Derived.Test.YtmebfblabccblaaDoorZHashMoreWTab
import Derived.Test.YtmebfblabccblaaDoorZHashMoreWFour
import Derived.Test.YtmebfblabccblaaDoorZHashMoreWQPut
import Derived.Test.YtmebfblabccblaaDoorZHashMoreWApart
import Derived.Test.YtmebfblabccblaaDoorZHashMoreWArr
import Derived.Test.YtmebfblabccblaaDoorZHashMoreWZeros
import Derived.Test.YtmebfblabccblaaDoorZHashMoreWFoot
import Derived.Test.YtmebfblabccblaaDoorZHashMoreWKept
import Derived.Test.YtmebfblabccblaaDoorZHashMoreWShare
import Derived.Test.YtmebfblabccblaaDoorZHashMoreWN
import Derived.Test.YtmebfblabccblaaDoorZHashMoreWFootNe
import Derived.Test.YtmebfblabccblaaDoorZHashMoreWAt
import Derived.Test.YtmebfblabccblaaDoorZHashMoreWEqStruct
import Derived.Test.YtmebfblabccblaaDoorZHashMoreWRepsOne
import Derived.Test.YtmebfblabccblaaDoorZHashMoreWInv
import Derived.Test.YtmebfblabccblaaDoorZHashMoreWInvWords
import Derived.Test.YtmebfblabccblaaDoorZHashMoreWGuard
import Derived.Test.YtmebfblabccblaaDoorZHashMoreWNEv
import Derived.Test.YtmebfblabccblaaDoorZHashMoreWMore
import Derived.Test.YtmebfblabccblaaDoorZHashMoreWSized
namespace Go.Proofs.YtmebfblabccblaaDoor.XH
open Go.RowKit Go.Proofs.YtmebfblabccblaaDoorW.PrintWords Go.Proofs.YtmebfblabccblaaDoorW.PrintLast Go.Proofs.YtmebfblabccblaaDoorW.PrintMore
attribute [local go_sem] max2_int min2_int max_two min_two max_three min_three max_four min_four   -- for this text's walks alone
set_option linter.unusedVariables false
set_option linter.unusedSimpArgs false

def errW : Option Int → Value
  | none => .nilIface
  | some c => .iface 0 (.int .i64 c)
theorem errW_none : errW none = .nilIface := rfl
theorem errW_some (c : Int) : errW (some c) = .iface 0 (.int .i64 c) := rfl

theorem info25 : (Tryd.prog.info? 25).map (fun i => (i.zero, i.size, i.bytes)) = some (some (.int .u32 0), 1, 4) := by kernel_rfl
theorem info119 : (Tryd.prog.info? 119).map (fun i => (i.zero, i.size, i.bytes)) = some (some (.int .u16 0), 1, 2) := by kernel_rfl
-- the values' own types
structure S24 where
  f0 : Int
  f1 : Int
  f2 : ByteArray
  f3 : (List S24)
def z24 : S24 := ⟨(0 : Int), (0 : Int), (⟨#[]⟩ : ByteArray), ([] : List S24)⟩
def F24 (d : Kd S24) : Kd S24 := Kd.iso (Kd.pair (Kd.int .i64) (Kd.pair (Kd.int .i64) (Kd.pair Kd.string (Kd.slice 24 d)))) (fun x : S24 => (x.f0, x.f1, x.f2, x.f3))
theorem mono24 : Kd.Mono F24 := Kd.mono_iso _ (Kd.mono_pair (Kd.mono_const _) (Kd.mono_pair (Kd.mono_const _) (Kd.mono_pair (Kd.mono_const _) (Kd.mono_slice 24 Kd.mono_id))))
theorem sub24 : Kd.Sub F24 [24] := Kd.sub_iso _ (Kd.sub_pair (Kd.sub_const _ (by decide)) (Kd.sub_pair (Kd.sub_const _ (by decide)) (Kd.sub_pair (Kd.sub_const _ (by decide)) (Kd.sub_slice 24 (by decide) Kd.sub_id))))
theorem sz24 : ∀ n, (Kd.upto F24 4 [24] n).sz = 4 := Kd.upto_sz (fun _ => rfl)
def k24 : Kd S24 := Kd.fix F24 4 [24] sz24 (Kd.upto_E sub24)
theorem k24_open {w : World} {x : S24} {cs : List Value} (h : k24.K w x cs) : ∃ A3 c3, cs = [.int .i64 x.f0, .int .i64 x.f1, .string x.f2, .slice A3 x.f3.length c3] ∧ x.f3.length ≤ c3 ∧ k24.C w A3 x.f3.length x.f3 := by
  obtain ⟨n, h⟩ := h
  cases n with
  | zero => exact h.elim
  | succ n =>
    obtain ⟨_, _, rfl, rfl, ⟨_, _, rfl, rfl, ⟨_, _, rfl, rfl, ⟨A3, c3, rfl, l3, g3⟩⟩⟩⟩ := h
    exact ⟨A3, c3, rfl, l3, Kd.fix_C g3⟩
theorem k24_mk (w : World) (x : S24) {A3 : Option Addr} {c3 : Nat} (l3 : x.f3.length ≤ c3) (g3 : k24.C w A3 x.f3.length x.f3) : k24.K w x [.int .i64 x.f0, .int .i64 x.f1, .string x.f2, .slice A3 x.f3.length c3] := by
  obtain ⟨n3, q3⟩ := Kd.fix_C_back mono24 g3
  have r3 := Kd.upto_C_le mono24 sz24 (show n3 ≤ n3 by omega) q3
  exact ⟨n3 + 1, ⟨[.int .i64 x.f0], [.int .i64 x.f1, .string x.f2, .slice A3 x.f3.length c3], rfl, rfl, ⟨[.int .i64 x.f1], [.string x.f2, .slice A3 x.f3.length c3], rfl, rfl, ⟨[.string x.f2], [.slice A3 x.f3.length c3], rfl, rfl, ⟨A3, c3, rfl, l3, r3⟩⟩⟩⟩⟩
def rd_T24 (xs : List S24) (i : Int) : S24 := xs.getD i.toNat z24
theorem at_T24 {w : World} {A : Option Addr} {n : Nat} {xs : List S24} (h : Kd.C k24 w A n xs) (i : Int) (h0 : 0 ≤ i) (h1 : i < n) : ∃ ad A3 c3, A = some ad ∧ w.cell? (ad.add (i.toNat * 4)) = some (.int .i64 (rd_T24 xs i).f0) ∧ w.cell? ⟨(ad.add (i.toNat * 4)).block, (ad.add (i.toNat * 4)).off + 1, none⟩ = some (.int .i64 (rd_T24 xs i).f1) ∧ w.cell? ⟨(ad.add (i.toNat * 4)).block, (ad.add (i.toNat * 4)).off + 2, none⟩ = some (.string (rd_T24 xs i).f2) ∧ w.cell? ⟨(ad.add (i.toNat * 4)).block, (ad.add (i.toNat * 4)).off + 3, none⟩ = some (.slice A3 (rd_T24 xs i).f3.length c3) ∧ (rd_T24 xs i).f3.length ≤ c3 ∧ k24.C w A3 (rd_T24 xs i).f3.length (rd_T24 xs i).f3 := by
  obtain ⟨ad, c, e, _, hK, hc0⟩ := Kd.C_get h z24 i h0 h1
  have hc : ∀ j u, c[j]? = some u → w.cell? (ad.add (i.toNat * 4 + j)) = some u := hc0
  obtain ⟨A3, c3, rfl, l3, g3⟩ := k24_open hK
  exact ⟨ad, A3, c3, e, hc 0 _ rfl, by rw [← add_field _ _ 1 (by omega)]; exact hc 1 _ rfl, by rw [← add_field _ _ 2 (by omega)]; exact hc 2 _ rfl, by rw [← add_field _ _ 3 (by omega)]; exact hc 3 _ rfl, l3, g3⟩

def LaidW (w : World) : Prop := Lib.Utf8Tabs 1 2 w
theorem LaidW.below {w w' : World} (h : LaidW w) (hb : Below w.heap.size w w') : LaidW w' := Go.Proofs.Utf8Tabs_below h hb
def putIter (w : World) (k : Nat) (s : ByteArray) (p : Nat) : World := { w with heap := w.heap.setIfInBounds k (.stringIter s p) }
theorem putIter_at {w : World} {k : Nat} {o : Obj} (h : w.heap[k]? = some o) (s : ByteArray) (p : Nat) : (putIter w k s p).heap[k]? = some (.stringIter s p) := by
  have hk : k < w.heap.size := by
    rcases Nat.lt_or_ge k w.heap.size with h' | h'
    · exact h'
    · rw [Array.getElem?_eq_none h'] at h; cases h
  simp only [putIter]
  rw [Array.getElem?_setIfInBounds_self_of_lt hk]
theorem putIter_size (w : World) (k : Nat) (s : ByteArray) (p : Nat) : (putIter w k s p).heap.size = w.heap.size := by simp [putIter]
theorem putIter_below {B : Nat} {a w : World} (h : Below B a w) {k : Nat} (hk : B ≤ k) (s : ByteArray) (p : Nat) : Below B a (putIter w k s p) :=
  h.trans ⟨rfl, rfl, rfl, by simp [putIter], fun i hi => by simp only [putIter]; rw [Array.getElem?_setIfInBounds_ne (by omega)]⟩
theorem run_next_at {P : Program} {w : World} {k pos : Nat} {s : ByteArray} (ty : TypeId) (hk : w.heap[k]? = some (.stringIter s pos)) (h : pos < s.size) :
    (Instr.next (.pointer (some ⟨k, 0, none⟩)) true ty).run P w = .ok (.tuple #[.bool true, .int .i64 pos, .int .i32 (Utf8.decode s pos).1]) (putIter w k s (pos + (Utf8.decode s pos).2)) := by
  simp only [Instr.next, getObj, setObj, Sem.run_bind, Sem.run, hk, Result.andThen, h, if_true]
  simp [goInt, putIter]
theorem run_next_over {P : Program} {w : World} {k pos : Nat} {s : ByteArray} (ty : TypeId) (hk : w.heap[k]? = some (.stringIter s pos)) (h : ¬ pos < s.size) :
    (Instr.next (.pointer (some ⟨k, 0, none⟩)) true ty).run P w = .ok (.tuple #[.bool false]) w := by
  simp only [Instr.next, getObj, Sem.run_bind, Sem.run, hk, Result.andThen, h, if_false]
  simp
theorem width_pos (s : ByteArray) (pos : Nat) (h : pos < s.size) : 1 ≤ (Utf8.decode s pos).2 := by
  by_cases ha : (s[pos]'h).toNat < 128
  · rw [decode_ascii s pos h ha]
    exact Nat.le_refl _
  · exact (decode_high s pos h (by omega)).2
theorem bytesLess_turn : ∀ a b : List UInt8, (!(Op.bytesLess a b || a == b)) = Op.bytesLess b a
  | [], [] => rfl
  | [], _ :: _ => rfl
  | _ :: _, [] => rfl
  | x :: a, y :: b => by
    have ih := bytesLess_turn a b
    simp only [Op.bytesLess]
    rw [← ih]
    by_cases h : x < y
    · have h1 : ¬ y < x := by simp only [UInt8.lt_iff_toNat_lt] at *; omega
      have h2 : (x == y) = false := by rw [beq_eq_false_iff_ne]; rintro rfl; simp only [UInt8.lt_iff_toNat_lt] at h; omega
      have h3 : (y == x) = false := by rw [beq_eq_false_iff_ne]; rintro rfl; simp only [UInt8.lt_iff_toNat_lt] at h; omega
      simp [h, h1, h3]
    · by_cases e : x = y
      · subst e
        simp [h]
      · have h1 : y < x := by
          have : x.toNat ≠ y.toNat := fun q => e (UInt8.toNat_inj.1 q)
          simp only [UInt8.lt_iff_toNat_lt] at *; omega
        simp [h, h1, e]
@[go_sem high] theorem string_gtr (t : TypeId) (a b : ByteArray) : binOp .gtr t (.string a) (.string b) = pure (.bool (Op.bytesLess b.toList a.toList)) := by
  rw [← bytesLess_turn a.toList b.toList]
  simp [binOp, Op.stringOp]
theorem el24 {w W : World} {A : Option Addr} {n : Nat} {xs : List S24} (h : Kd.C k24 w A n xs) (hb : Below w.heap.size w W) (k : Nat) (hk : k < n) :
    ∃ (ad : Addr) (A3 : Option Addr) (c3 : Nat), A = some ad ∧ (W.cell? (ad.add (k * 4)) = some (.int .i64 (rd_T24 xs k).f0) ∧ W.cell? ⟨(ad.add (k * 4)).block, (ad.add (k * 4)).off + 1, none⟩ = some (.int .i64 (rd_T24 xs k).f1) ∧ W.cell? ⟨(ad.add (k * 4)).block, (ad.add (k * 4)).off + 2, none⟩ = some (.string (rd_T24 xs k).f2) ∧ W.cell? ⟨(ad.add (k * 4)).block, (ad.add (k * 4)).off + 3, none⟩ = some (.slice A3 (rd_T24 xs k).f3.length c3)) ∧ (rd_T24 xs k).f3.length ≤ c3 ∧ k24.C W A3 (rd_T24 xs k).f3.length (rd_T24 xs k).f3 := by
  obtain ⟨ad, A3, c3, e, h0, h1, h2, h3, hl, hr⟩ := at_T24 h (k : Int) (by omega) (by omega)
  simp only [Int.toNat_natCast] at h0 h1 h2 h3
  exact ⟨ad, A3, c3, e, ⟨(hb.cell (World.block_lt_of_cell? w _ h0)).trans h0, (hb.cell (World.block_lt_of_cell? w _ h1)).trans h1, (hb.cell (World.block_lt_of_cell? w _ h2)).trans h2, (hb.cell (World.block_lt_of_cell? w _ h3)).trans h3⟩, hl, Kd.C_below hr hb⟩
theorem rd_get24 (xs : List S24) (k : Nat) (h : k < xs.length) : rd_T24 xs (k : Int) = xs[k] := by
  unfold rd_T24
  simp [List.getD_eq_getElem?_getD, h]
open Classical in
theorem gate_step {P : Program} {ops : Array Oper} {o : Oper} {a : Act} {Q : Exit → Act → World → Prop} {K : Act → World → Prop} {W : World} {b : Builtin} {xs : Array Operand} {ts : Array TypeId} (_ho : o.op = .call { callee := .builtin b, args := xs, argTypes := ts })
    (h : if Region.wanted o (yielded ops a.tmps) = true then Oper.wp P o a W K Q else K (a.put o.dst undef) W) : if Region.wanted o (yielded ops a.tmps) = true then Oper.wp P o a W K Q else K (a.put o.dst undef) W := h

end Go.Proofs.YtmebfblabccblaaDoor.XH
