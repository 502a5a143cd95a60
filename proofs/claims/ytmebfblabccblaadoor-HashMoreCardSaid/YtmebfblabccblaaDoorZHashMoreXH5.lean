-- cut down by bundle.py (the session's own program) from the text YtmebfblabccblaaDoorXH5, to what this claim names
-- laid by xprint.py (the session's own program) out of the translation; Lean checks it
import Derived.Test.YtmebfblabccblaaDoorZHashMoreXH0
import Derived.Test.YtmebfblabccblaaDoorZHashMoreXH4
namespace Go.Proofs.YtmebfblabccblaaDoor.XH
open Go.RowKit Go.Proofs.YtmebfblabccblaaDoorW.PrintWords Go.Proofs.YtmebfblabccblaaDoorW.PrintLast Go.Proofs.YtmebfblabccblaaDoorW.PrintMore
attribute [local go_sem] max2_int min2_int max_two min_two max_three min_three max_four min_four   -- for this text's walks alone
set_option linter.unusedVariables false
set_option linter.unusedSimpArgs false

def murmur_Int.f (a0 : Int) : Option (Int) := if a0 = 0 then (some 0) else ((murmur_MixK.f ((a0) % 4294967296)).bind fun t138 => ((murmur_MixH.f 0 t138).bind fun t139 => ((murmur_Fin.f t139 4).bind fun t140 => (some t140))))
set_option maxHeartbeats 8000000 in
set_option maxRecDepth 100000 in
theorem murmur_Int.calls (a0 : Int) (r : Int) (w : World) (h : murmur_Int.f a0 = some r) :
    Calls Tryd.prog 67 #[.int .i32 a0] w fun e w' => e = .returned (.int .u32 r) ∧ Drawn0 w w' := by
  have H : (if a0 = 0 then (some 0) else ((murmur_MixK.f ((a0) % 4294967296)).bind fun t138 => ((murmur_MixH.f 0 t138).bind fun t139 => ((murmur_Fin.f t139 4).bind fun t140 => (some t140))))) = some r := h
  clear h
  by_cases c2 : a0 = 0
  · rw [if_pos c2] at H
    have c2b0 : (a0 == 0) = true := beq_iff_eq.mpr c2
    have c2b1 : (a0 != 0) = false := bne_eq_false_iff_eq.mpr c2
    clear c2
    obtain rfl := Option.some.inj H
    go_enter Tryd.func67, Tryd.ntmps67
    go_wp2
    go_ret
    exact ⟨by first | rfl | (simp; done) | (simp [*]; done), by repeat (first | exact Drawn0.refl _ | apply Drawn0.step)⟩
  · rw [if_neg c2] at H
    have c2b0 : (a0 == 0) = false := beq_eq_false_iff_ne.mpr c2
    have c2b1 : (a0 != 0) = true := bne_iff_ne.mpr c2
    replace H := Option.bind_eq_some_iff.mp H
    obtain ⟨t138, A30, H⟩ := H
    replace H : ((murmur_MixH.f 0 t138).bind fun t139 => ((murmur_Fin.f t139 4).bind fun t140 => (some t140))) = some r := H
    have A3 := Aside0.mk A30
    clear A30
    replace H := Option.bind_eq_some_iff.mp H
    obtain ⟨t139, A40, H⟩ := H
    replace H : ((murmur_Fin.f t139 4).bind fun t140 => (some t140)) = some r := H
    have A4 := Aside0.mk A40
    clear A40
    replace H := Option.bind_eq_some_iff.mp H
    obtain ⟨t140, A50, H⟩ := H
    replace H : (some t140) = some r := H
    have A5 := Aside0.mk A50
    clear A50
    obtain rfl := Option.some.inj H
    go_enter Tryd.func67, Tryd.ntmps67
    go_wp2_with (first | ((with_reducible refine gate_callee (f := 117) rfl ?_); refine goesL_ (some 7) rfl rfl Tryd.func117 (by kernel_rfl) rfl #[.int .u32 ((a0) % 4294967296)] rfl (by (try simp only [List.map_toArray, List.map_cons, List.map_nil]); first | done | rfl | (simp only [List.length_drop, List.length_take]; rfl) | (simp only [gt_iff_lt, Int.ofNat_lt]; rfl)) ?_; (with_reducible refine (murmur_MixK.calls ((a0) % 4294967296) t138 _ A3.out).mono ?_); rintro e w' ⟨rfl, ⟨nd, rfl⟩⟩; refine ⟨_, rfl, ?_⟩) | ((with_reducible refine gate_callee (f := 116) rfl ?_); refine goesL_ (some 8) rfl rfl Tryd.func116 (by kernel_rfl) rfl #[.int .u32 0, .int .u32 t138] rfl (by (try simp only [List.map_toArray, List.map_cons, List.map_nil]); first | done | rfl | (simp only [List.length_drop, List.length_take]; rfl) | (simp only [gt_iff_lt, Int.ofNat_lt]; rfl)) ?_; (with_reducible refine (murmur_MixH.calls 0 t138 t139 _ A4.out).mono ?_); rintro e w' ⟨rfl, ⟨nd, rfl⟩⟩; refine ⟨_, rfl, ?_⟩) | ((with_reducible refine gate_callee (f := 115) rfl ?_); refine goesL_ (some 9) rfl rfl Tryd.func115 (by kernel_rfl) rfl #[.int .u32 t139, .int .u32 4] rfl (by (try simp only [List.map_toArray, List.map_cons, List.map_nil]); first | done | rfl | (simp only [List.length_drop, List.length_take]; rfl) | (simp only [gt_iff_lt, Int.ofNat_lt]; rfl)) ?_; (with_reducible refine (murmur_Fin.calls t139 4 t140 _ A5.out).mono ?_); rintro e w' ⟨rfl, ⟨nd, rfl⟩⟩; refine ⟨_, rfl, ?_⟩))
    go_ret
    exact ⟨by first | rfl | (simp; done) | (simp [*]; done), by repeat (first | exact Drawn0.refl _ | apply Drawn0.step)⟩

def murmur_Java.l0 : Nat → Int → List Int → Int → Int → Option (Int)
  | 0, _, _, _, _ => none
  | k + 1, x3, x6, x7, x8 => if x8 < x7 then (if 0 ≤ x8 then (if x8 < (x6.length : Int) then (murmur_Java.l0 k (wrap32 ((wrap32 (31 * x3)) + (wrap32 (rd x6 x8)))) x6 x7 (wrap64 (x8 + 1))) else (none)) else (none)) else (some x3)
def murmur_Java.f (k : Nat) (l0 : List Int) : Option (Int) := murmur_Java.l0 k 0 l0 (l0.length : Int) 0
theorem murmur_Java.mono_l : ∀ k, (∀ y0 y1 y2 y3, LeO (murmur_Java.l0 k y0 y1 y2 y3) (murmur_Java.l0 (k + 1) y0 y1 y2 y3))
  | 0 => fun _ _ _ _ r h => by simp [murmur_Java.l0] at h
  | k + 1 => by
    have ih0 := murmur_Java.mono_l k
    · intro y0 y1 y2 y3
      unfold murmur_Java.l0
      repeat' first
      | (with_reducible exact ih0 _ _ _ _)
      | (with_reducible exact LeO.refl _)
      | (with_reducible exact LeO.none _)
      | (with_reducible refine LeO.ite ?_ ?_)
      | (with_reducible refine LeO.bind ?_ (fun _ => ?_))
      | exact ih0 _ _ _ _
      | exact LeO.none _
      | refine LeO.ite ?_ ?_
      | refine LeO.bind ?_ (fun _ => ?_)
theorem murmur_Java.mono : ∀ a0 k, LeO (murmur_Java.f k a0) (murmur_Java.f (k + 1) a0) := by
  intro a0 k
  have ih0 := murmur_Java.mono_l k
  unfold murmur_Java.f
  repeat' first
      | (with_reducible exact ih0 _ _ _ _)
      | (with_reducible exact LeO.refl _)
      | (with_reducible exact LeO.none _)
      | (with_reducible refine LeO.ite ?_ ?_)
      | (with_reducible refine LeO.bind ?_ (fun _ => ?_))
      | exact ih0 _ _ _ _
      | exact LeO.none _
      | refine LeO.ite ?_ ?_
      | refine LeO.bind ?_ (fun _ => ?_)
set_option maxHeartbeats 8000000 in
set_option maxRecDepth 100000 in
theorem murmur_Java.calls (k : Nat) (A0 : Option Addr) (c0 : Nat) (l0 : List Int) (r : Int) (w : World) (hr0 : Kd.C (Kd.int .u16) w A0 l0.length l0) (hc0 : l0.length ≤ c0) (h : murmur_Java.f k l0 = some r) :
    Calls Tryd.prog 68 #[.slice A0 l0.length c0] w fun e w' => e = .returned (.int .i32 r) ∧ Drawn0 w w' := by
  have HR0 := Aside0.mk hr0
  have HC0 := Aside0.mk hc0
  clear hr0 hc0
  have H : (murmur_Java.l0 k 0 l0 (l0.length : Int) 0) = some r := h
  clear h
  have H' := Aside0.mk H
  clear H
  go_enter Tryd.func68, Tryd.ntmps68
  go_wp2
  go_loopg [3, 8] k (fun kq v3 v8 w' => ∃ (x3_1 : Int) (x8_1 : Int), v3 = .int .i32 x3_1 ∧ v8 = .int .i64 x8_1 ∧ Aside0 (murmur_Java.l0 kq x3_1 l0 (l0.length : Int) x8_1 = some r) ∧ Aside0 (kq ≤ k) ∧ Drawn0 w w')
  case atStart => exact ⟨(0), (0), (by first | rfl | (simp; done) | (simp [*]; done)), (by first | rfl | (simp; done) | (simp [*]; done)), H', ⟨Nat.le_refl _⟩, by repeat (first | exact Drawn0.refl _ | apply Drawn0.step)⟩
  case round =>
    clear H'
    obtain ⟨x3_1, x8_1, rfl, rfl, HA, HK1, ⟨m1, rfl⟩⟩ := hrel
    cases gk with
    | zero => exact absurd HA.out (by simp [murmur_Java.l0])
    | succ k1 =>
      have H := HA.out
      clear HA
      simp only [murmur_Java.l0] at H
      by_cases c2 : x8_1 < (l0.length : Int)
      · rw [if_pos c2] at H
        have c2b0 : decide (x8_1 < (l0.length : Int)) = true := decide_eq_true c2
        clear c2
        by_cases c3 : 0 ≤ x8_1
        · rw [if_pos c3] at H
          have c3b0 : decide (0 ≤ x8_1) = true := decide_eq_true c3
          clear c3
          by_cases c4 : x8_1 < (l0.length : Int)
          · rw [if_pos c4] at H
            have c4b0 : decide (x8_1 < (l0.length : Int)) = true := decide_eq_true c4
            clear c4
            have H' := Aside0.mk H
            clear H
            have p141 : 0 ≤ (x8_1 : Int) := of_decide_eq_true (by first | (with_reducible assumption) | assumption)
            have q141 : x8_1 < (l0.length : Int) := of_decide_eq_true (by first | (with_reducible assumption) | assumption)
            obtain ⟨ad141, e141, hx141_0⟩ := Kd.at_int HR0.out x8_1 p141 q141
            cases e141
            replace p141 := eq_true p141
            replace q141 := eq_true q141
            go_wp2
            go_roundg k1
            case measure => have := HK1.out; omega
            case rel => exact ⟨(wrap32 ((wrap32 (31 * x3_1)) + (wrap32 (rd l0 x8_1)))), (wrap64 (x8_1 + 1)), (by first | rfl | (simp; done) | (simp [*]; done)), (by first | rfl | (simp; done) | (simp [*]; done)), H', ⟨by have := HK1.out; omega⟩, by repeat (first | exact Drawn0.refl _ | apply Drawn0.step)⟩
          · rw [if_neg c4] at H
            exact absurd H (by simp)
        · rw [if_neg c3] at H
          exact absurd H (by simp)
      · rw [if_neg c2] at H
        have c2b0 : decide (x8_1 < (l0.length : Int)) = false := decide_eq_false c2
        clear c2
        obtain rfl := Option.some.inj H
        go_wp2
        go_ret
        exact ⟨by first | rfl | (simp; done) | (simp [*]; done), by repeat (first | exact Drawn0.refl _ | apply Drawn0.step)⟩

def unitsFrom (s : ByteArray) : Nat → Nat → List Int
  | 0, _ => []
  | b + 1, pos => if pos < s.size then ((if 65535 < (Utf8.decode s pos).1 then [IntKind.u16.wrap (Go.bits .or .i32 55296 ((((Utf8.decode s pos).1 : Int) - 65536) / 1024)), IntKind.u16.wrap (Go.bits .or .i32 56320 (Go.bits .and .i32 (((Utf8.decode s pos).1 : Int) - 65536) 1023))] else [((Utf8.decode s pos).1 : Int)]) ++ unitsFrom s b (pos + (Utf8.decode s pos).2)) else []
def UnRel (s : ByteArray) (w : World) (v : Value) (wr : World) : Prop := ∃ (pos b : Nat) (acc : List Int), wr.heap[w.heap.size]? = some (.stringIter s pos) ∧ Below w.heap.size w wr ∧ Kd.R (Kd.int .u16) 119 wr (w.heap.size + 1) (fun k => w.heap.size + 1 ≤ k) v acc ∧ acc ++ unitsFrom s b pos = unitsFrom s s.size 0 ∧ s.size ≤ pos + b ∧ acc.length ≤ 2 * pos
def hash_units.f (a0 : ByteArray) : Option (List Int) := if a0.size ≤ 1048576 then some (unitsFrom a0 a0.size 0) else none
set_option maxHeartbeats 1600000 in
set_option maxRecDepth 100000 in
theorem hash_units.calls (a0 : ByteArray) (r : List Int) (w : World) (h : hash_units.f a0 = some r) :
    Calls Tryd.prog 69 #[.string a0] w fun e w' => ∃ v0_ : Value, e = .returned (v0_) ∧ Kd.R (Kd.int .u16) 119 w' w.heap.size (fun _ => True) v0_ r ∧ Below w.heap.size w w' := by
  unfold hash_units.f at h
  by_cases hsz : a0.size ≤ 1048576
  · rw [if_pos hsz] at h
    obtain rfl := Option.some.inj h
    clear h
    go_enter Tryd.func69, Tryd.ntmps69
    go_wp2
    go_loopw [3] (fun v wr => UnRel a0 w v wr) (fun _ wr => a0.size - wr.iterPos w.heap.size)
    case atStart => exact ⟨0, a0.size, [], World.iter_heap _ _ _, (Below.refl _ _).alloc (Nat.le_refl _) _, Kd.R_nil _ _ _ _ _, rfl, by omega, by simp⟩
    case round =>
      obtain ⟨pos, b, acc, hi, hb, hr, hu, hp, hlen⟩ := hrel
      have HI := Aside0.mk hi
      have HB := Aside0.mk hb
      have HU := Aside0.mk hu
      have HR := Aside0.mk hr
      clear hi hb hu hr
      by_cases hlt : pos < a0.size
      · have hnx : ∀ ty, (Instr.next (.pointer (some ⟨w.heap.size, 0, none⟩)) true ty).run Tryd.prog wr = _ := fun ty => run_next_at ty HI.out hlt
        obtain ⟨b, rfl⟩ : ∃ m, b = m + 1 := ⟨b - 1, by omega⟩
        have hwd := width_pos a0 pos hlt
        have hcl := decode_le a0 pos
        have HI2 := Aside0.mk (putIter_at HI.out a0 (pos + (Utf8.decode a0 pos).2))
        have HB2 := Aside0.mk (putIter_below HB.out (Nat.le_refl _) a0 (pos + (Utf8.decode a0 pos).2))
        have HR2 := Aside0.mk (Kd.R_step (w1 := putIter wr w.heap.size a0 (pos + (Utf8.decode a0 pos).2)) HR.out (fun k hk _ => by simp only [putIter]; rw [Array.getElem?_setIfInBounds_ne (by omega)]))
        clear HR
        have hU := HU.out
        rw [unitsFrom, if_pos hlt] at hU
        clear HU
        have HU := Aside0.mk hU
        clear hU
        generalize hd : Utf8.decode a0 pos = d at hnx HI2 HB2 HU HR2 hwd hcl
        obtain ⟨c, n⟩ := d
        clear hd
        simp only at hnx HI2 HB2 HU HR2 hwd hcl
        have hge := HB2.out.size
        generalize hW : putIter wr w.heap.size a0 (pos + n) = W at hnx HI2 HB2 HR2 hge
        have hz1 : w.heap.size + 1 ≤ W.heap.size := by
          rcases Nat.lt_or_ge w.heap.size W.heap.size with h' | h'
          · exact h'
          · have := HI2.out; rw [Array.getElem?_eq_none h'] at this; cases this
        clear hW
        by_cases hc : 65535 < c
        · have h1 : decide (65535 < (c : Int)) = true := decide_eq_true (by omega)
          go_wp2_with (first | ((with_reducible refine gate_builtin (b := .append) (xs := #[.tmp 16, .tmp 21]) rfl ?_); at_builtin; refine Kd.R_append (Kd.int .u16) (w0 := W) (w.heap.size + 1) rfl (.tmp 16) (.tmp 21) 102 119 (.int .u16 0) 2 rfl Tryd.underlying102 info119 rfl (by decide) (by omega) u3 acc (IntKind.u16.wrap (Go.bits .or .i32 55296 (((c : Int) - 65536) / 1024))) [.int .u16 (IntKind.u16.wrap (Go.bits .or .i32 55296 (((c : Int) - 65536) / 1024)))] (fun k => w.heap.size + 1 ≤ k) (fun _ => False) rfl rfl ?aP3 (fun _ hk => hk.elim) ?aF3 ?aO3 ?aB3 ?aS3 ?aL3 ?_; (case aP3 => exact rfl); (case aF3 => exact (fun _ hk => by omega)); (case aO3 => exact HR2.out); (case aB3 => exact Below.refl _ _); (case aS3 => omega); (case aL3 => (try simp only [List.length_append, List.length_cons, List.length_nil]); omega); intro v3 w3 ho3 hb3 hg3 hat3; (try (have hz3 := hb3.size; have HO3 := Aside0.mk ho3; have HBB3 := Aside0.mk hb3; clear ho3 hb3 hg3 hat3))) | ((with_reducible refine gate_builtin (b := .append) (xs := #[.tmp 26, .tmp 29]) rfl ?_); at_builtin; refine Kd.R_append (Kd.int .u16) (w0 := w3) (w.heap.size + 1) rfl (.tmp 26) (.tmp 29) 102 119 (.int .u16 0) 2 rfl Tryd.underlying102 info119 rfl (by decide) (by omega) v3 (acc ++ [IntKind.u16.wrap (Go.bits .or .i32 55296 (((c : Int) - 65536) / 1024))]) (IntKind.u16.wrap (Go.bits .or .i32 56320 (Go.bits .and .i32 ((c : Int) - 65536) 1023))) [.int .u16 (IntKind.u16.wrap (Go.bits .or .i32 56320 (Go.bits .and .i32 ((c : Int) - 65536) 1023)))] (fun k => w.heap.size + 1 ≤ k) (fun _ => False) rfl rfl ?aP4 (fun _ hk => hk.elim) ?aF4 ?aO4 ?aB4 ?aS4 ?aL4 ?_; (case aP4 => exact rfl); (case aF4 => exact (fun _ hk => by omega)); (case aO4 => exact HO3.out); (case aB4 => exact Below.refl _ _); (case aS4 => omega); (case aL4 => (try simp only [List.length_append, List.length_cons, List.length_nil]); omega); intro v4 w4 ho4 hb4 hg4 hat4; (try (have hz4 := hb4.size; have HO4 := Aside0.mk ho4; have HBB4 := Aside0.mk hb4; clear ho4 hb4 hg4 hat4))))
          go_roundw
          case rel =>
            refine ⟨pos + n, b, acc ++ [IntKind.u16.wrap (Go.bits .or .i32 55296 (((c : Int) - 65536) / 1024))] ++ [IntKind.u16.wrap (Go.bits .or .i32 56320 (Go.bits .and .i32 ((c : Int) - 65536) 1023))], (HBB4.out.block _ (by omega)).trans ((HBB3.out.block _ (by omega)).trans HI2.out), HB2.out.trans ((HBB3.out.trans HBB4.out).mono (by omega)), HO4.out, ?_, by omega, by simp; omega⟩
            have e := HU.out
            rw [if_pos hc] at e
            rw [← e]; simp
          case measure =>
            rw [show w4.iterPos w.heap.size = pos + n from by simp only [World.iterPos, (HBB4.out.block _ (by omega)).trans ((HBB3.out.block _ (by omega)).trans HI2.out)], show wr.iterPos w.heap.size = pos from by simp only [World.iterPos, HI.out]]
            omega
        · have h1 : decide (65535 < (c : Int)) = false := decide_eq_false (by omega)
          go_wp2_with ((with_reducible refine gate_builtin (b := .append) (xs := #[.tmp 26, .tmp 29]) rfl ?_); at_builtin; refine Kd.R_append (Kd.int .u16) (w0 := W) (w.heap.size + 1) rfl (.tmp 26) (.tmp 29) 102 119 (.int .u16 0) 2 rfl Tryd.underlying102 info119 rfl (by decide) (by omega) u3 acc (c : Int) [.int .u16 (c : Int)] (fun k => w.heap.size + 1 ≤ k) (fun _ => False) rfl rfl ?aP1 (fun _ hk => hk.elim) ?aF1 ?aO1 ?aB1 ?aS1 ?aL1 ?_; (case aP1 => exact rfl); (case aF1 => exact (fun _ hk => by omega)); (case aO1 => exact HR2.out); (case aB1 => exact Below.refl _ _); (case aS1 => omega); (case aL1 => omega); intro v1 w1 ho1 hb1 hg1 hat1)
          go_roundw
          case rel =>
            refine ⟨pos + n, b, acc ++ [(c : Int)], (hb1.block _ (by omega)).trans HI2.out, HB2.out.trans (hb1.mono (by omega)), ho1, ?_, by omega, by simp; omega⟩
            have e := HU.out
            rw [if_neg hc] at e
            rw [← e]; simp
          case measure =>
            rw [show w1.iterPos w.heap.size = pos + n from by simp only [World.iterPos, (hb1.block _ (by omega)).trans HI2.out], show wr.iterPos w.heap.size = pos from by simp only [World.iterPos, HI.out]]
            omega
      · have hnx : ∀ ty, (Instr.next (.pointer (some ⟨w.heap.size, 0, none⟩)) true ty).run Tryd.prog wr = _ := fun ty => run_next_over ty HI.out hlt
        have e0 : unitsFrom a0 b pos = [] := by cases b <;> simp [unitsFrom, hlt]
        have HE := Aside0.mk e0
        clear e0
        go_wp2
        go_ret
        refine ⟨_, rfl, ?_, HB.out⟩
        have e := HU.out
        rw [HE.out, List.append_nil] at e
        rw [← e]
        exact Kd.R_lower (Kd.R_mono HR.out (fun _ _ => trivial)) (by omega)
  · rw [if_neg hsz] at h
    cases h

-- NOT PRINTED: function 70 (hash_all)

def murmur_Unordered.l0 : Nat → List Int → Int → List Int → Int → Int → Option (Int)
  | 0, _, _, _, _, _ => none
  | k + 1, x0, x3, x6, x7, x8 => if x8 < x7 then (if 0 ≤ x8 then (if x8 < (x6.length : Int) then (murmur_Unordered.l0 k x0 ((x3 + (rd x6 x8)) % 4294967296) x6 x7 (wrap64 (x8 + 1))) else (none)) else (none)) else ((murmur_Coll.f x3 (x0.length : Int)).bind fun t145 => (some t145))
def murmur_Unordered.f (k : Nat) (l0 : List Int) : Option (Int) := murmur_Unordered.l0 k l0 0 l0 (l0.length : Int) 0
theorem murmur_Unordered.mono_l : ∀ k, (∀ y0 y1 y2 y3 y4, LeO (murmur_Unordered.l0 k y0 y1 y2 y3 y4) (murmur_Unordered.l0 (k + 1) y0 y1 y2 y3 y4))
  | 0 => fun _ _ _ _ _ r h => by simp [murmur_Unordered.l0] at h
  | k + 1 => by
    have ih0 := murmur_Unordered.mono_l k
    · intro y0 y1 y2 y3 y4
      unfold murmur_Unordered.l0
      repeat' first
      | (with_reducible exact ih0 _ _ _ _ _)
      | (with_reducible exact LeO.refl _)
      | (with_reducible exact LeO.none _)
      | (with_reducible refine LeO.ite ?_ ?_)
      | (with_reducible refine LeO.bind ?_ (fun _ => ?_))
      | exact ih0 _ _ _ _ _
      | exact LeO.none _
      | refine LeO.ite ?_ ?_
      | refine LeO.bind ?_ (fun _ => ?_)
theorem murmur_Unordered.mono : ∀ a0 k, LeO (murmur_Unordered.f k a0) (murmur_Unordered.f (k + 1) a0) := by
  intro a0 k
  have ih0 := murmur_Unordered.mono_l k
  unfold murmur_Unordered.f
  repeat' first
      | (with_reducible exact ih0 _ _ _ _ _)
      | (with_reducible exact LeO.refl _)
      | (with_reducible exact LeO.none _)
      | (with_reducible refine LeO.ite ?_ ?_)
      | (with_reducible refine LeO.bind ?_ (fun _ => ?_))
      | exact ih0 _ _ _ _ _
      | exact LeO.none _
      | refine LeO.ite ?_ ?_
      | refine LeO.bind ?_ (fun _ => ?_)
set_option maxHeartbeats 8000000 in
set_option maxRecDepth 100000 in
theorem murmur_Unordered.calls (k : Nat) (A0 : Option Addr) (c0 : Nat) (l0 : List Int) (r : Int) (w : World) (hr0 : Kd.C (Kd.int .u32) w A0 l0.length l0) (hc0 : l0.length ≤ c0) (h : murmur_Unordered.f k l0 = some r) :
    Calls Tryd.prog 71 #[.slice A0 l0.length c0] w fun e w' => e = .returned (.int .u32 r) ∧ Drawn0 w w' := by
  have HR0 := Aside0.mk hr0
  have HC0 := Aside0.mk hc0
  clear hr0 hc0
  have H : (murmur_Unordered.l0 k l0 0 l0 (l0.length : Int) 0) = some r := h
  clear h
  have H' := Aside0.mk H
  clear H
  go_enter Tryd.func71, Tryd.ntmps71
  go_wp2
  go_loopg [3, 8] k (fun kq v3 v8 w' => ∃ (x3_1 : Int) (x8_1 : Int), v3 = .int .u32 x3_1 ∧ v8 = .int .i64 x8_1 ∧ Aside0 (murmur_Unordered.l0 kq l0 x3_1 l0 (l0.length : Int) x8_1 = some r) ∧ Aside0 (kq ≤ k) ∧ Drawn0 w w')
  case atStart => exact ⟨(0), (0), (by first | rfl | (simp; done) | (simp [*]; done)), (by first | rfl | (simp; done) | (simp [*]; done)), H', ⟨Nat.le_refl _⟩, by repeat (first | exact Drawn0.refl _ | apply Drawn0.step)⟩
  case round =>
    clear H'
    obtain ⟨x3_1, x8_1, rfl, rfl, HA, HK1, ⟨m1, rfl⟩⟩ := hrel
    cases gk with
    | zero => exact absurd HA.out (by simp [murmur_Unordered.l0])
    | succ k1 =>
      have H := HA.out
      clear HA
      simp only [murmur_Unordered.l0] at H
      by_cases c2 : x8_1 < (l0.length : Int)
      · rw [if_pos c2] at H
        have c2b0 : decide (x8_1 < (l0.length : Int)) = true := decide_eq_true c2
        clear c2
        by_cases c3 : 0 ≤ x8_1
        · rw [if_pos c3] at H
          have c3b0 : decide (0 ≤ x8_1) = true := decide_eq_true c3
          clear c3
          by_cases c4 : x8_1 < (l0.length : Int)
          · rw [if_pos c4] at H
            have c4b0 : decide (x8_1 < (l0.length : Int)) = true := decide_eq_true c4
            clear c4
            have H' := Aside0.mk H
            clear H
            have p144 : 0 ≤ (x8_1 : Int) := of_decide_eq_true (by first | (with_reducible assumption) | assumption)
            have q144 : x8_1 < (l0.length : Int) := of_decide_eq_true (by first | (with_reducible assumption) | assumption)
            obtain ⟨ad144, e144, hx144_0⟩ := Kd.at_int HR0.out x8_1 p144 q144
            cases e144
            replace p144 := eq_true p144
            replace q144 := eq_true q144
            go_wp2
            go_roundg k1
            case measure => have := HK1.out; omega
            case rel => exact ⟨((x3_1 + (rd l0 x8_1)) % 4294967296), (wrap64 (x8_1 + 1)), (by first | rfl | (simp; done) | (simp [*]; done)), (by first | rfl | (simp; done) | (simp [*]; done)), H', ⟨by have := HK1.out; omega⟩, by repeat (first | exact Drawn0.refl _ | apply Drawn0.step)⟩
          · rw [if_neg c4] at H
            exact absurd H (by simp)
        · rw [if_neg c3] at H
          exact absurd H (by simp)
      · rw [if_neg c2] at H
        have c2b0 : decide (x8_1 < (l0.length : Int)) = false := decide_eq_false c2
        clear c2
        replace H := Option.bind_eq_some_iff.mp H
        obtain ⟨t145, A50, H⟩ := H
        replace H : (some t145) = some r := H
        have A5 := Aside0.mk A50
        clear A50
        obtain rfl := Option.some.inj H
        go_wp2_with (first | ((with_reducible refine gate_callee (f := 79) rfl ?_); refine goesL_ (some 19) rfl rfl Tryd.func79 (by kernel_rfl) rfl #[.int .u32 x3_1, .int .i64 (l0.length : Int)] rfl (by (try simp only [List.map_toArray, List.map_cons, List.map_nil]); first | done | rfl | (simp only [List.length_drop, List.length_take]; rfl) | (simp only [gt_iff_lt, Int.ofNat_lt]; rfl)) ?_; (with_reducible refine (murmur_Coll.calls x3_1 (l0.length : Int) t145 _ A5.out).mono ?_); rintro e w' ⟨rfl, ⟨nd, rfl⟩⟩; refine ⟨_, rfl, ?_⟩))
        go_ret
        exact ⟨by first | rfl | (simp; done) | (simp [*]; done), by repeat (first | exact Drawn0.refl _ | apply Drawn0.step)⟩

def pairsH (i : Nat) : List Int → Option (List Int)
  | [] => some []
  | [_] => none
  | a :: b :: l => (hash_Entry.f i a b).bind fun x => (pairsH i l).map (x :: ·)
mutual
def hashV (u : Nat → ByteArray → Option (List Int)) (i : Nat) : S24 → Option Int
  | ⟨k, n, t, l⟩ =>
    if k = 1 then some (if n = 1 then 1231 else 1237)
    else if k = 2 then murmur_Long.f n
    else if k = 3 then (u i t).bind fun x => (murmur_Java.f i x).bind fun j => murmur_Int.f j
    else if k = 4 then (hashL u i l).bind fun x => murmur_Ordered.f i x
    else if k = 5 then (hashL u i l).bind fun x => murmur_Unordered.f i x
    else if k = 6 then (hashL u i l).bind fun x => (pairsH i x).bind fun y => murmur_Unordered.f i y
    else some 0
def hashL (u : Nat → ByteArray → Option (List Int)) (i : Nat) : List S24 → Option (List Int)
  | [] => some []
  | a :: l => if l.length ≤ 1048576 then ((hashV u i a).bind fun x => (hashL u i l).map (x :: ·)) else none
end
def hash_full.f (i : Nat) (a0_0 : Int) (a0_1 : Int) (a0_2 : ByteArray) (l0_3 : List S24) : Option Int := hashV (fun _ => hash_units.f) i ⟨a0_0, a0_1, a0_2, l0_3⟩
def FullOk (f : Nat) (u : Nat → ByteArray → Option (List Int)) (i : Nat) (a : S24) : Prop := ∀ (r : Int), hashV u i a = some r → ∀ (A0 : Option Addr) (c0 : Nat) (w : World), Kd.C k24 w A0 a.f3.length a.f3 → a.f3.length ≤ c0 →
    Calls Tryd.prog f #[.agg #[.int .i64 a.f0, .int .i64 a.f1, .string a.f2, .slice A0 a.f3.length c0]] w fun e w' => e = .returned (.int .u32 r) ∧ Below w.heap.size w w'
theorem hashL_len (u : Nat → ByteArray → Option (List Int)) (i : Nat) : ∀ (l : List S24) (x : List Int), hashL u i l = some x → l.length ≤ 1048577 ∧ x.length = l.length
  | [], x, h => by simp only [hashL] at h; obtain rfl := Option.some.inj h; exact ⟨Nat.zero_le _, rfl⟩
  | a :: l, x, h => by
    simp only [hashL] at h
    by_cases hl : l.length ≤ 1048576
    · rw [if_pos hl] at h
      obtain ⟨y, hy, h⟩ := Option.bind_eq_some_iff.1 h
      obtain ⟨z, hz, rfl⟩ := Option.map_eq_some_iff.1 h
      have := hashL_len u i l z hz
      simp only [List.length_cons]
      omega
    · rw [if_neg hl] at h; cases h
theorem hashL_step (u : Nat → ByteArray → Option (List Int)) (i : Nat) (l : List S24) (k : Nat) (hk : k < l.length) (x : List Int) (h : hashL u i (l.drop k) = some x) :
    ∃ y z, hashV u i l[k] = some y ∧ hashL u i (l.drop (k + 1)) = some z ∧ x = y :: z := by
  rw [List.drop_eq_getElem_cons hk] at h
  simp only [hashL] at h
  by_cases hl : (l.drop (k + 1)).length ≤ 1048576
  · rw [if_pos hl] at h
    obtain ⟨y, hy, h⟩ := Option.bind_eq_some_iff.1 h
    obtain ⟨z, hz, rfl⟩ := Option.map_eq_some_iff.1 h
    exact ⟨y, z, hy, hz, rfl⟩
  · rw [if_neg hl] at h; cases h
def AllRel (u : Nat → ByteArray → Option (List Int)) (n : Nat) (l : List S24) (r : List Int) (w : World) (v i : Value) (wr : World) : Prop := ∃ (k : Nat) (acc x : List Int), k ≤ l.length ∧ i = .int .i64 k ∧ Below w.heap.size w wr ∧ Kd.R (Kd.int .u32) 25 wr w.heap.size (fun _ => True) v acc ∧ hashL u n (l.drop k) = some x ∧ acc ++ x = r ∧ acc.length = k
set_option maxHeartbeats 1600000 in
set_option maxRecDepth 100000 in
theorem hash_all (n : Nat) (l : List S24) (ih : ∀ a ∈ l, FullOk 41 (fun _ => hash_units.f) n a) (r : List Int) (h : hashL (fun _ => hash_units.f) n l = some r) (A0 : Option Addr) (c0 : Nat) (w : World) (hr0 : Kd.C k24 w A0 l.length l) (hc0 : l.length ≤ c0) :
    Calls Tryd.prog 70 #[.slice A0 l.length c0] w fun e w' => ∃ v0_ : Value, e = .returned (v0_) ∧ Kd.R (Kd.int .u32) 25 w' w.heap.size (fun _ => True) v0_ r ∧ Below w.heap.size w w' := by
  have hlen := (hashL_len _ _ l r h).1
  have IH := Aside0.mk ih
  have HR0 := Aside0.mk hr0
  have H := Aside0.mk h
  clear ih hr0 h
  go_enter Tryd.func70, Tryd.ntmps70
  go_wp2
  go_loopw [3, 8] (fun v i wr => AllRel (fun _ => hash_units.f) n l r w v i wr) (fun _ i _ => l.length - (intOf i).toNat)
  case atStart => exact ⟨0, [], r, Nat.zero_le _, rfl, Below.refl _ _, Kd.R_nil _ _ _ _ _, H.out, rfl, rfl⟩
  case round =>
    obtain ⟨k, acc, x, hk0, rfl, hb, hr, hx, hu, hacc⟩ := hrel
    have HB := Aside0.mk hb
    have HU := Aside0.mk hu
    have HR := Aside0.mk hr
    have HX := Aside0.mk hx
    have hge := hb.size
    have hac : acc.length ≤ k := by omega
    have HAC := Aside0.mk hacc
    clear hb hu hr hx hacc
    by_cases hlt : k < l.length
    · obtain ⟨y, z, hy, hz, rfl⟩ := hashL_step _ _ l k hlt x HX.out
      have HY := Aside0.mk hy
      have HZ := Aside0.mk hz
      clear hy hz HX
      obtain ⟨ad, A3, c3, rfl, hx, hl3, hr3⟩ := el24 HR0.out HB.out k hlt
      obtain ⟨hx0, hx1, hx2, hx3⟩ := hx
      have hq : hashV (fun _ => hash_units.f) n (rd_T24 l (k : Int)) = some y := by rw [rd_get24 l k hlt]; exact HY.out
      have HQ := Aside0.mk hq
      clear hq
      have hm : rd_T24 l (k : Int) ∈ l := by rw [rd_get24 l k hlt]; exact List.getElem_mem _
      go_wp2_with (first | (go_at_call 41; refine ((IH.out _ hm) _ HQ.out _ _ _ (Kd.C_alloc hr3 _) hl3).mono ?_; rintro e w2 ⟨rfl, hb2⟩; have HB2 := Aside0.mk (((Below.refl wr.heap.size wr).alloc (Nat.le_refl _) _).trans (hb2.mono (by simp))); clear hb2; have hs2 := HB2.out.size) | ((with_reducible refine gate_builtin (b := .append) (xs := #[.tmp 12, .tmp 15]) rfl ?_); at_builtin; refine Kd.R_append (Kd.int .u32) (w0 := w) w.heap.size rfl (.tmp 12) (.tmp 15) 79 25 (.int .u32 0) 4 rfl Tryd.underlying79 info25 rfl (by decide) (by omega) u3 acc y [.int .u32 y] (fun _ => True) (fun _ => False) rfl rfl ?aP (fun _ hk => hk.elim) ?aF ?aO ?aB ?aS ?aL ?_; (case aP => exact rfl); (case aF => exact (fun _ _ => trivial)); (case aO => exact Kd.R_below HR.out HB2.out); (case aB => exact HB.out.trans (HB2.out.mono hge)); (case aS => omega); (case aL => omega); intro v3 w3 ho3 hb3 hg3 hat3; have HO3 := Aside0.mk ho3; have HBB3 := Aside0.mk hb3; clear ho3 hb3 hg3 hat3))
      go_roundw
      case rel => exact ⟨k + 1, acc ++ [y], z, by omega, by go_num, HBB3.out, HO3.out, HZ.out, by rw [← HU.out]; simp, by have := HAC.out; simp; omega⟩
      case measure => simp [intOf]; omega
    · obtain rfl : k = l.length := by omega
      go_wp2
      go_ret
      refine ⟨_, rfl, ?_, HB.out⟩
      have e := HX.out
      rw [List.drop_eq_nil_of_le (Nat.le_refl _)] at e
      simp only [hashL] at e
      obtain rfl := Option.some.inj e
      have e2 := HU.out
      rw [List.append_nil] at e2
      rw [← e2]
      exact HR.out
theorem pairs_step (n : Nat) (x : List Int) (k : Nat) (y : List Int) (h : pairsH n (x.drop k) = some y) (hk : k < x.length) :
    ∃ (h1 : k + 1 < x.length) (e : Int) (z : List Int), hash_Entry.f n x[k] x[k + 1] = some e ∧ pairsH n (x.drop (k + 2)) = some z ∧ y = e :: z := by
  by_cases h1 : k + 1 < x.length
  · rw [List.drop_eq_getElem_cons hk, List.drop_eq_getElem_cons h1, pairsH] at h
    obtain ⟨e, he, h⟩ := Option.bind_eq_some_iff.1 h
    obtain ⟨z, hz, rfl⟩ := Option.map_eq_some_iff.1 h
    exact ⟨h1, e, z, he, hz, rfl⟩
  · rw [List.drop_eq_getElem_cons hk, List.drop_eq_nil_of_le (by omega), pairsH] at h
    cases h
def PairRel (n : Nat) (x y : List Int) (W2 : World) (v i : Value) (wr : World) : Prop := ∃ (k : Nat) (acc z : List Int), k ≤ x.length ∧ i = .int .i64 k ∧ Below W2.heap.size W2 wr ∧ Kd.R (Kd.int .u32) 25 wr W2.heap.size (fun _ => True) v acc ∧ pairsH n (x.drop k) = some z ∧ acc ++ z = y ∧ acc.length ≤ k
set_option maxHeartbeats 1600000 in
set_option maxRecDepth 100000 in
theorem full_step (kk : Nat) (a : S24) (ih : ∀ x ∈ a.f3, FullOk 41 (fun _ => hash_units.f) kk x) : FullOk 41 (fun _ => hash_units.f) kk a := by
  intro r hr A0 c0 w hr0 hc0
  obtain ⟨k0, n0, t0, l0⟩ := a
  simp only at hr0 hc0 ih ⊢
  have IH := Aside0.mk ih
  have HR0 := Aside0.mk hr0
  clear ih hr0
  by_cases hk : k0 = 1
  · subst hk
    simp only [hashV] at hr
    rw [if_pos trivial] at hr
    obtain rfl := Option.some.inj hr
    clear hr
    go_enter Tryd.func41, Tryd.ntmps41
    by_cases hn : n0 = 1
    · subst hn
      go_wp2
      go_ret
      exact ⟨rfl, (Below.refl _ w).alloc (Nat.le_refl _) _⟩
    · have h1 : (n0 == 1) = false := beq_eq_false_iff_ne.2 hn
      rw [if_neg hn]
      clear hn
      go_wp2
      go_ret
      exact ⟨rfl, (Below.refl _ w).alloc (Nat.le_refl _) _⟩
  have e1 : (k0 == 1) = false := beq_eq_false_iff_ne.2 hk
  have n1_ := Aside0.mk hk
  clear hk
  by_cases hk : k0 = 2
  · subst hk
    simp only [hashV] at hr
    rw [if_neg (by decide), if_pos trivial] at hr
    have H := Aside0.mk hr
    clear hr
    go_enter Tryd.func41, Tryd.ntmps41
    go_wp2_with (go_at_call 66; refine (murmur_Long.calls n0 r _ H.out).mono ?_; rintro e w2 ⟨rfl, ⟨nd, rfl⟩⟩)
    go_ret
    exact ⟨rfl, pw_below_drewN ((Below.refl _ w).alloc (Nat.le_refl _) _) _⟩
  have e2 : (k0 == 2) = false := beq_eq_false_iff_ne.2 hk
  have n2_ := Aside0.mk hk
  clear hk
  by_cases hk : k0 = 3
  · subst hk
    simp only [hashV] at hr
    rw [if_neg (by decide), if_neg (by decide), if_pos trivial] at hr
    obtain ⟨x, hx, hr⟩ := Option.bind_eq_some_iff.1 hr
    obtain ⟨j, hj, hr⟩ := Option.bind_eq_some_iff.1 hr
    have HX := Aside0.mk hx
    have HJ := Aside0.mk hj
    have H := Aside0.mk hr
    clear hx hj hr
    go_enter Tryd.func41, Tryd.ntmps41
    go_wp2_with (first
      | (go_at_call 69; refine (hash_units.calls t0 x _ HX.out).mono ?_; rintro e w2 ⟨v2, rfl, hrr, hb2⟩; obtain ⟨A5, c5, rfl, hc5, hC5⟩ := Kd.R_reads hrr; have HC5 := Aside0.mk hC5; have HB2 := Aside0.mk (((Below.refl _ w).alloc (Nat.le_refl _) _).trans (hb2.mono (by simp))); clear hrr hb2 hC5)
      | (go_at_call 68; refine (murmur_Java.calls kk _ _ x j _ HC5.out hc5 HJ.out).mono ?_; rintro e w3 ⟨rfl, ⟨nd, rfl⟩⟩)
      | (go_at_call 67; refine (murmur_Int.calls j r _ H.out).mono ?_; rintro e w3 ⟨rfl, ⟨nd2, rfl⟩⟩))
    go_ret
    exact ⟨rfl, pw_below_drewN HB2.out _⟩
  have e3 : (k0 == 3) = false := beq_eq_false_iff_ne.2 hk
  have n3_ := Aside0.mk hk
  clear hk
  by_cases hk : k0 = 4
  · subst hk
    simp only [hashV] at hr
    rw [if_neg (by decide), if_neg (by decide), if_neg (by decide), if_pos trivial] at hr
    obtain ⟨x, hx, hr⟩ := Option.bind_eq_some_iff.1 hr
    have HX := Aside0.mk hx
    have H := Aside0.mk hr
    clear hx hr
    go_enter Tryd.func41, Tryd.ntmps41
    go_wp2_with (first
      | (go_at_call 70; refine (hash_all kk l0 IH.out x HX.out _ _ _ (Kd.C_alloc HR0.out _) hc0).mono ?_; rintro e w2 ⟨v2, rfl, hrr, hb2⟩; obtain ⟨A5, c5, rfl, hc5, hC5⟩ := Kd.R_reads hrr; have HC5 := Aside0.mk hC5; have HB2 := Aside0.mk (((Below.refl _ w).alloc (Nat.le_refl _) _).trans (hb2.mono (by simp))); clear hrr hb2 hC5)
      | (go_at_call 45; refine (murmur_Ordered.calls kk _ _ x r _ HC5.out hc5 H.out).mono ?_; rintro e w3 ⟨rfl, ⟨nd, rfl⟩⟩))
    go_ret
    exact ⟨rfl, pw_below_drewN HB2.out _⟩
  have e4 : (k0 == 4) = false := beq_eq_false_iff_ne.2 hk
  have n4_ := Aside0.mk hk
  clear hk
  by_cases hk : k0 = 5
  · subst hk
    simp only [hashV] at hr
    rw [if_neg (by decide), if_neg (by decide), if_neg (by decide), if_neg (by decide), if_pos trivial] at hr
    obtain ⟨x, hx, hr⟩ := Option.bind_eq_some_iff.1 hr
    have HX := Aside0.mk hx
    have H := Aside0.mk hr
    clear hx hr
    go_enter Tryd.func41, Tryd.ntmps41
    go_wp2_with (first
      | (go_at_call 70; refine (hash_all kk l0 IH.out x HX.out _ _ _ (Kd.C_alloc HR0.out _) hc0).mono ?_; rintro e w2 ⟨v2, rfl, hrr, hb2⟩; obtain ⟨A5, c5, rfl, hc5, hC5⟩ := Kd.R_reads hrr; have HC5 := Aside0.mk hC5; have HB2 := Aside0.mk (((Below.refl _ w).alloc (Nat.le_refl _) _).trans (hb2.mono (by simp))); clear hrr hb2 hC5)
      | (go_at_call 71; refine (murmur_Unordered.calls kk _ _ x r _ HC5.out hc5 H.out).mono ?_; rintro e w3 ⟨rfl, ⟨nd, rfl⟩⟩))
    go_ret
    exact ⟨rfl, pw_below_drewN HB2.out _⟩
  have e5 : (k0 == 5) = false := beq_eq_false_iff_ne.2 hk
  have n5_ := Aside0.mk hk
  clear hk
  by_cases hk : k0 = 6
  · subst hk
    simp only [hashV] at hr
    rw [if_neg (by decide), if_neg (by decide), if_neg (by decide), if_neg (by decide), if_neg (by decide), if_pos trivial] at hr
    obtain ⟨x, hx, hr⟩ := Option.bind_eq_some_iff.1 hr
    obtain ⟨y, hy, hr⟩ := Option.bind_eq_some_iff.1 hr
    have HX := Aside0.mk hx
    have HY := Aside0.mk hy
    have H := Aside0.mk hr
    clear hx hy hr
    go_enter Tryd.func41, Tryd.ntmps41
    have hxl : x.length ≤ 1048577 := by have h1 := hashL_len _ _ l0 x HX.out; omega
    go_upto_block 1 with (go_at_call 70; refine (hash_all kk l0 IH.out x HX.out _ _ _ (Kd.C_alloc HR0.out _) hc0).mono ?_; rintro e w2 ⟨v2, rfl, hrr, hb2⟩; obtain ⟨A5, c5, rfl, hc5, hC5⟩ := Kd.R_reads hrr; have HC5 := Aside0.mk hC5; have HB2 := Aside0.mk (((Below.refl _ w).alloc (Nat.le_refl _) _).trans (hb2.mono (by simp))); clear hrr hb2 hC5)
    go_wp2_with fail
    have hsz : w.heap.size ≤ w2.heap.size := HB2.out.size
    go_loopw [3, 5] (fun v i wr => PairRel kk x y w2 v i wr) (fun _ i _ => x.length - (intOf i).toNat)
    case atStart => exact ⟨0, [], y, Nat.zero_le _, rfl, Below.refl _ _, Kd.R_nil _ _ _ _ _, HY.out, rfl, Nat.le_refl _⟩
    case round =>
      obtain ⟨k, acc, z, hk0, rfl, hb, hrr, hz, hu, hacc⟩ := hrel
      have HB := Aside0.mk hb
      have HU := Aside0.mk hu
      have HR := Aside0.mk hrr
      have HZ := Aside0.mk hz
      have hge := hb.size
      clear hb hu hrr hz
      by_cases hlt : k < x.length
      · obtain ⟨h1, e, z, hi, hz2, rfl⟩ := pairs_step kk x k z HZ.out hlt
        have HI := Aside0.mk hi
        have HZ2 := Aside0.mk hz2
        clear hi hz2 HZ
        obtain ⟨ad, hA, hcell⟩ := (Kd.reads_of_C (d := (0 : Int)) HC5.out).2.2 (by omega)
        have HAD := Aside0.mk hA
        have hd0 : w2.cell? (ad.add k) = some (.int .u32 x[k]) := by
          have := hcell k hlt
          rw [List.getD_eq_getElem?_getD, List.getElem?_eq_getElem hlt] at this
          exact this
        have hd1 : w2.cell? ⟨ad.block, ad.off + (k + 1), none⟩ = some (.int .u32 x[k + 1]) := by
          have := hcell (k + 1) h1
          rw [show ad.add (k + 1) = ⟨ad.block, ad.off + (k + 1), none⟩ from by simp [Addr.add]] at this
          rw [List.getD_eq_getElem?_getD, List.getElem?_eq_getElem h1] at this
          exact this
        subst hA
        clear hcell
        have c0_ := World.block_lt_of_cell? w2 _ hd0
        have c1_ := World.block_lt_of_cell? w2 _ hd1
        have hx0 := (HB.out.cell c0_).trans hd0
        have hx1 := (HB.out.cell c1_).trans hd1
        have HD0 := Aside0.mk hd0
        have HD1 := Aside0.mk hd1
        clear hd0 hd1
        have b0 := World.block_lt_of_cell? wr _ hx0
        have b1 := World.block_lt_of_cell? wr _ hx1
        have hi0 : (0 : Int) ≤ (k : Int) := by omega
        have hi1 : (k : Int) < (x.length : Int) := by omega
        have hi2 : (0 : Int) ≤ (k : Int) + 1 := by omega
        have hi3 : (k : Int) + 1 < (x.length : Int) := by omega
        have hlx : x.length ≤ 1048577 := hxl
        go_wp2_with fail
        have hw1 : IntKind.i64.wrap ((k : Int) + 1) = (k : Int) + 1 := IntWalk.i64_in _ (by omega)
        go_region_held3 (fun w' => w'.cell? (ad.add k) = some (.int .u32 x[k]) ∧ w'.cell? ⟨ad.block, ad.off + (k + 1), none⟩ = some (.int .u32 x[k + 1]))
          (first | (exact ⟨(hb5.cell (p := ad.add k) c0_).trans HD0.out, (hb5.cell (p := ⟨ad.block, ad.off + (k + 1), none⟩) c1_).trans HD1.out⟩) | (exact ⟨(hb4.cell (by simpa using b0)).trans (by assumption), (hb4.cell (by simpa using b1)).trans (by assumption)⟩) | go_keep)
          (first
            | (go_at_call 21; refine (hash_Entry.calls kk _ _ e _ HI.out).mono ?_; rintro e_ w4 ⟨rfl, hb4⟩; have HB4 : Aside0 (Below wr.heap.size wr w4) := ⟨by first | exact hb4 | exact (Below.drew (Below.refl _ _)).trans hb4 | exact (pw_below_drewN (Below.refl _ _) _).trans hb4⟩; have hs4 := HB4.out.size)
            | ((with_reducible refine gate_step (b := .append) (xs := #[.tmp 48, .tmp 59]) rfl ?_); refine Kd.R_append_step (Kd.int .u32) (w0 := w2) w2.heap.size (by rfl) (.tmp 48) (.tmp 59) 79 25 (.int .u32 0) 4 (by rfl) Tryd.underlying79 info25 (by rfl) (by decide) (by omega) u3 acc e [.int .u32 e] (fun _ => True) (fun _ => False) (by rfl) (by rfl) (by exact rfl) (fun _ hk => hk.elim) (fun _ _ => trivial) (by (with_reducible repeat (first | apply Kd.R_alloc | apply Kd.R_drewN | apply Kd.R_drew)); exact Kd.R_below HR.out HB4.out) (by exact HB.out.trans (HB4.out.mono hge)) (by omega) (by omega) ?_; intro v5 w5 ho5 hb5 hg5 hat5))
        go_wp2
        go_roundw
        case rel => exact ⟨k + 2, acc ++ [e], z, by omega, by go_num, hb5, ho5, HZ2.out, by rw [← HU.out]; simp, by simp; omega⟩
        case measure => simp [intOf]; omega
      · obtain rfl : k = x.length := by omega
        have hlx : x.length ≤ 1048577 := hxl
        have e0 := HZ.out
        rw [List.drop_eq_nil_of_le (Nat.le_refl _), pairsH] at e0
        obtain rfl := Option.some.inj e0
        have e1_ := HU.out
        rw [List.append_nil] at e1_
        subst e1_
        clear e0 HU
        obtain ⟨A6, c6, e6, hc6, hC6⟩ := Kd.R_reads HR.out
        subst e6
        have HC6 := Aside0.mk hC6
        clear hC6
        go_wp2_with (go_at_call 71; refine (murmur_Unordered.calls kk _ _ acc r _ HC6.out hc6 H.out).mono ?_; rintro e w3 ⟨rfl, ⟨nd, rfl⟩⟩)
        go_ret
        exact ⟨rfl, pw_below_drewN (HB2.out.trans (HB.out.mono hsz)) _⟩
  have e6 : (k0 == 6) = false := beq_eq_false_iff_ne.2 hk
  have n6_ := Aside0.mk hk
  clear hk
  simp only [hashV] at hr
  rw [if_neg n1_.out, if_neg n2_.out, if_neg n3_.out, if_neg n4_.out, if_neg n5_.out, if_neg n6_.out] at hr
  obtain rfl := Option.some.inj hr
  clear hr
  go_enter Tryd.func41, Tryd.ntmps41
  go_wp2
  go_ret
  exact ⟨rfl, (Below.refl _ w).alloc (Nat.le_refl _) _⟩
theorem pairs_mono (i : Nat) : ∀ l, LeO (pairsH i l) (pairsH (i + 1) l)
  | [] => LeO.refl _
  | [_] => LeO.refl _
  | a :: b :: l => by
    simp only [pairsH]
    refine LeO.bind (hash_Entry.mono _ _ _) (fun x => ?_)
    intro r h
    obtain ⟨z, hz, rfl⟩ := Option.map_eq_some_iff.1 h
    rw [pairs_mono i l z hz]; rfl
mutual
theorem hashV_mono (u : Nat → ByteArray → Option (List Int)) (hu : ∀ i t, LeO (u i t) (u (i + 1) t)) (i : Nat) : ∀ v, LeO (hashV u i v) (hashV u (i + 1) v)
  | ⟨k, n, t, l⟩ => by
    have hl := hashL_mono u hu i l
    simp only [hashV]
    refine LeO.ite (LeO.refl _) (LeO.ite (LeO.refl _) (LeO.ite ?_ (LeO.ite ?_ (LeO.ite ?_ (LeO.ite ?_ (LeO.refl _))))))
    · exact LeO.bind (hu _ _) (fun x => LeO.bind (murmur_Java.mono _ _) (fun j => LeO.refl _))
    · exact LeO.bind hl (fun x => murmur_Ordered.mono _ _)
    · exact LeO.bind hl (fun x => murmur_Unordered.mono _ _)
    · exact LeO.bind hl (fun x => LeO.bind (pairs_mono _ _) (fun y => murmur_Unordered.mono _ _))
theorem hashL_mono (u : Nat → ByteArray → Option (List Int)) (hu : ∀ i t, LeO (u i t) (u (i + 1) t)) (i : Nat) : ∀ l, LeO (hashL u i l) (hashL u (i + 1) l)
  | [] => LeO.refl _
  | a :: l => by
    have h1 := hashV_mono u hu i a
    have h2 := hashL_mono u hu i l
    simp only [hashL]
    refine LeO.ite (LeO.bind h1 (fun x => ?_)) (LeO.refl _)
    intro r h
    obtain ⟨z, hz, rfl⟩ := Option.map_eq_some_iff.1 h
    rw [h2 z hz]; rfl
end
theorem hash_full.mono : ∀ a0 a1 a2 a3 k, LeO (hash_full.f k a0 a1 a2 a3) (hash_full.f (k + 1) a0 a1 a2 a3) := fun _ _ _ _ k => hashV_mono _ (fun _ _ => LeO.refl _) k _
theorem full_all (i n : Nat) : ∀ a : S24, SizeOf.sizeOf a ≤ n → FullOk 41 (fun _ => hash_units.f) i a := by
  induction n with
  | zero => intro a h; cases a; simp at h
  | succ n ih =>
    intro a h
    refine full_step i a (fun x hx => ih x ?_)
    have h1 := List.sizeOf_lt_of_mem hx
    obtain ⟨k0, n0, t0, l0⟩ := a
    simp at h h1
    omega
theorem hash_full.calls (i : Nat) (a0_0 : Int) (a0_1 : Int) (a0_2 : ByteArray) (A0_3 : Option Addr) (c0_3 : Nat) (l0_3 : List S24) (r : Int) (w : World) (hr0_3 : Kd.C k24 w A0_3 l0_3.length l0_3) (hc0_3 : l0_3.length ≤ c0_3) (h : hash_full.f i a0_0 a0_1 a0_2 l0_3 = some r) :
    Calls Tryd.prog 41 #[.agg #[.int .i64 a0_0, .int .i64 a0_1, .string a0_2, .slice A0_3 l0_3.length c0_3]] w fun e w' => e = .returned (.int .u32 r) ∧ Below w.heap.size w w' :=
  full_all i _ ⟨a0_0, a0_1, a0_2, l0_3⟩ (Nat.le_refl _) r h A0_3 c0_3 w hr0_3 hc0_3

def hash_Full.f (k : Nat) (a0_0 : Int) (a0_1 : Int) (a0_2 : ByteArray) (l0_3 : List (S24)) : Option (Int × Int) := (value_Check.f k a0_0 a0_1 a0_2 l0_3).bind fun t147 => (if t147 = 0 then ((hash_full.f k a0_0 a0_1 a0_2 l0_3).bind fun t148 => (some (t148, 0))) else (some (0, t147)))
theorem hash_Full.mono : ∀ a0 a1 a2 a3 k, LeO (hash_Full.f k a0 a1 a2 a3) (hash_Full.f (k + 1) a0 a1 a2 a3) := by
  intro a0 a1 a2 a3 k
  unfold hash_Full.f
  repeat' first
      | (with_reducible exact hash_full.mono _ _ _ _ _)
      | (with_reducible exact value_Check.mono _ _ _ _ _)
      | (with_reducible exact LeO.refl _)
      | (with_reducible exact LeO.none _)
      | (with_reducible refine LeO.ite ?_ ?_)
      | (with_reducible refine LeO.bind ?_ (fun _ => ?_))
      | exact hash_full.mono _ _ _ _ _
      | exact value_Check.mono _ _ _ _ _
      | exact LeO.none _
      | refine LeO.ite ?_ ?_
      | refine LeO.bind ?_ (fun _ => ?_)
set_option maxHeartbeats 8000000 in
set_option maxRecDepth 100000 in
theorem hash_Full.calls (k : Nat) (a0_0 : Int) (a0_1 : Int) (a0_2 : ByteArray) (A0_3 : Option Addr) (c0_3 : Nat) (l0_3 : List (S24)) (r1 : Int) (r2 : Int) (w : World) (hL : LaidW w) (hr0_3 : Kd.C k24 w A0_3 l0_3.length l0_3) (hc0_3 : l0_3.length ≤ c0_3) (h : hash_Full.f k a0_0 a0_1 a0_2 l0_3 = some (r1, r2)) :
    Calls Tryd.prog 14 #[.agg #[.int .i64 a0_0, .int .i64 a0_1, .string a0_2, .slice A0_3 l0_3.length c0_3]] w fun e w' => e = .returned (.tuple #[.int .u32 r1, .int .i64 r2]) ∧ Below w.heap.size w w' := by
  have hu24 := Tryd.underlying24
  have HR0_3 := Aside0.mk hr0_3
  have HC0_3 := Aside0.mk hc0_3
  clear hr0_3 hc0_3
  have HLT := Aside0.mk hL
  clear hL
  have HB := Aside0.mk (Below.refl w.heap.size w)
  have H : ((value_Check.f k a0_0 a0_1 a0_2 l0_3).bind fun t147 => (if t147 = 0 then ((hash_full.f k a0_0 a0_1 a0_2 l0_3).bind fun t148 => (some (t148, 0))) else (some (0, t147)))) = some (r1, r2) := h
  clear h
  replace H := Option.bind_eq_some_iff.mp H
  obtain ⟨t147, A20, H⟩ := H
  replace H : (if t147 = 0 then ((hash_full.f k a0_0 a0_1 a0_2 l0_3).bind fun t148 => (some (t148, 0))) else (some (0, t147))) = some (r1, r2) := H
  have A2 := Aside0.mk A20
  clear A20
  by_cases c3 : t147 = 0
  · rw [if_pos c3] at H
    have c3b0 : (t147 == 0) = true := beq_iff_eq.mpr c3
    have c3b1 : (t147 != 0) = false := bne_eq_false_iff_eq.mpr c3
    clear c3
    replace H := Option.bind_eq_some_iff.mp H
    obtain ⟨t148, A40, H⟩ := H
    replace H : (some (t148, 0)) = some (r1, r2) := H
    have A4 := Aside0.mk A40
    clear A40
    simp only [Option.some.injEq, Prod.mk.injEq] at H
    obtain ⟨rfl, rfl⟩ := H
    go_enter Tryd.func14, Tryd.ntmps14
    go_wp2_with (first | ((with_reducible refine gate_dst (N := 1) rfl ?_); refine box_event ?hg (N := 1) ?hd (cs := #[.int .i64 a0_0, .int .i64 a0_1, .string a0_2, .slice A0_3 l0_3.length c0_3]) (t := 24) ?hr ?_; (case hd => rfl); (case hg => rfl); (case hr => first | (go_simp; done) | (go_simp; rfl)); intro gb146 hg w5 hbox hb; have n0_ := Aside0.mk (below_step (by repeat (first | (with_reducible first | exact HB.out | apply below_alloc | apply pw_below_drewN | apply below_drew1) | exact HB.out)) hb); have n1_ := Aside0.mk (hbox); have n2_ := Aside0.mk ((by rw [hg]; exact (below_size (by repeat (first | (with_reducible first | exact HB.out | apply below_alloc | apply pw_below_drewN | apply below_drew1) | exact HB.out))) : w.heap.size ≤ gb146)); have n3_ := Aside0.mk ((by rw [hg]; exact (below_size (by repeat (first | (with_reducible first | exact HB.out | apply below_alloc | apply pw_below_drewN | apply below_drew1) | exact HB.out))) : w.heap.size ≤ gb146)); clear HB; have HB := n0_; have BK146 := n1_; have GW146 := n2_; have GE146 := n3_; clear n0_ n1_ n2_ n3_; clear hb hbox hg; have hcz6_0 : w5.cell? ⟨gb146, 0, none⟩ = some (.int .i64 a0_0) := (blk_cell BK146.out 0).trans rfl; have hcz6_1 : w5.cell? ⟨gb146, 1, none⟩ = some (.int .i64 a0_1) := (blk_cell BK146.out 1).trans rfl; have hcz6_2 : w5.cell? ⟨gb146, 2, none⟩ = some (.string a0_2) := (blk_cell BK146.out 2).trans rfl; have hcz6_3 : w5.cell? ⟨gb146, 3, none⟩ = some (.slice A0_3 l0_3.length c0_3) := (blk_cell BK146.out 3).trans rfl; have hfz6_0 := blk_frozen BK146.out 0; have hfz6_1 := blk_frozen BK146.out 1; have hfz6_2 := blk_frozen BK146.out 2; have hfz6_3 := blk_frozen BK146.out 3) | ((with_reducible refine gate_callee (f := 37) rfl ?_); refine goesL_ (some 6) rfl rfl Tryd.func37 (by kernel_rfl) rfl #[.agg #[.int .i64 a0_0, .int .i64 a0_1, .string a0_2, .slice A0_3 l0_3.length c0_3]] rfl (by (try simp only [List.map_toArray, List.map_cons, List.map_nil]); first | done | rfl | (simp only [List.length_drop, List.length_take]; rfl) | (simp only [gt_iff_lt, Int.ofNat_lt]; rfl)) ?_; (with_reducible refine (value_Check.calls k a0_0 a0_1 a0_2 _ _ l0_3 t147 _ ?side1 ?side2 ?side3 A2.out).mono ?_); (case side1 => exact LaidW.below HLT.out (by repeat (first | (with_reducible first | exact HB.out | apply below_alloc | apply pw_below_drewN | apply below_drew1 | refine below_set ?_ GE146.out) | exact HB.out))); (case side2 => repeat (first | exact (Kd.C_below HR0_3.out HB.out) | (with_reducible refine Kd.C_alloc ?_ _) | (with_reducible refine Kd.C_drewN ?_ _) | (with_reducible refine Kd.C_drew ?_))); (case side3 => exact HC0_3.out); rintro e w7 ⟨rfl, hb⟩; refine ⟨_, rfl, ?_⟩; have n0_ := Aside0.mk (blk_below (g := gb146) (o := .cells #[.int .i64 a0_0, .int .i64 a0_1, .string a0_2, .slice A0_3 l0_3.length c0_3] 24 (0, 0)) (by (with_reducible repeat (first | refine blk_drewN ?_ _ | refine blk_drew ?_ | refine blk_alloc ?_ _)); exact BK146.out) hb); have n1_ := Aside0.mk (below_step (by repeat (first | (with_reducible first | exact HB.out | apply below_alloc | apply pw_below_drewN | apply below_drew1 | refine below_set ?_ GE146.out) | exact HB.out)) hb); clear BK146; clear HB; have BK146 := n0_; have HB := n1_; clear n0_ n1_; (try clear hb); (try clear hb2); (try clear hk); (try clear hi); have hcz8_0 : w7.cell? ⟨gb146, 0, none⟩ = some (.int .i64 a0_0) := (blk_cell BK146.out 0).trans rfl; have hcz8_1 : w7.cell? ⟨gb146, 1, none⟩ = some (.int .i64 a0_1) := (blk_cell BK146.out 1).trans rfl; have hcz8_2 : w7.cell? ⟨gb146, 2, none⟩ = some (.string a0_2) := (blk_cell BK146.out 2).trans rfl; have hcz8_3 : w7.cell? ⟨gb146, 3, none⟩ = some (.slice A0_3 l0_3.length c0_3) := (blk_cell BK146.out 3).trans rfl; have hfz8_0 := blk_frozen BK146.out 0; have hfz8_1 := blk_frozen BK146.out 1; have hfz8_2 := blk_frozen BK146.out 2; have hfz8_3 := blk_frozen BK146.out 3) | ((with_reducible refine gate_callee (f := 41) rfl ?_); refine goesL_ (some 11) rfl rfl Tryd.func41 (by kernel_rfl) rfl #[.agg #[.int .i64 a0_0, .int .i64 a0_1, .string a0_2, .slice A0_3 l0_3.length c0_3]] rfl (by (try simp only [List.map_toArray, List.map_cons, List.map_nil]); first | done | rfl | (simp only [List.length_drop, List.length_take]; rfl) | (simp only [gt_iff_lt, Int.ofNat_lt]; rfl)) ?_; (with_reducible refine (hash_full.calls k a0_0 a0_1 a0_2 _ _ l0_3 t148 _ ?side1 ?side2 A4.out).mono ?_); (case side1 => repeat (first | exact (Kd.C_below HR0_3.out HB.out) | (with_reducible refine Kd.C_alloc ?_ _) | (with_reducible refine Kd.C_drewN ?_ _) | (with_reducible refine Kd.C_drew ?_))); (case side2 => exact HC0_3.out); rintro e w9 ⟨rfl, hb⟩; refine ⟨_, rfl, ?_⟩; have n0_ := Aside0.mk (blk_below (g := gb146) (o := .cells #[.int .i64 a0_0, .int .i64 a0_1, .string a0_2, .slice A0_3 l0_3.length c0_3] 24 (0, 0)) (by (with_reducible repeat (first | refine blk_drewN ?_ _ | refine blk_drew ?_ | refine blk_alloc ?_ _)); exact BK146.out) hb); have n1_ := Aside0.mk (below_step (by repeat (first | (with_reducible first | exact HB.out | apply below_alloc | apply pw_below_drewN | apply below_drew1 | refine below_set ?_ GE146.out) | exact HB.out)) hb); clear BK146; clear HB; have BK146 := n0_; have HB := n1_; clear n0_ n1_; (try clear hb); (try clear hb2); (try clear hk); (try clear hi)))
    go_ret2
    exact ⟨by first | rfl | (simp [errW_none, errW_some] <;> rfl) | (simp [*, errW_none, errW_some] <;> rfl), by repeat (first | (with_reducible first | exact HB.out | apply below_alloc | apply pw_below_drewN | apply below_drew1 | refine below_set ?_ GE146.out) | exact HB.out)⟩
  · rw [if_neg c3] at H
    have c3b0 : (t147 == 0) = false := beq_eq_false_iff_ne.mpr c3
    have c3b1 : (t147 != 0) = true := bne_iff_ne.mpr c3
    simp only [Option.some.injEq, Prod.mk.injEq] at H
    obtain ⟨rfl, rfl⟩ := H
    go_enter Tryd.func14, Tryd.ntmps14
    go_wp2_with (first | ((with_reducible refine gate_dst (N := 1) rfl ?_); refine box_event ?hg (N := 1) ?hd (cs := #[.int .i64 a0_0, .int .i64 a0_1, .string a0_2, .slice A0_3 l0_3.length c0_3]) (t := 24) ?hr ?_; (case hd => rfl); (case hg => rfl); (case hr => first | (go_simp; done) | (go_simp; rfl)); intro gb146 hg w10 hbox hb; have n0_ := Aside0.mk (below_step (by repeat (first | (with_reducible first | exact HB.out | apply below_alloc | apply pw_below_drewN | apply below_drew1) | exact HB.out)) hb); have n1_ := Aside0.mk (hbox); have n2_ := Aside0.mk ((by rw [hg]; exact (below_size (by repeat (first | (with_reducible first | exact HB.out | apply below_alloc | apply pw_below_drewN | apply below_drew1) | exact HB.out))) : w.heap.size ≤ gb146)); have n3_ := Aside0.mk ((by rw [hg]; exact (below_size (by repeat (first | (with_reducible first | exact HB.out | apply below_alloc | apply pw_below_drewN | apply below_drew1) | exact HB.out))) : w.heap.size ≤ gb146)); clear HB; have HB := n0_; have BK146 := n1_; have GW146 := n2_; have GE146 := n3_; clear n0_ n1_ n2_ n3_; clear hb hbox hg; have hcz11_0 : w10.cell? ⟨gb146, 0, none⟩ = some (.int .i64 a0_0) := (blk_cell BK146.out 0).trans rfl; have hcz11_1 : w10.cell? ⟨gb146, 1, none⟩ = some (.int .i64 a0_1) := (blk_cell BK146.out 1).trans rfl; have hcz11_2 : w10.cell? ⟨gb146, 2, none⟩ = some (.string a0_2) := (blk_cell BK146.out 2).trans rfl; have hcz11_3 : w10.cell? ⟨gb146, 3, none⟩ = some (.slice A0_3 l0_3.length c0_3) := (blk_cell BK146.out 3).trans rfl; have hfz11_0 := blk_frozen BK146.out 0; have hfz11_1 := blk_frozen BK146.out 1; have hfz11_2 := blk_frozen BK146.out 2; have hfz11_3 := blk_frozen BK146.out 3) | ((with_reducible refine gate_callee (f := 37) rfl ?_); refine goesL_ (some 6) rfl rfl Tryd.func37 (by kernel_rfl) rfl #[.agg #[.int .i64 a0_0, .int .i64 a0_1, .string a0_2, .slice A0_3 l0_3.length c0_3]] rfl (by (try simp only [List.map_toArray, List.map_cons, List.map_nil]); first | done | rfl | (simp only [List.length_drop, List.length_take]; rfl) | (simp only [gt_iff_lt, Int.ofNat_lt]; rfl)) ?_; (with_reducible refine (value_Check.calls k a0_0 a0_1 a0_2 _ _ l0_3 t147 _ ?side1 ?side2 ?side3 A2.out).mono ?_); (case side1 => exact LaidW.below HLT.out (by repeat (first | (with_reducible first | exact HB.out | apply below_alloc | apply pw_below_drewN | apply below_drew1 | refine below_set ?_ GE146.out) | exact HB.out))); (case side2 => repeat (first | exact (Kd.C_below HR0_3.out HB.out) | (with_reducible refine Kd.C_alloc ?_ _) | (with_reducible refine Kd.C_drewN ?_ _) | (with_reducible refine Kd.C_drew ?_))); (case side3 => exact HC0_3.out); rintro e w12 ⟨rfl, hb⟩; refine ⟨_, rfl, ?_⟩; have n0_ := Aside0.mk (blk_below (g := gb146) (o := .cells #[.int .i64 a0_0, .int .i64 a0_1, .string a0_2, .slice A0_3 l0_3.length c0_3] 24 (0, 0)) (by (with_reducible repeat (first | refine blk_drewN ?_ _ | refine blk_drew ?_ | refine blk_alloc ?_ _)); exact BK146.out) hb); have n1_ := Aside0.mk (below_step (by repeat (first | (with_reducible first | exact HB.out | apply below_alloc | apply pw_below_drewN | apply below_drew1 | refine below_set ?_ GE146.out) | exact HB.out)) hb); clear BK146; clear HB; have BK146 := n0_; have HB := n1_; clear n0_ n1_; (try clear hb); (try clear hb2); (try clear hk); (try clear hi)))
    go_ret2
    exact ⟨by first | rfl | (simp [errW_none, errW_some] <;> rfl) | (simp [*, errW_none, errW_some] <;> rfl), by repeat (first | (with_reducible first | exact HB.out | apply below_alloc | apply pw_below_drewN | apply below_drew1 | refine below_set ?_ GE146.out) | exact HB.out)⟩

def spinneyref01_sign.f (a0 : Bool) (a1 : Bool) : Option (Int) := if a0 = true then (some (-1)) else (if a1 = true then (some 1) else (some 0))
end Go.Proofs.YtmebfblabccblaaDoor.XH
