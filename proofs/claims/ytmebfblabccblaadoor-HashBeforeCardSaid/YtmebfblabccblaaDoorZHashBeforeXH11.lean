-- cut down by bundle.py (the session's own program) from the text YtmebfblabccblaaDoorXH11, to what this claim names
-- laid by xprint.py (the session's own program) out of the translation; Lean checks it
import Derived.Test.YtmebfblabccblaaDoorZHashBeforeXH0
import Derived.Test.YtmebfblabccblaaDoorZHashBeforeXH4
import Derived.Test.YtmebfblabccblaaDoorZHashBeforeXH5
import Derived.Test.YtmebfblabccblaaDoorZHashBeforeXH10
namespace Go.Proofs.YtmebfblabccblaaDoor.XH
open Go.RowKit Go.Proofs.YtmebfblabccblaaDoorW.PrintWords Go.Proofs.YtmebfblabccblaaDoorW.PrintLast Go.Proofs.YtmebfblabccblaaDoorW.PrintMore
attribute [local go_sem] max2_int min2_int max_two min_two max_three min_three max_four min_four   -- for this text's walks alone
set_option linter.unusedVariables false
set_option linter.unusedSimpArgs false

def spinneyref04_code.f (a0 : ByteArray) : Option (Int × Int) := if 0 < (a0.size : Int) then (if (wrap64 (bt a0 0)) < 128 then (some (wrap64 (bt a0 0), 1)) else (if (wrap64 (bt a0 0)) < 224 then (if 1 < (a0.size : Int) then (some (wrap64 ((wrap64 ((Int.tmod (wrap64 (bt a0 0)) 32) * 64)) + (Int.tmod (wrap64 (bt a0 1)) 64)), 2)) else (none)) else (if (wrap64 (bt a0 0)) < 240 then (if 1 < (a0.size : Int) then (if 2 < (a0.size : Int) then (some (wrap64 ((wrap64 ((wrap64 ((Int.tmod (wrap64 (bt a0 0)) 16) * 4096)) + (wrap64 ((Int.tmod (wrap64 (bt a0 1)) 64) * 64)))) + (Int.tmod (wrap64 (bt a0 2)) 64)), 3)) else (none)) else (none)) else (if 1 < (a0.size : Int) then (if 2 < (a0.size : Int) then (if 3 < (a0.size : Int) then (some (wrap64 ((wrap64 ((wrap64 ((wrap64 ((Int.tmod (wrap64 (bt a0 0)) 8) * 262144)) + (wrap64 ((Int.tmod (wrap64 (bt a0 1)) 64) * 4096)))) + (wrap64 ((Int.tmod (wrap64 (bt a0 2)) 64) * 64)))) + (Int.tmod (wrap64 (bt a0 3)) 64)), 4)) else (none)) else (none)) else (none))))) else (none)
set_option maxHeartbeats 8000000 in
set_option maxRecDepth 100000 in
theorem spinneyref04_code.calls (a0 : ByteArray) (r1 : Int) (r2 : Int) (w : World) (h : spinneyref04_code.f a0 = some (r1, r2)) :
    Calls Tryd.prog 122 #[.string a0] w fun e w' => e = .returned (.tuple #[.int .i64 r1, .int .i64 r2]) ∧ Drawn0 w w' := by
  have H : (if 0 < (a0.size : Int) then (if (wrap64 (bt a0 0)) < 128 then (some (wrap64 (bt a0 0), 1)) else (if (wrap64 (bt a0 0)) < 224 then (if 1 < (a0.size : Int) then (some (wrap64 ((wrap64 ((Int.tmod (wrap64 (bt a0 0)) 32) * 64)) + (Int.tmod (wrap64 (bt a0 1)) 64)), 2)) else (none)) else (if (wrap64 (bt a0 0)) < 240 then (if 1 < (a0.size : Int) then (if 2 < (a0.size : Int) then (some (wrap64 ((wrap64 ((wrap64 ((Int.tmod (wrap64 (bt a0 0)) 16) * 4096)) + (wrap64 ((Int.tmod (wrap64 (bt a0 1)) 64) * 64)))) + (Int.tmod (wrap64 (bt a0 2)) 64)), 3)) else (none)) else (none)) else (if 1 < (a0.size : Int) then (if 2 < (a0.size : Int) then (if 3 < (a0.size : Int) then (some (wrap64 ((wrap64 ((wrap64 ((wrap64 ((Int.tmod (wrap64 (bt a0 0)) 8) * 262144)) + (wrap64 ((Int.tmod (wrap64 (bt a0 1)) 64) * 4096)))) + (wrap64 ((Int.tmod (wrap64 (bt a0 2)) 64) * 64)))) + (Int.tmod (wrap64 (bt a0 3)) 64)), 4)) else (none)) else (none)) else (none))))) else (none)) = some (r1, r2) := h
  clear h
  by_cases c2 : 0 < (a0.size : Int)
  · rw [if_pos c2] at H
    have c2b0 : decide (0 < (a0.size : Int)) = true := decide_eq_true c2
    have c2b1 : decide (0 < a0.size) = true := decide_eq_true (by omega)
    clear c2
    by_cases c4 : (wrap64 (bt a0 0)) < 128
    · rw [if_pos c4] at H
      have c4b0 : decide ((wrap64 (bt a0 0)) < 128) = true := decide_eq_true c4
      clear c4
      simp only [Option.some.injEq, Prod.mk.injEq] at H
      obtain ⟨rfl, rfl⟩ := H
      have p3 : 0 ≤ (0 : Int) := (by omega)
      have q3 : 0 < a0.size := (by have : (0 : Int) < (a0.size : Int) := of_decide_eq_true (by first | (with_reducible assumption) | assumption); omega)
      have hx3 : ∀ h : 0 < a0.size, ((a0[0]'h).toNat : Int) = bt a0 0 := bt_at a0 0
      clear p3
      have qi3 : (0 < (a0.size : Int)) = True := eq_true (of_decide_eq_true (by first | (with_reducible assumption) | assumption))
      replace q3 := eq_true q3
      go_enter Tryd.func122, Tryd.ntmps122
      go_wp2
      repeat (go_quiet (fail); try go_wp2)
      go_ret2
      exact ⟨by first | rfl | (simp; done) | (simp [*]; done), by repeat (first | exact Drawn0.refl _ | apply Drawn0.step)⟩
    · rw [if_neg c4] at H
      have c4b0 : decide ((wrap64 (bt a0 0)) < 128) = false := decide_eq_false c4
      clear c4
      by_cases c5 : (wrap64 (bt a0 0)) < 224
      · rw [if_pos c5] at H
        have c5b0 : decide ((wrap64 (bt a0 0)) < 224) = true := decide_eq_true c5
        clear c5
        by_cases c6 : 1 < (a0.size : Int)
        · rw [if_pos c6] at H
          have c6b0 : decide (1 < (a0.size : Int)) = true := decide_eq_true c6
          have c6b1 : decide (1 < a0.size) = true := decide_eq_true (by omega)
          clear c6
          simp only [Option.some.injEq, Prod.mk.injEq] at H
          obtain ⟨rfl, rfl⟩ := H
          have p3 : 0 ≤ (0 : Int) := (by omega)
          have q3 : 0 < a0.size := (by have : (0 : Int) < (a0.size : Int) := of_decide_eq_true (by first | (with_reducible assumption) | assumption); omega)
          have hx3 : ∀ h : 0 < a0.size, ((a0[0]'h).toNat : Int) = bt a0 0 := bt_at a0 0
          clear p3
          have qi3 : (0 < (a0.size : Int)) = True := eq_true (of_decide_eq_true (by first | (with_reducible assumption) | assumption))
          replace q3 := eq_true q3
          have p7 : 0 ≤ (1 : Int) := (by omega)
          have q7 : 1 < a0.size := (by have : (1 : Int) < (a0.size : Int) := of_decide_eq_true (by first | (with_reducible assumption) | assumption); omega)
          have hx7 : ∀ h : 1 < a0.size, ((a0[1]'h).toNat : Int) = bt a0 1 := bt_at a0 1
          clear p7
          have qi7 : (1 < (a0.size : Int)) = True := eq_true (of_decide_eq_true (by first | (with_reducible assumption) | assumption))
          replace q7 := eq_true q7
          go_enter Tryd.func122, Tryd.ntmps122
          go_wp2
          repeat (go_quiet (fail); try go_wp2)
          go_ret2
          exact ⟨by first | rfl | (simp; done) | (simp [*]; done), by repeat (first | exact Drawn0.refl _ | apply Drawn0.step)⟩
        · rw [if_neg c6] at H
          exact absurd H (by simp)
      · rw [if_neg c5] at H
        have c5b0 : decide ((wrap64 (bt a0 0)) < 224) = false := decide_eq_false c5
        clear c5
        by_cases c8 : (wrap64 (bt a0 0)) < 240
        · rw [if_pos c8] at H
          have c8b0 : decide ((wrap64 (bt a0 0)) < 240) = true := decide_eq_true c8
          clear c8
          by_cases c9 : 1 < (a0.size : Int)
          · rw [if_pos c9] at H
            have c9b0 : decide (1 < (a0.size : Int)) = true := decide_eq_true c9
            have c9b1 : decide (1 < a0.size) = true := decide_eq_true (by omega)
            clear c9
            by_cases c11 : 2 < (a0.size : Int)
            · rw [if_pos c11] at H
              have c11b0 : decide (2 < (a0.size : Int)) = true := decide_eq_true c11
              have c11b1 : decide (2 < a0.size) = true := decide_eq_true (by omega)
              clear c11
              simp only [Option.some.injEq, Prod.mk.injEq] at H
              obtain ⟨rfl, rfl⟩ := H
              have p3 : 0 ≤ (0 : Int) := (by omega)
              have q3 : 0 < a0.size := (by have : (0 : Int) < (a0.size : Int) := of_decide_eq_true (by first | (with_reducible assumption) | assumption); omega)
              have hx3 : ∀ h : 0 < a0.size, ((a0[0]'h).toNat : Int) = bt a0 0 := bt_at a0 0
              clear p3
              have qi3 : (0 < (a0.size : Int)) = True := eq_true (of_decide_eq_true (by first | (with_reducible assumption) | assumption))
              replace q3 := eq_true q3
              have p10 : 0 ≤ (1 : Int) := (by omega)
              have q10 : 1 < a0.size := (by have : (1 : Int) < (a0.size : Int) := of_decide_eq_true (by first | (with_reducible assumption) | assumption); omega)
              have hx10 : ∀ h : 1 < a0.size, ((a0[1]'h).toNat : Int) = bt a0 1 := bt_at a0 1
              clear p10
              have qi10 : (1 < (a0.size : Int)) = True := eq_true (of_decide_eq_true (by first | (with_reducible assumption) | assumption))
              replace q10 := eq_true q10
              have p12 : 0 ≤ (2 : Int) := (by omega)
              have q12 : 2 < a0.size := (by have : (2 : Int) < (a0.size : Int) := of_decide_eq_true (by first | (with_reducible assumption) | assumption); omega)
              have hx12 : ∀ h : 2 < a0.size, ((a0[2]'h).toNat : Int) = bt a0 2 := bt_at a0 2
              clear p12
              have qi12 : (2 < (a0.size : Int)) = True := eq_true (of_decide_eq_true (by first | (with_reducible assumption) | assumption))
              replace q12 := eq_true q12
              go_enter Tryd.func122, Tryd.ntmps122
              go_wp2
              repeat (go_quiet (fail); try go_wp2)
              go_ret2
              exact ⟨by first | rfl | (simp; done) | (simp [*]; done), by repeat (first | exact Drawn0.refl _ | apply Drawn0.step)⟩
            · rw [if_neg c11] at H
              exact absurd H (by simp)
          · rw [if_neg c9] at H
            exact absurd H (by simp)
        · rw [if_neg c8] at H
          have c8b0 : decide ((wrap64 (bt a0 0)) < 240) = false := decide_eq_false c8
          clear c8
          by_cases c13 : 1 < (a0.size : Int)
          · rw [if_pos c13] at H
            have c13b0 : decide (1 < (a0.size : Int)) = true := decide_eq_true c13
            have c13b1 : decide (1 < a0.size) = true := decide_eq_true (by omega)
            clear c13
            by_cases c15 : 2 < (a0.size : Int)
            · rw [if_pos c15] at H
              have c15b0 : decide (2 < (a0.size : Int)) = true := decide_eq_true c15
              have c15b1 : decide (2 < a0.size) = true := decide_eq_true (by omega)
              clear c15
              by_cases c17 : 3 < (a0.size : Int)
              · rw [if_pos c17] at H
                have c17b0 : decide (3 < (a0.size : Int)) = true := decide_eq_true c17
                have c17b1 : decide (3 < a0.size) = true := decide_eq_true (by omega)
                clear c17
                simp only [Option.some.injEq, Prod.mk.injEq] at H
                obtain ⟨rfl, rfl⟩ := H
                have p3 : 0 ≤ (0 : Int) := (by omega)
                have q3 : 0 < a0.size := (by have : (0 : Int) < (a0.size : Int) := of_decide_eq_true (by first | (with_reducible assumption) | assumption); omega)
                have hx3 : ∀ h : 0 < a0.size, ((a0[0]'h).toNat : Int) = bt a0 0 := bt_at a0 0
                clear p3
                have qi3 : (0 < (a0.size : Int)) = True := eq_true (of_decide_eq_true (by first | (with_reducible assumption) | assumption))
                replace q3 := eq_true q3
                have p14 : 0 ≤ (1 : Int) := (by omega)
                have q14 : 1 < a0.size := (by have : (1 : Int) < (a0.size : Int) := of_decide_eq_true (by first | (with_reducible assumption) | assumption); omega)
                have hx14 : ∀ h : 1 < a0.size, ((a0[1]'h).toNat : Int) = bt a0 1 := bt_at a0 1
                clear p14
                have qi14 : (1 < (a0.size : Int)) = True := eq_true (of_decide_eq_true (by first | (with_reducible assumption) | assumption))
                replace q14 := eq_true q14
                have p16 : 0 ≤ (2 : Int) := (by omega)
                have q16 : 2 < a0.size := (by have : (2 : Int) < (a0.size : Int) := of_decide_eq_true (by first | (with_reducible assumption) | assumption); omega)
                have hx16 : ∀ h : 2 < a0.size, ((a0[2]'h).toNat : Int) = bt a0 2 := bt_at a0 2
                clear p16
                have qi16 : (2 < (a0.size : Int)) = True := eq_true (of_decide_eq_true (by first | (with_reducible assumption) | assumption))
                replace q16 := eq_true q16
                have p18 : 0 ≤ (3 : Int) := (by omega)
                have q18 : 3 < a0.size := (by have : (3 : Int) < (a0.size : Int) := of_decide_eq_true (by first | (with_reducible assumption) | assumption); omega)
                have hx18 : ∀ h : 3 < a0.size, ((a0[3]'h).toNat : Int) = bt a0 3 := bt_at a0 3
                clear p18
                have qi18 : (3 < (a0.size : Int)) = True := eq_true (of_decide_eq_true (by first | (with_reducible assumption) | assumption))
                replace q18 := eq_true q18
                go_enter Tryd.func122, Tryd.ntmps122
                go_wp2
                repeat (go_quiet (fail); try go_wp2)
                go_ret2
                exact ⟨by first | rfl | (simp; done) | (simp [*]; done), by repeat (first | exact Drawn0.refl _ | apply Drawn0.step)⟩
              · rw [if_neg c17] at H
                exact absurd H (by simp)
            · rw [if_neg c15] at H
              exact absurd H (by simp)
          · rw [if_neg c13] at H
            exact absurd H (by simp)
  · rw [if_neg c2] at H
    exact absurd H (by simp)

def spinneyref04_units.l0 : Nat → ByteArray → List Int → Option (List Int)
  | 0, _, _ => none
  | k + 1, x0, x3 => if (x0.size : Int) > 0 then ((spinneyref04_code.f x0).bind fun bt192 => (if 0 ≤ bt192.2 then (if bt192.2 ≤ (x0.size : Int) then (if bt192.1 > 65535 then ((some (([IntKind.u16.wrap (wrap64 (55296 + (wrap64 (Int.tdiv (wrap64 (bt192.1 - 65536)) 1024)))), IntKind.u16.wrap (wrap64 (56320 + (Int.tmod (wrap64 (bt192.1 - 65536)) 1024)))] : List Int) : List Int)).bind fun y194 => (if x3.length + y194.length < 70368744177664 then (spinneyref04_units.l0 k (x0.extract (bt192.2 : Int).toNat x0.size) (x3 ++ y194)) else (none))) else (if x3.length < 70368744177664 then (spinneyref04_units.l0 k (x0.extract (bt192.2 : Int).toNat x0.size) (x3 ++ [IntKind.u16.wrap (bt192.1)])) else (none))) else (none)) else (none))) else (some x3)
def spinneyref04_units.f (k : Nat) (a0 : ByteArray) : Option (List Int) := spinneyref04_units.l0 k a0 ([] : List Int)
set_option maxHeartbeats 8000000 in
set_option maxRecDepth 100000 in
theorem spinneyref04_units.calls (k : Nat) (a0 : ByteArray) (r : List Int) (w : World) (h : spinneyref04_units.f k a0 = some r) :
    Calls Tryd.prog 76 #[.string a0] w fun e w' => ∃ v0_ : Value, e = .returned (v0_) ∧ Kd.R (Kd.int .u16) 119 w' w.heap.size (fun _ => True) v0_ r ∧ Below w.heap.size w w' := by
  have HB := Aside0.mk (Below.refl w.heap.size w)
  have H : (spinneyref04_units.l0 k a0 ([] : List Int)) = some r := h
  clear h
  have H' := Aside0.mk H
  clear H
  go_enter Tryd.func76, Tryd.ntmps76
  go_wp2
  go_loopg [0, 3] k (fun kq v0 v3 w' => ∃ (x0_1 : ByteArray) (x3_1 : List Int), v0 = .string x0_1 ∧ Aside0 (spinneyref04_units.l0 kq x0_1 x3_1 = some r) ∧ Aside0 (kq ≤ k) ∧ Aside0 (Kd.R (Kd.int .u16) 119 w' w.heap.size (fun _ => True) v3 x3_1) ∧ Aside0 (Below w.heap.size w w'))
  case atStart => exact ⟨(a0), (([] : List Int)), (by first | rfl | (simp; done) | (simp [*]; done)), H', ⟨Nat.le_refl _⟩, ⟨by first | exact Kd.R_nil _ _ _ _ _ | exact Kd.N_nil _ _ _ _ _ | exact Kd.V_nil _ _ _ _ _ | exact Kd.Q_nil _ _ _ _ _ | exact Kd.S_nil _ _ _ _ _⟩, ⟨by repeat (first | (with_reducible first | exact HB.out | apply below_alloc | apply pw_below_drewN | apply below_drew1) | exact HB.out)⟩⟩
  case round =>
    clear H'
    obtain ⟨x0_1, x3_1, rfl, HA, HK1, HO_3, HB⟩ := hrel
    cases gk with
    | zero => exact absurd HA.out (by simp [spinneyref04_units.l0])
    | succ k1 =>
      have H := HA.out
      clear HA
      simp only [spinneyref04_units.l0] at H
      by_cases c2 : (x0_1.size : Int) > 0
      · rw [if_pos c2] at H
        have c2b0 : decide (0 < (x0_1.size : Int)) = true := decide_eq_true c2
        have c2b1 : decide (0 < x0_1.size) = true := decide_eq_true (by omega)
        clear c2
        replace H := Option.bind_eq_some_iff.mp H
        obtain ⟨⟨t192, t193⟩, A30, H⟩ := H
        replace H : (if 0 ≤ t193 then (if t193 ≤ (x0_1.size : Int) then (if t192 > 65535 then ((some (([IntKind.u16.wrap (wrap64 (55296 + (wrap64 (Int.tdiv (wrap64 (t192 - 65536)) 1024)))), IntKind.u16.wrap (wrap64 (56320 + (Int.tmod (wrap64 (t192 - 65536)) 1024)))] : List Int) : List Int)).bind fun y194 => (if x3_1.length + y194.length < 70368744177664 then (spinneyref04_units.l0 k1 (x0_1.extract (t193 : Int).toNat x0_1.size) (x3_1 ++ y194)) else (none))) else (if x3_1.length < 70368744177664 then (spinneyref04_units.l0 k1 (x0_1.extract (t193 : Int).toNat x0_1.size) (x3_1 ++ [IntKind.u16.wrap (t192)])) else (none))) else (none)) else (none)) = some r := H
        have A3 := Aside0.mk A30
        clear A30
        by_cases c4 : 0 ≤ t193
        · rw [if_pos c4] at H
          have c4b0 := eq_true c4
          have c4b1 : decide (0 ≤ t193) = true := decide_eq_true c4
          clear c4
          by_cases c5 : t193 ≤ (x0_1.size : Int)
          · rw [if_pos c5] at H
            have c5b0 := eq_true c5
            have c5b1 : decide (t193 ≤ (x0_1.size : Int)) = true := decide_eq_true c5
            clear c5
            by_cases c6 : t192 > 65535
            · rw [if_pos c6] at H
              have c6b0 : decide (65535 < t192) = true := decide_eq_true c6
              clear c6
              obtain ⟨y194, hy194⟩ : ∃ y_ : List Int, y_ = (([IntKind.u16.wrap (wrap64 (55296 + (wrap64 (Int.tdiv (wrap64 (t192 - 65536)) 1024)))), IntKind.u16.wrap (wrap64 (56320 + (Int.tmod (wrap64 (t192 - 65536)) 1024)))] : List Int)) := ⟨_, rfl⟩
              replace H : (if x3_1.length + y194.length < 70368744177664 then (spinneyref04_units.l0 k1 (x0_1.extract (t193 : Int).toNat x0_1.size) (x3_1 ++ y194)) else (none)) = some r := by first | (rw [hy194]; with_reducible exact H) | (have H2_ := (Option.bind_some _ _).symm.trans H; rw [hy194]; with_reducible exact H2_) | (have H2_ := (Option.bind_some _ _).symm.trans H; with_reducible exact H2_) | with_reducible exact H | (rw [hy194]; exact H) | exact H
              have Ny194 := Aside0.mk hy194
              clear hy194
              by_cases c7 : x3_1.length + y194.length < 70368744177664
              · rw [if_pos c7] at H
                have LMc7 := Aside0.mk c7
                clear c7
                obtain ⟨y197, hy197⟩ : ∃ y_ : List Int, y_ = (x3_1 ++ y194) := ⟨_, rfl⟩
                replace H : (spinneyref04_units.l0 k1 (x0_1.extract (t193 : Int).toNat x0_1.size) y197) = some r := by first | (rw [hy197]; with_reducible exact H) | (have H2_ := (Option.bind_some _ _).symm.trans H; rw [hy197]; with_reducible exact H2_) | (have H2_ := (Option.bind_some _ _).symm.trans H; with_reducible exact H2_) | with_reducible exact H | (rw [hy197]; exact H) | exact H
                have Ny197 := Aside0.mk hy197
                clear hy197
                have H' := Aside0.mk H
                clear H
                go_wp2_with (first | ((with_reducible refine gate_callee (f := 122) rfl ?_); refine goesL_ (some 11) rfl rfl Tryd.func122 (by kernel_rfl) rfl #[.string x0_1] rfl (by (try simp only [List.map_toArray, List.map_cons, List.map_nil]); first | done | rfl | (simp only [List.length_drop, List.length_take]; rfl) | (simp only [gt_iff_lt, Int.ofNat_lt]; rfl)) ?_; (with_reducible refine (spinneyref04_code.calls x0_1 t192 t193 _ A3.out).mono ?_); rintro e w' ⟨rfl, ⟨nd, rfl⟩⟩; refine ⟨_, rfl, ?_⟩) | ((with_reducible refine gate_dst (N := 30) rfl ?_); refine Kd.R_lit (Kd.int .u16) _ 119 ?hg (N := 30) ?hd (xs := ([IntKind.u16.wrap (wrap64 (55296 + (wrap64 (Int.tdiv (wrap64 (t192 - 65536)) 1024)))), IntKind.u16.wrap (wrap64 (56320 + (Int.tmod (wrap64 (t192 - 65536)) 1024)))] : List Int)) (inner := [.int .u16 (IntKind.u16.wrap (wrap64 (55296 + (wrap64 (Int.tdiv (wrap64 (t192 - 65536)) 1024))))), .int .u16 (IntKind.u16.wrap (wrap64 (56320 + (Int.tmod (wrap64 (t192 - 65536)) 1024))))]) (ok := fun _ => True) (okp := fun _ => True) ?hr ?hp (fun _ hk => hk) trivial (Below.refl _ _) (Nat.le_refl _) (by simp) ?_; (case hd => rfl); (case hg => rfl); (case hr => first | (go_simp; done) | (go_simp; rfl)); (case hp => exact (Reps.one (show Kd.M (Kd.int .u16) _ _ _ (IntKind.u16.wrap (wrap64 (55296 + (wrap64 (Int.tdiv (wrap64 (t192 - 65536)) 1024))))) [.int .u16 (IntKind.u16.wrap (wrap64 (55296 + (wrap64 (Int.tdiv (wrap64 (t192 - 65536)) 1024)))))] from rfl) (Reps.one (show Kd.M (Kd.int .u16) _ _ _ (IntKind.u16.wrap (wrap64 (56320 + (Int.tmod (wrap64 (t192 - 65536)) 1024)))) [.int .u16 (IntKind.u16.wrap (wrap64 (56320 + (Int.tmod (wrap64 (t192 - 65536)) 1024))))] from rfl) (Reps.none _ _)))); intro v195 w8 ho9 hb hg_ hnew_; clear hg_ hnew_; (first | rw [← Ny194.out] at ho9 | (simp only [Int.reduceToNat] at ho9; rw [← Ny194.out] at ho9)); have n0_ := Aside0.mk (Kd.R_elder' (by (with_reducible repeat (first | apply Kd.R_alloc | apply Kd.R_drewN | apply Kd.R_drew)); exact HO_3.out) (Kd.R_base ho9) hb); have n1_ := Aside0.mk (Kd.R_lower (Kd.R_new' ho9 (Kd.R_lt (by (with_reducible repeat (first | apply Kd.R_alloc | apply Kd.R_drewN | apply Kd.R_drew)); exact HO_3.out))) (below_size (by repeat (first | (with_reducible first | exact HB.out | apply below_alloc | apply pw_below_drewN | apply below_drew1) | exact HB.out)))); have n2_ := Aside0.mk (below_step (by repeat (first | (with_reducible first | exact HB.out | apply below_alloc | apply pw_below_drewN | apply below_drew1) | exact HB.out)) hb); clear HO_3; clear HB; have HO_3 := n0_; have HO196 := n1_; have HB := n2_; clear n0_ n1_ n2_; clear hb ho9; obtain ⟨Ao11, co11, eo11⟩ := Kd.R_slice HO196.out; subst eo11) | ((with_reducible refine gate_builtin (b := .append) (xs := #[.tmp 21, .tmp 30]) rfl ?_); at_builtin; refine Kd.R_append_rows (Kd.int .u16) (w0 := w) w.heap.size rfl (.tmp 21) (.tmp 30) 102 119 (.int .u16 0) 2 rfl Tryd.underlying102 info119 rfl (by decide) (by omega) u3 x3_1 y194 _ _ _ (fun k_ => some k_ ≠ (.slice Ao11 y194.length co11 : Value).ownBlock) (fun _ => False) rfl rfl ?aO ?aR (fun _ _ h => h) (fun _ h => h.elim) ?aF ?aB ?aS ?aL ?_; (case aR => repeat (first | exact (Kd.R_reads' HO196.out).2.2 | (with_reducible refine Kd.C_alloc ?_ _) | (with_reducible refine Kd.C_drewN ?_ _) | (with_reducible refine Kd.C_drew ?_))); (case aB => exact (by repeat (first | (with_reducible first | exact HB.out | apply below_alloc | apply pw_below_drewN | apply below_drew1) | exact HB.out))); (case aF => exact (fun k_ hk => Kd.fresh' (Kd.R_lt (by (with_reducible repeat (first | apply Kd.R_alloc | apply Kd.R_drewN | apply Kd.R_drew)); exact HO196.out)) k_ hk)); (case aO => exact (by (with_reducible repeat (first | apply Kd.R_alloc | apply Kd.R_drewN | apply Kd.R_drew)); exact Kd.R_mono HO_3.out (fun _ hk => hk.2))); (case aS => exact (below_size (by repeat (first | (with_reducible first | exact HB.out | apply below_alloc | apply pw_below_drewN | apply below_drew1) | exact HB.out)))); (case aL => have := LMc7.out; omega); intro v198 w10 ho hb hg hat; rw [← Ny197.out] at ho; have n0_ := Aside0.mk (Kd.R_after (ok := (fun _ => True)) (by (with_reducible repeat (first | apply Kd.R_alloc | apply Kd.R_drewN | apply Kd.R_drew)); exact HO196.out) hg hat); have n1_ := Aside0.mk (hb); have n2_ := Aside0.mk (ho); clear HO196; clear HB; clear HO_3; have HO196 := n0_; have HB := n1_; have HO199 := n2_; clear n0_ n1_ n2_; clear ho hb hg hat))
                go_roundg k1
                case measure => have := HK1.out; omega
                case rel => exact ⟨(x0_1.extract (t193 : Int).toNat x0_1.size), (y197), (by first | rfl | (simp; done) | (simp [*]; done)), H', ⟨by have := HK1.out; omega⟩, ⟨by (with_reducible repeat (first | apply Kd.R_alloc | apply Kd.R_drewN | apply Kd.R_drew)); exact Kd.R_mono HO199.out (fun _ hk => trivial)⟩, ⟨by repeat (first | (with_reducible first | exact HB.out | apply below_alloc | apply pw_below_drewN | apply below_drew1) | exact HB.out)⟩⟩
              · rw [if_neg c7] at H
                exact absurd H (by simp)
            · rw [if_neg c6] at H
              have c6b0 : decide (65535 < t192) = false := decide_eq_false c6
              clear c6
              by_cases c12 : x3_1.length < 70368744177664
              · rw [if_pos c12] at H
                have LMc12 := Aside0.mk c12
                clear c12
                obtain ⟨y200, hy200⟩ : ∃ y_ : List Int, y_ = (x3_1 ++ [IntKind.u16.wrap (t192)]) := ⟨_, rfl⟩
                replace H : (spinneyref04_units.l0 k1 (x0_1.extract (t193 : Int).toNat x0_1.size) y200) = some r := by first | (rw [hy200]; with_reducible exact H) | (have H2_ := (Option.bind_some _ _).symm.trans H; rw [hy200]; with_reducible exact H2_) | (have H2_ := (Option.bind_some _ _).symm.trans H; with_reducible exact H2_) | with_reducible exact H | (rw [hy200]; exact H) | exact H
                have Ny200 := Aside0.mk hy200
                clear hy200
                have H' := Aside0.mk H
                clear H
                go_wp2_with (first | ((with_reducible refine gate_callee (f := 122) rfl ?_); refine goesL_ (some 11) rfl rfl Tryd.func122 (by kernel_rfl) rfl #[.string x0_1] rfl (by (try simp only [List.map_toArray, List.map_cons, List.map_nil]); first | done | rfl | (simp only [List.length_drop, List.length_take]; rfl) | (simp only [gt_iff_lt, Int.ofNat_lt]; rfl)) ?_; (with_reducible refine (spinneyref04_code.calls x0_1 t192 t193 _ A3.out).mono ?_); rintro e w' ⟨rfl, ⟨nd, rfl⟩⟩; refine ⟨_, rfl, ?_⟩) | ((with_reducible refine gate_builtin (b := .append) (xs := #[.tmp 32, .tmp 35]) rfl ?_); at_builtin; refine Kd.R_append (Kd.int .u16) (w0 := w) w.heap.size rfl (.tmp 32) (.tmp 35) 102 119 (.int .u16 0) 2 rfl Tryd.underlying102 info119 rfl (by decide) (by omega) u3 x3_1 (IntKind.u16.wrap (t192)) [.int .u16 (IntKind.u16.wrap (t192))] (fun _ => True) (fun _ => False) rfl rfl ?aP (fun _ hk => hk.elim) ?aF ?aO ?aB ?aS ?aL ?_; (case aP => exact rfl); (case aB => exact (by repeat (first | (with_reducible first | exact HB.out | apply below_alloc | apply pw_below_drewN | apply below_drew1) | exact HB.out))); (case aF => exact (fun _ _ => trivial)); (case aO => exact (by (with_reducible repeat (first | apply Kd.R_alloc | apply Kd.R_drewN | apply Kd.R_drew)); exact HO_3.out)); (case aS => exact (below_size (by repeat (first | (with_reducible first | exact HB.out | apply below_alloc | apply pw_below_drewN | apply below_drew1) | exact HB.out)))); (case aL => have := LMc12.out; omega); intro v201 w13 ho hb hg hat; rw [← Ny200.out] at ho; have n0_ := Aside0.mk (hb); have n1_ := Aside0.mk (ho); clear HB; clear HO_3; have HB := n0_; have HO202 := n1_; clear n0_ n1_; clear ho hb hg hat))
                go_roundg k1
                case measure => have := HK1.out; omega
                case rel => exact ⟨(x0_1.extract (t193 : Int).toNat x0_1.size), (y200), (by first | rfl | (simp; done) | (simp [*]; done)), H', ⟨by have := HK1.out; omega⟩, ⟨by (with_reducible repeat (first | apply Kd.R_alloc | apply Kd.R_drewN | apply Kd.R_drew)); exact HO202.out⟩, ⟨by repeat (first | (with_reducible first | exact HB.out | apply below_alloc | apply pw_below_drewN | apply below_drew1) | exact HB.out)⟩⟩
              · rw [if_neg c12] at H
                exact absurd H (by simp)
          · rw [if_neg c5] at H
            exact absurd H (by simp)
        · rw [if_neg c4] at H
          exact absurd H (by simp)
      · rw [if_neg c2] at H
        have c2b0 : decide (0 < (x0_1.size : Int)) = false := decide_eq_false c2
        have c2b1 : decide (0 < x0_1.size) = false := decide_eq_false (by omega)
        clear c2
        obtain rfl := Option.some.inj H
        go_wp2
        go_ret
        exact ⟨_, by first | rfl | (simp [errW_none, errW_some] <;> rfl) | (simp [*, errW_none, errW_some] <;> rfl), by (with_reducible repeat (first | apply Kd.R_alloc | apply Kd.R_drewN | apply Kd.R_drew)); exact HO_3.out, by repeat (first | (with_reducible first | exact HB.out | apply below_alloc | apply pw_below_drewN | apply below_drew1) | exact HB.out)⟩

-- NOT PRINTED: function 77 (spinneyref04_each)

def spinneyref03_Unordered.l0 : Nat → List Int → Int → List Int → Int → Int → Option (Int)
  | 0, _, _, _, _, _ => none
  | k + 1, x0, x3, x6, x7, x8 => if x8 < x7 then (if 0 ≤ x8 then (if x8 < (x6.length : Int) then (spinneyref03_Unordered.l0 k x0 ((x3 + (rd x6 x8)) % 4294967296) x6 x7 (wrap64 (x8 + 1))) else (none)) else (none)) else ((spinneyref03_Coll.f x3 (x0.length : Int)).bind fun t205 => (some t205))
def spinneyref03_Unordered.f (k : Nat) (l0 : List Int) : Option (Int) := spinneyref03_Unordered.l0 k l0 0 l0 (l0.length : Int) 0
set_option maxHeartbeats 8000000 in
set_option maxRecDepth 100000 in
theorem spinneyref03_Unordered.calls (k : Nat) (A0 : Option Addr) (c0 : Nat) (l0 : List Int) (r : Int) (w : World) (hr0 : Kd.C (Kd.int .u32) w A0 l0.length l0) (hc0 : l0.length ≤ c0) (h : spinneyref03_Unordered.f k l0 = some r) :
    Calls Tryd.prog 78 #[.slice A0 l0.length c0] w fun e w' => e = .returned (.int .u32 r) ∧ Drawn0 w w' := by
  have HR0 := Aside0.mk hr0
  have HC0 := Aside0.mk hc0
  clear hr0 hc0
  have H : (spinneyref03_Unordered.l0 k l0 0 l0 (l0.length : Int) 0) = some r := h
  clear h
  have H' := Aside0.mk H
  clear H
  go_enter Tryd.func78, Tryd.ntmps78
  go_wp2
  go_loopg [3, 8] k (fun kq v3 v8 w' => ∃ (x3_1 : Int) (x8_1 : Int), v3 = .int .u32 x3_1 ∧ v8 = .int .i64 x8_1 ∧ Aside0 (spinneyref03_Unordered.l0 kq l0 x3_1 l0 (l0.length : Int) x8_1 = some r) ∧ Aside0 (kq ≤ k) ∧ Drawn0 w w')
  case atStart => exact ⟨(0), (0), (by first | rfl | (simp; done) | (simp [*]; done)), (by first | rfl | (simp; done) | (simp [*]; done)), H', ⟨Nat.le_refl _⟩, by repeat (first | exact Drawn0.refl _ | apply Drawn0.step)⟩
  case round =>
    clear H'
    obtain ⟨x3_1, x8_1, rfl, rfl, HA, HK1, ⟨m1, rfl⟩⟩ := hrel
    cases gk with
    | zero => exact absurd HA.out (by simp [spinneyref03_Unordered.l0])
    | succ k1 =>
      have H := HA.out
      clear HA
      simp only [spinneyref03_Unordered.l0] at H
      by_cases c2 : x8_1 < (l0.length : Int)
      · rw [if_pos c2] at H
        have c2b0 : decide (x8_1 < (l0.length : Int)) = true := decide_eq_true c2
        clear c2
        by_cases c3 : 0 ≤ x8_1
        · rw [if_pos c3] at H
          have c3b0 : decide (0 ≤ x8_1) = true := decide_eq_true c3
          clear c3
          by_cases c4 : x8_1 < (l0.length : Int)
          · rw [if_pos c4] at H
            have c4b0 : decide (x8_1 < (l0.length : Int)) = true := decide_eq_true c4
            clear c4
            have H' := Aside0.mk H
            clear H
            have p204 : 0 ≤ (x8_1 : Int) := of_decide_eq_true (by first | (with_reducible assumption) | assumption)
            have q204 : x8_1 < (l0.length : Int) := of_decide_eq_true (by first | (with_reducible assumption) | assumption)
            obtain ⟨ad204, e204, hx204_0⟩ := Kd.at_int HR0.out x8_1 p204 q204
            cases e204
            replace p204 := eq_true p204
            replace q204 := eq_true q204
            go_wp2
            go_roundg k1
            case measure => have := HK1.out; omega
            case rel => exact ⟨((x3_1 + (rd l0 x8_1)) % 4294967296), (wrap64 (x8_1 + 1)), (by first | rfl | (simp; done) | (simp [*]; done)), (by first | rfl | (simp; done) | (simp [*]; done)), H', ⟨by have := HK1.out; omega⟩, by repeat (first | exact Drawn0.refl _ | apply Drawn0.step)⟩
          · rw [if_neg c4] at H
            exact absurd H (by simp)
        · rw [if_neg c3] at H
          exact absurd H (by simp)
      · rw [if_neg c2] at H
        have c2b0 : decide (x8_1 < (l0.length : Int)) = false := decide_eq_false c2
        clear c2
        replace H := Option.bind_eq_some_iff.mp H
        obtain ⟨t205, A50, H⟩ := H
        replace H : (some t205) = some r := H
        have A5 := Aside0.mk A50
        clear A50
        obtain rfl := Option.some.inj H
        go_wp2_with (first | ((with_reducible refine gate_callee (f := 80) rfl ?_); refine goesL_ (some 19) rfl rfl Tryd.func80 (by kernel_rfl) rfl #[.int .u32 x3_1, .int .i64 (l0.length : Int)] rfl (by (try simp only [List.map_toArray, List.map_cons, List.map_nil]); first | done | rfl | (simp only [List.length_drop, List.length_take]; rfl) | (simp only [gt_iff_lt, Int.ofNat_lt]; rfl)) ?_; (with_reducible refine (spinneyref03_Coll.calls x3_1 (l0.length : Int) t205 _ A5.out).mono ?_); rintro e w' ⟨rfl, ⟨nd, rfl⟩⟩; refine ⟨_, rfl, ?_⟩))
        go_ret
        exact ⟨by first | rfl | (simp; done) | (simp [*]; done), by repeat (first | exact Drawn0.refl _ | apply Drawn0.step)⟩

theorem rot_eq (x : Int) (n : Int) (h : n = 15 ∨ n = 13) : bits_RotateLeft32.f x n = spinneyref03_turn.f x n := by
  rcases h with rfl | rfl
  · unfold bits_RotateLeft32.f spinneyref03_turn.f
    rw [if_pos (by decide +kernel), if_pos (by decide +kernel), if_pos (by decide +kernel), if_pos (by decide +kernel)]
    rfl
  · unfold bits_RotateLeft32.f spinneyref03_turn.f
    rw [if_pos (by decide +kernel), if_pos (by decide +kernel), if_pos (by decide +kernel), if_pos (by decide +kernel)]
    rfl
theorem mixKr (a : Int) : spinneyref03_MixK.f a = murmur_MixK.f a := by
  unfold spinneyref03_MixK.f murmur_MixK.f
  rw [rot_eq _ 15 (.inl rfl)]
theorem mixHr (a b : Int) : spinneyref03_MixH.f a b = murmur_MixH.f a b := by
  unfold spinneyref03_MixH.f murmur_MixH.f
  rw [rot_eq _ 13 (.inr rfl)]
theorem finr (a b : Int) : spinneyref03_Fin.f a b = murmur_Fin.f a b := rfl
theorem intr (a : Int) : spinneyref03_Int.f a = murmur_Int.f a := by
  unfold spinneyref03_Int.f murmur_Int.f
  simp only [mixKr, mixHr, finr]
theorem hi_eq (b : Int) : IntKind.u64.wrap b / 4294967296 % 4294967296 = b / 4294967296 % 4294967296 := by
  have e : IntKind.u64.wrap b = b % 18446744073709551616 := by simp [IntKind.wrap, IntKind.bits, IntKind.signed]
  rw [e]; omega
theorem longr (a : Int) : spinneyref03_Long.f a = murmur_Long.f a := by
  unfold spinneyref03_Long.f murmur_Long.f
  simp only [mixKr, mixHr, finr, hi_eq a]
theorem collr (a n : Int) : spinneyref03_Coll.f a n = murmur_Coll.f a n := by
  unfold spinneyref03_Coll.f murmur_Coll.f
  simp only [mixKr, mixHr, finr]
theorem unr : ∀ (k : Nat) (x0 : List Int) (h : Int) (l : List Int) (n i : Int), spinneyref03_Unordered.l0 k x0 h l n i = murmur_Unordered.l0 k x0 h l n i
  | 0, _, _, _, _, _ => rfl
  | k + 1, x0, h, l, n, i => by simp only [spinneyref03_Unordered.l0, murmur_Unordered.l0, unr k, collr]
theorem orr : ∀ (k : Nat) (x0 : List Int) (h : Int) (l : List Int) (n i : Int), spinneyref03_Ordered.l0 k x0 h l n i = murmur_Ordered.l0 k x0 h l n i
  | 0, _, _, _, _, _ => rfl
  | k + 1, x0, h, l, n, i => by simp only [spinneyref03_Ordered.l0, murmur_Ordered.l0, orr k, collr]
theorem unorderedr (k : Nat) (l : List Int) : spinneyref03_Unordered.f k l = murmur_Unordered.f k l := unr _ _ _ _ _ _
theorem orderedr (k : Nat) (l : List Int) : spinneyref03_Ordered.f k l = murmur_Ordered.f k l := orr _ _ _ _ _ _
theorem javar : ∀ (k : Nat) (h : Int) (l : List Int) (n i : Int), spinneyref03_Java.l0 k h l n i = murmur_Java.l0 k h l n i
  | 0, _, _, _, _ => rfl
  | k + 1, h, l, n, i => by simp only [spinneyref03_Java.l0, murmur_Java.l0, javar k]
theorem javarr (k : Nat) (l : List Int) : spinneyref03_Java.f k l = murmur_Java.f k l := javar _ _ _ _ _
theorem entryr (k : Nat) (a b : Int) : spinneyref04_Entry.f k a b = hash_Entry.f k a b := by
  unfold spinneyref04_Entry.f hash_Entry.f
  simp only [orderedr]
def spinneyref04_Whole.f (i : Nat) (a0_0 : Int) (a0_1 : Int) (a0_2 : ByteArray) (l0_3 : List S24) : Option Int := hashV spinneyref04_units.f i ⟨a0_0, a0_1, a0_2, l0_3⟩
set_option maxHeartbeats 1600000 in
set_option maxRecDepth 100000 in
theorem ref_each (n : Nat) (l : List S24) (ih : ∀ a ∈ l, FullOk 43 spinneyref04_units.f n a) (r : List Int) (h : hashL spinneyref04_units.f n l = some r) (A0 : Option Addr) (c0 : Nat) (w : World) (hr0 : Kd.C k24 w A0 l.length l) (hc0 : l.length ≤ c0) :
    Calls Tryd.prog 77 #[.slice A0 l.length c0] w fun e w' => ∃ v0_ : Value, e = .returned (v0_) ∧ Kd.R (Kd.int .u32) 25 w' w.heap.size (fun _ => True) v0_ r ∧ Below w.heap.size w w' := by
  have hlen := (hashL_len _ _ l r h).1
  have IH := Aside0.mk ih
  have HR0 := Aside0.mk hr0
  have H := Aside0.mk h
  clear ih hr0 h
  go_enter Tryd.func77, Tryd.ntmps77
  go_wp2
  go_loopw [3, 4] (fun v i wr => AllRel spinneyref04_units.f n l r w v i wr) (fun _ i _ => l.length - (intOf i).toNat)
  case atStart => exact ⟨0, [], r, Nat.zero_le _, rfl, Below.refl _ _, Kd.R_nil _ _ _ _ _, H.out, rfl, rfl⟩
  case round =>
    obtain ⟨k, acc, x, hk0, rfl, hb, hr, hx, hu, hacc⟩ := hrel
    have HB := Aside0.mk hb
    have HU := Aside0.mk hu
    have HR := Aside0.mk hr
    have HX := Aside0.mk hx
    have hge := hb.size
    have hac : acc.length ≤ k := by omega
    have HAC := Aside0.mk hacc
    clear hb hu hr hx hacc
    by_cases hlt : k < l.length
    · obtain ⟨y, z, hy, hz, rfl⟩ := hashL_step _ _ l k hlt x HX.out
      have HY := Aside0.mk hy
      have HZ := Aside0.mk hz
      clear hy hz HX
      obtain ⟨ad, A3, c3, rfl, hx, hl3, hr3⟩ := el24 HR0.out HB.out k hlt
      obtain ⟨hx0, hx1, hx2, hx3⟩ := hx
      have hq : hashV spinneyref04_units.f n (rd_T24 l (k : Int)) = some y := by rw [rd_get24 l k hlt]; exact HY.out
      have HQ := Aside0.mk hq
      clear hq
      have hm : rd_T24 l (k : Int) ∈ l := by rw [rd_get24 l k hlt]; exact List.getElem_mem _
      go_wp2_with (first | (go_at_call 43; refine ((IH.out _ hm) _ HQ.out _ _ _ hr3 hl3).mono ?_; rintro e w2 ⟨rfl, hb2⟩; have HB2 := Aside0.mk hb2; clear hb2; have hs2 := HB2.out.size) | ((with_reducible refine gate_builtin (b := .append) (xs := #[.tmp 11, .tmp 17]) rfl ?_); at_builtin; refine Kd.R_append (Kd.int .u32) (w0 := w) w.heap.size rfl (.tmp 11) (.tmp 17) 79 25 (.int .u32 0) 4 rfl Tryd.underlying79 info25 rfl (by decide) (by omega) u3 acc y [.int .u32 y] (fun _ => True) (fun _ => False) rfl rfl ?aP (fun _ hk => hk.elim) ?aF ?aO ?aB ?aS ?aL ?_; (case aP => exact rfl); (case aF => exact (fun _ _ => trivial)); (case aO => exact Kd.R_below HR.out HB2.out); (case aB => exact HB.out.trans (HB2.out.mono hge)); (case aS => omega); (case aL => omega); intro v3 w3 ho3 hb3 hg3 hat3; have HO3 := Aside0.mk ho3; have HBB3 := Aside0.mk hb3; clear ho3 hb3 hg3 hat3))
      go_roundw
      case rel => exact ⟨k + 1, acc ++ [y], z, by omega, by go_num, HBB3.out, HO3.out, HZ.out, by rw [← HU.out]; simp, by have := HAC.out; simp; omega⟩
      case measure => simp [intOf]; omega
    · obtain rfl : k = l.length := by omega
      go_wp2
      go_ret
      refine ⟨_, rfl, ?_, HB.out⟩
      have e := HX.out
      rw [List.drop_eq_nil_of_le (Nat.le_refl _)] at e
      simp only [hashL] at e
      obtain rfl := Option.some.inj e
      have e2 := HU.out
      rw [List.append_nil] at e2
      rw [← e2]
      exact HR.out
set_option maxHeartbeats 1600000 in
set_option maxRecDepth 100000 in
theorem whole_step (kk : Nat) (a : S24) (ih : ∀ x ∈ a.f3, FullOk 43 spinneyref04_units.f kk x) : FullOk 43 spinneyref04_units.f kk a := by
  intro r hr A0 c0 w hr0 hc0
  obtain ⟨k0, n0, t0, l0⟩ := a
  simp only at hr0 hc0 ih ⊢
  have IH := Aside0.mk ih
  have HR0 := Aside0.mk hr0
  clear ih hr0
  by_cases hk : k0 = 1
  · subst hk
    simp only [hashV] at hr
    rw [if_pos trivial] at hr
    obtain rfl := Option.some.inj hr
    clear hr
    go_enter Tryd.func43, Tryd.ntmps43
    by_cases hn : n0 = 1
    · subst hn
      go_wp2
      go_ret
      exact ⟨rfl, (Below.refl _ w).alloc (Nat.le_refl _) _⟩
    · have h1 : (n0 == 1) = false := beq_eq_false_iff_ne.2 hn
      rw [if_neg hn]
      clear hn
      go_wp2
      go_ret
      exact ⟨rfl, (Below.refl _ w).alloc (Nat.le_refl _) _⟩
  have e1 : (k0 == 1) = false := beq_eq_false_iff_ne.2 hk
  have n1_ := Aside0.mk hk
  clear hk
  by_cases hk : k0 = 2
  · subst hk
    simp only [hashV] at hr
    rw [if_neg (by decide), if_pos trivial] at hr
    have H := Aside0.mk hr
    clear hr
    go_enter Tryd.func43, Tryd.ntmps43
    go_wp2_with (go_at_call 73; refine (spinneyref03_Long.calls n0 r _ ((longr _).trans H.out)).mono ?_; rintro e w2 ⟨rfl, ⟨nd, rfl⟩⟩)
    go_ret
    exact ⟨rfl, pw_below_drewN ((Below.refl _ w).alloc (Nat.le_refl _) _) _⟩
  have e2 : (k0 == 2) = false := beq_eq_false_iff_ne.2 hk
  have n2_ := Aside0.mk hk
  clear hk
  by_cases hk : k0 = 3
  · subst hk
    simp only [hashV] at hr
    rw [if_neg (by decide), if_neg (by decide), if_pos trivial] at hr
    obtain ⟨x, hx, hr⟩ := Option.bind_eq_some_iff.1 hr
    obtain ⟨j, hj, hr⟩ := Option.bind_eq_some_iff.1 hr
    have HX := Aside0.mk hx
    have HJ := Aside0.mk hj
    have H := Aside0.mk hr
    clear hx hj hr
    go_enter Tryd.func43, Tryd.ntmps43
    go_wp2_with (first
      | (go_at_call 76; refine (spinneyref04_units.calls kk t0 x _ HX.out).mono ?_; rintro e w2 ⟨v2, rfl, hrr, hb2⟩; obtain ⟨A5, c5, rfl, hc5, hC5⟩ := Kd.R_reads hrr; have HC5 := Aside0.mk hC5; have HB2 := Aside0.mk (((Below.refl _ w).alloc (Nat.le_refl _) _).trans (hb2.mono (by simp))); clear hrr hb2 hC5)
      | (go_at_call 75; refine (spinneyref03_Java.calls kk _ _ x j _ HC5.out hc5 ((javarr _ _).trans HJ.out)).mono ?_; rintro e w3 ⟨rfl, ⟨nd, rfl⟩⟩)
      | (go_at_call 74; refine (spinneyref03_Int.calls j r _ ((intr _).trans H.out)).mono ?_; rintro e w3 ⟨rfl, ⟨nd2, rfl⟩⟩))
    go_ret
    exact ⟨rfl, pw_below_drewN HB2.out _⟩
  have e3 : (k0 == 3) = false := beq_eq_false_iff_ne.2 hk
  have n3_ := Aside0.mk hk
  clear hk
  by_cases hk : k0 = 4
  · subst hk
    simp only [hashV] at hr
    rw [if_neg (by decide), if_neg (by decide), if_neg (by decide), if_pos trivial] at hr
    obtain ⟨x, hx, hr⟩ := Option.bind_eq_some_iff.1 hr
    have HX := Aside0.mk hx
    have H := Aside0.mk hr
    clear hx hr
    go_enter Tryd.func43, Tryd.ntmps43
    go_wp2_with (first
      | (go_at_call 77; refine (ref_each kk l0 IH.out x HX.out _ _ _ (Kd.C_alloc HR0.out _) hc0).mono ?_; rintro e w2 ⟨v2, rfl, hrr, hb2⟩; obtain ⟨A5, c5, rfl, hc5, hC5⟩ := Kd.R_reads hrr; have HC5 := Aside0.mk hC5; have HB2 := Aside0.mk (((Below.refl _ w).alloc (Nat.le_refl _) _).trans (hb2.mono (by simp))); clear hrr hb2 hC5)
      | (go_at_call 46; refine (spinneyref03_Ordered.calls kk _ _ x r _ HC5.out hc5 ((orderedr _ _).trans H.out)).mono ?_; rintro e w3 ⟨rfl, ⟨nd, rfl⟩⟩))
    go_ret
    exact ⟨rfl, pw_below_drewN HB2.out _⟩
  have e4 : (k0 == 4) = false := beq_eq_false_iff_ne.2 hk
  have n4_ := Aside0.mk hk
  clear hk
  by_cases hk : k0 = 5
  · subst hk
    simp only [hashV] at hr
    rw [if_neg (by decide), if_neg (by decide), if_neg (by decide), if_neg (by decide), if_pos trivial] at hr
    obtain ⟨x, hx, hr⟩ := Option.bind_eq_some_iff.1 hr
    have HX := Aside0.mk hx
    have H := Aside0.mk hr
    clear hx hr
    go_enter Tryd.func43, Tryd.ntmps43
    go_wp2_with (first
      | (go_at_call 77; refine (ref_each kk l0 IH.out x HX.out _ _ _ (Kd.C_alloc HR0.out _) hc0).mono ?_; rintro e w2 ⟨v2, rfl, hrr, hb2⟩; obtain ⟨A5, c5, rfl, hc5, hC5⟩ := Kd.R_reads hrr; have HC5 := Aside0.mk hC5; have HB2 := Aside0.mk (((Below.refl _ w).alloc (Nat.le_refl _) _).trans (hb2.mono (by simp))); clear hrr hb2 hC5)
      | (go_at_call 78; refine (spinneyref03_Unordered.calls kk _ _ x r _ HC5.out hc5 ((unorderedr _ _).trans H.out)).mono ?_; rintro e w3 ⟨rfl, ⟨nd, rfl⟩⟩))
    go_ret
    exact ⟨rfl, pw_below_drewN HB2.out _⟩
  have e5 : (k0 == 5) = false := beq_eq_false_iff_ne.2 hk
  have n5_ := Aside0.mk hk
  clear hk
  by_cases hk : k0 = 6
  · subst hk
    simp only [hashV] at hr
    rw [if_neg (by decide), if_neg (by decide), if_neg (by decide), if_neg (by decide), if_neg (by decide), if_pos trivial] at hr
    obtain ⟨x, hx, hr⟩ := Option.bind_eq_some_iff.1 hr
    obtain ⟨y, hy, hr⟩ := Option.bind_eq_some_iff.1 hr
    have HX := Aside0.mk hx
    have HY := Aside0.mk hy
    have H := Aside0.mk hr
    clear hx hy hr
    go_enter Tryd.func43, Tryd.ntmps43
    have hxl : x.length ≤ 1048577 := by have h1 := hashL_len _ _ l0 x HX.out; omega
    go_upto_block 1 with (go_at_call 77; refine (ref_each kk l0 IH.out x HX.out _ _ _ (Kd.C_alloc HR0.out _) hc0).mono ?_; rintro e w2 ⟨v2, rfl, hrr, hb2⟩; obtain ⟨A5, c5, rfl, hc5, hC5⟩ := Kd.R_reads hrr; have HC5 := Aside0.mk hC5; have HB2 := Aside0.mk (((Below.refl _ w).alloc (Nat.le_refl _) _).trans (hb2.mono (by simp))); clear hrr hb2 hC5)
    go_wp2_with fail
    have hsz : w.heap.size ≤ w2.heap.size := HB2.out.size
    go_loopw [4, 5] (fun v i wr => PairRel kk x y w2 v i wr) (fun _ i _ => x.length - (intOf i).toNat)
    case atStart => exact ⟨0, [], y, Nat.zero_le _, rfl, Below.refl _ _, Kd.R_nil _ _ _ _ _, HY.out, rfl, Nat.le_refl _⟩
    case round =>
      obtain ⟨k, acc, z, hk0, rfl, hb, hrr, hz, hu, hacc⟩ := hrel
      have HB := Aside0.mk hb
      have HU := Aside0.mk hu
      have HR := Aside0.mk hrr
      have HZ := Aside0.mk hz
      have hge := hb.size
      clear hb hu hrr hz
      by_cases hlt2 : k + 1 < x.length
      · have hlt : k < x.length := by omega
        obtain ⟨h1, e, z, hi, hz2, rfl⟩ := pairs_step kk x k z HZ.out hlt
        have HI := Aside0.mk hi
        have HZ2 := Aside0.mk hz2
        clear hi hz2 HZ
        obtain ⟨ad, hA, hcell⟩ := (Kd.reads_of_C (d := (0 : Int)) HC5.out).2.2 (by omega)
        have HAD := Aside0.mk hA
        have hd0 : w2.cell? (ad.add k) = some (.int .u32 x[k]) := by
          have := hcell k hlt
          rw [List.getD_eq_getElem?_getD, List.getElem?_eq_getElem hlt] at this
          exact this
        have hd1 : w2.cell? ⟨ad.block, ad.off + (k + 1), none⟩ = some (.int .u32 x[k + 1]) := by
          have := hcell (k + 1) h1
          rw [show ad.add (k + 1) = ⟨ad.block, ad.off + (k + 1), none⟩ from by simp [Addr.add]] at this
          rw [List.getD_eq_getElem?_getD, List.getElem?_eq_getElem h1] at this
          exact this
        subst hA
        clear hcell
        have c0_ := World.block_lt_of_cell? w2 _ hd0
        have c1_ := World.block_lt_of_cell? w2 _ hd1
        have hx0 := (HB.out.cell c0_).trans hd0
        have hx1 := (HB.out.cell c1_).trans hd1
        have HD0 := Aside0.mk hd0
        have HD1 := Aside0.mk hd1
        clear hd0 hd1
        have b0 := World.block_lt_of_cell? wr _ hx0
        have b1 := World.block_lt_of_cell? wr _ hx1
        have hi0 : (0 : Int) ≤ (k : Int) := by omega
        have hi1 : (k : Int) < (x.length : Int) := by omega
        have hi2 : (0 : Int) ≤ (k : Int) + 1 := by omega
        have hi3 : (k : Int) + 1 < (x.length : Int) := by omega
        have hlx : x.length ≤ 1048577 := hxl
        go_wp2_with fail
        have hw1 : IntKind.i64.wrap ((k : Int) + 1) = (k : Int) + 1 := IntWalk.i64_in _ (by omega)
        go_region_held3 (fun w' => w'.cell? (ad.add k) = some (.int .u32 x[k]) ∧ w'.cell? ⟨ad.block, ad.off + (k + 1), none⟩ = some (.int .u32 x[k + 1]))
          (first | (exact ⟨(hb5.cell (p := ad.add k) c0_).trans HD0.out, (hb5.cell (p := ⟨ad.block, ad.off + (k + 1), none⟩) c1_).trans HD1.out⟩) | (exact ⟨(hb4.cell (by simpa using b0)).trans (by assumption), (hb4.cell (by simpa using b1)).trans (by assumption)⟩) | go_keep)
          (first
            | (go_at_call 22; refine (spinneyref04_Entry.calls kk _ _ e _ ((entryr _ _ _).trans HI.out)).mono ?_; rintro e_ w4 ⟨rfl, hb4⟩; have HB4 : Aside0 (Below wr.heap.size wr w4) := ⟨by first | exact hb4 | exact (Below.drew (Below.refl _ _)).trans hb4 | exact (pw_below_drewN (Below.refl _ _) _).trans hb4⟩; have hs4 := HB4.out.size)
            | ((with_reducible refine gate_step (b := .append) (xs := #[.tmp 49, .tmp 60]) rfl ?_); refine Kd.R_append_step (Kd.int .u32) (w0 := w2) w2.heap.size (by rfl) (.tmp 49) (.tmp 60) 79 25 (.int .u32 0) 4 (by rfl) Tryd.underlying79 info25 (by rfl) (by decide) (by omega) u4 acc e [.int .u32 e] (fun _ => True) (fun _ => False) (by rfl) (by rfl) (by exact rfl) (fun _ hk => hk.elim) (fun _ _ => trivial) (by (with_reducible repeat (first | apply Kd.R_alloc | apply Kd.R_drewN | apply Kd.R_drew)); exact Kd.R_below HR.out HB4.out) (by exact HB.out.trans (HB4.out.mono hge)) (by omega) (by omega) ?_; intro v5 w5 ho5 hb5 hg5 hat5))
        go_wp2
        go_roundw
        case rel => exact ⟨k + 2, acc ++ [e], z, by omega, by go_num, hb5, ho5, HZ2.out, by rw [← HU.out]; simp, by simp; omega⟩
        case measure => simp [intOf]; omega
      · obtain rfl : k = x.length := by
          rcases Nat.lt_or_ge k x.length with h' | h'
          · have e0 := HZ.out
            rw [List.drop_eq_getElem_cons h', List.drop_eq_nil_of_le (show x.length ≤ k + 1 by omega), pairsH] at e0
            cases e0
          · omega
        have hlx : x.length ≤ 1048577 := hxl
        have e0 := HZ.out
        rw [List.drop_eq_nil_of_le (Nat.le_refl _), pairsH] at e0
        obtain rfl := Option.some.inj e0
        have e1_ := HU.out
        rw [List.append_nil] at e1_
        subst e1_
        clear e0 HU
        obtain ⟨A6, c6, e6, hc6, hC6⟩ := Kd.R_reads HR.out
        subst e6
        have HC6 := Aside0.mk hC6
        clear hC6
        go_wp2_with (go_at_call 78; refine (spinneyref03_Unordered.calls kk _ _ acc r _ HC6.out hc6 ((unorderedr _ _).trans H.out)).mono ?_; rintro e w3 ⟨rfl, ⟨nd, rfl⟩⟩)
        go_ret
        exact ⟨rfl, pw_below_drewN (HB2.out.trans (HB.out.mono hsz)) _⟩
  have e6 : (k0 == 6) = false := beq_eq_false_iff_ne.2 hk
  have n6_ := Aside0.mk hk
  clear hk
  simp only [hashV] at hr
  rw [if_neg n1_.out, if_neg n2_.out, if_neg n3_.out, if_neg n4_.out, if_neg n5_.out, if_neg n6_.out] at hr
  obtain rfl := Option.some.inj hr
  clear hr
  go_enter Tryd.func43, Tryd.ntmps43
  go_wp2
  go_ret
  exact ⟨rfl, (Below.refl _ w).alloc (Nat.le_refl _) _⟩
theorem whole_all (i n : Nat) : ∀ a : S24, SizeOf.sizeOf a ≤ n → FullOk 43 spinneyref04_units.f i a := by
  induction n with
  | zero => intro a h; cases a; simp at h
  | succ n ih =>
    intro a h
    refine whole_step i a (fun x hx => ih x ?_)
    have h1 := List.sizeOf_lt_of_mem hx
    obtain ⟨k0, n0, t0, l0⟩ := a
    simp at h h1
    omega
theorem spinneyref04_Whole.calls (i : Nat) (a0_0 : Int) (a0_1 : Int) (a0_2 : ByteArray) (A0_3 : Option Addr) (c0_3 : Nat) (l0_3 : List S24) (r : Int) (w : World) (hr0_3 : Kd.C k24 w A0_3 l0_3.length l0_3) (hc0_3 : l0_3.length ≤ c0_3) (h : spinneyref04_Whole.f i a0_0 a0_1 a0_2 l0_3 = some r) :
    Calls Tryd.prog 43 #[.agg #[.int .i64 a0_0, .int .i64 a0_1, .string a0_2, .slice A0_3 l0_3.length c0_3]] w fun e w' => e = .returned (.int .u32 r) ∧ Below w.heap.size w w' :=
  whole_all i _ ⟨a0_0, a0_1, a0_2, l0_3⟩ (Nat.le_refl _) r h A0_3 c0_3 w hr0_3 hc0_3

def spinneyref04_Full.f (k : Nat) (a0_0 : Int) (a0_1 : Int) (a0_2 : ByteArray) (l0_3 : List (S24)) : Option (Int × Int) := (spinneyref01_Right.f k a0_0 a0_1 a0_2 l0_3).bind fun t207 => (if t207 = true then ((spinneyref04_Whole.f k a0_0 a0_1 a0_2 l0_3).bind fun t208 => (some (t208, 0))) else (some (0, 3)))
def spinneyplain_Int.f (a0 : Int) : Option (Int × Int × ByteArray × (List (S24))) := some (2, a0, (⟨#[]⟩ : ByteArray), ([] : List (S24)))
set_option maxHeartbeats 8000000 in
set_option maxRecDepth 100000 in
theorem spinneyplain_Int.calls (a0 : Int) (r1 : Int) (r2 : Int) (r3 : ByteArray) (r4 : List (S24)) (w : World) (h : spinneyplain_Int.f a0 = some (r1, r2, r3, r4)) :
    Calls Tryd.prog 44 #[.int .i64 a0] w fun e w' => ∃ v3_ : Value, e = .returned (.agg #[.int .i64 r1, .int .i64 r2, .string r3, v3_]) ∧ Kd.R k24 24 w' w.heap.size (fun _ => True) v3_ r4 ∧ Below w.heap.size w w' := by
  have hu24 := Tryd.underlying24
  have HB := Aside0.mk (Below.refl w.heap.size w)
  have H : (some (2, a0, (⟨#[]⟩ : ByteArray), ([] : List (S24)))) = some (r1, r2, r3, r4) := h
  clear h
  simp only [Option.some.injEq, Prod.mk.injEq] at H
  obtain ⟨rfl, rfl, rfl, rfl⟩ := H
  go_enter Tryd.func44, Tryd.ntmps44
  go_wp2_with (first | ((with_reducible refine gate_dst (N := 2) rfl ?_); refine box_event ?hg (N := 2) ?hd (cs := #[.int .i64 0, .int .i64 0, .string (⟨#[]⟩ : ByteArray), .slice none 0 0]) (t := 24) ?hr ?_; (case hd => rfl); (case hg => rfl); (case hr => first | (go_simp; done) | (go_simp; rfl)); intro gb213 hg w2 hbox hb; have n0_ := Aside0.mk (below_step (by repeat (first | (with_reducible first | exact HB.out | apply below_alloc | apply pw_below_drewN | apply below_drew1) | exact HB.out)) hb); have n1_ := Aside0.mk (hbox); have n2_ := Aside0.mk ((by rw [hg]; exact (below_size (by repeat (first | (with_reducible first | exact HB.out | apply below_alloc | apply pw_below_drewN | apply below_drew1) | exact HB.out))) : w.heap.size ≤ gb213)); have n3_ := Aside0.mk ((by rw [hg]; exact (below_size (by repeat (first | (with_reducible first | exact HB.out | apply below_alloc | apply pw_below_drewN | apply below_drew1) | exact HB.out))) : w.heap.size ≤ gb213)); clear HB; have HB := n0_; have BK213 := n1_; have GW213 := n2_; have GE213 := n3_; clear n0_ n1_ n2_ n3_; clear hb hbox hg; have hcz3_0 : w2.cell? ⟨gb213, 0, none⟩ = some (.int .i64 0) := (blk_cell BK213.out 0).trans rfl; have hcz3_1 : w2.cell? ⟨gb213, 1, none⟩ = some (.int .i64 0) := (blk_cell BK213.out 1).trans rfl; have hcz3_2 : w2.cell? ⟨gb213, 2, none⟩ = some (.string (⟨#[]⟩ : ByteArray)) := (blk_cell BK213.out 2).trans rfl; have hcz3_3 : w2.cell? ⟨gb213, 3, none⟩ = some (.slice none 0 0) := (blk_cell BK213.out 3).trans rfl; have hfz3_0 := blk_frozen BK213.out 0; have hfz3_1 := blk_frozen BK213.out 1; have hfz3_2 := blk_frozen BK213.out 2; have hfz3_3 := blk_frozen BK213.out 3))
  refine bodyPost_ret (results_cell_row rfl _ _ gb213 24 #[.int .i64 2, .int .i64 a0, .string (⟨#[]⟩ : ByteArray), .slice none 0 0] (0, 0) _ rfl (by (with_reducible repeat (first | refine blk_drewN ?_ _ | refine blk_drew ?_ | refine blk_alloc ?_ _)); refine blk_put (cs := #[.int .i64 2, .int .i64 a0, .string (⟨#[]⟩ : ByteArray), .slice none 0 0]) ?_ 3 _ rfl; (with_reducible repeat (first | refine blk_drewN ?_ _ | refine blk_drew ?_ | refine blk_alloc ?_ _)); refine blk_put (cs := #[.int .i64 2, .int .i64 a0, .string (⟨#[]⟩ : ByteArray), .slice none 0 0]) ?_ 2 _ rfl; (with_reducible repeat (first | refine blk_drewN ?_ _ | refine blk_drew ?_ | refine blk_alloc ?_ _)); refine blk_put (cs := #[.int .i64 2, .int .i64 0, .string (⟨#[]⟩ : ByteArray), .slice none 0 0]) ?_ 1 _ rfl; (with_reducible repeat (first | refine blk_drewN ?_ _ | refine blk_drew ?_ | refine blk_alloc ?_ _)); refine blk_put (cs := #[.int .i64 0, .int .i64 0, .string (⟨#[]⟩ : ByteArray), .slice none 0 0]) ?_ 0 _ rfl; (with_reducible repeat (first | refine blk_drewN ?_ _ | refine blk_drew ?_ | refine blk_alloc ?_ _)); exact BK213.out) Tryd.underlying24 rfl (by kernel_rfl)) rfl ?_
  exact ⟨_, by first | rfl | (simp [errW_none, errW_some] <;> rfl) | (simp [*, errW_none, errW_some] <;> rfl), by first | exact Kd.R_nil _ _ _ _ _ | exact Kd.N_nil _ _ _ _ _ | exact Kd.V_nil _ _ _ _ _ | exact Kd.Q_nil _ _ _ _ _ | exact Kd.S_nil _ _ _ _ _, by repeat (first | (with_reducible first | exact HB.out | apply below_alloc | apply pw_below_drewN | apply below_drew1 | refine below_set ?_ GE213.out) | exact HB.out)⟩

end Go.Proofs.YtmebfblabccblaaDoor.XH
