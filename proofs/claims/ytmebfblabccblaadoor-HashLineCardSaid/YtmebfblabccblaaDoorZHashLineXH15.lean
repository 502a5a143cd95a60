-- cut down by bundle.py (the session's own program) from the text YtmebfblabccblaaDoorXH15, to what this claim names
-- laid by xprint.py (the session's own program) out of the translation; Lean checks it
import Derived.Test.YtmebfblabccblaaDoorZHashLineXH0
import Derived.Test.YtmebfblabccblaaDoorZHashLineXH2
import Derived.Test.YtmebfblabccblaaDoorZHashLineXH4
import Derived.Test.YtmebfblabccblaaDoorZHashLineXH12
import Derived.Test.YtmebfblabccblaaDoorZHashLineXH14
namespace Go.Proofs.YtmebfblabccblaaDoor.XH
open Go.RowKit Go.Proofs.YtmebfblabccblaaDoorW.PrintWords Go.Proofs.YtmebfblabccblaaDoorW.PrintLast Go.Proofs.YtmebfblabccblaaDoorW.PrintMore
attribute [local go_sem] max2_int min2_int max_two min_two max_three min_three max_four min_four   -- for this text's walks alone
set_option linter.unusedVariables false
set_option linter.unusedSimpArgs false

def value_Equal.f (a0_0 : Int) (a0_1 : Int) (a0_2 : ByteArray) (l0_3 : List (S24)) (a1_0 : Int) (a1_1 : Int) (a1_2 : ByteArray) (l1_3 : List (S24)) : Option (Bool) := (value_Compare.f a0_0 a0_1 a0_2 l0_3 a1_0 a1_1 a1_2 l1_3).bind fun t320 => (some (t320 == 0))
set_option maxHeartbeats 8000000 in
set_option maxRecDepth 100000 in
theorem value_Equal.calls (a0_0 : Int) (a0_1 : Int) (a0_2 : ByteArray) (A0_3 : Option Addr) (c0_3 : Nat) (l0_3 : List (S24)) (a1_0 : Int) (a1_1 : Int) (a1_2 : ByteArray) (A1_3 : Option Addr) (c1_3 : Nat) (l1_3 : List (S24)) (r : Bool) (w : World) (hr0_3 : Kd.C k24 w A0_3 l0_3.length l0_3) (hc0_3 : l0_3.length ≤ c0_3) (hr1_3 : Kd.C k24 w A1_3 l1_3.length l1_3) (hc1_3 : l1_3.length ≤ c1_3) (h : value_Equal.f a0_0 a0_1 a0_2 l0_3 a1_0 a1_1 a1_2 l1_3 = some r) :
    Calls Tryd.prog 29 #[.agg #[.int .i64 a0_0, .int .i64 a0_1, .string a0_2, .slice A0_3 l0_3.length c0_3], .agg #[.int .i64 a1_0, .int .i64 a1_1, .string a1_2, .slice A1_3 l1_3.length c1_3]] w fun e w' => e = .returned (.bool r) ∧ Below w.heap.size w w' := by
  have hu24 := Tryd.underlying24
  have HR0_3 := Aside0.mk hr0_3
  have HC0_3 := Aside0.mk hc0_3
  clear hr0_3 hc0_3
  have HR1_3 := Aside0.mk hr1_3
  have HC1_3 := Aside0.mk hc1_3
  clear hr1_3 hc1_3
  have HB := Aside0.mk (Below.refl w.heap.size w)
  have H : ((value_Compare.f a0_0 a0_1 a0_2 l0_3 a1_0 a1_1 a1_2 l1_3).bind fun t320 => (some (t320 == 0))) = some r := h
  clear h
  replace H := Option.bind_eq_some_iff.mp H
  obtain ⟨t320, A30, H⟩ := H
  replace H : (some (t320 == 0)) = some r := H
  have A3 := Aside0.mk A30
  clear A30
  obtain rfl := Option.some.inj H
  go_enter Tryd.func29, Tryd.ntmps29
  go_wp2_with (first | ((with_reducible refine gate_dst (N := 2) rfl ?_); refine box_event ?hg (N := 2) ?hd (cs := #[.int .i64 a0_0, .int .i64 a0_1, .string a0_2, .slice A0_3 l0_3.length c0_3]) (t := 24) ?hr ?_; (case hd => rfl); (case hg => rfl); (case hr => first | (go_simp; done) | (go_simp; rfl)); intro gb318 hg w4 hbox hb; have n0_ := Aside0.mk (below_step (by repeat (first | (with_reducible first | exact HB.out | apply below_alloc | apply pw_below_drewN | apply below_drew1) | exact HB.out)) hb); have n1_ := Aside0.mk (hbox); have n2_ := Aside0.mk ((by rw [hg]; exact (below_size (by repeat (first | (with_reducible first | exact HB.out | apply below_alloc | apply pw_below_drewN | apply below_drew1) | exact HB.out))) : w.heap.size ≤ gb318)); have n3_ := Aside0.mk ((by rw [hg]; exact (below_size (by repeat (first | (with_reducible first | exact HB.out | apply below_alloc | apply pw_below_drewN | apply below_drew1) | exact HB.out))) : w.heap.size ≤ gb318)); clear HB; have HB := n0_; have BK318 := n1_; have GW318 := n2_; have GE318 := n3_; clear n0_ n1_ n2_ n3_; clear hb hbox hg) | ((with_reducible refine gate_dst (N := 3) rfl ?_); refine box_event ?hg (N := 3) ?hd (cs := #[.int .i64 a1_0, .int .i64 a1_1, .string a1_2, .slice A1_3 l1_3.length c1_3]) (t := 24) ?hr ?_; (case hd => rfl); (case hg => rfl); (case hr => first | (go_simp; done) | (go_simp; rfl)); intro gb319 hg w5 hbox hb; have n0_ := Aside0.mk (blk_below (g := gb318) (o := .cells #[.int .i64 a0_0, .int .i64 a0_1, .string a0_2, .slice A0_3 l0_3.length c0_3] 24 (0, 0)) (by (with_reducible repeat (first | refine blk_drewN ?_ _ | refine blk_drew ?_ | refine blk_alloc ?_ _)); exact BK318.out) hb); have n1_ := Aside0.mk (below_step (by repeat (first | (with_reducible first | exact HB.out | apply below_alloc | apply pw_below_drewN | apply below_drew1 | refine below_set ?_ GE318.out) | exact HB.out)) hb); have n2_ := Aside0.mk (hbox); have n3_ := Aside0.mk ((by rw [hg]; exact (below_size (by repeat (first | (with_reducible first | exact HB.out | apply below_alloc | apply pw_below_drewN | apply below_drew1 | refine below_set ?_ GE318.out) | exact HB.out))) : w.heap.size ≤ gb319)); have n4_ := Aside0.mk ((by rw [hg]; exact (below_size (by repeat (first | (with_reducible first | exact HB.out | apply below_alloc | apply pw_below_drewN | apply below_drew1 | refine below_set ?_ GE318.out) | exact HB.out))) : w.heap.size ≤ gb319)); have n5_ := Aside0.mk ((by rw [hg]; exact Nat.ne_of_lt (blk_lt (g := gb318) (o := .cells #[.int .i64 a0_0, .int .i64 a0_1, .string a0_2, .slice A0_3 l0_3.length c0_3] 24 (0, 0)) (by (with_reducible repeat (first | refine blk_drewN ?_ _ | refine blk_drew ?_ | refine blk_alloc ?_ _)); exact BK318.out)) : gb318 ≠ gb319)); have n6_ := Aside0.mk ((by rw [hg]; exact Nat.ne_of_gt (blk_lt (g := gb318) (o := .cells #[.int .i64 a0_0, .int .i64 a0_1, .string a0_2, .slice A0_3 l0_3.length c0_3] 24 (0, 0)) (by (with_reducible repeat (first | refine blk_drewN ?_ _ | refine blk_drew ?_ | refine blk_alloc ?_ _)); exact BK318.out)) : gb319 ≠ gb318)); clear BK318; clear HB; have BK318 := n0_; have HB := n1_; have BK319 := n2_; have GW319 := n3_; have GE319 := n4_; have NB318_319 := n5_; have NB319_318 := n6_; clear n0_ n1_ n2_ n3_ n4_ n5_ n6_; clear hb hbox hg; have hnb6 := NB318_319.out; have hnc6 := NB319_318.out; have hcz7_0 : w5.cell? ⟨gb318, 0, none⟩ = some (.int .i64 a0_0) := (blk_cell BK318.out 0).trans rfl; have hcz7_1 : w5.cell? ⟨gb318, 1, none⟩ = some (.int .i64 a0_1) := (blk_cell BK318.out 1).trans rfl; have hcz7_2 : w5.cell? ⟨gb318, 2, none⟩ = some (.string a0_2) := (blk_cell BK318.out 2).trans rfl; have hcz7_3 : w5.cell? ⟨gb318, 3, none⟩ = some (.slice A0_3 l0_3.length c0_3) := (blk_cell BK318.out 3).trans rfl; have hfz7_0 := blk_frozen BK318.out 0; have hfz7_1 := blk_frozen BK318.out 1; have hfz7_2 := blk_frozen BK318.out 2; have hfz7_3 := blk_frozen BK318.out 3; have hcz8_0 : w5.cell? ⟨gb319, 0, none⟩ = some (.int .i64 a1_0) := (blk_cell BK319.out 0).trans rfl; have hcz8_1 : w5.cell? ⟨gb319, 1, none⟩ = some (.int .i64 a1_1) := (blk_cell BK319.out 1).trans rfl; have hcz8_2 : w5.cell? ⟨gb319, 2, none⟩ = some (.string a1_2) := (blk_cell BK319.out 2).trans rfl; have hcz8_3 : w5.cell? ⟨gb319, 3, none⟩ = some (.slice A1_3 l1_3.length c1_3) := (blk_cell BK319.out 3).trans rfl; have hfz8_0 := blk_frozen BK319.out 0; have hfz8_1 := blk_frozen BK319.out 1; have hfz8_2 := blk_frozen BK319.out 2; have hfz8_3 := blk_frozen BK319.out 3) | ((with_reducible refine gate_callee (f := 52) rfl ?_); refine goesL_ (some 7) rfl rfl Tryd.func52 (by kernel_rfl) rfl #[.agg #[.int .i64 a0_0, .int .i64 a0_1, .string a0_2, .slice A0_3 l0_3.length c0_3], .agg #[.int .i64 a1_0, .int .i64 a1_1, .string a1_2, .slice A1_3 l1_3.length c1_3]] rfl (by (try simp only [List.map_toArray, List.map_cons, List.map_nil]); first | done | rfl | (simp only [List.length_drop, List.length_take]; rfl) | (simp only [gt_iff_lt, Int.ofNat_lt]; rfl)) ?_; (with_reducible refine (value_Compare.calls a0_0 a0_1 a0_2 _ _ l0_3 a1_0 a1_1 a1_2 _ _ l1_3 t320 _ ?side1 ?side2 ?side3 ?side4 A3.out).mono ?_); (case side1 => repeat (first | exact (Kd.C_below HR0_3.out HB.out) | (with_reducible refine Kd.C_alloc ?_ _) | (with_reducible refine Kd.C_drewN ?_ _) | (with_reducible refine Kd.C_drew ?_))); (case side2 => exact HC0_3.out); (case side3 => repeat (first | exact (Kd.C_below HR1_3.out HB.out) | (with_reducible refine Kd.C_alloc ?_ _) | (with_reducible refine Kd.C_drewN ?_ _) | (with_reducible refine Kd.C_drew ?_))); (case side4 => exact HC1_3.out); rintro e w9 ⟨rfl, hb⟩; refine ⟨_, rfl, ?_⟩; have n0_ := Aside0.mk (blk_below (g := gb318) (o := .cells #[.int .i64 a0_0, .int .i64 a0_1, .string a0_2, .slice A0_3 l0_3.length c0_3] 24 (0, 0)) (by (with_reducible repeat (first | refine blk_drewN ?_ _ | refine blk_drew ?_ | refine blk_alloc ?_ _)); exact BK318.out) hb); have n1_ := Aside0.mk (blk_below (g := gb319) (o := .cells #[.int .i64 a1_0, .int .i64 a1_1, .string a1_2, .slice A1_3 l1_3.length c1_3] 24 (0, 0)) (by (with_reducible repeat (first | refine blk_drewN ?_ _ | refine blk_drew ?_ | refine blk_alloc ?_ _)); exact BK319.out) hb); have n2_ := Aside0.mk (below_step (by repeat (first | (with_reducible first | exact HB.out | apply below_alloc | apply pw_below_drewN | apply below_drew1 | refine below_set ?_ GE318.out | refine below_set ?_ GE319.out) | exact HB.out)) hb); clear BK318; clear BK319; clear HB; have BK318 := n0_; have BK319 := n1_; have HB := n2_; clear n0_ n1_ n2_; (try clear hb); (try clear hb2); (try clear hk); (try clear hi)))
  go_ret
  exact ⟨by first | rfl | (simp [errW_none, errW_some] <;> rfl) | (simp [*, errW_none, errW_some] <;> rfl), by repeat (first | (with_reducible first | exact HB.out | apply below_alloc | apply pw_below_drewN | apply below_drew1 | refine below_set ?_ GE318.out | refine below_set ?_ GE319.out) | exact HB.out)⟩

def spinneylaw04_HashLine.j0 : Nat → Bool → Bool → Bool → Bool → Bool → Int → Int → Int → ByteArray → List (S24) → Int → Int → ByteArray → List (S24) → Int → Int → ByteArray → List (S24) → Option (Bool)
  | 0, _, _, _, _, _, _, _, _, _, _, _, _, _, _, _, _, _, _ => none
  | k + 1, x3, x5, x7, x9, x64, x322000, x322001, x322002, x322003, x322004, x322005, x322006, x322007, x322008, x322009, x322010, x322011, x322012 => if x64 = true then ((spinneylaw04_speaks.f k).bind fun t330 => (some t330)) else (if x3 = true then (if x5 = true then (some false) else ((value_Equal.f x322001 x322002 x322003 x322004 x322005 x322006 x322007 x322008).bind fun t331 => (if (true == t331) = true then (some false) else (if x7 = true then (if x9 = true then ((spinneylaw04_speaks.f k).bind fun t332 => (some t332)) else (some false)) else ((spinneylaw04_speaks.f k).bind fun t333 => (some t333)))))) else ((value_Equal.f x322001 x322002 x322003 x322004 x322005 x322006 x322007 x322008).bind fun t334 => (if (x5 == t334) = true then (some false) else ((spinneylaw04_speaks.f k).bind fun t335 => (some t335)))))
def spinneylaw04_HashLine.f (k : Nat) (a0_0 : Int) (a0_1 : Int) (a0_2 : Int) (a0_3 : ByteArray) (l0_4 : List (S24)) (a0_5 : Int) (a0_6 : Int) (a0_7 : ByteArray) (l0_8 : List (S24)) (a0_9 : Int) (a0_10 : Int) (a0_11 : ByteArray) (l0_12 : List (S24)) : Option (Bool) := (hash_Before.f k a0_0 a0_1 a0_2 a0_3 l0_4 a0_5 a0_6 a0_7 l0_8).bind fun bt322 => ((hash_Before.f k a0_0 a0_5 a0_6 a0_7 l0_8 a0_1 a0_2 a0_3 l0_4).bind fun bt324 => ((hash_Before.f k a0_0 a0_5 a0_6 a0_7 l0_8 a0_9 a0_10 a0_11 l0_12).bind fun bt326 => ((hash_Before.f k a0_0 a0_1 a0_2 a0_3 l0_4 a0_9 a0_10 a0_11 l0_12).bind fun bt328 => (if bt322.2 = 0 then (if bt324.2 = 0 then (if bt326.2 = 0 then (spinneylaw04_HashLine.j0 k bt322.1 bt324.1 bt326.1 bt328.1 (bt328.2 != 0) a0_0 a0_1 a0_2 a0_3 l0_4 a0_5 a0_6 a0_7 l0_8 a0_9 a0_10 a0_11 l0_12) else (spinneylaw04_HashLine.j0 k bt322.1 bt324.1 bt326.1 bt328.1 true a0_0 a0_1 a0_2 a0_3 l0_4 a0_5 a0_6 a0_7 l0_8 a0_9 a0_10 a0_11 l0_12)) else (spinneylaw04_HashLine.j0 k bt322.1 bt324.1 bt326.1 bt328.1 true a0_0 a0_1 a0_2 a0_3 l0_4 a0_5 a0_6 a0_7 l0_8 a0_9 a0_10 a0_11 l0_12)) else (spinneylaw04_HashLine.j0 k bt322.1 bt324.1 bt326.1 bt328.1 true a0_0 a0_1 a0_2 a0_3 l0_4 a0_5 a0_6 a0_7 l0_8 a0_9 a0_10 a0_11 l0_12)))))
set_option maxHeartbeats 8000000 in
set_option maxRecDepth 100000 in
theorem spinneylaw04_HashLine.calls (k : Nat) (a0_0 : Int) (a0_1 : Int) (a0_2 : Int) (a0_3 : ByteArray) (A0_4 : Option Addr) (c0_4 : Nat) (l0_4 : List (S24)) (a0_5 : Int) (a0_6 : Int) (a0_7 : ByteArray) (A0_8 : Option Addr) (c0_8 : Nat) (l0_8 : List (S24)) (a0_9 : Int) (a0_10 : Int) (a0_11 : ByteArray) (A0_12 : Option Addr) (c0_12 : Nat) (l0_12 : List (S24)) (r : Bool) (w : World) (hL : LaidW w) (hr0_4 : Kd.C k24 w A0_4 l0_4.length l0_4) (hc0_4 : l0_4.length ≤ c0_4) (hr0_8 : Kd.C k24 w A0_8 l0_8.length l0_8) (hc0_8 : l0_8.length ≤ c0_8) (hr0_12 : Kd.C k24 w A0_12 l0_12.length l0_12) (hc0_12 : l0_12.length ≤ c0_12) (h : spinneylaw04_HashLine.f k a0_0 a0_1 a0_2 a0_3 l0_4 a0_5 a0_6 a0_7 l0_8 a0_9 a0_10 a0_11 l0_12 = some r) :
    Calls Tryd.prog 8 #[.agg #[.int .i64 a0_0, .int .i64 a0_1, .int .i64 a0_2, .string a0_3, .slice A0_4 l0_4.length c0_4, .int .i64 a0_5, .int .i64 a0_6, .string a0_7, .slice A0_8 l0_8.length c0_8, .int .i64 a0_9, .int .i64 a0_10, .string a0_11, .slice A0_12 l0_12.length c0_12]] w fun e w' => e = .returned (.bool r) ∧ Below w.heap.size w w' := by
  have hu42 := Tryd.underlying42
  have hu24 := Tryd.underlying24
  have HR0_4 := Aside0.mk hr0_4
  have HC0_4 := Aside0.mk hc0_4
  clear hr0_4 hc0_4
  have HR0_8 := Aside0.mk hr0_8
  have HC0_8 := Aside0.mk hc0_8
  clear hr0_8 hc0_8
  have HR0_12 := Aside0.mk hr0_12
  have HC0_12 := Aside0.mk hc0_12
  clear hr0_12 hc0_12
  have HLT := Aside0.mk hL
  clear hL
  have HB := Aside0.mk (Below.refl w.heap.size w)
  have H : ((hash_Before.f k a0_0 a0_1 a0_2 a0_3 l0_4 a0_5 a0_6 a0_7 l0_8).bind fun bt322 => ((hash_Before.f k a0_0 a0_5 a0_6 a0_7 l0_8 a0_1 a0_2 a0_3 l0_4).bind fun bt324 => ((hash_Before.f k a0_0 a0_5 a0_6 a0_7 l0_8 a0_9 a0_10 a0_11 l0_12).bind fun bt326 => ((hash_Before.f k a0_0 a0_1 a0_2 a0_3 l0_4 a0_9 a0_10 a0_11 l0_12).bind fun bt328 => (if bt322.2 = 0 then (if bt324.2 = 0 then (if bt326.2 = 0 then (spinneylaw04_HashLine.j0 k bt322.1 bt324.1 bt326.1 bt328.1 (bt328.2 != 0) a0_0 a0_1 a0_2 a0_3 l0_4 a0_5 a0_6 a0_7 l0_8 a0_9 a0_10 a0_11 l0_12) else (spinneylaw04_HashLine.j0 k bt322.1 bt324.1 bt326.1 bt328.1 true a0_0 a0_1 a0_2 a0_3 l0_4 a0_5 a0_6 a0_7 l0_8 a0_9 a0_10 a0_11 l0_12)) else (spinneylaw04_HashLine.j0 k bt322.1 bt324.1 bt326.1 bt328.1 true a0_0 a0_1 a0_2 a0_3 l0_4 a0_5 a0_6 a0_7 l0_8 a0_9 a0_10 a0_11 l0_12)) else (spinneylaw04_HashLine.j0 k bt322.1 bt324.1 bt326.1 bt328.1 true a0_0 a0_1 a0_2 a0_3 l0_4 a0_5 a0_6 a0_7 l0_8 a0_9 a0_10 a0_11 l0_12)))))) = some r := h
  clear h
  replace H := Option.bind_eq_some_iff.mp H
  obtain ⟨⟨t322, t323⟩, A20, H⟩ := H
  replace H : ((hash_Before.f k a0_0 a0_5 a0_6 a0_7 l0_8 a0_1 a0_2 a0_3 l0_4).bind fun bt324 => ((hash_Before.f k a0_0 a0_5 a0_6 a0_7 l0_8 a0_9 a0_10 a0_11 l0_12).bind fun bt326 => ((hash_Before.f k a0_0 a0_1 a0_2 a0_3 l0_4 a0_9 a0_10 a0_11 l0_12).bind fun bt328 => (if t323 = 0 then (if bt324.2 = 0 then (if bt326.2 = 0 then (spinneylaw04_HashLine.j0 k t322 bt324.1 bt326.1 bt328.1 (bt328.2 != 0) a0_0 a0_1 a0_2 a0_3 l0_4 a0_5 a0_6 a0_7 l0_8 a0_9 a0_10 a0_11 l0_12) else (spinneylaw04_HashLine.j0 k t322 bt324.1 bt326.1 bt328.1 true a0_0 a0_1 a0_2 a0_3 l0_4 a0_5 a0_6 a0_7 l0_8 a0_9 a0_10 a0_11 l0_12)) else (spinneylaw04_HashLine.j0 k t322 bt324.1 bt326.1 bt328.1 true a0_0 a0_1 a0_2 a0_3 l0_4 a0_5 a0_6 a0_7 l0_8 a0_9 a0_10 a0_11 l0_12)) else (spinneylaw04_HashLine.j0 k t322 bt324.1 bt326.1 bt328.1 true a0_0 a0_1 a0_2 a0_3 l0_4 a0_5 a0_6 a0_7 l0_8 a0_9 a0_10 a0_11 l0_12))))) = some r := H
  have A2 := Aside0.mk A20
  clear A20
  replace H := Option.bind_eq_some_iff.mp H
  obtain ⟨⟨t324, t325⟩, A30, H⟩ := H
  replace H : ((hash_Before.f k a0_0 a0_5 a0_6 a0_7 l0_8 a0_9 a0_10 a0_11 l0_12).bind fun bt326 => ((hash_Before.f k a0_0 a0_1 a0_2 a0_3 l0_4 a0_9 a0_10 a0_11 l0_12).bind fun bt328 => (if t323 = 0 then (if t325 = 0 then (if bt326.2 = 0 then (spinneylaw04_HashLine.j0 k t322 t324 bt326.1 bt328.1 (bt328.2 != 0) a0_0 a0_1 a0_2 a0_3 l0_4 a0_5 a0_6 a0_7 l0_8 a0_9 a0_10 a0_11 l0_12) else (spinneylaw04_HashLine.j0 k t322 t324 bt326.1 bt328.1 true a0_0 a0_1 a0_2 a0_3 l0_4 a0_5 a0_6 a0_7 l0_8 a0_9 a0_10 a0_11 l0_12)) else (spinneylaw04_HashLine.j0 k t322 t324 bt326.1 bt328.1 true a0_0 a0_1 a0_2 a0_3 l0_4 a0_5 a0_6 a0_7 l0_8 a0_9 a0_10 a0_11 l0_12)) else (spinneylaw04_HashLine.j0 k t322 t324 bt326.1 bt328.1 true a0_0 a0_1 a0_2 a0_3 l0_4 a0_5 a0_6 a0_7 l0_8 a0_9 a0_10 a0_11 l0_12)))) = some r := H
  have A3 := Aside0.mk A30
  clear A30
  replace H := Option.bind_eq_some_iff.mp H
  obtain ⟨⟨t326, t327⟩, A40, H⟩ := H
  replace H : ((hash_Before.f k a0_0 a0_1 a0_2 a0_3 l0_4 a0_9 a0_10 a0_11 l0_12).bind fun bt328 => (if t323 = 0 then (if t325 = 0 then (if t327 = 0 then (spinneylaw04_HashLine.j0 k t322 t324 t326 bt328.1 (bt328.2 != 0) a0_0 a0_1 a0_2 a0_3 l0_4 a0_5 a0_6 a0_7 l0_8 a0_9 a0_10 a0_11 l0_12) else (spinneylaw04_HashLine.j0 k t322 t324 t326 bt328.1 true a0_0 a0_1 a0_2 a0_3 l0_4 a0_5 a0_6 a0_7 l0_8 a0_9 a0_10 a0_11 l0_12)) else (spinneylaw04_HashLine.j0 k t322 t324 t326 bt328.1 true a0_0 a0_1 a0_2 a0_3 l0_4 a0_5 a0_6 a0_7 l0_8 a0_9 a0_10 a0_11 l0_12)) else (spinneylaw04_HashLine.j0 k t322 t324 t326 bt328.1 true a0_0 a0_1 a0_2 a0_3 l0_4 a0_5 a0_6 a0_7 l0_8 a0_9 a0_10 a0_11 l0_12))) = some r := H
  have A4 := Aside0.mk A40
  clear A40
  replace H := Option.bind_eq_some_iff.mp H
  obtain ⟨⟨t328, t329⟩, A50, H⟩ := H
  replace H : (if t323 = 0 then (if t325 = 0 then (if t327 = 0 then (spinneylaw04_HashLine.j0 k t322 t324 t326 t328 (t329 != 0) a0_0 a0_1 a0_2 a0_3 l0_4 a0_5 a0_6 a0_7 l0_8 a0_9 a0_10 a0_11 l0_12) else (spinneylaw04_HashLine.j0 k t322 t324 t326 t328 true a0_0 a0_1 a0_2 a0_3 l0_4 a0_5 a0_6 a0_7 l0_8 a0_9 a0_10 a0_11 l0_12)) else (spinneylaw04_HashLine.j0 k t322 t324 t326 t328 true a0_0 a0_1 a0_2 a0_3 l0_4 a0_5 a0_6 a0_7 l0_8 a0_9 a0_10 a0_11 l0_12)) else (spinneylaw04_HashLine.j0 k t322 t324 t326 t328 true a0_0 a0_1 a0_2 a0_3 l0_4 a0_5 a0_6 a0_7 l0_8 a0_9 a0_10 a0_11 l0_12)) = some r := H
  have A5 := Aside0.mk A50
  clear A50
  have HC6 := Aside0.mk H
  clear H
  go_enter Tryd.func8, Tryd.ntmps8
  go_upto_region 5 with (first | ((with_reducible refine gate_dst (N := 1) rfl ?_); refine box_event ?hg (N := 1) ?hd (cs := #[.int .i64 a0_0, .int .i64 a0_1, .int .i64 a0_2, .string a0_3, .slice A0_4 l0_4.length c0_4, .int .i64 a0_5, .int .i64 a0_6, .string a0_7, .slice A0_8 l0_8.length c0_8, .int .i64 a0_9, .int .i64 a0_10, .string a0_11, .slice A0_12 l0_12.length c0_12]) (t := 42) ?hr ?_; (case hd => rfl); (case hg => rfl); (case hr => first | (go_simp; done) | (go_simp; rfl)); intro gb321 hg w7 hbox hb; have n0_ := Aside0.mk (below_step (by repeat (first | (with_reducible first | exact HB.out | apply below_alloc | apply pw_below_drewN | apply below_drew1) | exact HB.out)) hb); have n1_ := Aside0.mk (hbox); have n2_ := Aside0.mk ((by rw [hg]; exact (below_size (by repeat (first | (with_reducible first | exact HB.out | apply below_alloc | apply pw_below_drewN | apply below_drew1) | exact HB.out))) : w.heap.size ≤ gb321)); have n3_ := Aside0.mk ((by rw [hg]; exact (below_size (by repeat (first | (with_reducible first | exact HB.out | apply below_alloc | apply pw_below_drewN | apply below_drew1) | exact HB.out))) : w.heap.size ≤ gb321)); clear HB; have HB := n0_; have BK321 := n1_; have GW321 := n2_; have GE321 := n3_; clear n0_ n1_ n2_ n3_; clear hb hbox hg; have hcz8_0 : w7.cell? ⟨gb321, 0, none⟩ = some (.int .i64 a0_0) := (blk_cell BK321.out 0).trans rfl; have hcz8_1 : w7.cell? ⟨gb321, 1, none⟩ = some (.int .i64 a0_1) := (blk_cell BK321.out 1).trans rfl; have hcz8_2 : w7.cell? ⟨gb321, 2, none⟩ = some (.int .i64 a0_2) := (blk_cell BK321.out 2).trans rfl; have hcz8_3 : w7.cell? ⟨gb321, 3, none⟩ = some (.string a0_3) := (blk_cell BK321.out 3).trans rfl; have hcz8_4 : w7.cell? ⟨gb321, 4, none⟩ = some (.slice A0_4 l0_4.length c0_4) := (blk_cell BK321.out 4).trans rfl; have hcz8_5 : w7.cell? ⟨gb321, 5, none⟩ = some (.int .i64 a0_5) := (blk_cell BK321.out 5).trans rfl; have hcz8_6 : w7.cell? ⟨gb321, 6, none⟩ = some (.int .i64 a0_6) := (blk_cell BK321.out 6).trans rfl; have hcz8_7 : w7.cell? ⟨gb321, 7, none⟩ = some (.string a0_7) := (blk_cell BK321.out 7).trans rfl; have hcz8_8 : w7.cell? ⟨gb321, 8, none⟩ = some (.slice A0_8 l0_8.length c0_8) := (blk_cell BK321.out 8).trans rfl; have hcz8_9 : w7.cell? ⟨gb321, 9, none⟩ = some (.int .i64 a0_9) := (blk_cell BK321.out 9).trans rfl; have hcz8_10 : w7.cell? ⟨gb321, 10, none⟩ = some (.int .i64 a0_10) := (blk_cell BK321.out 10).trans rfl; have hcz8_11 : w7.cell? ⟨gb321, 11, none⟩ = some (.string a0_11) := (blk_cell BK321.out 11).trans rfl; have hcz8_12 : w7.cell? ⟨gb321, 12, none⟩ = some (.slice A0_12 l0_12.length c0_12) := (blk_cell BK321.out 12).trans rfl; have hfz8_0 := blk_frozen BK321.out 0; have hfz8_1 := blk_frozen BK321.out 1; have hfz8_2 := blk_frozen BK321.out 2; have hfz8_3 := blk_frozen BK321.out 3; have hfz8_4 := blk_frozen BK321.out 4; have hfz8_5 := blk_frozen BK321.out 5; have hfz8_6 := blk_frozen BK321.out 6; have hfz8_7 := blk_frozen BK321.out 7; have hfz8_8 := blk_frozen BK321.out 8; have hfz8_9 := blk_frozen BK321.out 9; have hfz8_10 := blk_frozen BK321.out 10; have hfz8_11 := blk_frozen BK321.out 11; have hfz8_12 := blk_frozen BK321.out 12) | ((with_reducible refine gate_callee (f := 27) rfl ?_); refine goesL_ (some 18) rfl rfl Tryd.func27 (by kernel_rfl) rfl #[.int .i64 a0_0, .agg #[.int .i64 a0_1, .int .i64 a0_2, .string a0_3, .slice A0_4 l0_4.length c0_4], .agg #[.int .i64 a0_5, .int .i64 a0_6, .string a0_7, .slice A0_8 l0_8.length c0_8]] rfl (by (try simp only [List.map_toArray, List.map_cons, List.map_nil]); first | done | rfl | (simp only [List.length_drop, List.length_take]; rfl) | (simp only [gt_iff_lt, Int.ofNat_lt]; rfl)) ?_; (with_reducible refine (hash_Before.calls k a0_0 a0_1 a0_2 a0_3 _ _ l0_4 a0_5 a0_6 a0_7 _ _ l0_8 t322 t323 _ ?side1 ?side2 ?side3 ?side4 ?side5 A2.out).mono ?_); (case side1 => exact LaidW.below HLT.out (by repeat (first | (with_reducible first | exact HB.out | apply below_alloc | apply pw_below_drewN | apply below_drew1 | refine below_set ?_ GE321.out) | exact HB.out))); (case side2 => repeat (first | exact (Kd.C_below HR0_4.out HB.out) | (with_reducible refine Kd.C_alloc ?_ _) | (with_reducible refine Kd.C_drewN ?_ _) | (with_reducible refine Kd.C_drew ?_))); (case side3 => exact HC0_4.out); (case side4 => repeat (first | exact (Kd.C_below HR0_8.out HB.out) | (with_reducible refine Kd.C_alloc ?_ _) | (with_reducible refine Kd.C_drewN ?_ _) | (with_reducible refine Kd.C_drew ?_))); (case side5 => exact HC0_8.out); rintro e w9 ⟨rfl, hb⟩; refine ⟨_, rfl, ?_⟩; have n0_ := Aside0.mk (blk_below (g := gb321) (o := .cells #[.int .i64 a0_0, .int .i64 a0_1, .int .i64 a0_2, .string a0_3, .slice A0_4 l0_4.length c0_4, .int .i64 a0_5, .int .i64 a0_6, .string a0_7, .slice A0_8 l0_8.length c0_8, .int .i64 a0_9, .int .i64 a0_10, .string a0_11, .slice A0_12 l0_12.length c0_12] 42 (0, 0)) (by (with_reducible repeat (first | refine blk_drewN ?_ _ | refine blk_drew ?_ | refine blk_alloc ?_ _)); exact BK321.out) hb); have n1_ := Aside0.mk (below_step (by repeat (first | (with_reducible first | exact HB.out | apply below_alloc | apply pw_below_drewN | apply below_drew1 | refine below_set ?_ GE321.out) | exact HB.out)) hb); clear BK321; clear HB; have BK321 := n0_; have HB := n1_; clear n0_ n1_; (try clear hb); (try clear hb2); (try clear hk); (try clear hi); have hcz10_0 : w9.cell? ⟨gb321, 0, none⟩ = some (.int .i64 a0_0) := (blk_cell BK321.out 0).trans rfl; have hcz10_1 : w9.cell? ⟨gb321, 1, none⟩ = some (.int .i64 a0_1) := (blk_cell BK321.out 1).trans rfl; have hcz10_2 : w9.cell? ⟨gb321, 2, none⟩ = some (.int .i64 a0_2) := (blk_cell BK321.out 2).trans rfl; have hcz10_3 : w9.cell? ⟨gb321, 3, none⟩ = some (.string a0_3) := (blk_cell BK321.out 3).trans rfl; have hcz10_4 : w9.cell? ⟨gb321, 4, none⟩ = some (.slice A0_4 l0_4.length c0_4) := (blk_cell BK321.out 4).trans rfl; have hcz10_5 : w9.cell? ⟨gb321, 5, none⟩ = some (.int .i64 a0_5) := (blk_cell BK321.out 5).trans rfl; have hcz10_6 : w9.cell? ⟨gb321, 6, none⟩ = some (.int .i64 a0_6) := (blk_cell BK321.out 6).trans rfl; have hcz10_7 : w9.cell? ⟨gb321, 7, none⟩ = some (.string a0_7) := (blk_cell BK321.out 7).trans rfl; have hcz10_8 : w9.cell? ⟨gb321, 8, none⟩ = some (.slice A0_8 l0_8.length c0_8) := (blk_cell BK321.out 8).trans rfl; have hcz10_9 : w9.cell? ⟨gb321, 9, none⟩ = some (.int .i64 a0_9) := (blk_cell BK321.out 9).trans rfl; have hcz10_10 : w9.cell? ⟨gb321, 10, none⟩ = some (.int .i64 a0_10) := (blk_cell BK321.out 10).trans rfl; have hcz10_11 : w9.cell? ⟨gb321, 11, none⟩ = some (.string a0_11) := (blk_cell BK321.out 11).trans rfl; have hcz10_12 : w9.cell? ⟨gb321, 12, none⟩ = some (.slice A0_12 l0_12.length c0_12) := (blk_cell BK321.out 12).trans rfl; have hfz10_0 := blk_frozen BK321.out 0; have hfz10_1 := blk_frozen BK321.out 1; have hfz10_2 := blk_frozen BK321.out 2; have hfz10_3 := blk_frozen BK321.out 3; have hfz10_4 := blk_frozen BK321.out 4; have hfz10_5 := blk_frozen BK321.out 5; have hfz10_6 := blk_frozen BK321.out 6; have hfz10_7 := blk_frozen BK321.out 7; have hfz10_8 := blk_frozen BK321.out 8; have hfz10_9 := blk_frozen BK321.out 9; have hfz10_10 := blk_frozen BK321.out 10; have hfz10_11 := blk_frozen BK321.out 11; have hfz10_12 := blk_frozen BK321.out 12) | ((with_reducible refine gate_callee (f := 27) rfl ?_); refine goesL_ (some 28) rfl rfl Tryd.func27 (by kernel_rfl) rfl #[.int .i64 a0_0, .agg #[.int .i64 a0_5, .int .i64 a0_6, .string a0_7, .slice A0_8 l0_8.length c0_8], .agg #[.int .i64 a0_1, .int .i64 a0_2, .string a0_3, .slice A0_4 l0_4.length c0_4]] rfl (by (try simp only [List.map_toArray, List.map_cons, List.map_nil]); first | done | rfl | (simp only [List.length_drop, List.length_take]; rfl) | (simp only [gt_iff_lt, Int.ofNat_lt]; rfl)) ?_; (with_reducible refine (hash_Before.calls k a0_0 a0_5 a0_6 a0_7 _ _ l0_8 a0_1 a0_2 a0_3 _ _ l0_4 t324 t325 _ ?side1 ?side2 ?side3 ?side4 ?side5 A3.out).mono ?_); (case side1 => exact LaidW.below HLT.out (by repeat (first | (with_reducible first | exact HB.out | apply below_alloc | apply pw_below_drewN | apply below_drew1 | refine below_set ?_ GE321.out) | exact HB.out))); (case side2 => repeat (first | exact (Kd.C_below HR0_8.out HB.out) | (with_reducible refine Kd.C_alloc ?_ _) | (with_reducible refine Kd.C_drewN ?_ _) | (with_reducible refine Kd.C_drew ?_))); (case side3 => exact HC0_8.out); (case side4 => repeat (first | exact (Kd.C_below HR0_4.out HB.out) | (with_reducible refine Kd.C_alloc ?_ _) | (with_reducible refine Kd.C_drewN ?_ _) | (with_reducible refine Kd.C_drew ?_))); (case side5 => exact HC0_4.out); rintro e w11 ⟨rfl, hb⟩; refine ⟨_, rfl, ?_⟩; have n0_ := Aside0.mk (blk_below (g := gb321) (o := .cells #[.int .i64 a0_0, .int .i64 a0_1, .int .i64 a0_2, .string a0_3, .slice A0_4 l0_4.length c0_4, .int .i64 a0_5, .int .i64 a0_6, .string a0_7, .slice A0_8 l0_8.length c0_8, .int .i64 a0_9, .int .i64 a0_10, .string a0_11, .slice A0_12 l0_12.length c0_12] 42 (0, 0)) (by (with_reducible repeat (first | refine blk_drewN ?_ _ | refine blk_drew ?_ | refine blk_alloc ?_ _)); exact BK321.out) hb); have n1_ := Aside0.mk (below_step (by repeat (first | (with_reducible first | exact HB.out | apply below_alloc | apply pw_below_drewN | apply below_drew1 | refine below_set ?_ GE321.out) | exact HB.out)) hb); clear BK321; clear HB; have BK321 := n0_; have HB := n1_; clear n0_ n1_; (try clear hb); (try clear hb2); (try clear hk); (try clear hi); have hcz12_0 : w11.cell? ⟨gb321, 0, none⟩ = some (.int .i64 a0_0) := (blk_cell BK321.out 0).trans rfl; have hcz12_1 : w11.cell? ⟨gb321, 1, none⟩ = some (.int .i64 a0_1) := (blk_cell BK321.out 1).trans rfl; have hcz12_2 : w11.cell? ⟨gb321, 2, none⟩ = some (.int .i64 a0_2) := (blk_cell BK321.out 2).trans rfl; have hcz12_3 : w11.cell? ⟨gb321, 3, none⟩ = some (.string a0_3) := (blk_cell BK321.out 3).trans rfl; have hcz12_4 : w11.cell? ⟨gb321, 4, none⟩ = some (.slice A0_4 l0_4.length c0_4) := (blk_cell BK321.out 4).trans rfl; have hcz12_5 : w11.cell? ⟨gb321, 5, none⟩ = some (.int .i64 a0_5) := (blk_cell BK321.out 5).trans rfl; have hcz12_6 : w11.cell? ⟨gb321, 6, none⟩ = some (.int .i64 a0_6) := (blk_cell BK321.out 6).trans rfl; have hcz12_7 : w11.cell? ⟨gb321, 7, none⟩ = some (.string a0_7) := (blk_cell BK321.out 7).trans rfl; have hcz12_8 : w11.cell? ⟨gb321, 8, none⟩ = some (.slice A0_8 l0_8.length c0_8) := (blk_cell BK321.out 8).trans rfl; have hcz12_9 : w11.cell? ⟨gb321, 9, none⟩ = some (.int .i64 a0_9) := (blk_cell BK321.out 9).trans rfl; have hcz12_10 : w11.cell? ⟨gb321, 10, none⟩ = some (.int .i64 a0_10) := (blk_cell BK321.out 10).trans rfl; have hcz12_11 : w11.cell? ⟨gb321, 11, none⟩ = some (.string a0_11) := (blk_cell BK321.out 11).trans rfl; have hcz12_12 : w11.cell? ⟨gb321, 12, none⟩ = some (.slice A0_12 l0_12.length c0_12) := (blk_cell BK321.out 12).trans rfl; have hfz12_0 := blk_frozen BK321.out 0; have hfz12_1 := blk_frozen BK321.out 1; have hfz12_2 := blk_frozen BK321.out 2; have hfz12_3 := blk_frozen BK321.out 3; have hfz12_4 := blk_frozen BK321.out 4; have hfz12_5 := blk_frozen BK321.out 5; have hfz12_6 := blk_frozen BK321.out 6; have hfz12_7 := blk_frozen BK321.out 7; have hfz12_8 := blk_frozen BK321.out 8; have hfz12_9 := blk_frozen BK321.out 9; have hfz12_10 := blk_frozen BK321.out 10; have hfz12_11 := blk_frozen BK321.out 11; have hfz12_12 := blk_frozen BK321.out 12) | ((with_reducible refine gate_callee (f := 27) rfl ?_); refine goesL_ (some 38) rfl rfl Tryd.func27 (by kernel_rfl) rfl #[.int .i64 a0_0, .agg #[.int .i64 a0_5, .int .i64 a0_6, .string a0_7, .slice A0_8 l0_8.length c0_8], .agg #[.int .i64 a0_9, .int .i64 a0_10, .string a0_11, .slice A0_12 l0_12.length c0_12]] rfl (by (try simp only [List.map_toArray, List.map_cons, List.map_nil]); first | done | rfl | (simp only [List.length_drop, List.length_take]; rfl) | (simp only [gt_iff_lt, Int.ofNat_lt]; rfl)) ?_; (with_reducible refine (hash_Before.calls k a0_0 a0_5 a0_6 a0_7 _ _ l0_8 a0_9 a0_10 a0_11 _ _ l0_12 t326 t327 _ ?side1 ?side2 ?side3 ?side4 ?side5 A4.out).mono ?_); (case side1 => exact LaidW.below HLT.out (by repeat (first | (with_reducible first | exact HB.out | apply below_alloc | apply pw_below_drewN | apply below_drew1 | refine below_set ?_ GE321.out) | exact HB.out))); (case side2 => repeat (first | exact (Kd.C_below HR0_8.out HB.out) | (with_reducible refine Kd.C_alloc ?_ _) | (with_reducible refine Kd.C_drewN ?_ _) | (with_reducible refine Kd.C_drew ?_))); (case side3 => exact HC0_8.out); (case side4 => repeat (first | exact (Kd.C_below HR0_12.out HB.out) | (with_reducible refine Kd.C_alloc ?_ _) | (with_reducible refine Kd.C_drewN ?_ _) | (with_reducible refine Kd.C_drew ?_))); (case side5 => exact HC0_12.out); rintro e w13 ⟨rfl, hb⟩; refine ⟨_, rfl, ?_⟩; have n0_ := Aside0.mk (blk_below (g := gb321) (o := .cells #[.int .i64 a0_0, .int .i64 a0_1, .int .i64 a0_2, .string a0_3, .slice A0_4 l0_4.length c0_4, .int .i64 a0_5, .int .i64 a0_6, .string a0_7, .slice A0_8 l0_8.length c0_8, .int .i64 a0_9, .int .i64 a0_10, .string a0_11, .slice A0_12 l0_12.length c0_12] 42 (0, 0)) (by (with_reducible repeat (first | refine blk_drewN ?_ _ | refine blk_drew ?_ | refine blk_alloc ?_ _)); exact BK321.out) hb); have n1_ := Aside0.mk (below_step (by repeat (first | (with_reducible first | exact HB.out | apply below_alloc | apply pw_below_drewN | apply below_drew1 | refine below_set ?_ GE321.out) | exact HB.out)) hb); clear BK321; clear HB; have BK321 := n0_; have HB := n1_; clear n0_ n1_; (try clear hb); (try clear hb2); (try clear hk); (try clear hi); have hcz14_0 : w13.cell? ⟨gb321, 0, none⟩ = some (.int .i64 a0_0) := (blk_cell BK321.out 0).trans rfl; have hcz14_1 : w13.cell? ⟨gb321, 1, none⟩ = some (.int .i64 a0_1) := (blk_cell BK321.out 1).trans rfl; have hcz14_2 : w13.cell? ⟨gb321, 2, none⟩ = some (.int .i64 a0_2) := (blk_cell BK321.out 2).trans rfl; have hcz14_3 : w13.cell? ⟨gb321, 3, none⟩ = some (.string a0_3) := (blk_cell BK321.out 3).trans rfl; have hcz14_4 : w13.cell? ⟨gb321, 4, none⟩ = some (.slice A0_4 l0_4.length c0_4) := (blk_cell BK321.out 4).trans rfl; have hcz14_5 : w13.cell? ⟨gb321, 5, none⟩ = some (.int .i64 a0_5) := (blk_cell BK321.out 5).trans rfl; have hcz14_6 : w13.cell? ⟨gb321, 6, none⟩ = some (.int .i64 a0_6) := (blk_cell BK321.out 6).trans rfl; have hcz14_7 : w13.cell? ⟨gb321, 7, none⟩ = some (.string a0_7) := (blk_cell BK321.out 7).trans rfl; have hcz14_8 : w13.cell? ⟨gb321, 8, none⟩ = some (.slice A0_8 l0_8.length c0_8) := (blk_cell BK321.out 8).trans rfl; have hcz14_9 : w13.cell? ⟨gb321, 9, none⟩ = some (.int .i64 a0_9) := (blk_cell BK321.out 9).trans rfl; have hcz14_10 : w13.cell? ⟨gb321, 10, none⟩ = some (.int .i64 a0_10) := (blk_cell BK321.out 10).trans rfl; have hcz14_11 : w13.cell? ⟨gb321, 11, none⟩ = some (.string a0_11) := (blk_cell BK321.out 11).trans rfl; have hcz14_12 : w13.cell? ⟨gb321, 12, none⟩ = some (.slice A0_12 l0_12.length c0_12) := (blk_cell BK321.out 12).trans rfl; have hfz14_0 := blk_frozen BK321.out 0; have hfz14_1 := blk_frozen BK321.out 1; have hfz14_2 := blk_frozen BK321.out 2; have hfz14_3 := blk_frozen BK321.out 3; have hfz14_4 := blk_frozen BK321.out 4; have hfz14_5 := blk_frozen BK321.out 5; have hfz14_6 := blk_frozen BK321.out 6; have hfz14_7 := blk_frozen BK321.out 7; have hfz14_8 := blk_frozen BK321.out 8; have hfz14_9 := blk_frozen BK321.out 9; have hfz14_10 := blk_frozen BK321.out 10; have hfz14_11 := blk_frozen BK321.out 11; have hfz14_12 := blk_frozen BK321.out 12) | ((with_reducible refine gate_callee (f := 27) rfl ?_); refine goesL_ (some 48) rfl rfl Tryd.func27 (by kernel_rfl) rfl #[.int .i64 a0_0, .agg #[.int .i64 a0_1, .int .i64 a0_2, .string a0_3, .slice A0_4 l0_4.length c0_4], .agg #[.int .i64 a0_9, .int .i64 a0_10, .string a0_11, .slice A0_12 l0_12.length c0_12]] rfl (by (try simp only [List.map_toArray, List.map_cons, List.map_nil]); first | done | rfl | (simp only [List.length_drop, List.length_take]; rfl) | (simp only [gt_iff_lt, Int.ofNat_lt]; rfl)) ?_; (with_reducible refine (hash_Before.calls k a0_0 a0_1 a0_2 a0_3 _ _ l0_4 a0_9 a0_10 a0_11 _ _ l0_12 t328 t329 _ ?side1 ?side2 ?side3 ?side4 ?side5 A5.out).mono ?_); (case side1 => exact LaidW.below HLT.out (by repeat (first | (with_reducible first | exact HB.out | apply below_alloc | apply pw_below_drewN | apply below_drew1 | refine below_set ?_ GE321.out) | exact HB.out))); (case side2 => repeat (first | exact (Kd.C_below HR0_4.out HB.out) | (with_reducible refine Kd.C_alloc ?_ _) | (with_reducible refine Kd.C_drewN ?_ _) | (with_reducible refine Kd.C_drew ?_))); (case side3 => exact HC0_4.out); (case side4 => repeat (first | exact (Kd.C_below HR0_12.out HB.out) | (with_reducible refine Kd.C_alloc ?_ _) | (with_reducible refine Kd.C_drewN ?_ _) | (with_reducible refine Kd.C_drew ?_))); (case side5 => exact HC0_12.out); rintro e w15 ⟨rfl, hb⟩; refine ⟨_, rfl, ?_⟩; have n0_ := Aside0.mk (blk_below (g := gb321) (o := .cells #[.int .i64 a0_0, .int .i64 a0_1, .int .i64 a0_2, .string a0_3, .slice A0_4 l0_4.length c0_4, .int .i64 a0_5, .int .i64 a0_6, .string a0_7, .slice A0_8 l0_8.length c0_8, .int .i64 a0_9, .int .i64 a0_10, .string a0_11, .slice A0_12 l0_12.length c0_12] 42 (0, 0)) (by (with_reducible repeat (first | refine blk_drewN ?_ _ | refine blk_drew ?_ | refine blk_alloc ?_ _)); exact BK321.out) hb); have n1_ := Aside0.mk (below_step (by repeat (first | (with_reducible first | exact HB.out | apply below_alloc | apply pw_below_drewN | apply below_drew1 | refine below_set ?_ GE321.out) | exact HB.out)) hb); clear BK321; clear HB; have BK321 := n0_; have HB := n1_; clear n0_ n1_; (try clear hb); (try clear hb2); (try clear hk); (try clear hi)))
  (try simp only [Act.put, List.setIfInBounds_toArray, List.set_cons_zero, List.set_cons_succ])
  go_cut [64] (fun v64 wc => ∃ (kq : Nat) (x64_5 : Bool), v64 = .bool x64_5 ∧ Aside0 (spinneylaw04_HashLine.j0 kq t322 t324 t326 t328 x64_5 a0_0 a0_1 a0_2 a0_3 l0_4 a0_5 a0_6 a0_7 l0_8 a0_9 a0_10 a0_11 l0_12 = some r) ∧ Aside0 (kq ≤ k) ∧ Aside0 (wc.heap[gb321]? = some (.cells #[.int .i64 a0_0, .int .i64 a0_1, .int .i64 a0_2, .string a0_3, (.slice A0_4 l0_4.length c0_4), .int .i64 a0_5, .int .i64 a0_6, .string a0_7, (.slice A0_8 l0_8.length c0_8), .int .i64 a0_9, .int .i64 a0_10, .string a0_11, (.slice A0_12 l0_12.length c0_12)] 42 (0, 0))) ∧ Aside0 (Below w.heap.size w wc))
  case first =>
    have H := HC6.out
    clear HC6
    by_cases c16 : t323 = 0
    · rw [if_pos c16] at H
      have c16b0 : (t323 == 0) = true := beq_iff_eq.mpr c16
      have c16b1 : (t323 != 0) = false := bne_eq_false_iff_eq.mpr c16
      clear c16
      (first | rw [c16b0] | (simp only [i64_w, i32_w]; rw [c16b0]) | skip)
      by_cases c17 : t325 = 0
      · rw [if_pos c17] at H
        have c17b0 : (t325 == 0) = true := beq_iff_eq.mpr c17
        have c17b1 : (t325 != 0) = false := bne_eq_false_iff_eq.mpr c17
        clear c17
        by_cases c18 : t327 = 0
        · rw [if_pos c18] at H
          have c18b0 : (t327 == 0) = true := beq_iff_eq.mpr c18
          have c18b1 : (t327 != 0) = false := bne_eq_false_iff_eq.mpr c18
          clear c18
          have H' := Aside0.mk H
          clear H
          go_wp2
          go_meet
          case rel => exact ⟨_, ((t329 != 0)), (by first | rfl | (simp; done) | (simp [*]; done)), H', ⟨by first | omega | exact Nat.le_refl _⟩, ⟨by (with_reducible repeat (first | refine blk_drewN ?_ _ | refine blk_drew ?_ | refine blk_alloc ?_ _)); exact BK321.out⟩, ⟨by repeat (first | (with_reducible first | exact HB.out | apply below_alloc | apply pw_below_drewN | apply below_drew1 | refine below_set ?_ GE321.out) | exact HB.out)⟩⟩
        · rw [if_neg c18] at H
          have c18b0 : (t327 == 0) = false := beq_eq_false_iff_ne.mpr c18
          have c18b1 : (t327 != 0) = true := bne_iff_ne.mpr c18
          have H' := Aside0.mk H
          clear H
          go_wp2
          go_meet
          case rel => exact ⟨_, (true), (by first | rfl | (simp; done) | (simp [*]; done)), H', ⟨by first | omega | exact Nat.le_refl _⟩, ⟨by (with_reducible repeat (first | refine blk_drewN ?_ _ | refine blk_drew ?_ | refine blk_alloc ?_ _)); exact BK321.out⟩, ⟨by repeat (first | (with_reducible first | exact HB.out | apply below_alloc | apply pw_below_drewN | apply below_drew1 | refine below_set ?_ GE321.out) | exact HB.out)⟩⟩
      · rw [if_neg c17] at H
        have c17b0 : (t325 == 0) = false := beq_eq_false_iff_ne.mpr c17
        have c17b1 : (t325 != 0) = true := bne_iff_ne.mpr c17
        have H' := Aside0.mk H
        clear H
        go_wp2
        go_meet
        case rel => exact ⟨_, (true), (by first | rfl | (simp; done) | (simp [*]; done)), H', ⟨by first | omega | exact Nat.le_refl _⟩, ⟨by (with_reducible repeat (first | refine blk_drewN ?_ _ | refine blk_drew ?_ | refine blk_alloc ?_ _)); exact BK321.out⟩, ⟨by repeat (first | (with_reducible first | exact HB.out | apply below_alloc | apply pw_below_drewN | apply below_drew1 | refine below_set ?_ GE321.out) | exact HB.out)⟩⟩
    · rw [if_neg c16] at H
      have c16b0 : (t323 == 0) = false := beq_eq_false_iff_ne.mpr c16
      have c16b1 : (t323 != 0) = true := bne_iff_ne.mpr c16
      (first | rw [c16b0] | (simp only [i64_w, i32_w]; rw [c16b0]) | skip)
      have H' := Aside0.mk H
      clear H
      go_wp2
      go_meet
      case rel => exact ⟨_, (true), (by first | rfl | (simp; done) | (simp [*]; done)), H', ⟨by first | omega | exact Nat.le_refl _⟩, ⟨by (with_reducible repeat (first | refine blk_drewN ?_ _ | refine blk_drew ?_ | refine blk_alloc ?_ _)); exact BK321.out⟩, ⟨by repeat (first | (with_reducible first | exact HB.out | apply below_alloc | apply pw_below_drewN | apply below_drew1 | refine below_set ?_ GE321.out) | exact HB.out)⟩⟩
  case rest =>
    clear HC6
    try clear c1
    try clear c2
    try clear p2
    try clear c8
    try clear c16
    try clear c16b0
    try clear c16b1
    try clear c17
    try clear c17b0
    try clear c17b1
    try clear c18
    try clear c18b0
    try clear c18b1
    try clear hcz10_0
    try clear hcz10_1
    try clear hcz10_10
    try clear hcz10_11
    try clear hcz10_12
    try clear hcz10_2
    try clear hcz10_3
    try clear hcz10_4
    try clear hcz10_5
    try clear hcz10_6
    try clear hcz10_7
    try clear hcz10_8
    try clear hcz10_9
    try clear hcz12_0
    try clear hcz12_1
    try clear hcz12_10
    try clear hcz12_11
    try clear hcz12_12
    try clear hcz12_2
    try clear hcz12_3
    try clear hcz12_4
    try clear hcz12_5
    try clear hcz12_6
    try clear hcz12_7
    try clear hcz12_8
    try clear hcz12_9
    try clear hcz14_0
    try clear hcz14_1
    try clear hcz14_10
    try clear hcz14_11
    try clear hcz14_12
    try clear hcz14_2
    try clear hcz14_3
    try clear hcz14_4
    try clear hcz14_5
    try clear hcz14_6
    try clear hcz14_7
    try clear hcz14_8
    try clear hcz14_9
    try clear hcz8_0
    try clear hcz8_1
    try clear hcz8_10
    try clear hcz8_11
    try clear hcz8_12
    try clear hcz8_2
    try clear hcz8_3
    try clear hcz8_4
    try clear hcz8_5
    try clear hcz8_6
    try clear hcz8_7
    try clear hcz8_8
    try clear hcz8_9
    try clear hfz10_0
    try clear hfz10_1
    try clear hfz10_10
    try clear hfz10_11
    try clear hfz10_12
    try clear hfz10_2
    try clear hfz10_3
    try clear hfz10_4
    try clear hfz10_5
    try clear hfz10_6
    try clear hfz10_7
    try clear hfz10_8
    try clear hfz10_9
    try clear hfz12_0
    try clear hfz12_1
    try clear hfz12_10
    try clear hfz12_11
    try clear hfz12_12
    try clear hfz12_2
    try clear hfz12_3
    try clear hfz12_4
    try clear hfz12_5
    try clear hfz12_6
    try clear hfz12_7
    try clear hfz12_8
    try clear hfz12_9
    try clear hfz14_0
    try clear hfz14_1
    try clear hfz14_10
    try clear hfz14_11
    try clear hfz14_12
    try clear hfz14_2
    try clear hfz14_3
    try clear hfz14_4
    try clear hfz14_5
    try clear hfz14_6
    try clear hfz14_7
    try clear hfz14_8
    try clear hfz14_9
    try clear hfz8_0
    try clear hfz8_1
    try clear hfz8_10
    try clear hfz8_11
    try clear hfz8_12
    try clear hfz8_2
    try clear hfz8_3
    try clear hfz8_4
    try clear hfz8_5
    try clear hfz8_6
    try clear hfz8_7
    try clear hfz8_8
    try clear hfz8_9
    obtain ⟨kq, x64_5, rfl, HA, HJ5, BK321, HB⟩ := hcut
    cases kq with
    | zero => exact absurd HA.out (by simp [spinneylaw04_HashLine.j0])
    | succ kj5 =>
      have H := HA.out
      clear HA
      simp only [spinneylaw04_HashLine.j0] at H
      by_cases c19 : x64_5 = true
      · subst c19
        have H1 : ((spinneylaw04_speaks.f kj5).bind fun t330 => (some t330)) = some r := by rw [if_pos rfl] at H; exact H
        clear H
        have H := H1
        clear H1
        replace H := Option.bind_eq_some_iff.mp H
        obtain ⟨t330, A200, H⟩ := H
        replace H : (some t330) = some r := H
        have A20 := Aside0.mk A200
        clear A200
        obtain rfl := Option.some.inj H
        go_wp2_with (first | ((with_reducible refine gate_callee (f := 18) rfl ?_); refine goesL_ (some 65) rfl rfl Tryd.func18 (by kernel_rfl) rfl #[] rfl (by (try simp only [List.map_toArray, List.map_cons, List.map_nil]); first | done | rfl | (simp only [List.length_drop, List.length_take]; rfl) | (simp only [gt_iff_lt, Int.ofNat_lt]; rfl)) ?_; (with_reducible refine (spinneylaw04_speaks.calls kj5  t330 _ ?side1 A20.out).mono ?_); (case side1 => exact LaidW.below HLT.out (by repeat (first | (with_reducible first | exact HB.out | apply below_alloc | apply pw_below_drewN | apply below_drew1 | refine below_set ?_ GE321.out) | exact HB.out))); rintro e w21 ⟨rfl, hb⟩; refine ⟨_, rfl, ?_⟩; have n0_ := Aside0.mk (blk_below (g := gb321) (o := .cells #[.int .i64 a0_0, .int .i64 a0_1, .int .i64 a0_2, .string a0_3, .slice A0_4 l0_4.length c0_4, .int .i64 a0_5, .int .i64 a0_6, .string a0_7, .slice A0_8 l0_8.length c0_8, .int .i64 a0_9, .int .i64 a0_10, .string a0_11, .slice A0_12 l0_12.length c0_12] 42 (0, 0)) (by (with_reducible repeat (first | refine blk_drewN ?_ _ | refine blk_drew ?_ | refine blk_alloc ?_ _)); exact BK321.out) hb); have n1_ := Aside0.mk (below_step (by repeat (first | (with_reducible first | exact HB.out | apply below_alloc | apply pw_below_drewN | apply below_drew1 | refine below_set ?_ GE321.out) | exact HB.out)) hb); clear BK321; clear HB; have BK321 := n0_; have HB := n1_; clear n0_ n1_; (try clear hb); (try clear hb2); (try clear hk); (try clear hi)))
        go_ret
        exact ⟨by first | rfl | (simp [errW_none, errW_some] <;> rfl) | (simp [*, errW_none, errW_some] <;> rfl), by repeat (first | (with_reducible first | exact HB.out | apply below_alloc | apply pw_below_drewN | apply below_drew1 | refine below_set ?_ GE321.out) | exact HB.out)⟩
      · replace c19 := Bool.eq_false_iff.mpr c19
        subst c19
        have H1 : (if t322 = true then (if t324 = true then (some false) else ((value_Equal.f a0_1 a0_2 a0_3 l0_4 a0_5 a0_6 a0_7 l0_8).bind fun t331 => (if (true == t331) = true then (some false) else (if t326 = true then (if t328 = true then ((spinneylaw04_speaks.f kj5).bind fun t332 => (some t332)) else (some false)) else ((spinneylaw04_speaks.f kj5).bind fun t333 => (some t333)))))) else ((value_Equal.f a0_1 a0_2 a0_3 l0_4 a0_5 a0_6 a0_7 l0_8).bind fun t334 => (if (t324 == t334) = true then (some false) else ((spinneylaw04_speaks.f kj5).bind fun t335 => (some t335))))) = some r := by rw [if_neg (show ¬ (false = true) by decide)] at H; exact H
        clear H
        have H := H1
        clear H1
        by_cases c22 : t322 = true
        · subst c22
          have H1 : (if t324 = true then (some false) else ((value_Equal.f a0_1 a0_2 a0_3 l0_4 a0_5 a0_6 a0_7 l0_8).bind fun t331 => (if (true == t331) = true then (some false) else (if t326 = true then (if t328 = true then ((spinneylaw04_speaks.f kj5).bind fun t332 => (some t332)) else (some false)) else ((spinneylaw04_speaks.f kj5).bind fun t333 => (some t333)))))) = some r := by rw [if_pos rfl] at H; exact H
          clear H
          have H := H1
          clear H1
          by_cases c23 : t324 = true
          · subst c23
            have H1 : (some false) = some r := by rw [if_pos rfl] at H; exact H
            clear H
            have H := H1
            clear H1
            obtain rfl := Option.some.inj H
            go_wp2
            go_ret
            exact ⟨by first | rfl | (simp [errW_none, errW_some] <;> rfl) | (simp [*, errW_none, errW_some] <;> rfl), by repeat (first | (with_reducible first | exact HB.out | apply below_alloc | apply pw_below_drewN | apply below_drew1 | refine below_set ?_ GE321.out) | exact HB.out)⟩
          · replace c23 := Bool.eq_false_iff.mpr c23
            subst c23
            have H1 : ((value_Equal.f a0_1 a0_2 a0_3 l0_4 a0_5 a0_6 a0_7 l0_8).bind fun t331 => (if (true == t331) = true then (some false) else (if t326 = true then (if t328 = true then ((spinneylaw04_speaks.f kj5).bind fun t332 => (some t332)) else (some false)) else ((spinneylaw04_speaks.f kj5).bind fun t333 => (some t333))))) = some r := by rw [if_neg (show ¬ (false = true) by decide)] at H; exact H
            clear H
            have H := H1
            clear H1
            replace H := Option.bind_eq_some_iff.mp H
            obtain ⟨t331, A240, H⟩ := H
            replace H : (if (true == t331) = true then (some false) else (if t326 = true then (if t328 = true then ((spinneylaw04_speaks.f kj5).bind fun t332 => (some t332)) else (some false)) else ((spinneylaw04_speaks.f kj5).bind fun t333 => (some t333)))) = some r := H
            have A24 := Aside0.mk A240
            clear A240
            by_cases c25 : (true == t331) = true
            · rw [if_pos c25] at H
              have c25b0 : (true == t331) = true := c25
              (try (have c25b1 : decide (true = t331) = true := by simpa using c25))
              (try (have c25b2 : (true == t331) = true := by simpa using c25))
              clear c25
              obtain rfl := Option.some.inj H
              have hcz26_0 : wc.cell? ⟨gb321, 0, none⟩ = some (.int .i64 a0_0) := (blk_cell BK321.out 0).trans rfl
              have hcz26_1 : wc.cell? ⟨gb321, 1, none⟩ = some (.int .i64 a0_1) := (blk_cell BK321.out 1).trans rfl
              have hcz26_2 : wc.cell? ⟨gb321, 2, none⟩ = some (.int .i64 a0_2) := (blk_cell BK321.out 2).trans rfl
              have hcz26_3 : wc.cell? ⟨gb321, 3, none⟩ = some (.string a0_3) := (blk_cell BK321.out 3).trans rfl
              have hcz26_4 : wc.cell? ⟨gb321, 4, none⟩ = some (.slice A0_4 l0_4.length c0_4) := (blk_cell BK321.out 4).trans rfl
              have hcz26_5 : wc.cell? ⟨gb321, 5, none⟩ = some (.int .i64 a0_5) := (blk_cell BK321.out 5).trans rfl
              have hcz26_6 : wc.cell? ⟨gb321, 6, none⟩ = some (.int .i64 a0_6) := (blk_cell BK321.out 6).trans rfl
              have hcz26_7 : wc.cell? ⟨gb321, 7, none⟩ = some (.string a0_7) := (blk_cell BK321.out 7).trans rfl
              have hcz26_8 : wc.cell? ⟨gb321, 8, none⟩ = some (.slice A0_8 l0_8.length c0_8) := (blk_cell BK321.out 8).trans rfl
              have hcz26_9 : wc.cell? ⟨gb321, 9, none⟩ = some (.int .i64 a0_9) := (blk_cell BK321.out 9).trans rfl
              have hcz26_10 : wc.cell? ⟨gb321, 10, none⟩ = some (.int .i64 a0_10) := (blk_cell BK321.out 10).trans rfl
              have hcz26_11 : wc.cell? ⟨gb321, 11, none⟩ = some (.string a0_11) := (blk_cell BK321.out 11).trans rfl
              have hcz26_12 : wc.cell? ⟨gb321, 12, none⟩ = some (.slice A0_12 l0_12.length c0_12) := (blk_cell BK321.out 12).trans rfl
              have hfz26_0 := blk_frozen BK321.out 0
              have hfz26_1 := blk_frozen BK321.out 1
              have hfz26_2 := blk_frozen BK321.out 2
              have hfz26_3 := blk_frozen BK321.out 3
              have hfz26_4 := blk_frozen BK321.out 4
              have hfz26_5 := blk_frozen BK321.out 5
              have hfz26_6 := blk_frozen BK321.out 6
              have hfz26_7 := blk_frozen BK321.out 7
              have hfz26_8 := blk_frozen BK321.out 8
              have hfz26_9 := blk_frozen BK321.out 9
              have hfz26_10 := blk_frozen BK321.out 10
              have hfz26_11 := blk_frozen BK321.out 11
              have hfz26_12 := blk_frozen BK321.out 12
              go_wp2_with (first | (go_at_call 29; (with_reducible refine (value_Equal.calls a0_1 a0_2 a0_3 _ _ l0_4 a0_5 a0_6 a0_7 _ _ l0_8 t331 _ ?side1 ?side2 ?side3 ?side4 A24.out).mono ?_); (case side1 => repeat (first | exact (Kd.C_below HR0_4.out HB.out) | (with_reducible refine Kd.C_alloc ?_ _) | (with_reducible refine Kd.C_drewN ?_ _) | (with_reducible refine Kd.C_drew ?_))); (case side2 => exact HC0_4.out); (case side3 => repeat (first | exact (Kd.C_below HR0_8.out HB.out) | (with_reducible refine Kd.C_alloc ?_ _) | (with_reducible refine Kd.C_drewN ?_ _) | (with_reducible refine Kd.C_drew ?_))); (case side4 => exact HC0_8.out); rintro e w27 ⟨rfl, hb⟩; have n0_ := Aside0.mk (blk_below (g := gb321) (o := .cells #[.int .i64 a0_0, .int .i64 a0_1, .int .i64 a0_2, .string a0_3, .slice A0_4 l0_4.length c0_4, .int .i64 a0_5, .int .i64 a0_6, .string a0_7, .slice A0_8 l0_8.length c0_8, .int .i64 a0_9, .int .i64 a0_10, .string a0_11, .slice A0_12 l0_12.length c0_12] 42 (0, 0)) (by (with_reducible repeat (first | refine blk_drewN ?_ _ | refine blk_drew ?_ | refine blk_alloc ?_ _)); exact BK321.out) hb); have n1_ := Aside0.mk (below_step (by repeat (first | (with_reducible first | exact HB.out | apply below_alloc | apply pw_below_drewN | apply below_drew1 | refine below_set ?_ GE321.out) | exact HB.out)) hb); clear BK321; clear HB; have BK321 := n0_; have HB := n1_; clear n0_ n1_; (try clear hb); (try clear hb2); (try clear hk); (try clear hi)))
              go_ret
              exact ⟨by first | rfl | (simp [errW_none, errW_some] <;> rfl) | (simp [*, errW_none, errW_some] <;> rfl), by repeat (first | (with_reducible first | exact HB.out | apply below_alloc | apply pw_below_drewN | apply below_drew1 | refine below_set ?_ GE321.out) | exact HB.out)⟩
            · rw [if_neg c25] at H
              have c25b0 : (true == t331) = false := by simpa using c25
              (try (have c25b1 : decide (true = t331) = false := by simpa using c25))
              (try (have c25b2 : (true == t331) = false := by simpa using c25))
              (try (have c25b3 : ¬ (true = t331) := by simpa using c25))
              clear c25
              by_cases c28 : t326 = true
              · subst c28
                have H1 : (if t328 = true then ((spinneylaw04_speaks.f kj5).bind fun t332 => (some t332)) else (some false)) = some r := by rw [if_pos rfl] at H; exact H
                clear H
                have H := H1
                clear H1
                by_cases c29 : t328 = true
                · subst c29
                  have H1 : ((spinneylaw04_speaks.f kj5).bind fun t332 => (some t332)) = some r := by rw [if_pos rfl] at H; exact H
                  clear H
                  have H := H1
                  clear H1
                  replace H := Option.bind_eq_some_iff.mp H
                  obtain ⟨t332, A300, H⟩ := H
                  replace H : (some t332) = some r := H
                  have A30 := Aside0.mk A300
                  clear A300
                  obtain rfl := Option.some.inj H
                  have hcz31_0 : wc.cell? ⟨gb321, 0, none⟩ = some (.int .i64 a0_0) := (blk_cell BK321.out 0).trans rfl
                  have hcz31_1 : wc.cell? ⟨gb321, 1, none⟩ = some (.int .i64 a0_1) := (blk_cell BK321.out 1).trans rfl
                  have hcz31_2 : wc.cell? ⟨gb321, 2, none⟩ = some (.int .i64 a0_2) := (blk_cell BK321.out 2).trans rfl
                  have hcz31_3 : wc.cell? ⟨gb321, 3, none⟩ = some (.string a0_3) := (blk_cell BK321.out 3).trans rfl
                  have hcz31_4 : wc.cell? ⟨gb321, 4, none⟩ = some (.slice A0_4 l0_4.length c0_4) := (blk_cell BK321.out 4).trans rfl
                  have hcz31_5 : wc.cell? ⟨gb321, 5, none⟩ = some (.int .i64 a0_5) := (blk_cell BK321.out 5).trans rfl
                  have hcz31_6 : wc.cell? ⟨gb321, 6, none⟩ = some (.int .i64 a0_6) := (blk_cell BK321.out 6).trans rfl
                  have hcz31_7 : wc.cell? ⟨gb321, 7, none⟩ = some (.string a0_7) := (blk_cell BK321.out 7).trans rfl
                  have hcz31_8 : wc.cell? ⟨gb321, 8, none⟩ = some (.slice A0_8 l0_8.length c0_8) := (blk_cell BK321.out 8).trans rfl
                  have hcz31_9 : wc.cell? ⟨gb321, 9, none⟩ = some (.int .i64 a0_9) := (blk_cell BK321.out 9).trans rfl
                  have hcz31_10 : wc.cell? ⟨gb321, 10, none⟩ = some (.int .i64 a0_10) := (blk_cell BK321.out 10).trans rfl
                  have hcz31_11 : wc.cell? ⟨gb321, 11, none⟩ = some (.string a0_11) := (blk_cell BK321.out 11).trans rfl
                  have hcz31_12 : wc.cell? ⟨gb321, 12, none⟩ = some (.slice A0_12 l0_12.length c0_12) := (blk_cell BK321.out 12).trans rfl
                  have hfz31_0 := blk_frozen BK321.out 0
                  have hfz31_1 := blk_frozen BK321.out 1
                  have hfz31_2 := blk_frozen BK321.out 2
                  have hfz31_3 := blk_frozen BK321.out 3
                  have hfz31_4 := blk_frozen BK321.out 4
                  have hfz31_5 := blk_frozen BK321.out 5
                  have hfz31_6 := blk_frozen BK321.out 6
                  have hfz31_7 := blk_frozen BK321.out 7
                  have hfz31_8 := blk_frozen BK321.out 8
                  have hfz31_9 := blk_frozen BK321.out 9
                  have hfz31_10 := blk_frozen BK321.out 10
                  have hfz31_11 := blk_frozen BK321.out 11
                  have hfz31_12 := blk_frozen BK321.out 12
                  go_wp2_with (first | (go_at_call 29; (with_reducible refine (value_Equal.calls a0_1 a0_2 a0_3 _ _ l0_4 a0_5 a0_6 a0_7 _ _ l0_8 t331 _ ?side1 ?side2 ?side3 ?side4 A24.out).mono ?_); (case side1 => repeat (first | exact (Kd.C_below HR0_4.out HB.out) | (with_reducible refine Kd.C_alloc ?_ _) | (with_reducible refine Kd.C_drewN ?_ _) | (with_reducible refine Kd.C_drew ?_))); (case side2 => exact HC0_4.out); (case side3 => repeat (first | exact (Kd.C_below HR0_8.out HB.out) | (with_reducible refine Kd.C_alloc ?_ _) | (with_reducible refine Kd.C_drewN ?_ _) | (with_reducible refine Kd.C_drew ?_))); (case side4 => exact HC0_8.out); rintro e w32 ⟨rfl, hb⟩; have n0_ := Aside0.mk (blk_below (g := gb321) (o := .cells #[.int .i64 a0_0, .int .i64 a0_1, .int .i64 a0_2, .string a0_3, .slice A0_4 l0_4.length c0_4, .int .i64 a0_5, .int .i64 a0_6, .string a0_7, .slice A0_8 l0_8.length c0_8, .int .i64 a0_9, .int .i64 a0_10, .string a0_11, .slice A0_12 l0_12.length c0_12] 42 (0, 0)) (by (with_reducible repeat (first | refine blk_drewN ?_ _ | refine blk_drew ?_ | refine blk_alloc ?_ _)); exact BK321.out) hb); have n1_ := Aside0.mk (below_step (by repeat (first | (with_reducible first | exact HB.out | apply below_alloc | apply pw_below_drewN | apply below_drew1 | refine below_set ?_ GE321.out) | exact HB.out)) hb); clear BK321; clear HB; have BK321 := n0_; have HB := n1_; clear n0_ n1_; (try clear hb); (try clear hb2); (try clear hk); (try clear hi)) | (go_at_call 18; (with_reducible refine (spinneylaw04_speaks.calls kj5  t332 _ ?side1 A30.out).mono ?_); (case side1 => exact LaidW.below HLT.out (by repeat (first | (with_reducible first | exact HB.out | apply below_alloc | apply pw_below_drewN | apply below_drew1 | refine below_set ?_ GE321.out) | exact HB.out))); rintro e w33 ⟨rfl, hb⟩; have n0_ := Aside0.mk (blk_below (g := gb321) (o := .cells #[.int .i64 a0_0, .int .i64 a0_1, .int .i64 a0_2, .string a0_3, .slice A0_4 l0_4.length c0_4, .int .i64 a0_5, .int .i64 a0_6, .string a0_7, .slice A0_8 l0_8.length c0_8, .int .i64 a0_9, .int .i64 a0_10, .string a0_11, .slice A0_12 l0_12.length c0_12] 42 (0, 0)) (by (with_reducible repeat (first | refine blk_drewN ?_ _ | refine blk_drew ?_ | refine blk_alloc ?_ _)); exact BK321.out) hb); have n1_ := Aside0.mk (below_step (by repeat (first | (with_reducible first | exact HB.out | apply below_alloc | apply pw_below_drewN | apply below_drew1 | refine below_set ?_ GE321.out) | exact HB.out)) hb); clear BK321; clear HB; have BK321 := n0_; have HB := n1_; clear n0_ n1_; (try clear hb); (try clear hb2); (try clear hk); (try clear hi)))
                  go_ret
                  exact ⟨by first | rfl | (simp [errW_none, errW_some] <;> rfl) | (simp [*, errW_none, errW_some] <;> rfl), by repeat (first | (with_reducible first | exact HB.out | apply below_alloc | apply pw_below_drewN | apply below_drew1 | refine below_set ?_ GE321.out) | exact HB.out)⟩
                · replace c29 := Bool.eq_false_iff.mpr c29
                  subst c29
                  have H1 : (some false) = some r := by rw [if_neg (show ¬ (false = true) by decide)] at H; exact H
                  clear H
                  have H := H1
                  clear H1
                  obtain rfl := Option.some.inj H
                  have hcz34_0 : wc.cell? ⟨gb321, 0, none⟩ = some (.int .i64 a0_0) := (blk_cell BK321.out 0).trans rfl
                  have hcz34_1 : wc.cell? ⟨gb321, 1, none⟩ = some (.int .i64 a0_1) := (blk_cell BK321.out 1).trans rfl
                  have hcz34_2 : wc.cell? ⟨gb321, 2, none⟩ = some (.int .i64 a0_2) := (blk_cell BK321.out 2).trans rfl
                  have hcz34_3 : wc.cell? ⟨gb321, 3, none⟩ = some (.string a0_3) := (blk_cell BK321.out 3).trans rfl
                  have hcz34_4 : wc.cell? ⟨gb321, 4, none⟩ = some (.slice A0_4 l0_4.length c0_4) := (blk_cell BK321.out 4).trans rfl
                  have hcz34_5 : wc.cell? ⟨gb321, 5, none⟩ = some (.int .i64 a0_5) := (blk_cell BK321.out 5).trans rfl
                  have hcz34_6 : wc.cell? ⟨gb321, 6, none⟩ = some (.int .i64 a0_6) := (blk_cell BK321.out 6).trans rfl
                  have hcz34_7 : wc.cell? ⟨gb321, 7, none⟩ = some (.string a0_7) := (blk_cell BK321.out 7).trans rfl
                  have hcz34_8 : wc.cell? ⟨gb321, 8, none⟩ = some (.slice A0_8 l0_8.length c0_8) := (blk_cell BK321.out 8).trans rfl
                  have hcz34_9 : wc.cell? ⟨gb321, 9, none⟩ = some (.int .i64 a0_9) := (blk_cell BK321.out 9).trans rfl
                  have hcz34_10 : wc.cell? ⟨gb321, 10, none⟩ = some (.int .i64 a0_10) := (blk_cell BK321.out 10).trans rfl
                  have hcz34_11 : wc.cell? ⟨gb321, 11, none⟩ = some (.string a0_11) := (blk_cell BK321.out 11).trans rfl
                  have hcz34_12 : wc.cell? ⟨gb321, 12, none⟩ = some (.slice A0_12 l0_12.length c0_12) := (blk_cell BK321.out 12).trans rfl
                  have hfz34_0 := blk_frozen BK321.out 0
                  have hfz34_1 := blk_frozen BK321.out 1
                  have hfz34_2 := blk_frozen BK321.out 2
                  have hfz34_3 := blk_frozen BK321.out 3
                  have hfz34_4 := blk_frozen BK321.out 4
                  have hfz34_5 := blk_frozen BK321.out 5
                  have hfz34_6 := blk_frozen BK321.out 6
                  have hfz34_7 := blk_frozen BK321.out 7
                  have hfz34_8 := blk_frozen BK321.out 8
                  have hfz34_9 := blk_frozen BK321.out 9
                  have hfz34_10 := blk_frozen BK321.out 10
                  have hfz34_11 := blk_frozen BK321.out 11
                  have hfz34_12 := blk_frozen BK321.out 12
                  go_wp2_with (first | (go_at_call 29; (with_reducible refine (value_Equal.calls a0_1 a0_2 a0_3 _ _ l0_4 a0_5 a0_6 a0_7 _ _ l0_8 t331 _ ?side1 ?side2 ?side3 ?side4 A24.out).mono ?_); (case side1 => repeat (first | exact (Kd.C_below HR0_4.out HB.out) | (with_reducible refine Kd.C_alloc ?_ _) | (with_reducible refine Kd.C_drewN ?_ _) | (with_reducible refine Kd.C_drew ?_))); (case side2 => exact HC0_4.out); (case side3 => repeat (first | exact (Kd.C_below HR0_8.out HB.out) | (with_reducible refine Kd.C_alloc ?_ _) | (with_reducible refine Kd.C_drewN ?_ _) | (with_reducible refine Kd.C_drew ?_))); (case side4 => exact HC0_8.out); rintro e w35 ⟨rfl, hb⟩; have n0_ := Aside0.mk (blk_below (g := gb321) (o := .cells #[.int .i64 a0_0, .int .i64 a0_1, .int .i64 a0_2, .string a0_3, .slice A0_4 l0_4.length c0_4, .int .i64 a0_5, .int .i64 a0_6, .string a0_7, .slice A0_8 l0_8.length c0_8, .int .i64 a0_9, .int .i64 a0_10, .string a0_11, .slice A0_12 l0_12.length c0_12] 42 (0, 0)) (by (with_reducible repeat (first | refine blk_drewN ?_ _ | refine blk_drew ?_ | refine blk_alloc ?_ _)); exact BK321.out) hb); have n1_ := Aside0.mk (below_step (by repeat (first | (with_reducible first | exact HB.out | apply below_alloc | apply pw_below_drewN | apply below_drew1 | refine below_set ?_ GE321.out) | exact HB.out)) hb); clear BK321; clear HB; have BK321 := n0_; have HB := n1_; clear n0_ n1_; (try clear hb); (try clear hb2); (try clear hk); (try clear hi)))
                  go_ret
                  exact ⟨by first | rfl | (simp [errW_none, errW_some] <;> rfl) | (simp [*, errW_none, errW_some] <;> rfl), by repeat (first | (with_reducible first | exact HB.out | apply below_alloc | apply pw_below_drewN | apply below_drew1 | refine below_set ?_ GE321.out) | exact HB.out)⟩
              · replace c28 := Bool.eq_false_iff.mpr c28
                subst c28
                have H1 : ((spinneylaw04_speaks.f kj5).bind fun t333 => (some t333)) = some r := by rw [if_neg (show ¬ (false = true) by decide)] at H; exact H
                clear H
                have H := H1
                clear H1
                replace H := Option.bind_eq_some_iff.mp H
                obtain ⟨t333, A360, H⟩ := H
                replace H : (some t333) = some r := H
                have A36 := Aside0.mk A360
                clear A360
                obtain rfl := Option.some.inj H
                have hcz37_0 : wc.cell? ⟨gb321, 0, none⟩ = some (.int .i64 a0_0) := (blk_cell BK321.out 0).trans rfl
                have hcz37_1 : wc.cell? ⟨gb321, 1, none⟩ = some (.int .i64 a0_1) := (blk_cell BK321.out 1).trans rfl
                have hcz37_2 : wc.cell? ⟨gb321, 2, none⟩ = some (.int .i64 a0_2) := (blk_cell BK321.out 2).trans rfl
                have hcz37_3 : wc.cell? ⟨gb321, 3, none⟩ = some (.string a0_3) := (blk_cell BK321.out 3).trans rfl
                have hcz37_4 : wc.cell? ⟨gb321, 4, none⟩ = some (.slice A0_4 l0_4.length c0_4) := (blk_cell BK321.out 4).trans rfl
                have hcz37_5 : wc.cell? ⟨gb321, 5, none⟩ = some (.int .i64 a0_5) := (blk_cell BK321.out 5).trans rfl
                have hcz37_6 : wc.cell? ⟨gb321, 6, none⟩ = some (.int .i64 a0_6) := (blk_cell BK321.out 6).trans rfl
                have hcz37_7 : wc.cell? ⟨gb321, 7, none⟩ = some (.string a0_7) := (blk_cell BK321.out 7).trans rfl
                have hcz37_8 : wc.cell? ⟨gb321, 8, none⟩ = some (.slice A0_8 l0_8.length c0_8) := (blk_cell BK321.out 8).trans rfl
                have hcz37_9 : wc.cell? ⟨gb321, 9, none⟩ = some (.int .i64 a0_9) := (blk_cell BK321.out 9).trans rfl
                have hcz37_10 : wc.cell? ⟨gb321, 10, none⟩ = some (.int .i64 a0_10) := (blk_cell BK321.out 10).trans rfl
                have hcz37_11 : wc.cell? ⟨gb321, 11, none⟩ = some (.string a0_11) := (blk_cell BK321.out 11).trans rfl
                have hcz37_12 : wc.cell? ⟨gb321, 12, none⟩ = some (.slice A0_12 l0_12.length c0_12) := (blk_cell BK321.out 12).trans rfl
                have hfz37_0 := blk_frozen BK321.out 0
                have hfz37_1 := blk_frozen BK321.out 1
                have hfz37_2 := blk_frozen BK321.out 2
                have hfz37_3 := blk_frozen BK321.out 3
                have hfz37_4 := blk_frozen BK321.out 4
                have hfz37_5 := blk_frozen BK321.out 5
                have hfz37_6 := blk_frozen BK321.out 6
                have hfz37_7 := blk_frozen BK321.out 7
                have hfz37_8 := blk_frozen BK321.out 8
                have hfz37_9 := blk_frozen BK321.out 9
                have hfz37_10 := blk_frozen BK321.out 10
                have hfz37_11 := blk_frozen BK321.out 11
                have hfz37_12 := blk_frozen BK321.out 12
                go_wp2_with (first | (go_at_call 29; (with_reducible refine (value_Equal.calls a0_1 a0_2 a0_3 _ _ l0_4 a0_5 a0_6 a0_7 _ _ l0_8 t331 _ ?side1 ?side2 ?side3 ?side4 A24.out).mono ?_); (case side1 => repeat (first | exact (Kd.C_below HR0_4.out HB.out) | (with_reducible refine Kd.C_alloc ?_ _) | (with_reducible refine Kd.C_drewN ?_ _) | (with_reducible refine Kd.C_drew ?_))); (case side2 => exact HC0_4.out); (case side3 => repeat (first | exact (Kd.C_below HR0_8.out HB.out) | (with_reducible refine Kd.C_alloc ?_ _) | (with_reducible refine Kd.C_drewN ?_ _) | (with_reducible refine Kd.C_drew ?_))); (case side4 => exact HC0_8.out); rintro e w38 ⟨rfl, hb⟩; have n0_ := Aside0.mk (blk_below (g := gb321) (o := .cells #[.int .i64 a0_0, .int .i64 a0_1, .int .i64 a0_2, .string a0_3, .slice A0_4 l0_4.length c0_4, .int .i64 a0_5, .int .i64 a0_6, .string a0_7, .slice A0_8 l0_8.length c0_8, .int .i64 a0_9, .int .i64 a0_10, .string a0_11, .slice A0_12 l0_12.length c0_12] 42 (0, 0)) (by (with_reducible repeat (first | refine blk_drewN ?_ _ | refine blk_drew ?_ | refine blk_alloc ?_ _)); exact BK321.out) hb); have n1_ := Aside0.mk (below_step (by repeat (first | (with_reducible first | exact HB.out | apply below_alloc | apply pw_below_drewN | apply below_drew1 | refine below_set ?_ GE321.out) | exact HB.out)) hb); clear BK321; clear HB; have BK321 := n0_; have HB := n1_; clear n0_ n1_; (try clear hb); (try clear hb2); (try clear hk); (try clear hi)) | (go_at_call 18; (with_reducible refine (spinneylaw04_speaks.calls kj5  t333 _ ?side1 A36.out).mono ?_); (case side1 => exact LaidW.below HLT.out (by repeat (first | (with_reducible first | exact HB.out | apply below_alloc | apply pw_below_drewN | apply below_drew1 | refine below_set ?_ GE321.out) | exact HB.out))); rintro e w39 ⟨rfl, hb⟩; have n0_ := Aside0.mk (blk_below (g := gb321) (o := .cells #[.int .i64 a0_0, .int .i64 a0_1, .int .i64 a0_2, .string a0_3, .slice A0_4 l0_4.length c0_4, .int .i64 a0_5, .int .i64 a0_6, .string a0_7, .slice A0_8 l0_8.length c0_8, .int .i64 a0_9, .int .i64 a0_10, .string a0_11, .slice A0_12 l0_12.length c0_12] 42 (0, 0)) (by (with_reducible repeat (first | refine blk_drewN ?_ _ | refine blk_drew ?_ | refine blk_alloc ?_ _)); exact BK321.out) hb); have n1_ := Aside0.mk (below_step (by repeat (first | (with_reducible first | exact HB.out | apply below_alloc | apply pw_below_drewN | apply below_drew1 | refine below_set ?_ GE321.out) | exact HB.out)) hb); clear BK321; clear HB; have BK321 := n0_; have HB := n1_; clear n0_ n1_; (try clear hb); (try clear hb2); (try clear hk); (try clear hi)))
                go_ret
                exact ⟨by first | rfl | (simp [errW_none, errW_some] <;> rfl) | (simp [*, errW_none, errW_some] <;> rfl), by repeat (first | (with_reducible first | exact HB.out | apply below_alloc | apply pw_below_drewN | apply below_drew1 | refine below_set ?_ GE321.out) | exact HB.out)⟩
        · replace c22 := Bool.eq_false_iff.mpr c22
          subst c22
          have H1 : ((value_Equal.f a0_1 a0_2 a0_3 l0_4 a0_5 a0_6 a0_7 l0_8).bind fun t334 => (if (t324 == t334) = true then (some false) else ((spinneylaw04_speaks.f kj5).bind fun t335 => (some t335)))) = some r := by rw [if_neg (show ¬ (false = true) by decide)] at H; exact H
          clear H
          have H := H1
          clear H1
          replace H := Option.bind_eq_some_iff.mp H
          obtain ⟨t334, A400, H⟩ := H
          replace H : (if (t324 == t334) = true then (some false) else ((spinneylaw04_speaks.f kj5).bind fun t335 => (some t335))) = some r := H
          have A40 := Aside0.mk A400
          clear A400
          by_cases c41 : (t324 == t334) = true
          · rw [if_pos c41] at H
            have c41b0 : (t324 == t334) = true := c41
            (try (have c41b1 : decide (t324 = t334) = true := by simpa using c41))
            (try (have c41b2 : (t324 == t334) = true := by simpa using c41))
            clear c41
            obtain rfl := Option.some.inj H
            have hcz42_0 : wc.cell? ⟨gb321, 0, none⟩ = some (.int .i64 a0_0) := (blk_cell BK321.out 0).trans rfl
            have hcz42_1 : wc.cell? ⟨gb321, 1, none⟩ = some (.int .i64 a0_1) := (blk_cell BK321.out 1).trans rfl
            have hcz42_2 : wc.cell? ⟨gb321, 2, none⟩ = some (.int .i64 a0_2) := (blk_cell BK321.out 2).trans rfl
            have hcz42_3 : wc.cell? ⟨gb321, 3, none⟩ = some (.string a0_3) := (blk_cell BK321.out 3).trans rfl
            have hcz42_4 : wc.cell? ⟨gb321, 4, none⟩ = some (.slice A0_4 l0_4.length c0_4) := (blk_cell BK321.out 4).trans rfl
            have hcz42_5 : wc.cell? ⟨gb321, 5, none⟩ = some (.int .i64 a0_5) := (blk_cell BK321.out 5).trans rfl
            have hcz42_6 : wc.cell? ⟨gb321, 6, none⟩ = some (.int .i64 a0_6) := (blk_cell BK321.out 6).trans rfl
            have hcz42_7 : wc.cell? ⟨gb321, 7, none⟩ = some (.string a0_7) := (blk_cell BK321.out 7).trans rfl
            have hcz42_8 : wc.cell? ⟨gb321, 8, none⟩ = some (.slice A0_8 l0_8.length c0_8) := (blk_cell BK321.out 8).trans rfl
            have hcz42_9 : wc.cell? ⟨gb321, 9, none⟩ = some (.int .i64 a0_9) := (blk_cell BK321.out 9).trans rfl
            have hcz42_10 : wc.cell? ⟨gb321, 10, none⟩ = some (.int .i64 a0_10) := (blk_cell BK321.out 10).trans rfl
            have hcz42_11 : wc.cell? ⟨gb321, 11, none⟩ = some (.string a0_11) := (blk_cell BK321.out 11).trans rfl
            have hcz42_12 : wc.cell? ⟨gb321, 12, none⟩ = some (.slice A0_12 l0_12.length c0_12) := (blk_cell BK321.out 12).trans rfl
            have hfz42_0 := blk_frozen BK321.out 0
            have hfz42_1 := blk_frozen BK321.out 1
            have hfz42_2 := blk_frozen BK321.out 2
            have hfz42_3 := blk_frozen BK321.out 3
            have hfz42_4 := blk_frozen BK321.out 4
            have hfz42_5 := blk_frozen BK321.out 5
            have hfz42_6 := blk_frozen BK321.out 6
            have hfz42_7 := blk_frozen BK321.out 7
            have hfz42_8 := blk_frozen BK321.out 8
            have hfz42_9 := blk_frozen BK321.out 9
            have hfz42_10 := blk_frozen BK321.out 10
            have hfz42_11 := blk_frozen BK321.out 11
            have hfz42_12 := blk_frozen BK321.out 12
            go_wp2_with (first | (go_at_call 29; (with_reducible refine (value_Equal.calls a0_1 a0_2 a0_3 _ _ l0_4 a0_5 a0_6 a0_7 _ _ l0_8 t334 _ ?side1 ?side2 ?side3 ?side4 A40.out).mono ?_); (case side1 => repeat (first | exact (Kd.C_below HR0_4.out HB.out) | (with_reducible refine Kd.C_alloc ?_ _) | (with_reducible refine Kd.C_drewN ?_ _) | (with_reducible refine Kd.C_drew ?_))); (case side2 => exact HC0_4.out); (case side3 => repeat (first | exact (Kd.C_below HR0_8.out HB.out) | (with_reducible refine Kd.C_alloc ?_ _) | (with_reducible refine Kd.C_drewN ?_ _) | (with_reducible refine Kd.C_drew ?_))); (case side4 => exact HC0_8.out); rintro e w43 ⟨rfl, hb⟩; have n0_ := Aside0.mk (blk_below (g := gb321) (o := .cells #[.int .i64 a0_0, .int .i64 a0_1, .int .i64 a0_2, .string a0_3, .slice A0_4 l0_4.length c0_4, .int .i64 a0_5, .int .i64 a0_6, .string a0_7, .slice A0_8 l0_8.length c0_8, .int .i64 a0_9, .int .i64 a0_10, .string a0_11, .slice A0_12 l0_12.length c0_12] 42 (0, 0)) (by (with_reducible repeat (first | refine blk_drewN ?_ _ | refine blk_drew ?_ | refine blk_alloc ?_ _)); exact BK321.out) hb); have n1_ := Aside0.mk (below_step (by repeat (first | (with_reducible first | exact HB.out | apply below_alloc | apply pw_below_drewN | apply below_drew1 | refine below_set ?_ GE321.out) | exact HB.out)) hb); clear BK321; clear HB; have BK321 := n0_; have HB := n1_; clear n0_ n1_; (try clear hb); (try clear hb2); (try clear hk); (try clear hi)))
            go_ret
            exact ⟨by first | rfl | (simp [errW_none, errW_some] <;> rfl) | (simp [*, errW_none, errW_some] <;> rfl), by repeat (first | (with_reducible first | exact HB.out | apply below_alloc | apply pw_below_drewN | apply below_drew1 | refine below_set ?_ GE321.out) | exact HB.out)⟩
          · rw [if_neg c41] at H
            have c41b0 : (t324 == t334) = false := by simpa using c41
            (try (have c41b1 : decide (t324 = t334) = false := by simpa using c41))
            (try (have c41b2 : (t324 == t334) = false := by simpa using c41))
            (try (have c41b3 : ¬ (t324 = t334) := by simpa using c41))
            clear c41
            replace H := Option.bind_eq_some_iff.mp H
            obtain ⟨t335, A440, H⟩ := H
            replace H : (some t335) = some r := H
            have A44 := Aside0.mk A440
            clear A440
            obtain rfl := Option.some.inj H
            have hcz45_0 : wc.cell? ⟨gb321, 0, none⟩ = some (.int .i64 a0_0) := (blk_cell BK321.out 0).trans rfl
            have hcz45_1 : wc.cell? ⟨gb321, 1, none⟩ = some (.int .i64 a0_1) := (blk_cell BK321.out 1).trans rfl
            have hcz45_2 : wc.cell? ⟨gb321, 2, none⟩ = some (.int .i64 a0_2) := (blk_cell BK321.out 2).trans rfl
            have hcz45_3 : wc.cell? ⟨gb321, 3, none⟩ = some (.string a0_3) := (blk_cell BK321.out 3).trans rfl
            have hcz45_4 : wc.cell? ⟨gb321, 4, none⟩ = some (.slice A0_4 l0_4.length c0_4) := (blk_cell BK321.out 4).trans rfl
            have hcz45_5 : wc.cell? ⟨gb321, 5, none⟩ = some (.int .i64 a0_5) := (blk_cell BK321.out 5).trans rfl
            have hcz45_6 : wc.cell? ⟨gb321, 6, none⟩ = some (.int .i64 a0_6) := (blk_cell BK321.out 6).trans rfl
            have hcz45_7 : wc.cell? ⟨gb321, 7, none⟩ = some (.string a0_7) := (blk_cell BK321.out 7).trans rfl
            have hcz45_8 : wc.cell? ⟨gb321, 8, none⟩ = some (.slice A0_8 l0_8.length c0_8) := (blk_cell BK321.out 8).trans rfl
            have hcz45_9 : wc.cell? ⟨gb321, 9, none⟩ = some (.int .i64 a0_9) := (blk_cell BK321.out 9).trans rfl
            have hcz45_10 : wc.cell? ⟨gb321, 10, none⟩ = some (.int .i64 a0_10) := (blk_cell BK321.out 10).trans rfl
            have hcz45_11 : wc.cell? ⟨gb321, 11, none⟩ = some (.string a0_11) := (blk_cell BK321.out 11).trans rfl
            have hcz45_12 : wc.cell? ⟨gb321, 12, none⟩ = some (.slice A0_12 l0_12.length c0_12) := (blk_cell BK321.out 12).trans rfl
            have hfz45_0 := blk_frozen BK321.out 0
            have hfz45_1 := blk_frozen BK321.out 1
            have hfz45_2 := blk_frozen BK321.out 2
            have hfz45_3 := blk_frozen BK321.out 3
            have hfz45_4 := blk_frozen BK321.out 4
            have hfz45_5 := blk_frozen BK321.out 5
            have hfz45_6 := blk_frozen BK321.out 6
            have hfz45_7 := blk_frozen BK321.out 7
            have hfz45_8 := blk_frozen BK321.out 8
            have hfz45_9 := blk_frozen BK321.out 9
            have hfz45_10 := blk_frozen BK321.out 10
            have hfz45_11 := blk_frozen BK321.out 11
            have hfz45_12 := blk_frozen BK321.out 12
            go_wp2_with (first | (go_at_call 29; (with_reducible refine (value_Equal.calls a0_1 a0_2 a0_3 _ _ l0_4 a0_5 a0_6 a0_7 _ _ l0_8 t334 _ ?side1 ?side2 ?side3 ?side4 A40.out).mono ?_); (case side1 => repeat (first | exact (Kd.C_below HR0_4.out HB.out) | (with_reducible refine Kd.C_alloc ?_ _) | (with_reducible refine Kd.C_drewN ?_ _) | (with_reducible refine Kd.C_drew ?_))); (case side2 => exact HC0_4.out); (case side3 => repeat (first | exact (Kd.C_below HR0_8.out HB.out) | (with_reducible refine Kd.C_alloc ?_ _) | (with_reducible refine Kd.C_drewN ?_ _) | (with_reducible refine Kd.C_drew ?_))); (case side4 => exact HC0_8.out); rintro e w46 ⟨rfl, hb⟩; have n0_ := Aside0.mk (blk_below (g := gb321) (o := .cells #[.int .i64 a0_0, .int .i64 a0_1, .int .i64 a0_2, .string a0_3, .slice A0_4 l0_4.length c0_4, .int .i64 a0_5, .int .i64 a0_6, .string a0_7, .slice A0_8 l0_8.length c0_8, .int .i64 a0_9, .int .i64 a0_10, .string a0_11, .slice A0_12 l0_12.length c0_12] 42 (0, 0)) (by (with_reducible repeat (first | refine blk_drewN ?_ _ | refine blk_drew ?_ | refine blk_alloc ?_ _)); exact BK321.out) hb); have n1_ := Aside0.mk (below_step (by repeat (first | (with_reducible first | exact HB.out | apply below_alloc | apply pw_below_drewN | apply below_drew1 | refine below_set ?_ GE321.out) | exact HB.out)) hb); clear BK321; clear HB; have BK321 := n0_; have HB := n1_; clear n0_ n1_; (try clear hb); (try clear hb2); (try clear hk); (try clear hi)) | (go_at_call 18; (with_reducible refine (spinneylaw04_speaks.calls kj5  t335 _ ?side1 A44.out).mono ?_); (case side1 => exact LaidW.below HLT.out (by repeat (first | (with_reducible first | exact HB.out | apply below_alloc | apply pw_below_drewN | apply below_drew1 | refine below_set ?_ GE321.out) | exact HB.out))); rintro e w47 ⟨rfl, hb⟩; have n0_ := Aside0.mk (blk_below (g := gb321) (o := .cells #[.int .i64 a0_0, .int .i64 a0_1, .int .i64 a0_2, .string a0_3, .slice A0_4 l0_4.length c0_4, .int .i64 a0_5, .int .i64 a0_6, .string a0_7, .slice A0_8 l0_8.length c0_8, .int .i64 a0_9, .int .i64 a0_10, .string a0_11, .slice A0_12 l0_12.length c0_12] 42 (0, 0)) (by (with_reducible repeat (first | refine blk_drewN ?_ _ | refine blk_drew ?_ | refine blk_alloc ?_ _)); exact BK321.out) hb); have n1_ := Aside0.mk (below_step (by repeat (first | (with_reducible first | exact HB.out | apply below_alloc | apply pw_below_drewN | apply below_drew1 | refine below_set ?_ GE321.out) | exact HB.out)) hb); clear BK321; clear HB; have BK321 := n0_; have HB := n1_; clear n0_ n1_; (try clear hb); (try clear hb2); (try clear hk); (try clear hi)))
            go_ret
            exact ⟨by first | rfl | (simp [errW_none, errW_some] <;> rfl) | (simp [*, errW_none, errW_some] <;> rfl), by repeat (first | (with_reducible first | exact HB.out | apply below_alloc | apply pw_below_drewN | apply below_drew1 | refine below_set ?_ GE321.out) | exact HB.out)⟩

-- NOT PRINTED: function 55 (fns_questions)

-- NOT PRINTED: function 30 (fns_Is)

end Go.Proofs.YtmebfblabccblaaDoor.XH
