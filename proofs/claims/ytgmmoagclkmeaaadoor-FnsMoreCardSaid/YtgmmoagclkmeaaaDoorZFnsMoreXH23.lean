-- cut down by bundle.py (the session's own program) from the texts YtgmmoagclkmeaaaDoorXH23, YtgmmoagclkmeaaaDoorPl12, to what this claim names
import Derived.Test.YtgmmoagclkmeaaaDoorZFnsMoreXH0
import Derived.Test.YtgmmoagclkmeaaaDoorZFnsMoreXH4
import Derived.Test.YtgmmoagclkmeaaaDoorZFnsMoreXH10
import Derived.Test.YtgmmoagclkmeaaaDoorZFnsMoreXH15
import Derived.Test.YtgmmoagclkmeaaaDoorZFnsMoreXH16
import Derived.Test.YtgmmoagclkmeaaaDoorZFnsMoreXH20
import Derived.Test.YtgmmoagclkmeaaaDoorZFnsMorePl11
import Derived.Test.YtgmmoagclkmeaaaDoorZFnsMoreXH1
import Derived.Test.YtgmmoagclkmeaaaDoorZFnsMoreXH2
import Derived.Test.YtgmmoagclkmeaaaDoorZFnsMoreXH3
import Derived.Test.YtgmmoagclkmeaaaDoorZFnsMoreXH5
import Derived.Test.YtgmmoagclkmeaaaDoorZFnsMoreXH11
import Derived.Test.YtgmmoagclkmeaaaDoorZFnsMoreXH12
import Derived.Test.YtgmmoagclkmeaaaDoorZFnsMoreXH13
import Derived.Test.YtgmmoagclkmeaaaDoorZFnsMoreXH14
import Derived.Lib.MapLaws
import Derived.Lib.DecodeN
section
-- laid by xprint.py (the session's own program) out of the translation; Lean checks it
namespace Go.Proofs.YtgmmoagclkmeaaaDoor.XH
open Go.RowKit Go.Proofs.YtgmmoagclkmeaaaDoorW.PrintWords Go.Proofs.YtgmmoagclkmeaaaDoorW.PrintLast Go.Proofs.YtgmmoagclkmeaaaDoorW.PrintMore
attribute [local go_sem] max2_int min2_int max_two min_two max_three min_three max_four min_four   -- for this text's walks alone
set_option linter.unusedVariables false
set_option linter.unusedSimpArgs false

mutual
def spinneyref05_Times.j0 : Nat → Int → Int → Bool → Int → Int → ByteArray → List (S24) → Option (Int × Int × ByteArray × (List (S24)) × Int)
 | 0, _, _, _, _, _, _, _ => none
 | k + 1, x0, x1, x18, x517000, x517001, x517002, x517003 => if x18 = true then (some (0, 0, (⟨#[]⟩ : ByteArray), ([] : List (S24)), 1)) else ((spinneyref01_Right.f k x517000 x517001 x517002 x517003).bind fun t519 => (if t519 = true then (spinneyref05_Times.l0 k x0 x1 0 x517000 x517001 x517002 x517003) else (some (0, 0, (⟨#[]⟩ : ByteArray), ([] : List (S24)), 3))))
def spinneyref05_Times.l0 : Nat → Int → Int → Int → Int → Int → ByteArray → List (S24) → Option (Int × Int × ByteArray × (List (S24)) × Int)
 | 0, _, _, _, _, _, _, _ => none
 | k + 1, x0, x1, x8, x517000, x517001, x517002, x517003 => if x8 < x1 then ((spinneyref05_Done.f k x0 x517000 x517001 x517002 x517003).bind fun bt520 => (spinneyref05_Times.l0 k x0 x1 (wrap64 (x8 + 1)) bt520.1 bt520.2.1 bt520.2.2.1 bt520.2.2.2)) else (some (x517000, x517001, x517002, x517003, 0))
end
mutual
def spinneylaw05_FnsMore.j0 : Nat → Int → Int → Int → Bool → Int → Int → ByteArray → List (S24) → Option (Bool)
 | 0, _, _, _, _, _, _, _, _ => none
 | k + 1, x5, x6, x7, x33, x564000, x564001, x564002, x564003 => if x33 = true then ((spinneylaw05_speaks.f k).bind fun t564 => (some t564)) else ((fns_Times.f k x5 x6 x564000 x564001 x564002 x564003).bind fun bt565 => ((fns_Times.f k x5 (wrap64 (x6 + x7)) x564000 x564001 x564002 x564003).bind fun bt573 => (if bt565.2.2.2.2 = 0 then (spinneylaw05_FnsMore.j1 k x5 x7 bt565.2.2.2.2 bt573.2.2.2.2 (bt573.2.2.2.2 != 0) bt565.1 bt565.2.1 bt565.2.2.1 bt565.2.2.2.1 bt573.1 bt573.2.1 bt573.2.2.1 bt573.2.2.2.1) else (spinneylaw05_FnsMore.j1 k x5 x7 bt565.2.2.2.2 bt573.2.2.2.2 true bt565.1 bt565.2.1 bt565.2.2.1 bt565.2.2.2.1 bt573.1 bt573.2.1 bt573.2.2.1 bt573.2.2.2.1))))
def spinneylaw05_FnsMore.j1 : Nat → Int → Int → Int → Int → Bool → Int → Int → ByteArray → List (S24) → Int → Int → ByteArray → List (S24) → Option (Bool)
 | 0, _, _, _, _, _, _, _, _, _, _, _, _, _ => none
 | k + 1, x5, x7, x9, x11, x56, x573000, x573001, x573002, x573003, x581000, x581001, x581002, x581003 => if x56 = true then (if x9 = x11 then ((spinneylaw05_speaks.f k).bind fun t581 => (some t581)) else (none)) else ((fns_Times.f k x5 x7 x573000 x573001 x573002 x573003).bind fun bt582 => (if bt582.2.2.2.2 = 0 then ((spinneyplain_Value.f k x581000 x581001 x581002 x581003 bt582.1 bt582.2.1 bt582.2.2.1 bt582.2.2.2.1).bind fun t590 => (if t590 = true then ((spinneylaw05_speaks.f k).bind fun t591 => (some t591)) else (none))) else (none)))
end
def spinneylaw05_FnsMore.f (k : Nat) (a0_0 : Int) (a0_1 : Int) (a0_2 : Int) (a1_0 : Int) (a1_1 : Int) (a1_2 : ByteArray) (l1_3 : List (S24)) : Option (Bool) := if a0_1 < 0 then (spinneylaw05_FnsMore.j0 k a0_0 a0_1 a0_2 true a1_0 a1_1 a1_2 l1_3) else (if a0_2 < 0 then (spinneylaw05_FnsMore.j0 k a0_0 a0_1 a0_2 true a1_0 a1_1 a1_2 l1_3) else (if a0_1 > 2000 then (spinneylaw05_FnsMore.j0 k a0_0 a0_1 a0_2 true a1_0 a1_1 a1_2 l1_3) else (spinneylaw05_FnsMore.j0 k a0_0 a0_1 a0_2 (decide (a0_2 > 2000)) a1_0 a1_1 a1_2 l1_3)))
set_option maxHeartbeats 8000000 in
set_option maxRecDepth 100000 in
theorem spinneylaw05_FnsMore.calls (k : Nat) (a0_0 : Int) (a0_1 : Int) (a0_2 : Int) (a1_0 : Int) (a1_1 : Int) (a1_2 : ByteArray) (A1_3 : Option Addr) (c1_3 : Nat) (l1_3 : List (S24)) (r : Bool) (w : World) (hL : LaidW w) (hr1_3 : Kd.C k24 w A1_3 l1_3.length l1_3) (hc1_3 : l1_3.length ≤ c1_3) (h : spinneylaw05_FnsMore.f k a0_0 a0_1 a0_2 a1_0 a1_1 a1_2 l1_3 = some r) :
  Calls Tryd.prog 7 #[.agg #[.int .i64 a0_0, .int .i64 a0_1, .int .i64 a0_2], .agg #[.int .i64 a1_0, .int .i64 a1_1, .string a1_2, .slice A1_3 l1_3.length c1_3]] w fun e w' => e = .returned (.bool r) ∧ Below w.heap.size w w' := by
 have hu47 := Tryd.underlying47
 have hu24 := Tryd.underlying24
 have HR1_3 := Aside0.mk hr1_3
 have HC1_3 := Aside0.mk hc1_3
 clear hr1_3 hc1_3
 have HLT := Aside0.mk hL
 clear hL
 have HB := Aside0.mk (Below.refl w.heap.size w)
 have H : (if a0_1 < 0 then (spinneylaw05_FnsMore.j0 k a0_0 a0_1 a0_2 true a1_0 a1_1 a1_2 l1_3) else (if a0_2 < 0 then (spinneylaw05_FnsMore.j0 k a0_0 a0_1 a0_2 true a1_0 a1_1 a1_2 l1_3) else (if a0_1 > 2000 then (spinneylaw05_FnsMore.j0 k a0_0 a0_1 a0_2 true a1_0 a1_1 a1_2 l1_3) else (spinneylaw05_FnsMore.j0 k a0_0 a0_1 a0_2 (decide (a0_2 > 2000)) a1_0 a1_1 a1_2 l1_3)))) = some r := h
 clear h
 have HC3 := Aside0.mk H
 clear H
 go_enter Tryd.func7, Tryd.ntmps7
 go_upto_region 4 with (first | ((with_reducible refine gate_dst (N := 2) rfl ?_); refine box_event ?hg (N := 2) ?hd (cs := #[.int .i64 a0_0, .int .i64 a0_1, .int .i64 a0_2]) (t := 47) ?hr ?_; (case hd => rfl); (case hg => rfl); (case hr => first | (go_simp; done) | (go_simp; rfl)); intro gb562 hg w4 hbox hb; have BK562 := Aside0.mk (hbox); have GW562 := Aside0.mk ((by rw [hg]; exact (below_size (by repeat (first | (with_reducible first | exact HB.out | apply below_alloc | apply pw_below_drewN | apply below_drew1) | exact HB.out))) : w.heap.size ≤ gb562)); have GE562 := Aside0.mk ((by rw [hg]; exact (below_size (by repeat (first | (with_reducible first | exact HB.out | apply below_alloc | apply pw_below_drewN | apply below_drew1) | exact HB.out))) : w.heap.size ≤ gb562)); replace HB := Aside0.mk (below_step (by repeat (first | (with_reducible first | exact HB.out | apply below_alloc | apply pw_below_drewN | apply below_drew1) | exact HB.out)) hb); clear hb hbox hg) | ((with_reducible refine gate_dst (N := 3) rfl ?_); refine box_event ?hg (N := 3) ?hd (cs := #[.int .i64 a1_0, .int .i64 a1_1, .string a1_2, .slice A1_3 l1_3.length c1_3]) (t := 24) ?hr ?_; (case hd => rfl); (case hg => rfl); (case hr => first | (go_simp; done) | (go_simp; rfl)); intro gb563 hg w5 hbox hb; have BK563 := Aside0.mk (hbox); have GW563 := Aside0.mk ((by rw [hg]; exact (below_size (by repeat (first | (with_reducible first | exact HB.out | apply below_alloc | apply pw_below_drewN | apply below_drew1 | refine below_set ?_ GE562.out) | exact HB.out))) : w.heap.size ≤ gb563)); have GE563 := Aside0.mk ((by rw [hg]; exact (below_size (by repeat (first | (with_reducible first | exact HB.out | apply below_alloc | apply pw_below_drewN | apply below_drew1 | refine below_set ?_ GE562.out) | exact HB.out))) : w.heap.size ≤ gb563)); have NB562_563 := bx_n (up_b BK562) hg; have NB563_562 := bx_m (up_b BK562) hg; replace BK562 := ca_b BK562 hb; replace HB := Aside0.mk (below_step (by repeat (first | (with_reducible first | exact HB.out | apply below_alloc | apply pw_below_drewN | apply below_drew1 | refine below_set ?_ GE562.out) | exact HB.out)) hb); clear hb hbox hg; have hnb6 := NB562_563.out; have hnc6 := NB563_562.out; obtain ⟨hcz7_0, hcz7_1, hcz7_2, hfz7_0, hfz7_1, hfz7_2⟩ := bk3 BK562))
 (try simp only [Act.put, List.setIfInBounds_toArray, List.set_cons_zero, List.set_cons_succ])
 go_cut [33] (fun v33 wc => ∃ (kq : Nat) (x33_2 : Bool), v33 = .bool x33_2 ∧ Aside0 (spinneylaw05_FnsMore.j0 kq a0_0 a0_1 a0_2 x33_2 a1_0 a1_1 a1_2 l1_3 = some r) ∧ Aside0 (kq ≤ k) ∧ Aside0 (wc.heap[gb562]? = some (.cells #[.int .i64 a0_0, .int .i64 a0_1, .int .i64 a0_2] 47 (0, 0))) ∧ Aside0 (wc.heap[gb563]? = some (.cells #[.int .i64 a1_0, .int .i64 a1_1, .string a1_2, (.slice A1_3 l1_3.length c1_3)] 24 (0, 0))) ∧ Aside0 (Below w.heap.size w wc))
 case first =>
  have H := HC3.out
  clear HC3
  by_cases c8 : a0_1 < 0
  ·rw [if_pos c8] at H
   have c8b0 : decide (a0_1 < 0) = true := decide_eq_true c8
   clear c8
   (first | rw [c8b0] | (simp only [i64_w, i32_w]; rw [c8b0]) | skip)
   have H' := Aside0.mk H
   clear H
   go_wp2
   go_meet
   case rel => exact ⟨_, (true), (by first | rfl | (simp; done) | (simp [*]; done)), H', ⟨by first | omega | exact Nat.le_refl _⟩, ⟨by (with_reducible repeat (first | refine blk_drewN ?_ _ | refine blk_drew ?_ | refine blk_alloc ?_ _)); exact BK562.out⟩, ⟨by (with_reducible repeat (first | refine blk_drewN ?_ _ | refine blk_drew ?_ | refine blk_alloc ?_ _)); exact BK563.out⟩, ⟨by repeat (first | (with_reducible first | exact HB.out | apply below_alloc | apply pw_below_drewN | apply below_drew1 | refine below_set ?_ GE562.out | refine below_set ?_ GE563.out) | exact HB.out)⟩⟩
  ·rw [if_neg c8] at H
   have c8b0 : decide (a0_1 < 0) = false := decide_eq_false c8
   clear c8
   (first | rw [c8b0] | (simp only [i64_w, i32_w]; rw [c8b0]) | skip)
   by_cases c9 : a0_2 < 0
   ·rw [if_pos c9] at H
    have c9b0 : decide (a0_2 < 0) = true := decide_eq_true c9
    clear c9
    have H' := Aside0.mk H
    clear H
    go_wp2
    go_meet
    case rel => exact ⟨_, (true), (by first | rfl | (simp; done) | (simp [*]; done)), H', ⟨by first | omega | exact Nat.le_refl _⟩, ⟨by (with_reducible repeat (first | refine blk_drewN ?_ _ | refine blk_drew ?_ | refine blk_alloc ?_ _)); exact BK562.out⟩, ⟨by (with_reducible repeat (first | refine blk_drewN ?_ _ | refine blk_drew ?_ | refine blk_alloc ?_ _)); exact BK563.out⟩, ⟨by repeat (first | (with_reducible first | exact HB.out | apply below_alloc | apply pw_below_drewN | apply below_drew1 | refine below_set ?_ GE562.out | refine below_set ?_ GE563.out) | exact HB.out)⟩⟩
   ·rw [if_neg c9] at H
    have c9b0 : decide (a0_2 < 0) = false := decide_eq_false c9
    clear c9
    by_cases c10 : a0_1 > 2000
    ·rw [if_pos c10] at H
     have c10b0 : decide (2000 < a0_1) = true := decide_eq_true c10
     clear c10
     have H' := Aside0.mk H
     clear H
     go_wp2
     go_meet
     case rel => exact ⟨_, (true), (by first | rfl | (simp; done) | (simp [*]; done)), H', ⟨by first | omega | exact Nat.le_refl _⟩, ⟨by (with_reducible repeat (first | refine blk_drewN ?_ _ | refine blk_drew ?_ | refine blk_alloc ?_ _)); exact BK562.out⟩, ⟨by (with_reducible repeat (first | refine blk_drewN ?_ _ | refine blk_drew ?_ | refine blk_alloc ?_ _)); exact BK563.out⟩, ⟨by repeat (first | (with_reducible first | exact HB.out | apply below_alloc | apply pw_below_drewN | apply below_drew1 | refine below_set ?_ GE562.out | refine below_set ?_ GE563.out) | exact HB.out)⟩⟩
    ·rw [if_neg c10] at H
     have c10b0 : decide (2000 < a0_1) = false := decide_eq_false c10
     clear c10
     have H' := Aside0.mk H
     clear H
     go_wp2
     go_meet
     case rel => exact ⟨_, (decide (a0_2 > 2000)), (by first | rfl | (simp; done) | (simp [*]; done)), H', ⟨by first | omega | exact Nat.le_refl _⟩, ⟨by (with_reducible repeat (first | refine blk_drewN ?_ _ | refine blk_drew ?_ | refine blk_alloc ?_ _)); exact BK562.out⟩, ⟨by (with_reducible repeat (first | refine blk_drewN ?_ _ | refine blk_drew ?_ | refine blk_alloc ?_ _)); exact BK563.out⟩, ⟨by repeat (first | (with_reducible first | exact HB.out | apply below_alloc | apply pw_below_drewN | apply below_drew1 | refine below_set ?_ GE562.out | refine below_set ?_ GE563.out) | exact HB.out)⟩⟩
 case rest =>
  clear HC3
  try clear c1
  try clear p2
  try clear c6
  try clear c7
  try clear c8
  try clear c8b0
  try clear c9
  try clear c9b0
  try clear c10
  try clear c10b0
  try clear hcz7_0
  try clear hcz7_1
  try clear hcz7_2
  try clear hfz7_0
  try clear hfz7_1
  try clear hfz7_2
  obtain ⟨kq, x33_2, rfl, HA, HJ2, BK562, BK563, HB⟩ := hcut
  cases kq with
  | zero => exact absurd HA.out (by simp [spinneylaw05_FnsMore.j0])
  | succ kj2 =>
   have H := HA.out
   clear HA
   simp only [spinneylaw05_FnsMore.j0] at H
   by_cases c11 : x33_2 = true
   ·subst c11
    have H1 : ((spinneylaw05_speaks.f kj2).bind fun t564 => (some t564)) = some r := by rw [if_pos rfl] at H; exact H
    clear H
    have H := H1
    clear H1
    replace H := Option.bind_eq_some_iff.mp H
    obtain ⟨t564, A120, H⟩ := H
    replace H : (some t564) = some r := H
    have A12 := Aside0.mk A120
    clear A120
    obtain rfl := Option.some.inj H
    go_wp2_with (first | ((with_reducible refine gate_callee (f := 10) rfl ?_); refine goesL_ (some 34) rfl rfl Tryd.func10 (by kernel_rfl) rfl #[] rfl (by (try simp only [List.map_toArray, List.map_cons, List.map_nil]); first | done | rfl | (simp only [List.length_drop, List.length_take]; rfl) | (simp only [gt_iff_lt, Int.ofNat_lt]; rfl)) ?_; (with_reducible refine (spinneylaw05_speaks.calls kj2  t564 _ ?side1 A12.out).mono ?_); (case side1 => exact LaidW.below HLT.out (up_h HB)); rintro e w13 ⟨rfl, hb⟩; refine ⟨_, rfl, ?_⟩; replace BK562 := ca_b BK562 hb; replace BK563 := ca_b BK563 hb; replace HB := ca_h HB hb; (try clear hb); (try clear hb2); (try clear hk); (try clear hi)))
    go_ret
    exact ⟨by first | rfl | (simp [errW_none, errW_some] <;> rfl) | (simp [*, errW_none, errW_some] <;> rfl), by repeat (first | (with_reducible first | exact HB.out | apply below_alloc | apply pw_below_drewN | apply below_drew1 | refine below_set ?_ GE562.out | refine below_set ?_ GE563.out) | exact HB.out)⟩
   ·replace c11 := Bool.eq_false_iff.mpr c11
    subst c11
    have H1 : ((fns_Times.f kj2 a0_0 a0_1 a1_0 a1_1 a1_2 l1_3).bind fun bt565 => ((fns_Times.f kj2 a0_0 (wrap64 (a0_1 + a0_2)) a1_0 a1_1 a1_2 l1_3).bind fun bt573 => (if bt565.2.2.2.2 = 0 then (spinneylaw05_FnsMore.j1 kj2 a0_0 a0_2 bt565.2.2.2.2 bt573.2.2.2.2 (bt573.2.2.2.2 != 0) bt565.1 bt565.2.1 bt565.2.2.1 bt565.2.2.2.1 bt573.1 bt573.2.1 bt573.2.2.1 bt573.2.2.2.1) else (spinneylaw05_FnsMore.j1 kj2 a0_0 a0_2 bt565.2.2.2.2 bt573.2.2.2.2 true bt565.1 bt565.2.1 bt565.2.2.1 bt565.2.2.2.1 bt573.1 bt573.2.1 bt573.2.2.1 bt573.2.2.2.1)))) = some r := by rw [if_neg (show ¬ (false = true) by decide)] at H; exact H
    clear H
    have H := H1
    clear H1
    replace H := Option.bind_eq_some_iff.mp H
    obtain ⟨⟨t565, t566, t567, t568, t571⟩, A140, H⟩ := H
    replace H : ((fns_Times.f kj2 a0_0 (wrap64 (a0_1 + a0_2)) a1_0 a1_1 a1_2 l1_3).bind fun bt573 => (if t571 = 0 then (spinneylaw05_FnsMore.j1 kj2 a0_0 a0_2 t571 bt573.2.2.2.2 (bt573.2.2.2.2 != 0) t565 t566 t567 t568 bt573.1 bt573.2.1 bt573.2.2.1 bt573.2.2.2.1) else (spinneylaw05_FnsMore.j1 kj2 a0_0 a0_2 t571 bt573.2.2.2.2 true t565 t566 t567 t568 bt573.1 bt573.2.1 bt573.2.2.1 bt573.2.2.2.1))) = some r := H
    have A14 := Aside0.mk A140
    clear A140
    replace H := Option.bind_eq_some_iff.mp H
    obtain ⟨⟨t573, t574, t575, t576, t579⟩, A150, H⟩ := H
    replace H : (if t571 = 0 then (spinneylaw05_FnsMore.j1 kj2 a0_0 a0_2 t571 t579 (t579 != 0) t565 t566 t567 t568 t573 t574 t575 t576) else (spinneylaw05_FnsMore.j1 kj2 a0_0 a0_2 t571 t579 true t565 t566 t567 t568 t573 t574 t575 t576)) = some r := H
    have A15 := Aside0.mk A150
    clear A150
    have HC16 := Aside0.mk H
    clear H
    have hnb17 := NB563_562.out
    have hnc17 := NB562_563.out
    have hcz18_0 : wc.cell? ⟨gb563, 0, none⟩ = some (.int .i64 a1_0) := (blk_cell BK563.out 0).trans rfl; have hcz18_1 : wc.cell? ⟨gb563, 1, none⟩ = some (.int .i64 a1_1) := (blk_cell BK563.out 1).trans rfl; have hcz18_2 : wc.cell? ⟨gb563, 2, none⟩ = some (.string a1_2) := (blk_cell BK563.out 2).trans rfl; have hcz18_3 : wc.cell? ⟨gb563, 3, none⟩ = some (.slice A1_3 l1_3.length c1_3) := (blk_cell BK563.out 3).trans rfl; have hfz18_0 := blk_frozen BK563.out 0; have hfz18_1 := blk_frozen BK563.out 1; have hfz18_2 := blk_frozen BK563.out 2; have hfz18_3 := blk_frozen BK563.out 3
    go_upto_region 8 with (first | ((with_reducible refine gate_callee (f := 17) rfl ?_); refine goesL_ (some 39) rfl rfl Tryd.func17 (by kernel_rfl) rfl #[.int .i64 a0_0, .int .i64 a0_1, .agg #[.int .i64 a1_0, .int .i64 a1_1, .string a1_2, .slice A1_3 l1_3.length c1_3]] rfl (by (try simp only [List.map_toArray, List.map_cons, List.map_nil]); first | done | rfl | (simp only [List.length_drop, List.length_take]; rfl) | (simp only [gt_iff_lt, Int.ofNat_lt]; rfl)) ?_; (with_reducible refine (fns_Times.calls kj2 a0_0 a0_1 a1_0 a1_1 a1_2 _ _ l1_3 t565 t566 t567 t568 t571 _ ?side1 ?side2 ?side3 A14.out).mono ?_); (case side1 => exact LaidW.below HLT.out (by repeat (first | (with_reducible first | exact HB.out | apply below_alloc | apply pw_below_drewN | apply below_drew1 | refine below_set ?_ GE562.out | refine below_set ?_ GE563.out) | exact HB.out))); (case side2 => repeat (first | exact (Kd.C_below HR1_3.out HB.out) | (with_reducible refine Kd.C_alloc ?_ _) | (with_reducible refine Kd.C_drewN ?_ _) | (with_reducible refine Kd.C_drew ?_))); (case side3 => exact HC1_3.out); rintro e w19 ⟨v569, rfl, ho0, hb⟩; refine ⟨_, rfl, ?_⟩; have HO570 := Aside0.mk (Kd.R_lower (Kd.R_newB ho0 (g := gb563) (o := .cells #[.int .i64 a1_0, .int .i64 a1_1, .string a1_2, .slice A1_3 l1_3.length c1_3] 24 (0, 0)) (up_b BK563)) (below_size (by repeat (first | (with_reducible first | exact HB.out | apply below_alloc | apply pw_below_drewN | apply below_drew1 | refine below_set ?_ GE562.out | refine below_set ?_ GE563.out) | exact HB.out)))); replace BK562 := ca_b BK562 hb; replace BK563 := ca_b BK563 hb; replace HB := Aside0.mk (below_step (by repeat (first | (with_reducible first | exact HB.out | apply below_alloc | apply pw_below_drewN | apply below_drew1 | refine below_set ?_ GE562.out | refine below_set ?_ GE563.out) | exact HB.out)) hb); (try clear hb); (try clear hb2); (try clear hk); (try clear hi); (try clear ho0)) | ((with_reducible refine gate_dst (N := 8) rfl ?_); refine box_event ?hg (N := 8) ?hd (cs := #[.int .i64 0, .int .i64 0, .string (⟨#[]⟩ : ByteArray), .slice none 0 0]) (t := 24) ?hr ?_; (case hd => rfl); (case hg => rfl); (case hr => first | (go_simp; done) | (go_simp; rfl)); intro gb572 hg w20 hbox hb; have BK572 := Aside0.mk (hbox); have GW572 := Aside0.mk ((by rw [hg]; exact (below_size (by repeat (first | (with_reducible first | exact HB.out | apply below_alloc | apply pw_below_drewN | apply below_drew1 | refine below_set ?_ GE562.out | refine below_set ?_ GE563.out) | exact HB.out))) : w.heap.size ≤ gb572)); have GE572 := Aside0.mk ((by rw [hg]; exact (below_size (by repeat (first | (with_reducible first | exact HB.out | apply below_alloc | apply pw_below_drewN | apply below_drew1 | refine below_set ?_ GE562.out | refine below_set ?_ GE563.out) | exact HB.out))) : w.heap.size ≤ gb572)); have NB562_572 := bx_n (up_b BK562) hg; have NB572_562 := bx_m (up_b BK562) hg; have NB563_572 := bx_n (up_b BK563) hg; have NB572_563 := bx_m (up_b BK563) hg; replace HO570 := Aside0.mk (Kd.R_below (Kd.R_elderB (up_r HO570) gb572 (Nat.le_of_eq hg.symm)) hb); replace BK562 := ca_b BK562 hb; replace BK563 := ca_b BK563 hb; replace HB := Aside0.mk (below_step (by repeat (first | (with_reducible first | exact HB.out | apply below_alloc | apply pw_below_drewN | apply below_drew1 | refine below_set ?_ GE562.out | refine below_set ?_ GE563.out) | exact HB.out)) hb); clear hb hbox hg; have hnb21 := NB572_562.out; have hnc21 := NB562_572.out; have hnb22 := NB572_563.out; have hnc22 := NB563_572.out; obtain ⟨hcz23_0, hcz23_1, hcz23_2, hcz23_3, hfz23_0, hfz23_1, hfz23_2, hfz23_3⟩ := bk4 BK572; obtain ⟨Ao24, co24, eo24⟩ := Kd.R_slice HO570.out; subst eo24; obtain ⟨hcz25_0, hcz25_1, hcz25_2, hcz25_3, hfz25_0, hfz25_1, hfz25_2, hfz25_3⟩ := bk4 BK563) | ((with_reducible refine gate_callee (f := 17) rfl ?_); refine goesL_ (some 48) rfl rfl Tryd.func17 (by kernel_rfl) rfl #[.int .i64 a0_0, .int .i64 (wrap64 (a0_1 + a0_2)), .agg #[.int .i64 a1_0, .int .i64 a1_1, .string a1_2, .slice A1_3 l1_3.length c1_3]] rfl (by (try simp only [List.map_toArray, List.map_cons, List.map_nil]); first | done | rfl | (simp only [List.length_drop, List.length_take]; rfl) | (simp only [gt_iff_lt, Int.ofNat_lt]; rfl)) ?_; (with_reducible refine (fns_Times.calls kj2 a0_0 (wrap64 (a0_1 + a0_2)) a1_0 a1_1 a1_2 _ _ l1_3 t573 t574 t575 t576 t579 _ ?side1 ?side2 ?side3 A15.out).mono ?_); (case side1 => exact LaidW.below HLT.out (by repeat (first | (with_reducible first | exact HB.out | apply below_alloc | apply pw_below_drewN | apply below_drew1 | refine below_set ?_ GE562.out | refine below_set ?_ GE563.out | refine below_set ?_ GE572.out) | exact HB.out))); (case side2 => exact Kd.C_below HR1_3.out (by repeat (first | (with_reducible first | exact HB.out | apply below_alloc | apply pw_below_drewN | apply below_drew1 | refine below_set ?_ GE562.out | refine below_set ?_ GE563.out | refine below_set ?_ GE572.out) | exact HB.out))); (case side3 => exact HC1_3.out); rintro e w26 ⟨v577, rfl, ho0, hb⟩; refine ⟨_, rfl, ?_⟩; have HO578 := Aside0.mk (Kd.R_lower (Kd.R_newB (Kd.R_newB (Kd.R_new' ho0 (Kd.R_lt (by (with_reducible repeat (first | apply Kd.R_alloc | apply Kd.R_drewN | apply Kd.R_drew)); exact (Kd.R_mono (fa4_r HO570 (fun _ hk => hk.2)) (fun _ h_ => h_.1))))) (g := gb563) (o := .cells #[.int .i64 a1_0, .int .i64 a1_1, .string a1_2, .slice A1_3 l1_3.length c1_3] 24 (0, 0)) (sb_b BK563 NB563_572)) (g := gb572) (o := .cells #[.int .i64 t565, .int .i64 t566, .string t567, .slice Ao24 t568.length co24] 24 (0, 0)) (pu4 BK572)) (below_size (by repeat (first | (with_reducible first | exact HB.out | apply below_alloc | apply pw_below_drewN | apply below_drew1 | refine below_set ?_ GE562.out | refine below_set ?_ GE563.out | refine below_set ?_ GE572.out) | exact HB.out)))); replace HO570 := Aside0.mk (Kd.R_elder' (by (with_reducible repeat (first | apply Kd.R_alloc | apply Kd.R_drewN | apply Kd.R_drew)); exact (Kd.R_mono (fa4_r HO570 (fun _ hk => hk.2)) (fun _ h_ => h_.1))) (Kd.R_base ho0) hb); replace BK562 := cs_b BK562 NB562_572 hb; replace BK563 := cs_b BK563 NB563_572 hb; replace BK572 := Aside0.mk (blk_below (g := gb572) (o := .cells #[.int .i64 t565, .int .i64 t566, .string t567, .slice Ao24 t568.length co24] 24 (0, 0)) (pu4 BK572) hb); replace HB := Aside0.mk (below_step (by repeat (first | (with_reducible first | exact HB.out | apply below_alloc | apply pw_below_drewN | apply below_drew1 | refine below_set ?_ GE562.out | refine below_set ?_ GE563.out | refine below_set ?_ GE572.out) | exact HB.out)) hb); (try clear hb); (try clear hb2); (try clear hk); (try clear hi); (try clear ho0)) | ((with_reducible refine gate_dst (N := 10) rfl ?_); refine box_event ?hg (N := 10) ?hd (cs := #[.int .i64 0, .int .i64 0, .string (⟨#[]⟩ : ByteArray), .slice none 0 0]) (t := 24) ?hr ?_; (case hd => rfl); (case hg => rfl); (case hr => first | (go_simp; done) | (go_simp; rfl)); intro gb580 hg w27 hbox hb; have BK580 := Aside0.mk (hbox); have GW580 := Aside0.mk ((by rw [hg]; exact (below_size (by repeat (first | (with_reducible first | exact HB.out | apply below_alloc | apply pw_below_drewN | apply below_drew1 | refine below_set ?_ GE562.out | refine below_set ?_ GE563.out | refine below_set ?_ GE572.out) | exact HB.out))) : w.heap.size ≤ gb580)); have GE580 := Aside0.mk ((by rw [hg]; exact (below_size (by repeat (first | (with_reducible first | exact HB.out | apply below_alloc | apply pw_below_drewN | apply below_drew1 | refine below_set ?_ GE562.out | refine below_set ?_ GE563.out | refine below_set ?_ GE572.out) | exact HB.out))) : w.heap.size ≤ gb580)); have NB562_580 := bx_n (up_b BK562) hg; have NB580_562 := bx_m (up_b BK562) hg; have NB563_580 := bx_n (up_b BK563) hg; have NB580_563 := bx_m (up_b BK563) hg; have NB572_580 := bx_n (up_b BK572) hg; have NB580_572 := bx_m (up_b BK572) hg; replace HO570 := Aside0.mk (Kd.R_below (Kd.R_elderB (up_r HO570) gb580 (Nat.le_of_eq hg.symm)) hb); replace HO578 := Aside0.mk (Kd.R_below (Kd.R_elderB (up_r HO578) gb580 (Nat.le_of_eq hg.symm)) hb); replace BK562 := ca_b BK562 hb; replace BK563 := ca_b BK563 hb; replace BK572 := ca_b BK572 hb; replace HB := Aside0.mk (below_step (by repeat (first | (with_reducible first | exact HB.out | apply below_alloc | apply pw_below_drewN | apply below_drew1 | refine below_set ?_ GE562.out | refine below_set ?_ GE563.out | refine below_set ?_ GE572.out) | exact HB.out)) hb); clear hb hbox hg; have hnb28 := NB580_562.out; have hnc28 := NB562_580.out; have hnb29 := NB580_563.out; have hnc29 := NB563_580.out; have hnb30 := NB580_572.out; have hnc30 := NB572_580.out; obtain ⟨hcz31_0, hcz31_1, hcz31_2, hcz31_3, hfz31_0, hfz31_1, hfz31_2, hfz31_3⟩ := bk4 BK580; obtain ⟨Ao32, co32, eo32⟩ := Kd.R_slice HO578.out; subst eo32))
    (try simp only [Act.put, List.setIfInBounds_toArray, List.set_cons_zero, List.set_cons_succ])
    go_cut [56] (fun v56 wc => ∃ (kq : Nat) (x56_15 : Bool), v56 = .bool x56_15 ∧ Aside0 (spinneylaw05_FnsMore.j1 kq a0_0 a0_2 t571 t579 x56_15 t565 t566 t567 t568 t573 t574 t575 t576 = some r) ∧ Aside0 (kq ≤ kj2) ∧ Aside0 (Kd.R k24 24 wc w.heap.size (fun k_ => some k_ ≠ ((.slice Ao32 t576.length co32) : Value).ownBlock ∧ k_ ≠ gb563 ∧ k_ ≠ gb572 ∧ k_ ≠ gb580) (.slice Ao24 t568.length co24) t568) ∧ Aside0 (Kd.R k24 24 wc w.heap.size (fun k_ => some k_ ≠ ((.slice Ao24 t568.length co24) : Value).ownBlock ∧ k_ ≠ gb563 ∧ k_ ≠ gb572 ∧ k_ ≠ gb580) (.slice Ao32 t576.length co32) t576) ∧ Aside0 (wc.heap[gb562]? = some (.cells #[.int .i64 a0_0, .int .i64 a0_1, .int .i64 a0_2] 47 (0, 0))) ∧ Aside0 (wc.heap[gb563]? = some (.cells #[.int .i64 a1_0, .int .i64 a1_1, .string a1_2, (.slice A1_3 l1_3.length c1_3)] 24 (0, 0))) ∧ Aside0 (wc.heap[gb572]? = some (.cells #[.int .i64 t565, .int .i64 t566, .string t567, (.slice Ao24 t568.length co24)] 24 (0, 0))) ∧ Aside0 (wc.heap[gb580]? = some (.cells #[.int .i64 t573, .int .i64 t574, .string t575, (.slice Ao32 t576.length co32)] 24 (0, 0))) ∧ Aside0 (Below w.heap.size w wc))
    case first =>
     have H := HC16.out
     clear HC16
     by_cases c33 : t571 = 0
     ·rw [if_pos c33] at H
      have c33b0 : (t571 == 0) = true := beq_iff_eq.mpr c33
      have c33b1 : (t571 != 0) = false := bne_eq_false_iff_eq.mpr c33
      clear c33
      (first | rw [c33b0] | (simp only [i64_w, i32_w]; rw [c33b0]) | skip)
      have H' := Aside0.mk H
      clear H
      go_wp2
      go_meet
      case rel => exact ⟨_, ((t579 != 0)), (by first | rfl | (simp; done) | (simp [*]; done)), H', ⟨by have := HJ2.out; first | omega | exact Nat.le_refl _⟩, ⟨by (with_reducible repeat (first | apply Kd.R_alloc | apply Kd.R_drewN | apply Kd.R_drew)); exact Kd.R_mono (fa4_r HO570 (fun _ hk => hk.2)) (fun _ hk => ⟨hk.1.1.2, ⟨hk.1.1.1.1.2, ⟨hk.1.1.1.2, hk.1.2⟩⟩⟩)⟩, ⟨by (with_reducible repeat (first | apply Kd.R_alloc | apply Kd.R_drewN | apply Kd.R_drew)); exact Kd.R_mono (fa4_r HO578 (fun _ hk => hk.2)) (fun _ hk => ⟨hk.1.1.1.1.2, ⟨hk.1.1.1.2, ⟨hk.1.1.2, hk.1.2⟩⟩⟩)⟩, ⟨sb_b BK562 NB562_580⟩, ⟨sb_b BK563 NB563_580⟩, ⟨sb_b BK572 NB572_580⟩, ⟨pu4 BK580⟩, ⟨by repeat (first | (with_reducible first | exact HB.out | apply below_alloc | apply pw_below_drewN | apply below_drew1 | refine below_set ?_ GE562.out | refine below_set ?_ GE563.out | refine below_set ?_ GE572.out | refine below_set ?_ GE580.out) | exact HB.out)⟩⟩
     ·rw [if_neg c33] at H
      have c33b0 : (t571 == 0) = false := beq_eq_false_iff_ne.mpr c33
      have c33b1 : (t571 != 0) = true := bne_iff_ne.mpr c33
      (first | rw [c33b0] | (simp only [i64_w, i32_w]; rw [c33b0]) | skip)
      have H' := Aside0.mk H
      clear H
      go_wp2
      go_meet
      case rel => exact ⟨_, (true), (by first | rfl | (simp; done) | (simp [*]; done)), H', ⟨by have := HJ2.out; first | omega | exact Nat.le_refl _⟩, ⟨by (with_reducible repeat (first | apply Kd.R_alloc | apply Kd.R_drewN | apply Kd.R_drew)); exact Kd.R_mono (fa4_r HO570 (fun _ hk => hk.2)) (fun _ hk => ⟨hk.1.1.2, ⟨hk.1.1.1.1.2, ⟨hk.1.1.1.2, hk.1.2⟩⟩⟩)⟩, ⟨by (with_reducible repeat (first | apply Kd.R_alloc | apply Kd.R_drewN | apply Kd.R_drew)); exact Kd.R_mono (fa4_r HO578 (fun _ hk => hk.2)) (fun _ hk => ⟨hk.1.1.1.1.2, ⟨hk.1.1.1.2, ⟨hk.1.1.2, hk.1.2⟩⟩⟩)⟩, ⟨sb_b BK562 NB562_580⟩, ⟨sb_b BK563 NB563_580⟩, ⟨sb_b BK572 NB572_580⟩, ⟨pu4 BK580⟩, ⟨by repeat (first | (with_reducible first | exact HB.out | apply below_alloc | apply pw_below_drewN | apply below_drew1 | refine below_set ?_ GE562.out | refine below_set ?_ GE563.out | refine below_set ?_ GE572.out | refine below_set ?_ GE580.out) | exact HB.out)⟩⟩
    case rest =>
     clear HC16
     try clear c1
     try clear c2
     try clear p2
     try clear c3
     try clear c6
     try clear p6
     try clear c7
     try clear c8
     try clear c8b0
     try clear c9
     try clear c9b0
     try clear c10
     try clear c10b0
     try clear c11
     try clear c17
     try clear c21
     try clear c22
     try clear c28
     try clear c29
     try clear c30
     try clear c33
     try clear c33b0
     try clear c33b1
     try clear hcz18_0
     try clear hcz18_1
     try clear hcz18_2
     try clear hcz18_3
     try clear hcz23_0
     try clear hcz23_1
     try clear hcz23_2
     try clear hcz23_3
     try clear hcz25_0
     try clear hcz25_1
     try clear hcz25_2
     try clear hcz25_3
     try clear hcz31_0
     try clear hcz31_1
     try clear hcz31_2
     try clear hcz31_3
     try clear hcz7_0
     try clear hcz7_1
     try clear hcz7_2
     try clear hfz18_0
     try clear hfz18_1
     try clear hfz18_2
     try clear hfz18_3
     try clear hfz23_0
     try clear hfz23_1
     try clear hfz23_2
     try clear hfz23_3
     try clear hfz25_0
     try clear hfz25_1
     try clear hfz25_2
     try clear hfz25_3
     try clear hfz31_0
     try clear hfz31_1
     try clear hfz31_2
     try clear hfz31_3
     try clear hfz7_0
     try clear hfz7_1
     try clear hfz7_2
     try clear p2
     obtain ⟨kq, x56_15, rfl, HA, HJ15, HO_573003, HO_581003, BK562, BK563, BK572, BK580, HB⟩ := hcut
     cases kq with
     | zero => exact absurd HA.out (by simp [spinneylaw05_FnsMore.j1])
     | succ kj15 =>
      have H := HA.out
      clear HA
      simp only [spinneylaw05_FnsMore.j1] at H
      by_cases c34 : x56_15 = true
      ·subst c34
       have H1 : (if t571 = t579 then ((spinneylaw05_speaks.f kj15).bind fun t581 => (some t581)) else (none)) = some r := by rw [if_pos rfl] at H; exact H
       clear H
       have H := H1
       clear H1
       by_cases c35 : t571 = t579
       ·rw [if_pos c35] at H
        have c35b0 : (t571 == t579) = true := beq_iff_eq.mpr c35
        have c35b1 : (t571 != t579) = false := bne_eq_false_iff_eq.mpr c35
        clear c35
        replace H := Option.bind_eq_some_iff.mp H
        obtain ⟨t581, A360, H⟩ := H
        replace H : (some t581) = some r := H
        have A36 := Aside0.mk A360
        clear A360
        obtain rfl := Option.some.inj H
        go_wp2_with (first | (go_at_call 10; (with_reducible refine (spinneylaw05_speaks.calls kj15  t581 _ ?side1 A36.out).mono ?_); (case side1 => exact LaidW.below HLT.out (up_h HB)); rintro e w37 ⟨rfl, hb⟩; replace HO_573003 := ca_r HO_573003 hb; replace HO_581003 := ca_r HO_581003 hb; replace BK562 := ca_b BK562 hb; replace BK563 := ca_b BK563 hb; replace BK572 := ca_b BK572 hb; replace BK580 := ca_b BK580 hb; replace HB := ca_h HB hb; (try clear hb); (try clear hb2); (try clear hk); (try clear hi)))
        go_ret
        exact ⟨by first | rfl | (simp [errW_none, errW_some] <;> rfl) | (simp [*, errW_none, errW_some] <;> rfl), by repeat (first | (with_reducible first | exact HB.out | apply below_alloc | apply pw_below_drewN | apply below_drew1 | refine below_set ?_ GE562.out | refine below_set ?_ GE563.out | refine below_set ?_ GE572.out | refine below_set ?_ GE580.out) | exact HB.out)⟩
       ·rw [if_neg c35] at H
        exact absurd H (by simp)
      ·replace c34 := Bool.eq_false_iff.mpr c34
       subst c34
       have H1 : ((fns_Times.f kj15 a0_0 a0_2 t565 t566 t567 t568).bind fun bt582 => (if bt582.2.2.2.2 = 0 then ((spinneyplain_Value.f kj15 t573 t574 t575 t576 bt582.1 bt582.2.1 bt582.2.2.1 bt582.2.2.2.1).bind fun t590 => (if t590 = true then ((spinneylaw05_speaks.f kj15).bind fun t591 => (some t591)) else (none))) else (none))) = some r := by rw [if_neg (show ¬ (false = true) by decide)] at H; exact H
       clear H
       have H := H1
       clear H1
       replace H := Option.bind_eq_some_iff.mp H
       obtain ⟨⟨t582, t583, t584, t585, t588⟩, A380, H⟩ := H
       replace H : (if t588 = 0 then ((spinneyplain_Value.f kj15 t573 t574 t575 t576 t582 t583 t584 t585).bind fun t590 => (if t590 = true then ((spinneylaw05_speaks.f kj15).bind fun t591 => (some t591)) else (none))) else (none)) = some r := H
       have A38 := Aside0.mk A380
       clear A380
       by_cases c39 : t588 = 0
       ·rw [if_pos c39] at H
        have c39b0 : (t588 == 0) = true := beq_iff_eq.mpr c39
        have c39b1 : (t588 != 0) = false := bne_eq_false_iff_eq.mpr c39
        clear c39
        replace H := Option.bind_eq_some_iff.mp H
        obtain ⟨t590, A400, H⟩ := H
        replace H : (if t590 = true then ((spinneylaw05_speaks.f kj15).bind fun t591 => (some t591)) else (none)) = some r := H
        have A40 := Aside0.mk A400
        clear A400
        by_cases c41 : t590 = true
        ·subst c41
         have H1 : ((spinneylaw05_speaks.f kj15).bind fun t591 => (some t591)) = some r := by rw [if_pos rfl] at H; exact H
         clear H
         have H := H1
         clear H1
         replace H := Option.bind_eq_some_iff.mp H
         obtain ⟨t591, A420, H⟩ := H
         replace H : (some t591) = some r := H
         have A42 := Aside0.mk A420
         clear A420
         obtain rfl := Option.some.inj H
         have hnb43 := NB572_562.out
         have hnc43 := NB562_572.out
         have hnb44 := NB572_563.out
         have hnc44 := NB563_572.out
         have hnb45 := NB572_580.out
         have hnc45 := NB580_572.out
         have hcz46_0 : wc.cell? ⟨gb572, 0, none⟩ = some (.int .i64 t565) := (blk_cell BK572.out 0).trans rfl; have hcz46_1 : wc.cell? ⟨gb572, 1, none⟩ = some (.int .i64 t566) := (blk_cell BK572.out 1).trans rfl; have hcz46_2 : wc.cell? ⟨gb572, 2, none⟩ = some (.string t567) := (blk_cell BK572.out 2).trans rfl; have hcz46_3 : wc.cell? ⟨gb572, 3, none⟩ = some (.slice Ao24 t568.length co24) := (blk_cell BK572.out 3).trans rfl; have hfz46_0 := blk_frozen BK572.out 0; have hfz46_1 := blk_frozen BK572.out 1; have hfz46_2 := blk_frozen BK572.out 2; have hfz46_3 := blk_frozen BK572.out 3
         go_wp2_with (first | ((with_reducible refine gate_callee (f := 17) rfl ?_); refine goesL_ (some 67) rfl rfl Tryd.func17 (by kernel_rfl) rfl #[.int .i64 a0_0, .int .i64 a0_2, .agg #[.int .i64 t565, .int .i64 t566, .string t567, .slice Ao24 t568.length co24]] rfl (by (try simp only [List.map_toArray, List.map_cons, List.map_nil]); first | done | rfl | (simp only [List.length_drop, List.length_take]; rfl) | (simp only [gt_iff_lt, Int.ofNat_lt]; rfl)) ?_; (with_reducible refine (fns_Times.calls kj15 a0_0 a0_2 t565 t566 t567 _ _ t568 t582 t583 t584 t585 t588 _ ?side1 ?side2 ?side3 A38.out).mono ?_); (case side1 => exact LaidW.below HLT.out (up_h HB)); (case side2 => repeat (first | exact (Kd.R_reads' HO_573003.out).2.2 | (with_reducible refine Kd.C_alloc ?_ _) | (with_reducible refine Kd.C_drewN ?_ _) | (with_reducible refine Kd.C_drew ?_))); (case side3 => exact (Kd.R_reads' HO_573003.out).2.1); rintro e w47 ⟨v586, rfl, ho0, hb⟩; refine ⟨_, rfl, ?_⟩; have HO587 := Aside0.mk (Kd.R_lower (Kd.R_newB (Kd.R_newB (Kd.R_newB (Kd.R_new' (Kd.R_new' ho0 (Kd.R_lt (up_r HO_573003))) (Kd.R_lt (up_r HO_581003))) (g := gb563) (o := .cells #[.int .i64 a1_0, .int .i64 a1_1, .string a1_2, .slice A1_3 l1_3.length c1_3] 24 (0, 0)) (up_b BK563)) (g := gb572) (o := .cells #[.int .i64 t565, .int .i64 t566, .string t567, .slice Ao24 t568.length co24] 24 (0, 0)) (up_b BK572)) (g := gb580) (o := .cells #[.int .i64 t573, .int .i64 t574, .string t575, .slice Ao32 t576.length co32] 24 (0, 0)) (up_b BK580)) (below_size (up_h HB))); replace HO_573003 := Aside0.mk (Kd.R_elder' (up_r HO_573003) (Kd.R_base ho0) hb); replace HO_581003 := Aside0.mk (Kd.R_elder' (up_r HO_581003) (Kd.R_base ho0) hb); replace BK562 := ca_b BK562 hb; replace BK563 := ca_b BK563 hb; replace BK572 := ca_b BK572 hb; replace BK580 := ca_b BK580 hb; replace HB := ca_h HB hb; (try clear hb); (try clear hb2); (try clear hk); (try clear hi); (try clear ho0)) | ((with_reducible refine gate_dst (N := 12) rfl ?_); refine box_event ?hg (N := 12) ?hd (cs := #[.int .i64 0, .int .i64 0, .string (⟨#[]⟩ : ByteArray), .slice none 0 0]) (t := 24) ?hr ?_; (case hd => rfl); (case hg => rfl); (case hr => first | (go_simp; done) | (go_simp; rfl)); intro gb589 hg w48 hbox hb; have BK589 := Aside0.mk (hbox); have GW589 := bx_g (up_h HB) hg; have GE589 := bx_g (up_h HB) hg; have NB562_589 := bx_n (up_b BK562) hg; have NB589_562 := bx_m (up_b BK562) hg; have NB563_589 := bx_n (up_b BK563) hg; have NB589_563 := bx_m (up_b BK563) hg; have NB572_589 := bx_n (up_b BK572) hg; have NB589_572 := bx_m (up_b BK572) hg; have NB580_589 := bx_n (up_b BK580) hg; have NB589_580 := bx_m (up_b BK580) hg; replace HO_573003 := Aside0.mk (Kd.R_below (Kd.R_elderB (up_r HO_573003) gb589 (Nat.le_of_eq hg.symm)) hb); replace HO_581003 := Aside0.mk (Kd.R_below (Kd.R_elderB (up_r HO_581003) gb589 (Nat.le_of_eq hg.symm)) hb); replace HO587 := Aside0.mk (Kd.R_below (Kd.R_elderB (up_r HO587) gb589 (Nat.le_of_eq hg.symm)) hb); replace BK562 := ca_b BK562 hb; replace BK563 := ca_b BK563 hb; replace BK572 := ca_b BK572 hb; replace BK580 := ca_b BK580 hb; replace HB := ca_h HB hb; clear hb hbox hg; have hnb49 := NB589_562.out; have hnc49 := NB562_589.out; have hnb50 := NB589_563.out; have hnc50 := NB563_589.out; have hnb51 := NB589_572.out; have hnc51 := NB572_589.out; have hnb52 := NB589_580.out; have hnc52 := NB580_589.out; obtain ⟨hcz53_0, hcz53_1, hcz53_2, hcz53_3, hfz53_0, hfz53_1, hfz53_2, hfz53_3⟩ := bk4 BK589; obtain ⟨Ao54, co54, eo54⟩ := Kd.R_slice HO587.out; subst eo54; have hnb55 := NB580_562.out; have hnc55 := NB562_580.out; have hnb56 := NB580_563.out; have hnc56 := NB563_580.out; obtain ⟨hcz57_0, hcz57_1, hcz57_2, hcz57_3, hfz57_0, hfz57_1, hfz57_2, hfz57_3⟩ := bk4 BK580) | (go_at_call 13; (with_reducible refine (spinneyplain_Value.calls kj15 t573 t574 t575 _ _ t576 t582 t583 t584 _ _ t585 true _ ?side1 ?side2 ?side3 ?side4 A40.out).mono ?_); (case side1 => refine (Kd.R_reads' (e := 24) (base := w.heap.size) (ok := fun k_ => (((some k_ ≠ (.slice Ao24 t568.length co24 : Value).ownBlock ∧ (k_ ≠ gb563 ∧ (k_ ≠ gb572 ∧ k_ ≠ gb580))) ∧ some k_ ≠ (.slice Ao54 t585.length co54 : Value).ownBlock) ∧ k_ ≠ gb589)) (n := t576.length) (c := co32) ?_).2.2; exact (by (with_reducible repeat (first | apply Kd.R_alloc | apply Kd.R_drewN | apply Kd.R_drew)); exact (Kd.R_mono (fa4_r HO_581003 (fun _ hk => hk.2)) (fun _ h_ => h_.1)))); (case side2 => exact (Kd.R_reads' HO_581003.out).2.1); (case side3 => refine (Kd.R_reads' (e := 24) (base := w.heap.size) (ok := fun k_ => ((((((True ∧ some k_ ≠ (.slice Ao24 t568.length co24 : Value).ownBlock) ∧ some k_ ≠ (.slice Ao32 t576.length co32 : Value).ownBlock) ∧ k_ ≠ gb563) ∧ k_ ≠ gb572) ∧ k_ ≠ gb580) ∧ k_ ≠ gb589)) (n := t585.length) (c := co54) ?_).2.2; exact (by (with_reducible repeat (first | apply Kd.R_alloc | apply Kd.R_drewN | apply Kd.R_drew)); exact (Kd.R_mono (fa4_r HO587 (fun _ hk => hk.2)) (fun _ h_ => h_.1)))); (case side4 => exact (Kd.R_reads' HO587.out).2.1); rintro e w58 ⟨rfl, hb⟩; replace HO_573003 := Aside0.mk (Kd.R_below (by (with_reducible repeat (first | apply Kd.R_alloc | apply Kd.R_drewN | apply Kd.R_drew)); exact (Kd.R_mono (fa4_r HO_573003 (fun _ hk => hk.2)) (fun _ h_ => h_.1))) hb); replace HO_581003 := Aside0.mk (Kd.R_below (by (with_reducible repeat (first | apply Kd.R_alloc | apply Kd.R_drewN | apply Kd.R_drew)); exact (Kd.R_mono (fa4_r HO_581003 (fun _ hk => hk.2)) (fun _ h_ => h_.1))) hb); replace HO587 := Aside0.mk (Kd.R_below (by (with_reducible repeat (first | apply Kd.R_alloc | apply Kd.R_drewN | apply Kd.R_drew)); exact (Kd.R_mono (fa4_r HO587 (fun _ hk => hk.2)) (fun _ h_ => h_.1))) hb); replace BK562 := cs_b BK562 NB562_589 hb; replace BK563 := cs_b BK563 NB563_589 hb; replace BK572 := cs_b BK572 NB572_589 hb; replace BK580 := cs_b BK580 NB580_589 hb; replace BK589 := Aside0.mk (blk_below (g := gb589) (o := .cells #[.int .i64 t582, .int .i64 t583, .string t584, .slice Ao54 t585.length co54] 24 (0, 0)) (pu4 BK589) hb); replace HB := cs_h HB GE589 hb; (try clear hb); (try clear hb2); (try clear hk); (try clear hi)) | (go_at_call 10; (with_reducible refine (spinneylaw05_speaks.calls kj15  t591 _ ?side1 A42.out).mono ?_); (case side1 => exact LaidW.below HLT.out (up_h HB)); rintro e w59 ⟨rfl, hb⟩; replace HO_573003 := ca_r HO_573003 hb; replace HO_581003 := ca_r HO_581003 hb; replace HO587 := ca_r HO587 hb; replace BK562 := ca_b BK562 hb; replace BK563 := ca_b BK563 hb; replace BK572 := ca_b BK572 hb; replace BK580 := ca_b BK580 hb; replace BK589 := ca_b BK589 hb; replace HB := ca_h HB hb; (try clear hb); (try clear hb2); (try clear hk); (try clear hi)))
         go_ret
         exact ⟨by first | rfl | (simp [errW_none, errW_some] <;> rfl) | (simp [*, errW_none, errW_some] <;> rfl), by repeat (first | (with_reducible first | exact HB.out | apply below_alloc | apply pw_below_drewN | apply below_drew1 | refine below_set ?_ GE562.out | refine below_set ?_ GE563.out | refine below_set ?_ GE572.out | refine below_set ?_ GE580.out | refine below_set ?_ GE589.out) | exact HB.out)⟩
        ·replace c41 := Bool.eq_false_iff.mpr c41
         subst c41
         have H1 : (none) = some r := by rw [if_neg (show ¬ (false = true) by decide)] at H; exact H
         clear H
         have H := H1
         clear H1
         exact absurd H (by simp)
       ·rw [if_neg c39] at H
        exact absurd H (by simp)

end Go.Proofs.YtgmmoagclkmeaaaDoor.XH
end
section
namespace Go.Proofs.YtgmmoagclkmeaaaDoor.XH
open Go.RowKit Go.Proofs.YtgmmoagclkmeaaaDoorW.PrintWords Go.Proofs.YtgmmoagclkmeaaaDoorW.PrintLast Go.Proofs.YtgmmoagclkmeaaaDoorW.PrintMore
attribute [local go_sem] max2_int min2_int max_two min_two max_three min_three max_four min_four   -- for this text's walks alone
set_option linter.unusedVariables false
set_option linter.unusedSimpArgs false

theorem u8_of {n : Nat} {z : Int} (h : z = (n : Int)) : z.toNat.toUInt8 = UInt8.ofNat n := by
 subst h
 simp
theorem enc_list (r : Int) (h0 : 0 ≤ r) (h1 : r ≤ 1114111) (hv : r < 55296 ∨ 57343 < r) : (Utf8.encode r).data.toList = Lib.encodeRune r := by
 have hval : Utf8.valid r = true := by
  unfold Utf8.valid
  simp only [Bool.or_eq_true, Bool.and_eq_true, decide_eq_true_eq]
  omega
 obtain ⟨n, rfl⟩ : ∃ n : Nat, r = n := ⟨r.toNat, by omega⟩
 unfold Utf8.encode Lib.encodeRune
 simp only [hval, if_true, Int.toNat_natCast]
 by_cases c1 : n < 128
 ·rw [if_pos c1, Lib.encodeRuneZ_one (by omega) (by omega)]
  simp only [List.map_cons, List.map_nil]
  rw [u8_of (n := n) rfl]
 rw [if_neg c1]
 by_cases c2 : n < 2048
 ·rw [if_pos c2, Lib.encodeRuneZ_two (by omega) (by omega)]
  simp only [List.map_cons, List.map_nil]
  rw [u8_of (n := 192 + n / 64) (by omega), u8_of (n := 128 + n % 64) (by omega)]
 rw [if_neg c2]
 by_cases c3 : n < 65536
 ·rw [if_pos c3, Lib.encodeRuneZ_three (by omega)]
  simp only [List.map_cons, List.map_nil]
  rw [u8_of (n := 224 + n / 4096) (by omega), u8_of (n := 128 + n / 64 % 64) (by omega), u8_of (n := 128 + n % 64) (by omega)]
 ·rw [if_neg c3, Lib.encodeRuneZ_four (by omega) (by omega)]
  simp only [List.map_cons, List.map_nil]
  rw [u8_of (n := 240 + n / 262144) (by omega), u8_of (n := 128 + n / 4096 % 64) (by omega), u8_of (n := 128 + n / 64 % 64) (by omega), u8_of (n := 128 + n % 64) (by omega)]
theorem dec_valid (s : ByteArray) (p : Nat) : (Utf8.decode s p).1 < 55296 ∨ 57343 < (Utf8.decode s p).1 := by
 rw [Lib.decode_at]
 have k0 := (s.get! p).toNat_lt
 rcases Lib.decodeN_shape (s.size - p) (s.get! p).toNat (s.get! (p + 1)).toNat (s.get! (p + 2)).toNat (s.get! (p + 3)).toNat with ⟨c, e⟩ | ⟨c1, c2, c3, cv, e⟩ | ⟨c1, c2, c3, c4, cv, cs, e⟩ | ⟨c1, c2, c3, c4, c5, cv, cw, e⟩ | e
 all_goals (rw [e]; simp only; omega)
theorem enc_first (s : ByteArray) (h : 0 < s.size) (hb : ¬ badD (Utf8.decode s 0)) : Utf8.encode ((Utf8.decode s 0).1 : Int) = s.extract 0 (Utf8.decode s 0).2 := by
 have hl : s.data.toList ≠ [] := by
  intro e
  have h2 : s.data.toList.length = 0 := by rw [e]; rfl
  rw [Array.length_toList] at h2
  have h3 : s.size = s.data.size := rfl
  omega
 have hs : (⟨s.data.toList.toArray⟩ : ByteArray) = s := by cases s; simp
 have hd : Lib.decodeL s.data.toList = Utf8.decode s 0 := by unfold Lib.decodeL; rw [hs]
 have he := Lib.encode_decode s.data.toList hl (by rw [hd]; exact hb)
 rw [hd] at he
 have hr := dec_le s 0
 have hv := dec_valid s 0
 have h1 := enc_list ((Utf8.decode s 0).1 : Int) (by omega) (by omega) (by omega)
 rw [he] at h1
 have h2 : (s.extract 0 (Utf8.decode s 0).2).data.toList = s.data.toList.take (Utf8.decode s 0).2 := by simp
 apply ByteArray.ext
 apply Array.toList_inj.1
 rw [h1, h2]
theorem letters_exact (s : ByteArray) (hS : s.size ≤ 4611686018427387904) (b : Nat) : ∀ (p c : Nat), s.size ≤ p + b → p ≤ s.size + 4 → c ≤ p → utfFrom s b p = true → Ev (fun k => spinneyref01_Letters.l0 k s (c : Int) (p : Int)) ((c + cntFrom s b p : Nat) : Int) := by
 induction b with
 | zero =>
  intro p c h1 h2 h3 _
  refine Ev.step (f := fun _ => some ((c + cntFrom s 0 p : Nat) : Int)) (fun k => ?_) (Ev.now _)
  simp only [spinneyref01_Letters.l0]
  rw [if_neg (by omega)]
  simp [cntFrom]
 | succ b ih =>
  intro p c h1 h2 h3 hu
  by_cases hp : p < s.size
  ·have hd := dec_le s p
   have huf := utf_ev s p hp hS
   rw [utfFrom, if_pos hp] at hu
   rcases utfN_dec s p hp with ⟨e, hb⟩ | ⟨e, h0, hb⟩
   ·rw [if_pos ⟨hb.1, by rw [decodeGo_extract s p hp]; exact hb.2⟩] at hu
    cases hu
   ·have hn : ¬ ((Utf8.decode s p).1 = 65533 ∧ (Lib.decodeGo (s.extract p s.size)).2 = 1) := by
     rintro ⟨g1, g2⟩
     rw [decodeGo_extract s p hp] at g2
     exact hb ⟨g1, g2⟩
    rw [if_neg hn] at hu
    have hr := ih (p + (Utf8.decode s p).2) (c + 1) (by omega) (by omega) (by omega) hu
    rw [show c + cntFrom s (b + 1) p = c + 1 + cntFrom s b (p + (Utf8.decode s p).2) by rw [cntFrom, if_pos hp]; omega]
    refine Ev.step (f := fun k => (spinneyref01_utf.f k s (p : Int)).bind fun t158 => if t158 = 0 then some (-1) else spinneyref01_Letters.l0 k s (wrap64 ((c : Int) + 1)) (wrap64 ((p : Int) + t158))) (fun k => ?_) ?_
    ·simp only [spinneyref01_Letters.l0]
     rw [if_pos (by omega)]
    ·refine huf.bind (f := fun k t158 => if t158 = 0 then some (-1) else spinneyref01_Letters.l0 k s (wrap64 ((c : Int) + 1)) (wrap64 ((p : Int) + t158))) ?_
     rw [e]
     refine Ev.congr (f := fun k => spinneyref01_Letters.l0 k s ((c + 1 : Nat) : Int) ((p + (Utf8.decode s p).2 : Nat) : Int)) (fun k => ?_) hr
     rw [if_neg (by omega), w64 (by omega) (by omega), w64 (by omega) (by omega)]
     rfl
  ·refine Ev.step (f := fun _ => some ((c + cntFrom s (b + 1) p : Nat) : Int)) (fun k => ?_) (Ev.now _)
   simp only [spinneyref01_Letters.l0]
   rw [if_neg (by omega)]
   simp [cntFrom, hp]
theorem letters_is (s : ByteArray) (hS : s.size ≤ 4611686018427387904) (h : utfOk s = true) : Ev (fun k => spinneyref01_Letters.f k s) ((cntFrom s s.size 0 : Nat) : Int) := by
 have := letters_exact s hS s.size 0 0 (by omega) (by omega) (by omega) h
 rwa [Nat.zero_add] at this
theorem utf_notbad (s : ByteArray) (hz : 0 < s.size) (h : utfOk s = true) : ¬ badD (Utf8.decode s 0) := by
 intro hb
 unfold utfOk at h
 obtain ⟨n, hn⟩ : ∃ n, s.size = n + 1 := ⟨s.size - 1, by omega⟩
 rw [hn, utfFrom, if_pos hz, if_pos ⟨hb.1, by rw [decodeGo_extract s 0 hz]; exact hb.2⟩] at h
 cases h
theorem nil_toList : (⟨#[]⟩ : ByteArray).toList = [] := by decide +kernel
theorem size_pos_of {s : ByteArray} (h : s.toList ≠ []) : 0 < s.size := by
 rcases Nat.eq_zero_or_pos s.size with h0 | h0
 ·exact absurd (by obtain ⟨a⟩ := s; have : a = #[] := Array.eq_empty_of_size_eq_zero h0; subst this; exact nil_toList) h
 ·exact h0
def SameEv (a : S24) : Prop := Ev (fun k => spinneyplain_Value.f k a.f0 a.f1 a.f2 a.f3 a.f0 a.f1 a.f2 a.f3) true
theorem same_loop (l : List S24) (hl : l.length ≤ 9223372036854775807) (E : ∀ a ∈ l, SameEv a) (x0 x1 : Int) (x2 : ByteArray) (d : Nat) :
  ∀ i : Nat, l.length - i = d → i ≤ l.length → Ev (fun k => spinneyplain_Value.l0 k (l.length : Int) (i : Int) x0 x1 x2 l x0 x1 x2 l) true := by
 induction d with
 | zero =>
  intro i hd hi
  refine Ev.step (f := fun _ => some true) (fun k => ?_) (Ev.now _)
  simp only [spinneyplain_Value.l0]
  rw [if_neg (by omega)]
 | succ d ih =>
  intro i hd hi
  have hlt : i < l.length := by omega
  have e3 : wrap64 ((i : Int) + 1) = ((i + 1 : Nat) : Int) := by unfold wrap64; omega
  have he : Ev (fun k => spinneyplain_Value.f k (l[i]).f0 (l[i]).f1 (l[i]).f2 (l[i]).f3 (l[i]).f0 (l[i]).f1 (l[i]).f2 (l[i]).f3) true := E _ (List.getElem_mem hlt)
  refine Ev.step (f := fun k => (spinneyplain_Value.f k (l[i]).f0 (l[i]).f1 (l[i]).f2 (l[i]).f3 (l[i]).f0 (l[i]).f1 (l[i]).f2 (l[i]).f3).bind fun t => if t = true then spinneyplain_Value.l0 k (l.length : Int) ((i + 1 : Nat) : Int) x0 x1 x2 l x0 x1 x2 l else some false) (fun k => ?_) ?_
  ·simp only [spinneyplain_Value.l0]
   rw [if_pos (by omega), if_pos (by omega), if_pos (by omega), if_pos (by omega), rd_at l i hlt, e3]
  ·exact he.bind (f := fun k t => if t = true then spinneyplain_Value.l0 k (l.length : Int) ((i + 1 : Nat) : Int) x0 x1 x2 l x0 x1 x2 l else some false) (Ev.congr (f := fun k => spinneyplain_Value.l0 k (l.length : Int) ((i + 1 : Nat) : Int) x0 x1 x2 l x0 x1 x2 l) (fun k => if_pos rfl) (ih (i + 1) (by omega) (by omega)))
theorem same_one (k n : Int) (t : ByteArray) (l : List S24) (hl : l.length ≤ 9223372036854775807) (E : ∀ a ∈ l, SameEv a) : SameEv ⟨k, n, t, l⟩ := by
 show Ev (fun i => spinneyplain_Value.f i k n t l k n t l) true
 have hL := same_loop l hl E k n t l.length 0 (by omega) (by omega)
 refine Ev.step (f := fun i => spinneyplain_Value.j0 i false k n t l k n t l) (fun i => ?_) (Ev.step (f := fun i => spinneyplain_Value.l0 i (l.length : Int) ((0 : Nat) : Int) k n t l k n t l) (fun i => ?_) hL)
 ·simp only [spinneyplain_Value.f, if_true]
  rw [show ((l.length : Int) != (l.length : Int)) = false by simp]
 ·simp only [spinneyplain_Value.j0]
  rw [if_neg (by decide)]; rfl
mutual
theorem same_ev : (a : S24) → WfV a → SameEv a
 | ⟨k, n, t, l⟩, h => same_one k n t l (by simp only [WfV] at h; exact h.2.2.2.1) (same_evL l (by simp only [WfV] at h; exact h.2.2.2.2))
theorem same_evL : (l : List S24) → WfL l → ∀ a ∈ l, SameEv a
 | [], _, a, ha => by cases ha
 | x :: l, h, a, ha => by
  rcases List.mem_cons.1 ha with e | ha
  ·rw [e]; exact same_ev x (by simp only [WfL] at h; exact h.1)
  ·exact same_evL l (by simp only [WfL] at h; exact h.2) a ha
end
theorem ok_shape {k n : Int} {t : ByteArray} {l : List S24} (h : OK ⟨k, n, t, l⟩) : (0 ≤ k ∧ k ≤ 6) ∧ (k = 3 ∨ t = ⟨#[]⟩) ∧ (k = 2 ∨ n = 0 ∨ (k = 1 ∧ n = 1)) ∧ (k = 4 ∨ k = 5 ∨ k = 6 ∨ l = []) ∧ (k = 6 → l.length % 2 = 0) ∧ l.length ≤ 1023 ∧ (k = 3 → t.size ≤ 256 ∧ utfOk t = true) := by
 obtain ⟨h1, h2, h3⟩ := h
 simp only [OkV] at h1
 simp only [partsV] at h3
 obtain ⟨hp, hf, ho⟩ := h1
 obtain ⟨g1, g2, g3, g4⟩ := hp
 have := partsL_len l
 refine ⟨g1, g2.imp id bytes_nil, g3, ?_, ?_, by omega, g4⟩
 ·unfold FormV at hf
  by_cases c4 : k = 4
  ·exact .inl c4
  by_cases c6 : k = 6
  ·exact .inr (.inr (.inl c6))
  by_cases c5 : k = 5
  ·exact .inr (.inl c5)
  ·rw [if_neg c4, if_neg c6, if_neg c5] at hf
   exact .inr (.inr (.inr hf))
 ·intro h6
  unfold FormV at hf
  rw [if_neg (by omega), if_pos h6] at hf
  exact hf.1
theorem ok_int (n : Int) : OK ⟨2, n, ⟨#[]⟩, []⟩ := by
 refine ⟨?_, by simp [deepV, deepL], by simp [partsV, partsL]⟩
 simp only [OkV, OkL, and_true]
 exact ⟨⟨by omega, .inr nil_toList, .inl rfl, fun h => absurd h (by decide)⟩, by unfold FormV; rw [if_neg (by decide), if_neg (by decide), if_neg (by decide)]⟩
theorem ok_nil : OK ⟨0, 0, ⟨#[]⟩, []⟩ := by
 refine ⟨?_, by simp [deepV, deepL], by simp [partsV, partsL]⟩
 simp only [OkV, OkL, and_true]
 exact ⟨⟨by omega, .inr nil_toList, .inr (.inl rfl), fun h => absurd h (by decide)⟩, by unfold FormV; rw [if_neg (by decide), if_neg (by decide), if_neg (by decide)]⟩
theorem wf_int {n : Int} (h : In64 n) : WfV ⟨2, n, ⟨#[]⟩, []⟩ := by
 simp only [WfV, WfL, and_true]
 exact ⟨⟨by decide, by decide⟩, h, Nat.zero_le _, Nat.zero_le _⟩
theorem wf_nil : WfV ⟨0, 0, ⟨#[]⟩, []⟩ := by
 simp only [WfV, WfL, and_true]
 exact ⟨⟨by decide, by decide⟩, ⟨by decide, by decide⟩, Nat.zero_le _, Nat.zero_le _⟩
theorem in64_wrap (n : Int) : In64 (wrap64 n) := by unfold In64 wrap64; omega
mutual
theorem ownV_of : (a : S24) → partsV a ≤ 65536 → OwnV a = true
 | ⟨k, n, t, l⟩, h => by
  simp only [partsV] at h
  have := partsL_len l
  have h2 := ownL_of l (by omega)
  simp only [OwnV]
  simp [h2]
  omega
theorem ownL_of : (l : List S24) → partsL l ≤ 65536 → OwnL l = true
 | [], _ => by simp only [OwnL]
 | x :: l, h => by
  simp only [partsL] at h
  simp only [OwnL, Bool.and_eq_true]
  exact ⟨ownV_of x (by omega), ownL_of l (by omega)⟩
end
theorem own_ok_ev {a : S24} (h : OK a) : own_Value.f a.f0 a.f1 a.f2 a.f3 = some (a.f0, a.f1, a.f2, a.f3) := by
 unfold own_Value.f
 rw [if_pos (by have := ownV_of a (by have := h.2.2; omega); cases a; exact this)]
end Go.Proofs.YtgmmoagclkmeaaaDoor.XH
end
