-- cut down by bundle.py (the session's own program) from the texts YtgmmoagclkmeaaaDoorXH21, YtgmmoagclkmeaaaDoorPl12, YtgmmoagclkmeaaaDoorPl13, YtgmmoagclkmeaaaDoorPl14, YtgmmoagclkmeaaaDoorPl15, YtgmmoagclkmeaaaDoorPureFnsTwo, to what this claim names
import Derived.Test.YtgmmoagclkmeaaaDoorZFnsTwoXH0
import Derived.Test.YtgmmoagclkmeaaaDoorZFnsTwoXH4
import Derived.Test.YtgmmoagclkmeaaaDoorZFnsTwoXH7
import Derived.Test.YtgmmoagclkmeaaaDoorZFnsTwoXH13
import Derived.Test.YtgmmoagclkmeaaaDoorZFnsTwoXH15
import Derived.Test.YtgmmoagclkmeaaaDoorZFnsTwoXH16
import Derived.Test.YtgmmoagclkmeaaaDoorZFnsTwoXH19
import Derived.Test.YtgmmoagclkmeaaaDoorZFnsTwoXH20
import Derived.Test.YtgmmoagclkmeaaaDoorZFnsTwoPl5
import Derived.Test.YtgmmoagclkmeaaaDoorZFnsTwoXH1
import Derived.Test.YtgmmoagclkmeaaaDoorZFnsTwoXH2
import Derived.Test.YtgmmoagclkmeaaaDoorZFnsTwoXH3
import Derived.Test.YtgmmoagclkmeaaaDoorZFnsTwoXH5
import Derived.Test.YtgmmoagclkmeaaaDoorZFnsTwoXH6
import Derived.Test.YtgmmoagclkmeaaaDoorZFnsTwoXH9
import Derived.Test.YtgmmoagclkmeaaaDoorZFnsTwoXH10
import Derived.Test.YtgmmoagclkmeaaaDoorZFnsTwoXH11
import Derived.Test.YtgmmoagclkmeaaaDoorZFnsTwoXH12
import Derived.Test.YtgmmoagclkmeaaaDoorZFnsTwoXH14
import Derived.Test.YtgmmoagclkmeaaaDoorZFnsTwoXH17
import Derived.Test.YtgmmoagclkmeaaaDoorZFnsTwoXH18
import Derived.Lib.MapLaws
import Derived.Lib.DecodeN
section
-- laid by xprint.py (the session's own program) out of the translation; Lean checks it
namespace Go.Proofs.YtgmmoagclkmeaaaDoor.XH
open Go.RowKit Go.Proofs.YtgmmoagclkmeaaaDoorW.PrintWords Go.Proofs.YtgmmoagclkmeaaaDoorW.PrintLast Go.Proofs.YtgmmoagclkmeaaaDoorW.PrintMore
attribute [local go_sem] max2_int min2_int max_two min_two max_three min_three max_four min_four   -- for this text's walks alone
set_option linter.unusedVariables false
set_option linter.unusedSimpArgs false

def spinneylaw05_FnsTwo.f (k : Nat) (a0 : Int) (a1_0 : Int) (a1_1 : Int) (a1_2 : ByteArray) (l1_3 : List (S24)) (a2_0 : Int) (a2_1 : Int) (a2_2 : ByteArray) (l2_3 : List (S24)) : Option (Bool) := (fns_Two.f k a0 a1_0 a1_1 a1_2 l1_3 a2_0 a2_1 a2_2 l2_3).bind fun bt413 => ((spinneyref05_Two.f k a0 a1_0 a1_1 a1_2 l1_3 a2_0 a2_1 a2_2 l2_3).bind fun bt422 => ((spinneyplain_Value.f k bt413.1 bt413.2.1 bt413.2.2.1 bt413.2.2.2.1 bt422.1 bt422.2.1 bt422.2.2.1 bt422.2.2.2.1).bind fun t431 => (if t431 = true then (if (bt413.2.2.2.2.1 == bt422.2.2.2.2.1) = true then (if bt413.2.2.2.2.2 = bt422.2.2.2.2.2 then ((spinneylaw05_speaks.f k).bind fun t432 => (some t432)) else (none)) else (none)) else (none))))
set_option maxHeartbeats 8000000 in
set_option maxRecDepth 100000 in
theorem spinneylaw05_FnsTwo.calls (k : Nat) (a0 : Int) (a1_0 : Int) (a1_1 : Int) (a1_2 : ByteArray) (A1_3 : Option Addr) (c1_3 : Nat) (l1_3 : List (S24)) (a2_0 : Int) (a2_1 : Int) (a2_2 : ByteArray) (A2_3 : Option Addr) (c2_3 : Nat) (l2_3 : List (S24)) (r : Bool) (w : World) (hL : LaidW w) (hr1_3 : Kd.C k24 w A1_3 l1_3.length l1_3) (hc1_3 : l1_3.length ≤ c1_3) (hr2_3 : Kd.C k24 w A2_3 l2_3.length l2_3) (hc2_3 : l2_3.length ≤ c2_3) (h : spinneylaw05_FnsTwo.f k a0 a1_0 a1_1 a1_2 l1_3 a2_0 a2_1 a2_2 l2_3 = some r) :
  Calls Tryd.prog 4 #[.int .i64 a0, .agg #[.int .i64 a1_0, .int .i64 a1_1, .string a1_2, .slice A1_3 l1_3.length c1_3], .agg #[.int .i64 a2_0, .int .i64 a2_1, .string a2_2, .slice A2_3 l2_3.length c2_3]] w fun e w' => e = .returned (.bool r) ∧ Below w.heap.size w w' := by
 have hu24 := Tryd.underlying24
 have HR1_3 := Aside0.mk hr1_3
 have HC1_3 := Aside0.mk hc1_3
 clear hr1_3 hc1_3
 have HR2_3 := Aside0.mk hr2_3
 have HC2_3 := Aside0.mk hc2_3
 clear hr2_3 hc2_3
 have HLT := Aside0.mk hL
 clear hL
 have HB := Aside0.mk (Below.refl w.heap.size w)
 have H : ((fns_Two.f k a0 a1_0 a1_1 a1_2 l1_3 a2_0 a2_1 a2_2 l2_3).bind fun bt413 => ((spinneyref05_Two.f k a0 a1_0 a1_1 a1_2 l1_3 a2_0 a2_1 a2_2 l2_3).bind fun bt422 => ((spinneyplain_Value.f k bt413.1 bt413.2.1 bt413.2.2.1 bt413.2.2.2.1 bt422.1 bt422.2.1 bt422.2.2.1 bt422.2.2.2.1).bind fun t431 => (if t431 = true then (if (bt413.2.2.2.2.1 == bt422.2.2.2.2.1) = true then (if bt413.2.2.2.2.2 = bt422.2.2.2.2.2 then ((spinneylaw05_speaks.f k).bind fun t432 => (some t432)) else (none)) else (none)) else (none))))) = some r := h
 clear h
 replace H := Option.bind_eq_some_iff.mp H
 obtain ⟨⟨t413, t414, t415, t416, t419, t420⟩, A40, H⟩ := H
 replace H : ((spinneyref05_Two.f k a0 a1_0 a1_1 a1_2 l1_3 a2_0 a2_1 a2_2 l2_3).bind fun bt422 => ((spinneyplain_Value.f k t413 t414 t415 t416 bt422.1 bt422.2.1 bt422.2.2.1 bt422.2.2.2.1).bind fun t431 => (if t431 = true then (if (t419 == bt422.2.2.2.2.1) = true then (if t420 = bt422.2.2.2.2.2 then ((spinneylaw05_speaks.f k).bind fun t432 => (some t432)) else (none)) else (none)) else (none)))) = some r := H
 have A4 := Aside0.mk A40
 clear A40
 replace H := Option.bind_eq_some_iff.mp H
 obtain ⟨⟨t422, t423, t424, t425, t428, t429⟩, A50, H⟩ := H
 replace H : ((spinneyplain_Value.f k t413 t414 t415 t416 t422 t423 t424 t425).bind fun t431 => (if t431 = true then (if (t419 == t428) = true then (if t420 = t429 then ((spinneylaw05_speaks.f k).bind fun t432 => (some t432)) else (none)) else (none)) else (none))) = some r := H
 have A5 := Aside0.mk A50
 clear A50
 replace H := Option.bind_eq_some_iff.mp H
 obtain ⟨t431, A60, H⟩ := H
 replace H : (if t431 = true then (if (t419 == t428) = true then (if t420 = t429 then ((spinneylaw05_speaks.f k).bind fun t432 => (some t432)) else (none)) else (none)) else (none)) = some r := H
 have A6 := Aside0.mk A60
 clear A60
 by_cases c7 : t431 = true
 ·subst c7
  have H1 : (if (t419 == t428) = true then (if t420 = t429 then ((spinneylaw05_speaks.f k).bind fun t432 => (some t432)) else (none)) else (none)) = some r := by rw [if_pos rfl] at H; exact H
  clear H
  have H := H1
  clear H1
  by_cases c8 : (t419 == t428) = true
  ·rw [if_pos c8] at H
   have c8b0 : (t419 == t428) = true := c8
   (try (have c8b1 : decide (t419 = t428) = true := by simpa using c8))
   (try (have c8b2 : (t419 == t428) = true := by simpa using c8))
   clear c8
   by_cases c9 : t420 = t429
   ·rw [if_pos c9] at H
    have c9b0 : (t420 == t429) = true := beq_iff_eq.mpr c9
    have c9b1 : (t420 != t429) = false := bne_eq_false_iff_eq.mpr c9
    clear c9
    replace H := Option.bind_eq_some_iff.mp H
    obtain ⟨t432, A100, H⟩ := H
    replace H : (some t432) = some r := H
    have A10 := Aside0.mk A100
    clear A100
    obtain rfl := Option.some.inj H
    go_enter Tryd.func4, Tryd.ntmps4
    go_wp2_with (first | ((with_reducible refine gate_dst (N := 4) rfl ?_); refine box_event ?hg (N := 4) ?hd (cs := #[.int .i64 a1_0, .int .i64 a1_1, .string a1_2, .slice A1_3 l1_3.length c1_3]) (t := 24) ?hr ?_; (case hd => rfl); (case hg => rfl); (case hr => first | (go_simp; done) | (go_simp; rfl)); intro gb411 hg w11 hbox hb; have BK411 := Aside0.mk (hbox); have GW411 := bx_g (up_h HB) hg; have GE411 := bx_g (up_h HB) hg; replace HB := ca_h HB hb; clear hb hbox hg) | ((with_reducible refine gate_dst (N := 5) rfl ?_); refine box_event ?hg (N := 5) ?hd (cs := #[.int .i64 a2_0, .int .i64 a2_1, .string a2_2, .slice A2_3 l2_3.length c2_3]) (t := 24) ?hr ?_; (case hd => rfl); (case hg => rfl); (case hr => first | (go_simp; done) | (go_simp; rfl)); intro gb412 hg w12 hbox hb; have BK412 := Aside0.mk (hbox); have GW412 := bx_g (up_h HB) hg; have GE412 := bx_g (up_h HB) hg; have NB411_412 := bx_n (up_b BK411) hg; have NB412_411 := bx_m (up_b BK411) hg; replace BK411 := ca_b BK411 hb; replace HB := ca_h HB hb; clear hb hbox hg; have hnb13 := NB411_412.out; have hnc13 := NB412_411.out; obtain ⟨hcz14_0, hcz14_1, hcz14_2, hcz14_3, hfz14_0, hfz14_1, hfz14_2, hfz14_3⟩ := bk4 BK411; obtain ⟨hcz15_0, hcz15_1, hcz15_2, hcz15_3, hfz15_0, hfz15_1, hfz15_2, hfz15_3⟩ := bk4 BK412) | ((with_reducible refine gate_callee (f := 11) rfl ?_); refine goesL_ (some 17) rfl rfl Tryd.func11 (by kernel_rfl) rfl #[.int .i64 a0, .agg #[.int .i64 a1_0, .int .i64 a1_1, .string a1_2, .slice A1_3 l1_3.length c1_3], .agg #[.int .i64 a2_0, .int .i64 a2_1, .string a2_2, .slice A2_3 l2_3.length c2_3]] rfl (by (try simp only [List.map_toArray, List.map_cons, List.map_nil]); first | done | rfl | (simp only [List.length_drop, List.length_take]; rfl) | (simp only [gt_iff_lt, Int.ofNat_lt]; rfl)) ?_; (with_reducible refine (fns_Two.calls k a0 a1_0 a1_1 a1_2 _ _ l1_3 a2_0 a2_1 a2_2 _ _ l2_3 t413 t414 t415 t416 t419 t420 _ ?side1 ?side2 ?side3 ?side4 ?side5 A4.out).mono ?_); (case side1 => exact LaidW.below HLT.out (up_h HB)); (case side2 => repeat (first | exact (Kd.C_below HR1_3.out HB.out) | (with_reducible refine Kd.C_alloc ?_ _) | (with_reducible refine Kd.C_drewN ?_ _) | (with_reducible refine Kd.C_drew ?_))); (case side3 => exact HC1_3.out); (case side4 => repeat (first | exact (Kd.C_below HR2_3.out HB.out) | (with_reducible refine Kd.C_alloc ?_ _) | (with_reducible refine Kd.C_drewN ?_ _) | (with_reducible refine Kd.C_drew ?_))); (case side5 => exact HC2_3.out); rintro e w16 ⟨v417, rfl, ho0, hb⟩; refine ⟨_, rfl, ?_⟩; have HO418 := Aside0.mk (Kd.R_lower (Kd.R_newB (Kd.R_newB ho0 (g := gb411) (o := .cells #[.int .i64 a1_0, .int .i64 a1_1, .string a1_2, .slice A1_3 l1_3.length c1_3] 24 (0, 0)) (up_b BK411)) (g := gb412) (o := .cells #[.int .i64 a2_0, .int .i64 a2_1, .string a2_2, .slice A2_3 l2_3.length c2_3] 24 (0, 0)) (up_b BK412)) (below_size (up_h HB))); replace BK411 := ca_b BK411 hb; replace BK412 := ca_b BK412 hb; replace HB := ca_h HB hb; (try clear hb); (try clear hb2); (try clear hk); (try clear hi); (try clear ho0)) | ((with_reducible refine gate_dst (N := 7) rfl ?_); refine box_event ?hg (N := 7) ?hd (cs := #[.int .i64 0, .int .i64 0, .string (⟨#[]⟩ : ByteArray), .slice none 0 0]) (t := 24) ?hr ?_; (case hd => rfl); (case hg => rfl); (case hr => first | (go_simp; done) | (go_simp; rfl)); intro gb421 hg w17 hbox hb; have BK421 := Aside0.mk (hbox); have GW421 := bx_g (up_h HB) hg; have GE421 := bx_g (up_h HB) hg; have NB411_421 := bx_n (up_b BK411) hg; have NB421_411 := bx_m (up_b BK411) hg; have NB412_421 := bx_n (up_b BK412) hg; have NB421_412 := bx_m (up_b BK412) hg; replace HO418 := Aside0.mk (Kd.R_below (Kd.R_elderB (up_r HO418) gb421 (Nat.le_of_eq hg.symm)) hb); replace BK411 := ca_b BK411 hb; replace BK412 := ca_b BK412 hb; replace HB := ca_h HB hb; clear hb hbox hg; have hnb18 := NB421_411.out; have hnc18 := NB411_421.out; have hnb19 := NB421_412.out; have hnc19 := NB412_421.out; obtain ⟨hcz20_0, hcz20_1, hcz20_2, hcz20_3, hfz20_0, hfz20_1, hfz20_2, hfz20_3⟩ := bk4 BK421; obtain ⟨Ao21, co21, eo21⟩ := Kd.R_slice HO418.out; subst eo21) | ((with_reducible refine gate_store (t := 24) (p := 7) rfl ?_); refine store_event (t := 24) (p := 7) (v := ?vo_w22) (w1 := ((((w17.setCell ⟨gb421, 0, none⟩ (.int .i64 t413)).setCell ⟨gb421, 1, none⟩ (.int .i64 t414)).setCell ⟨gb421, 2, none⟩ (.string t415)).setCell ⟨gb421, 3, none⟩ (.slice Ao21 t416.length co21))) ?hg ?ho ?hn ?hr ?_; (case ho => rfl); (case hg => rfl); (case hn => rfl); (case hr => first | (go_simp; done) | (go_simp; rfl)); intro w22 hw; have n0_ : Aside0 (Kd.R k24 24 w22 w.heap.size (fun k_ => k_ ≠ gb411 ∧ k_ ≠ gb412 ∧ k_ ≠ gb421) (.slice Ao21 t416.length co21) t416) := ⟨(by rw [hw]; exact (by (with_reducible repeat (first | apply Kd.R_alloc | apply Kd.R_drewN | apply Kd.R_drew)); exact Kd.R_mono (fa4_r HO418 (fun _ hk => hk.2)) (fun _ hk => ⟨hk.1.1.1.2, ⟨hk.1.1.2, hk.1.2⟩⟩)))⟩; have n1_ : Aside0 (w22.heap[gb411]? = some (.cells #[.int .i64 a1_0, .int .i64 a1_1, .string a1_2, .slice A1_3 l1_3.length c1_3] 24 (0, 0))) := ⟨(by rw [hw]; exact (sb_b BK411 NB411_421))⟩; have n2_ : Aside0 (w22.heap[gb412]? = some (.cells #[.int .i64 a2_0, .int .i64 a2_1, .string a2_2, .slice A2_3 l2_3.length c2_3] 24 (0, 0))) := ⟨(by rw [hw]; exact (sb_b BK412 NB412_421))⟩; have n3_ : Aside0 (w22.heap[gb421]? = some (.cells #[.int .i64 t413, .int .i64 t414, .string t415, .slice Ao21 t416.length co21] 24 (0, 0))) := ⟨(by rw [hw]; exact (pu4 BK421))⟩; have n4_ : Aside0 (Below w.heap.size w w22) := ⟨(by rw [hw]; exact (sb_h HB GE421))⟩; clear hw; clear HO418; clear BK411; clear BK412; clear BK421; clear HB; have HO418 := n0_; have BK411 := n1_; have BK412 := n2_; have BK421 := n3_; have HB := n4_; clear n0_ n1_ n2_ n3_ n4_; obtain ⟨hcz23_0, hcz23_1, hcz23_2, hcz23_3, hfz23_0, hfz23_1, hfz23_2, hfz23_3⟩ := bk4 BK411; obtain ⟨hcz24_0, hcz24_1, hcz24_2, hcz24_3, hfz24_0, hfz24_1, hfz24_2, hfz24_3⟩ := bk4 BK412) | ((with_reducible refine gate_callee (f := 12) rfl ?_); refine goesL_ (some 25) rfl rfl Tryd.func12 (by kernel_rfl) rfl #[.int .i64 a0, .agg #[.int .i64 a1_0, .int .i64 a1_1, .string a1_2, .slice A1_3 l1_3.length c1_3], .agg #[.int .i64 a2_0, .int .i64 a2_1, .string a2_2, .slice A2_3 l2_3.length c2_3]] rfl (by (try simp only [List.map_toArray, List.map_cons, List.map_nil]); first | done | rfl | (simp only [List.length_drop, List.length_take]; rfl) | (simp only [gt_iff_lt, Int.ofNat_lt]; rfl)) ?_; (with_reducible refine (spinneyref05_Two.calls k a0 a1_0 a1_1 a1_2 (fun k_ => k_ < w.heap.size) _ _ l1_3 a2_0 a2_1 a2_2 (fun k_ => k_ < w.heap.size) _ _ l2_3 t422 t423 t424 t425 t428 t429 _ ?side1 ?side2 A5.out).mono ?_); (case side1 => exact Kd.V_mk HC1_3.out (Kd.F_below (Kd.C_F k24_heap HR1_3.out) (up_h HB))); (case side2 => exact Kd.V_mk HC2_3.out (Kd.F_below (Kd.C_F k24_heap HR2_3.out) (up_h HB))); rintro e w25 ⟨v426, rfl, ho0, hb⟩; refine ⟨_, rfl, ?_⟩; have HO427 := Aside0.mk (Kd.V_lower (Kd.V_mono (ok' := fun k_ => some k_ ≠ (.slice Ao21 t416.length co21 : Value).ownBlock ∧ k_ ≠ gb411 ∧ k_ ≠ gb412 ∧ k_ ≠ gb421) ho0 (fun k_ hk_ => ⟨Or.elim hk_ (fun hs_ => Or.elim hs_ (fun hs_ => fun e_ => Nat.not_le.2 hs_ (Kd.R_base HO418.out k_ e_.symm)) (fun hs_ => fun e_ => Nat.not_le.2 hs_ (Kd.R_base HO418.out k_ e_.symm))) (fun hn_ => (Kd.fresh' (Kd.R_lt (up_r HO418)) k_ hn_)), Or.elim hk_ (fun hs_ => Or.elim hs_ (fun hs_ => fun e_ => Nat.not_le.2 hs_ (by rw [e_]; exact GW411.out)) (fun hs_ => fun e_ => Nat.not_le.2 hs_ (by rw [e_]; exact GW411.out))) (fun hn_ => (Kd.freshB (up_b BK411) k_ hn_)), Or.elim hk_ (fun hs_ => Or.elim hs_ (fun hs_ => fun e_ => Nat.not_le.2 hs_ (by rw [e_]; exact GW412.out)) (fun hs_ => fun e_ => Nat.not_le.2 hs_ (by rw [e_]; exact GW412.out))) (fun hn_ => (Kd.freshB (up_b BK412) k_ hn_)), Or.elim hk_ (fun hs_ => Or.elim hs_ (fun hs_ => fun e_ => Nat.not_le.2 hs_ (by rw [e_]; exact GW421.out)) (fun hs_ => fun e_ => Nat.not_le.2 hs_ (by rw [e_]; exact GW421.out))) (fun hn_ => (Kd.freshB (up_b BK421) k_ hn_))⟩)) (below_size (up_h HB))); replace HO418 := ca_r HO418 hb; replace BK411 := ca_b BK411 hb; replace BK412 := ca_b BK412 hb; replace BK421 := ca_b BK421 hb; replace HB := ca_h HB hb; (try clear hb); (try clear hb2); (try clear hk); (try clear hi); (try clear ho0)) | ((with_reducible refine gate_dst (N := 10) rfl ?_); refine box_event ?hg (N := 10) ?hd (cs := #[.int .i64 0, .int .i64 0, .string (⟨#[]⟩ : ByteArray), .slice none 0 0]) (t := 24) ?hr ?_; (case hd => rfl); (case hg => rfl); (case hr => first | (go_simp; done) | (go_simp; rfl)); intro gb430 hg w26 hbox hb; have BK430 := Aside0.mk (hbox); have GW430 := bx_g (up_h HB) hg; have GE430 := bx_g (up_h HB) hg; have NB411_430 := bx_n (up_b BK411) hg; have NB430_411 := bx_m (up_b BK411) hg; have NB412_430 := bx_n (up_b BK412) hg; have NB430_412 := bx_m (up_b BK412) hg; have NB421_430 := bx_n (up_b BK421) hg; have NB430_421 := bx_m (up_b BK421) hg; replace HO418 := Aside0.mk (Kd.R_below (Kd.R_elderB (up_r HO418) gb430 (Nat.le_of_eq hg.symm)) hb); replace HO427 := bx_v HO427 hg hb; replace BK411 := ca_b BK411 hb; replace BK412 := ca_b BK412 hb; replace BK421 := ca_b BK421 hb; replace HB := ca_h HB hb; clear hb hbox hg; have hnb27 := NB430_411.out; have hnc27 := NB411_430.out; have hnb28 := NB430_412.out; have hnc28 := NB412_430.out; have hnb29 := NB430_421.out; have hnc29 := NB421_430.out; obtain ⟨hcz30_0, hcz30_1, hcz30_2, hcz30_3, hfz30_0, hfz30_1, hfz30_2, hfz30_3⟩ := bk4 BK430; obtain ⟨Ao31, co31, eo31⟩ := Kd.V_slice HO427.out; subst eo31; obtain ⟨hcz32_0, hcz32_1, hcz32_2, hcz32_3, hfz32_0, hfz32_1, hfz32_2, hfz32_3⟩ := bk4 BK421) | ((with_reducible refine gate_callee (f := 13) rfl ?_); refine goesL_ (some 31) rfl rfl Tryd.func13 (by kernel_rfl) rfl #[.agg #[.int .i64 t413, .int .i64 t414, .string t415, .slice Ao21 t416.length co21], .agg #[.int .i64 t422, .int .i64 t423, .string t424, .slice Ao31 t425.length co31]] rfl (by (try simp only [List.map_toArray, List.map_cons, List.map_nil]); first | done | rfl | (simp only [List.length_drop, List.length_take]; rfl) | (simp only [gt_iff_lt, Int.ofNat_lt]; rfl)) ?_; (with_reducible refine (spinneyplain_Value.calls k t413 t414 t415 _ _ t416 t422 t423 t424 _ _ t425 true _ ?side1 ?side2 ?side3 ?side4 A6.out).mono ?_); (case side1 => refine (Kd.R_reads' (e := 24) (base := w.heap.size) (ok := fun k_ => ((k_ ≠ gb411 ∧ (k_ ≠ gb412 ∧ k_ ≠ gb421)) ∧ k_ ≠ gb430)) (n := t416.length) (c := co21) ?_).2.2; exact (by (with_reducible repeat (first | apply Kd.R_alloc | apply Kd.R_drewN | apply Kd.R_drew)); exact (Kd.R_mono (fa4_r HO418 (fun _ hk => hk.2)) (fun _ h_ => h_.1)))); (case side2 => exact (Kd.R_reads' HO418.out).2.1); (case side3 => refine (Kd.V_reads' (e := 24) (base := w.heap.size) (ok := fun k_ => ((some k_ ≠ (.slice Ao21 t416.length co21 : Value).ownBlock ∧ (k_ ≠ gb411 ∧ (k_ ≠ gb412 ∧ k_ ≠ gb421))) ∧ k_ ≠ gb430)) (n := t425.length) (c := co31) ?_).2.2; exact (by (with_reducible repeat (first | apply Kd.V_alloc | apply Kd.V_drewN | apply Kd.V_drew)); exact (Kd.V_mono (fa4_v HO427 (fun _ hk => hk.2)) (fun _ h_ => h_.1)))); (case side4 => exact (Kd.V_reads' HO427.out).2.1); rintro e w33 ⟨rfl, hb⟩; refine ⟨_, rfl, ?_⟩; replace HO418 := Aside0.mk (Kd.R_below (by (with_reducible repeat (first | apply Kd.R_alloc | apply Kd.R_drewN | apply Kd.R_drew)); exact (Kd.R_mono (fa4_r HO418 (fun _ hk => hk.2)) (fun _ h_ => h_.1))) hb); replace HO427 := Aside0.mk (Kd.V_below (by (with_reducible repeat (first | apply Kd.V_alloc | apply Kd.V_drewN | apply Kd.V_drew)); exact (Kd.V_mono (fa4_v HO427 (fun _ hk => hk.2)) (fun _ h_ => h_.1))) hb); replace BK411 := cs_b BK411 NB411_430 hb; replace BK412 := cs_b BK412 NB412_430 hb; replace BK421 := cs_b BK421 NB421_430 hb; replace BK430 := Aside0.mk (blk_below (g := gb430) (o := .cells #[.int .i64 t422, .int .i64 t423, .string t424, .slice Ao31 t425.length co31] 24 (0, 0)) (pu4 BK430) hb); replace HB := cs_h HB GE430 hb; (try clear hb); (try clear hb2); (try clear hk); (try clear hi)) | (go_at_call 10; (with_reducible refine (spinneylaw05_speaks.calls k  t432 _ ?side1 A10.out).mono ?_); (case side1 => exact LaidW.below HLT.out (up_h HB)); rintro e w34 ⟨rfl, hb⟩; replace HO418 := ca_r HO418 hb; replace HO427 := ca_v HO427 hb; replace BK411 := ca_b BK411 hb; replace BK412 := ca_b BK412 hb; replace BK421 := ca_b BK421 hb; replace BK430 := ca_b BK430 hb; replace HB := ca_h HB hb; (try clear hb); (try clear hb2); (try clear hk); (try clear hi)))
    go_ret
    exact ⟨by first | rfl | (simp [errW_none, errW_some] <;> rfl) | (simp [*, errW_none, errW_some] <;> rfl), by repeat (first | (with_reducible first | exact HB.out | apply below_alloc | apply pw_below_drewN | apply below_drew1 | refine below_set ?_ GE411.out | refine below_set ?_ GE412.out | refine below_set ?_ GE421.out | refine below_set ?_ GE430.out) | exact HB.out)⟩
   ·rw [if_neg c9] at H
    exact absurd H (by simp)
  ·rw [if_neg c8] at H
   exact absurd H (by simp)
 ·replace c7 := Bool.eq_false_iff.mpr c7
  subst c7
  have H1 : (none) = some r := by rw [if_neg (show ¬ (false = true) by decide)] at H; exact H
  clear H
  have H := H1
  clear H1
  exact absurd H (by simp)

end Go.Proofs.YtgmmoagclkmeaaaDoor.XH
end
section
namespace Go.Proofs.YtgmmoagclkmeaaaDoor.XH
open Go.RowKit Go.Proofs.YtgmmoagclkmeaaaDoorW.PrintWords Go.Proofs.YtgmmoagclkmeaaaDoorW.PrintLast Go.Proofs.YtgmmoagclkmeaaaDoorW.PrintMore
attribute [local go_sem] max2_int min2_int max_two min_two max_three min_three max_four min_four   -- for this text's walks alone
set_option linter.unusedVariables false
set_option linter.unusedSimpArgs false

theorem nil_toList : (⟨#[]⟩ : ByteArray).toList = [] := by decide +kernel
def SameEv (a : S24) : Prop := Ev (fun k => spinneyplain_Value.f k a.f0 a.f1 a.f2 a.f3 a.f0 a.f1 a.f2 a.f3) true
theorem same_loop (l : List S24) (hl : l.length ≤ 9223372036854775807) (E : ∀ a ∈ l, SameEv a) (x0 x1 : Int) (x2 : ByteArray) (d : Nat) :
  ∀ i : Nat, l.length - i = d → i ≤ l.length → Ev (fun k => spinneyplain_Value.l0 k (l.length : Int) (i : Int) x0 x1 x2 l x0 x1 x2 l) true := by
 induction d with
 | zero =>
  intro i hd hi
  refine Ev.step (f := fun _ => some true) (fun k => ?_) (Ev.now _)
  simp only [spinneyplain_Value.l0]
  rw [if_neg (by omega)]
 | succ d ih =>
  intro i hd hi
  have hlt : i < l.length := by omega
  have e3 : wrap64 ((i : Int) + 1) = ((i + 1 : Nat) : Int) := by unfold wrap64; omega
  have he : Ev (fun k => spinneyplain_Value.f k (l[i]).f0 (l[i]).f1 (l[i]).f2 (l[i]).f3 (l[i]).f0 (l[i]).f1 (l[i]).f2 (l[i]).f3) true := E _ (List.getElem_mem hlt)
  refine Ev.step (f := fun k => (spinneyplain_Value.f k (l[i]).f0 (l[i]).f1 (l[i]).f2 (l[i]).f3 (l[i]).f0 (l[i]).f1 (l[i]).f2 (l[i]).f3).bind fun t => if t = true then spinneyplain_Value.l0 k (l.length : Int) ((i + 1 : Nat) : Int) x0 x1 x2 l x0 x1 x2 l else some false) (fun k => ?_) ?_
  ·simp only [spinneyplain_Value.l0]
   rw [if_pos (by omega), if_pos (by omega), if_pos (by omega), if_pos (by omega), rd_at l i hlt, e3]
  ·exact he.bind (f := fun k t => if t = true then spinneyplain_Value.l0 k (l.length : Int) ((i + 1 : Nat) : Int) x0 x1 x2 l x0 x1 x2 l else some false) (Ev.congr (f := fun k => spinneyplain_Value.l0 k (l.length : Int) ((i + 1 : Nat) : Int) x0 x1 x2 l x0 x1 x2 l) (fun k => if_pos rfl) (ih (i + 1) (by omega) (by omega)))
theorem same_one (k n : Int) (t : ByteArray) (l : List S24) (hl : l.length ≤ 9223372036854775807) (E : ∀ a ∈ l, SameEv a) : SameEv ⟨k, n, t, l⟩ := by
 show Ev (fun i => spinneyplain_Value.f i k n t l k n t l) true
 have hL := same_loop l hl E k n t l.length 0 (by omega) (by omega)
 refine Ev.step (f := fun i => spinneyplain_Value.j0 i false k n t l k n t l) (fun i => ?_) (Ev.step (f := fun i => spinneyplain_Value.l0 i (l.length : Int) ((0 : Nat) : Int) k n t l k n t l) (fun i => ?_) hL)
 ·simp only [spinneyplain_Value.f, if_true]
  rw [show ((l.length : Int) != (l.length : Int)) = false by simp]
 ·simp only [spinneyplain_Value.j0]
  rw [if_neg (by decide)]; rfl
mutual
theorem same_ev : (a : S24) → WfV a → SameEv a
 | ⟨k, n, t, l⟩, h => same_one k n t l (by simp only [WfV] at h; exact h.2.2.2.1) (same_evL l (by simp only [WfV] at h; exact h.2.2.2.2))
theorem same_evL : (l : List S24) → WfL l → ∀ a ∈ l, SameEv a
 | [], _, a, ha => by cases ha
 | x :: l, h, a, ha => by
  rcases List.mem_cons.1 ha with e | ha
  ·rw [e]; exact same_ev x (by simp only [WfL] at h; exact h.1)
  ·exact same_evL l (by simp only [WfL] at h; exact h.2) a ha
end
theorem ok_shape {k n : Int} {t : ByteArray} {l : List S24} (h : OK ⟨k, n, t, l⟩) : (0 ≤ k ∧ k ≤ 6) ∧ (k = 3 ∨ t = ⟨#[]⟩) ∧ (k = 2 ∨ n = 0 ∨ (k = 1 ∧ n = 1)) ∧ (k = 4 ∨ k = 5 ∨ k = 6 ∨ l = []) ∧ (k = 6 → l.length % 2 = 0) ∧ l.length ≤ 1023 ∧ (k = 3 → t.size ≤ 256 ∧ utfOk t = true) := by
 obtain ⟨h1, h2, h3⟩ := h
 simp only [OkV] at h1
 simp only [partsV] at h3
 obtain ⟨hp, hf, ho⟩ := h1
 obtain ⟨g1, g2, g3, g4⟩ := hp
 have := partsL_len l
 refine ⟨g1, g2.imp id bytes_nil, g3, ?_, ?_, by omega, g4⟩
 ·unfold FormV at hf
  by_cases c4 : k = 4
  ·exact .inl c4
  by_cases c6 : k = 6
  ·exact .inr (.inr (.inl c6))
  by_cases c5 : k = 5
  ·exact .inr (.inl c5)
  ·rw [if_neg c4, if_neg c6, if_neg c5] at hf
   exact .inr (.inr (.inr hf))
 ·intro h6
  unfold FormV at hf
  rw [if_neg (by omega), if_pos h6] at hf
  exact hf.1
theorem ok_int (n : Int) : OK ⟨2, n, ⟨#[]⟩, []⟩ := by
 refine ⟨?_, by simp [deepV, deepL], by simp [partsV, partsL]⟩
 simp only [OkV, OkL, and_true]
 exact ⟨⟨by omega, .inr nil_toList, .inl rfl, fun h => absurd h (by decide)⟩, by unfold FormV; rw [if_neg (by decide), if_neg (by decide), if_neg (by decide)]⟩
theorem wf_int {n : Int} (h : In64 n) : WfV ⟨2, n, ⟨#[]⟩, []⟩ := by
 simp only [WfV, WfL, and_true]
 exact ⟨⟨by decide, by decide⟩, h, Nat.zero_le _, Nat.zero_le _⟩
theorem wf_nil : WfV ⟨0, 0, ⟨#[]⟩, []⟩ := by
 simp only [WfV, WfL, and_true]
 exact ⟨⟨by decide, by decide⟩, ⟨by decide, by decide⟩, Nat.zero_le _, Nat.zero_le _⟩
theorem in64_wrap (n : Int) : In64 (wrap64 n) := by unfold In64 wrap64; omega
mutual
theorem ownV_of : (a : S24) → partsV a ≤ 65536 → OwnV a = true
 | ⟨k, n, t, l⟩, h => by
  simp only [partsV] at h
  have := partsL_len l
  have h2 := ownL_of l (by omega)
  simp only [OwnV]
  simp [h2]
  omega
theorem ownL_of : (l : List S24) → partsL l ≤ 65536 → OwnL l = true
 | [], _ => by simp only [OwnL]
 | x :: l, h => by
  simp only [partsL] at h
  simp only [OwnL, Bool.and_eq_true]
  exact ⟨ownV_of x (by omega), ownL_of l (by omega)⟩
end
theorem own_ok_ev {a : S24} (h : OK a) : own_Value.f a.f0 a.f1 a.f2 a.f3 = some (a.f0, a.f1, a.f2, a.f3) := by
 unfold own_Value.f
 rw [if_pos (by have := ownV_of a (by have := h.2.2; omega); cases a; exact this)]
end Go.Proofs.YtgmmoagclkmeaaaDoor.XH
end
section
namespace Go.Proofs.YtgmmoagclkmeaaaDoor.XH
open Go.RowKit Go.Proofs.YtgmmoagclkmeaaaDoorW.PrintWords Go.Proofs.YtgmmoagclkmeaaaDoorW.PrintLast Go.Proofs.YtgmmoagclkmeaaaDoorW.PrintMore
attribute [local go_sem] max2_int min2_int max_two min_two max_three min_three max_four min_four   -- for this text's walks alone
set_option linter.unusedVariables false
set_option linter.unusedSimpArgs false

def tup (r : S24) : Int × Int × ByteArray × List S24 := (r.f0, r.f1, r.f2, r.f3)
def Good (v : S24) : Prop := OK v ∧ WfV v
theorem good_int {n : Int} (h : In64 n) : Good ⟨2, n, ⟨#[]⟩, []⟩ := ⟨ok_int n, wf_int h⟩
theorem good_item {k n : Int} {t : ByteArray} {l : List S24} (h : Good ⟨k, n, t, l⟩) {v : S24} (hv : v ∈ l) : Good v :=
 ⟨ok_item h.1 hv, by have := h.2; simp only [WfV] at this; exact wfL_mem l this.2.2.2.2 v hv⟩
theorem wf_list {l : List S24} (h : l.length ≤ 1048576) (hl : ∀ v ∈ l, WfV v) : WfV ⟨4, 0, ⟨#[]⟩, l⟩ := by
 simp only [WfV]
 exact ⟨⟨by decide, by decide⟩, ⟨by decide, by decide⟩, Nat.zero_le _, by omega, wfL_of l hl⟩
open Classical in
theorem pick_ev (w o : S24) : Ev (fun k => fns_right.f k w.f0 w.f1 w.f2 w.f3 o.f0 o.f1 o.f2 o.f3) (tup (if OK w then w else o)) := by
 refine (vcheck_ev w).bind (f := fun _ t => if t = 0 then some (w.f0, w.f1, w.f2, w.f3) else some (o.f0, o.f1, o.f2, o.f3)) (Ev.congr (f := fun _ => some (tup (if OK w then w else o))) (fun _ => ?_) (Ev.now _))
 by_cases h : OK w
 ·rw [if_pos h, if_pos h, if_pos rfl]; rfl
 ·rw [if_neg h, if_neg h, if_neg (by decide)]; rfl
open Classical in
theorem rpick_ev (w o : S24) (hw : WfV w) : Ev (fun k => (spinneyref01_Right.f k w.f0 w.f1 w.f2 w.f3).bind fun t => if t = true then some (w.f0, w.f1, w.f2, w.f3) else some (o.f0, o.f1, o.f2, o.f3)) (tup (if OK w then w else o)) := by
 refine (rright_ev w hw).bind (f := fun _ t => if t = true then some (w.f0, w.f1, w.f2, w.f3) else some (o.f0, o.f1, o.f2, o.f3)) (Ev.congr (f := fun _ => some (tup (if OK w then w else o))) (fun _ => ?_) (Ev.now _))
 by_cases h : OK w
 ·rw [if_pos h, if_pos (by rw [decide_eq_true h])]; rfl
 ·rw [if_neg h, if_neg (by rw [decide_eq_false h]; decide)]; rfl
theorem int_shape {v : S24} (h : OK v) (h2 : v.f0 = 2) : v = ⟨2, v.f1, ⟨#[]⟩, []⟩ := by
 obtain ⟨k, n, t, l⟩ := v
 obtain rfl : k = 2 := h2
 obtain ⟨_, ht, _, hl, _⟩ := ok_shape h
 have h1 : t = ⟨#[]⟩ := ht.resolve_left (by decide)
 have h3 : l = [] := by
  rcases hl with h | h | h | h
  ·cases h
  ·cases h
  ·cases h
  ·exact h
 subst h1 h3
 rfl
end Go.Proofs.YtgmmoagclkmeaaaDoor.XH
end
section
namespace Go.Proofs.YtgmmoagclkmeaaaDoor.XH
open Go.RowKit Go.Proofs.YtgmmoagclkmeaaaDoorW.PrintWords Go.Proofs.YtgmmoagclkmeaaaDoorW.PrintLast Go.Proofs.YtgmmoagclkmeaaaDoorW.PrintMore
attribute [local go_sem] max2_int min2_int max_two min_two max_three min_three max_four min_four   -- for this text's walks alone
set_option linter.unusedVariables false
set_option linter.unusedSimpArgs false

def tupB (r : S24) (b : Bool) : Int × Int × ByteArray × List S24 × Bool := (r.f0, r.f1, r.f2, r.f3, b)
def tup6 (r : S24) (b : Bool) (e : Int) : Int × Int × ByteArray × List S24 × Bool × Int := (r.f0, r.f1, r.f2, r.f3, b, e)
open Classical in
theorem fit_is (q : Int) (v : S24) : Ev (fun k => fns_fit.f k q v.f0 v.f1 v.f2 v.f3) (if 0 ≤ q ∧ q ≤ 7 then (if OK v then 0 else 3) else 4) := by
 by_cases h : 0 ≤ q ∧ q ≤ 7
 ·rw [if_pos h]
  refine Ev.congr (f := fun k => (value_Check.f k v.f0 v.f1 v.f2 v.f3).bind fun t => some t) (fun k => ?_) ((vcheck_ev v).bind (f := fun _ t => some t) (Ev.now _))
  unfold fns_fit.f fns_known.f
  rw [if_pos h.1, decide_eq_true h.2]
  rfl
 ·rw [if_neg h]
  refine Ev.congr (f := fun _ => some 4) (fun k => ?_) (Ev.now _)
  unfold fns_fit.f fns_known.f
  by_cases h0 : q ≥ 0
  ·rw [if_pos h0, decide_eq_false (fun g => h ⟨h0, g⟩)]; rfl
  ·rw [if_neg h0]; rfl
theorem kind5_is (q : Int) : spinneyref05_Kind.f q = some (decide (0 ≤ q ∧ q ≤ 7)) := by
 unfold spinneyref05_Kind.f
 by_cases h0 : q ≥ 0
 ·rw [if_pos h0]
  by_cases h7 : q ≤ 7
  ·rw [decide_eq_true h7, decide_eq_true (show 0 ≤ q ∧ q ≤ 7 from ⟨h0, h7⟩)]
  ·rw [decide_eq_false h7, decide_eq_false (fun h => h7 h.2)]
 ·rw [if_neg h0, decide_eq_false (fun h => h0 h.1)]
def TwoSame (q : Int) (a b : S24) : Prop := ∃ (r : S24) (s : Bool), Good r ∧ Ev (fun k => fns_two.f k q a.f0 a.f1 a.f2 a.f3 b.f0 b.f1 b.f2 b.f3) (tupB r s) ∧ Ev (fun k => spinneyref05_Both.f k q a.f0 a.f1 a.f2 a.f3 b.f0 b.f1 b.f2 b.f3) (tupB r s)
theorem add_same (a b : S24) (ha : Good a) : ∃ r, Good r ∧ fns_add.f a.f0 a.f1 a.f2 a.f3 b.f0 b.f1 b.f2 b.f3 = some (tup r) ∧ spinneyref05_sum.f a.f0 a.f1 a.f2 a.f3 b.f0 b.f1 b.f2 b.f3 = some (tup r) := by
 by_cases h : a.f0 = 2 ∧ b.f0 = 2
 ·have hs := int_shape ha.1 h.1
  refine ⟨⟨2, wrap64 (a.f1 + b.f1), ⟨#[]⟩, []⟩, good_int (in64_wrap _), ?_, ?_⟩
  ·unfold fns_add.f fns_isInt.f tup
   rw [hs]
   simp [h.2]
  ·unfold spinneyref05_sum.f spinneyref05_Int.f tup
   simp [h.1, h.2]
 ·refine ⟨a, ha, ?_, ?_⟩
  ·unfold fns_add.f fns_isInt.f tup
   by_cases h1 : a.f0 = 2
   ·have h2 : ¬ b.f0 = 2 := fun g => h ⟨h1, g⟩
    simp [h1, h2]
   ·simp [h1]
  ·unfold spinneyref05_sum.f tup
   by_cases h1 : a.f0 = 2
   ·rw [if_pos h1, if_neg (fun g => h ⟨h1, g⟩)]
   ·rw [if_neg h1]
open Classical in
theorem conj_same (a b : S24) (ha : Good a) (hb : Good b) : ∃ r, Good r ∧ Ev (fun k => fns_conj.f k a.f0 a.f1 a.f2 a.f3 b.f0 b.f1 b.f2 b.f3) (tup r) ∧ Ev (fun k => spinneyref05_conj.f k a.f0 a.f1 a.f2 a.f3 b.f0 b.f1 b.f2 b.f3) (tup r) := by
 obtain ⟨k', n, t, l⟩ := a
 obtain ⟨_, _, _, _, _, hlen, _⟩ := ok_shape ha.1
 have hwl : ∀ x ∈ l, WfV x := fun x hx => (good_item ha hx).2
 by_cases h4 : k' = 4
 ·have hw : WfV ⟨4, 0, ⟨#[]⟩, l ++ [b]⟩ := wf_list (by simp; omega) (fun x hx => by rcases List.mem_append.1 hx with hx | hx; exact hwl x hx; rw [List.mem_singleton.1 hx]; exact hb.2)
  refine ⟨if OK ⟨4, 0, ⟨#[]⟩, l ++ [b]⟩ then ⟨4, 0, ⟨#[]⟩, l ++ [b]⟩ else ⟨k', n, t, l⟩, ?_, ?_, ?_⟩
  ·split
   ·rename_i h; exact ⟨h, hw⟩
   ·exact ha
  ·refine Ev.congr (f := fun k => (fns_right.f k 4 0 ⟨#[]⟩ (l ++ [b]) k' n t l).bind fun b => some (b.1, b.2.1, b.2.2.1, b.2.2.2)) (fun k => ?_) ((pick_ev ⟨4, 0, ⟨#[]⟩, l ++ [b]⟩ ⟨k', n, t, l⟩).bind (f := fun _ b => some (b.1, b.2.1, b.2.2.1, b.2.2.2)) (Ev.now _))
   unfold fns_conj.f
   rw [if_pos h4, if_pos (by simp; omega), Option.bind_some, if_pos (by simp; omega)]
   simp only [List.nil_append]
   cases b
   rfl
  ·refine Ev.congr (f := fun k => (spinneyref01_Right.f k 4 0 ⟨#[]⟩ (l ++ [b])).bind fun t' => if t' = true then some (4, 0, ⟨#[]⟩, l ++ [b]) else some (k', n, t, l)) (fun k => ?_) (rpick_ev ⟨4, 0, ⟨#[]⟩, l ++ [b]⟩ ⟨k', n, t, l⟩ hw)
   unfold spinneyref05_conj.f
   rw [if_pos h4, if_pos (by simp; omega), Option.bind_some, if_pos (by simp; omega), Option.bind_some]
   simp only [List.nil_append]
   cases b
   rfl
 ·have hw : WfV ⟨4, 0, ⟨#[]⟩, [b]⟩ := wf_list (by simp) (fun x hx => by rw [List.mem_singleton.1 hx]; exact hb.2)
  refine ⟨if OK ⟨4, 0, ⟨#[]⟩, [b]⟩ then ⟨4, 0, ⟨#[]⟩, [b]⟩ else ⟨k', n, t, l⟩, ?_, ?_, ?_⟩
  ·split
   ·rename_i h; exact ⟨h, hw⟩
   ·exact ha
  ·refine Ev.congr (f := fun k => (fns_right.f k 4 0 ⟨#[]⟩ [b] k' n t l).bind fun b => some (b.1, b.2.1, b.2.2.1, b.2.2.2)) (fun k => ?_) ((pick_ev ⟨4, 0, ⟨#[]⟩, [b]⟩ ⟨k', n, t, l⟩).bind (f := fun _ b => some (b.1, b.2.1, b.2.2.1, b.2.2.2)) (Ev.now _))
   unfold fns_conj.f
   rw [if_neg h4, if_pos (by simp)]
   simp only [List.nil_append]
   cases b
   rfl
  ·refine Ev.congr (f := fun k => (spinneyref01_Right.f k 4 0 ⟨#[]⟩ [b]).bind fun t' => if t' = true then some (4, 0, ⟨#[]⟩, [b]) else some (k', n, t, l)) (fun k => ?_) (rpick_ev ⟨4, 0, ⟨#[]⟩, [b]⟩ ⟨k', n, t, l⟩ hw)
   unfold spinneyref05_conj.f
   rw [if_neg h4, if_pos (by simp), Option.bind_some]
   simp only [List.nil_append]
   cases b
   rfl
theorem two_same (q : Int) (h0 : 0 ≤ q) (h7 : q ≤ 7) (a b : S24) (ha : Good a) (hb : Good b) : TwoSame q a b := by
 have : q = 0 ∨ q = 1 ∨ q = 2 ∨ q = 3 ∨ q = 4 ∨ q = 5 ∨ q = 6 ∨ q = 7 := by omega
 have hc := vcmp_is b a
 have hr : Ev (fun k => spinneyref01_Compare.f k b.f0 b.f1 b.f2 b.f3 a.f0 a.f1 a.f2 a.f3) (cmpV b a) := cmp_ev b hb.2 a
 obtain ⟨s, hs, hs1, hs2⟩ := add_same a b ha
 rcases this with rfl | rfl | rfl | rfl | rfl | rfl | rfl | rfl
 ·refine ⟨s, false, hs, Ev.congr (f := fun _ => some (tupB s false)) (fun k => ?_) (Ev.now _), Ev.congr (f := fun _ => some (tupB s false)) (fun k => ?_) (Ev.now _)⟩
  ·unfold fns_two.f; rw [if_pos rfl, hs1]; rfl
  ·unfold spinneyref05_Both.f; rw [if_pos rfl, hs2]; rfl
 ·refine ⟨if cmpV b a > 0 then b else a, false, by split <;> assumption, Ev.congr (f := fun _ => some (tupB (if cmpV b a > 0 then b else a) false)) (fun k => ?_) (Ev.now _), Ev.congr (f := fun k => (spinneyref01_Compare.f k b.f0 b.f1 b.f2 b.f3 a.f0 a.f1 a.f2 a.f3).bind fun t => if t > 0 then some (b.f0, b.f1, b.f2, b.f3, false) else some (a.f0, a.f1, a.f2, a.f3, false)) (fun k => ?_) (hr.bind (f := fun _ t => if t > 0 then some (b.f0, b.f1, b.f2, b.f3, false) else some (a.f0, a.f1, a.f2, a.f3, false)) (Ev.congr (f := fun _ => some (tupB (if cmpV b a > 0 then b else a) false)) (fun _ => ?_) (Ev.now _)))⟩
  ·unfold fns_two.f; rw [if_neg (by decide), if_pos rfl, hc, Option.bind_some]; split <;> rfl
  ·unfold spinneyref05_Both.f; rw [if_neg (by decide), if_pos rfl]
  ·split <;> rfl
 ·refine ⟨if cmpV b a < 0 then b else a, false, by split <;> assumption, Ev.congr (f := fun _ => some (tupB (if cmpV b a < 0 then b else a) false)) (fun k => ?_) (Ev.now _), Ev.congr (f := fun k => (spinneyref01_Compare.f k b.f0 b.f1 b.f2 b.f3 a.f0 a.f1 a.f2 a.f3).bind fun t => if t < 0 then some (b.f0, b.f1, b.f2, b.f3, false) else some (a.f0, a.f1, a.f2, a.f3, false)) (fun k => ?_) (hr.bind (f := fun _ t => if t < 0 then some (b.f0, b.f1, b.f2, b.f3, false) else some (a.f0, a.f1, a.f2, a.f3, false)) (Ev.congr (f := fun _ => some (tupB (if cmpV b a < 0 then b else a) false)) (fun _ => ?_) (Ev.now _)))⟩
  ·unfold fns_two.f; rw [if_neg (by decide), if_neg (by decide), if_pos rfl, hc, Option.bind_some]; split <;> rfl
  ·unfold spinneyref05_Both.f; rw [if_neg (by decide), if_neg (by decide), if_pos rfl]
  ·split <;> rfl
 ·obtain ⟨r, hg, h1, h2⟩ := conj_same a b ha hb
  refine ⟨r, false, hg, Ev.congr (f := fun k => (fns_conj.f k a.f0 a.f1 a.f2 a.f3 b.f0 b.f1 b.f2 b.f3).bind fun x => some (x.1, x.2.1, x.2.2.1, x.2.2.2, false)) (fun k => ?_) (h1.bind (f := fun _ x => some (x.1, x.2.1, x.2.2.1, x.2.2.2, false)) (Ev.now _)), Ev.congr (f := fun k => (spinneyref05_conj.f k a.f0 a.f1 a.f2 a.f3 b.f0 b.f1 b.f2 b.f3).bind fun x => some (x.1, x.2.1, x.2.2.1, x.2.2.2, false)) (fun k => ?_) (h2.bind (f := fun _ x => some (x.1, x.2.1, x.2.2.1, x.2.2.2, false)) (Ev.now _))⟩
  ·unfold fns_two.f; rw [if_neg (by decide), if_neg (by decide), if_neg (by decide), if_pos rfl]
  ·unfold spinneyref05_Both.f; rw [if_neg (by decide), if_neg (by decide), if_neg (by decide), if_pos rfl]
 ·exact ⟨a, false, ha, Ev.congr (f := fun _ => some (tupB a false)) (fun k => by unfold fns_two.f; simp [tupB]) (Ev.now _), Ev.congr (f := fun _ => some (tupB a false)) (fun k => by unfold spinneyref05_Both.f; simp [tupB]) (Ev.now _)⟩
 ·exact ⟨b, false, hb, Ev.congr (f := fun _ => some (tupB b false)) (fun k => by unfold fns_two.f; simp [tupB]) (Ev.now _), Ev.congr (f := fun _ => some (tupB b false)) (fun k => by unfold spinneyref05_Both.f; simp [tupB]) (Ev.now _)⟩
 ·refine ⟨s, if s.f0 = 2 then decide (s.f1 > 100) else false, hs, Ev.congr (f := fun _ => some (tupB s (if s.f0 = 2 then decide (s.f1 > 100) else false))) (fun k => ?_) (Ev.now _), Ev.congr (f := fun _ => some (tupB s (if s.f0 = 2 then decide (s.f1 > 100) else false))) (fun k => ?_) (Ev.now _)⟩
  ·unfold fns_two.f
   rw [if_neg (by decide), if_neg (by decide), if_neg (by decide), if_neg (by decide), if_neg (by decide), if_pos rfl, hs1, Option.bind_some]
   unfold fns_isInt.f tup tupB
   by_cases h2 : s.f0 = 2 <;> simp [h2]
  ·unfold spinneyref05_Both.f
   rw [if_neg (by decide), if_neg (by decide), if_neg (by decide), if_neg (by decide), if_neg (by decide), if_pos rfl, hs2, Option.bind_some]
   unfold tup tupB
   by_cases h2 : s.f0 = 2 <;> simp [h2]
 ·refine ⟨⟨2, if a.f0 = 2 then wrap64 (a.f1 + 1) else 1, ⟨#[]⟩, []⟩, false, good_int (by split; exact in64_wrap _; unfold In64; omega), Ev.congr (f := fun _ => some (tupB ⟨2, if a.f0 = 2 then wrap64 (a.f1 + 1) else 1, ⟨#[]⟩, []⟩ false)) (fun k => ?_) (Ev.now _), Ev.congr (f := fun _ => some (tupB ⟨2, if a.f0 = 2 then wrap64 (a.f1 + 1) else 1, ⟨#[]⟩, []⟩ false)) (fun k => ?_) (Ev.now _)⟩
  ·unfold fns_two.f fns_isInt.f fns_integer.f tupB
   by_cases h2 : a.f0 = 2 <;> simp [h2]
  ·unfold spinneyref05_Both.f spinneyref05_Int.f tupB
   by_cases h2 : a.f0 = 2 <;> simp [h2]
end Go.Proofs.YtgmmoagclkmeaaaDoor.XH
end
section
namespace Go.Proofs.YtgmmoagclkmeaaaDoor.XH
open Go.RowKit Go.Proofs.YtgmmoagclkmeaaaDoorW.PrintWords Go.Proofs.YtgmmoagclkmeaaaDoorW.PrintLast Go.Proofs.YtgmmoagclkmeaaaDoorW.PrintMore
attribute [local go_sem] max2_int min2_int max_two min_two max_three min_three max_four min_four   -- for this text's walks alone
set_option linter.unusedVariables false
set_option linter.unusedSimpArgs false

theorem speaks5_ev : Ev spinneylaw05_speaks.f true := Ev.of spinneylaw05_speaks.mono (k := 8) (by decide +kernel)
open Classical in
theorem Two_same (q : Int) (a b : S24) (ha : WfV a) (hb : WfV b) : ∃ (r : S24) (s : Bool) (e : Int), WfV r ∧ (e = 0 → Good r) ∧ Ev (fun k => fns_Two.f k q a.f0 a.f1 a.f2 a.f3 b.f0 b.f1 b.f2 b.f3) (tup6 r s e) ∧ Ev (fun k => spinneyref05_Two.f k q a.f0 a.f1 a.f2 a.f3 b.f0 b.f1 b.f2 b.f3) (tup6 r s e) := by
 have hf := fit_is q a
 have Z : ∀ e : Int, tup6 ⟨0, 0, ⟨#[]⟩, []⟩ false e = (0, 0, (⟨#[]⟩ : ByteArray), ([] : List S24), false, e) := fun _ => rfl
 by_cases h : 0 ≤ q ∧ q ≤ 7
 ·rw [if_pos h] at hf
  have hK : ∀ k, spinneyref05_Two.f k q a.f0 a.f1 a.f2 a.f3 b.f0 b.f1 b.f2 b.f3 = (spinneyref01_Right.f k a.f0 a.f1 a.f2 a.f3).bind fun t => if t = true then (spinneyref01_Right.f k b.f0 b.f1 b.f2 b.f3).bind fun u => if u = true then (spinneyref05_Both.f k q a.f0 a.f1 a.f2 a.f3 b.f0 b.f1 b.f2 b.f3).bind fun x => some (x.1, x.2.1, x.2.2.1, x.2.2.2.1, x.2.2.2.2, 0) else some (tup6 ⟨0, 0, ⟨#[]⟩, []⟩ false 3) else some (tup6 ⟨0, 0, ⟨#[]⟩, []⟩ false 3) := by
   intro k
   unfold spinneyref05_Two.f
   rw [kind5_is, decide_eq_true h, Option.bind_some, if_pos rfl]
   rfl
  by_cases ho : OK a
  ·rw [if_pos ho] at hf
   by_cases hp : OK b
   ·obtain ⟨r, s, hg, h1, h2⟩ := two_same q h.1 h.2 a b ⟨ho, ha⟩ ⟨hp, hb⟩
    have hv := vcheck_ev b
    rw [if_pos hp] at hv
    refine ⟨r, s, 0, hg.2, fun _ => hg, ?_, ?_⟩
    ·refine hf.bind (f := fun k t => if t = 0 then (value_Check.f k b.f0 b.f1 b.f2 b.f3).bind fun t => if t = 0 then (fns_two.f k q a.f0 a.f1 a.f2 a.f3 b.f0 b.f1 b.f2 b.f3).bind fun x => (own_Value.f x.1 x.2.1 x.2.2.1 x.2.2.2.1).bind fun y => some (y.1, y.2.1, y.2.2.1, y.2.2.2, x.2.2.2.2, 0) else some (0, 0, ⟨#[]⟩, [], false, t) else some (0, 0, ⟨#[]⟩, [], false, t)) ?_
     refine Ev.congr (f := fun k => (value_Check.f k b.f0 b.f1 b.f2 b.f3).bind fun t => if t = 0 then (fns_two.f k q a.f0 a.f1 a.f2 a.f3 b.f0 b.f1 b.f2 b.f3).bind fun x => (own_Value.f x.1 x.2.1 x.2.2.1 x.2.2.2.1).bind fun y => some (y.1, y.2.1, y.2.2.1, y.2.2.2, x.2.2.2.2, 0) else some (0, 0, ⟨#[]⟩, [], false, t)) (fun _ => if_pos rfl) ?_
     refine hv.bind (f := fun k t => if t = 0 then (fns_two.f k q a.f0 a.f1 a.f2 a.f3 b.f0 b.f1 b.f2 b.f3).bind fun x => (own_Value.f x.1 x.2.1 x.2.2.1 x.2.2.2.1).bind fun y => some (y.1, y.2.1, y.2.2.1, y.2.2.2, x.2.2.2.2, 0) else some (0, 0, ⟨#[]⟩, [], false, t)) ?_
     refine Ev.congr (f := fun k => (fns_two.f k q a.f0 a.f1 a.f2 a.f3 b.f0 b.f1 b.f2 b.f3).bind fun x => (own_Value.f x.1 x.2.1 x.2.2.1 x.2.2.2.1).bind fun y => some (y.1, y.2.1, y.2.2.1, y.2.2.2, x.2.2.2.2, 0)) (fun _ => if_pos rfl) ?_
     refine h1.bind (f := fun _ x => (own_Value.f x.1 x.2.1 x.2.2.1 x.2.2.2.1).bind fun y => some (y.1, y.2.1, y.2.2.1, y.2.2.2, x.2.2.2.2, 0)) (Ev.congr (f := fun _ => some (tup6 r s 0)) (fun _ => ?_) (Ev.now _))
     show (own_Value.f r.f0 r.f1 r.f2 r.f3).bind _ = _
     rw [own_ok_ev hg.1]
     rfl
    ·refine Ev.congr hK ((rright_ev a ha).bind (f := fun k t => if t = true then (spinneyref01_Right.f k b.f0 b.f1 b.f2 b.f3).bind fun u => if u = true then (spinneyref05_Both.f k q a.f0 a.f1 a.f2 a.f3 b.f0 b.f1 b.f2 b.f3).bind fun x => some (x.1, x.2.1, x.2.2.1, x.2.2.2.1, x.2.2.2.2, 0) else some (tup6 ⟨0, 0, ⟨#[]⟩, []⟩ false 3) else some (tup6 ⟨0, 0, ⟨#[]⟩, []⟩ false 3)) (Ev.congr (f := fun k => (spinneyref01_Right.f k b.f0 b.f1 b.f2 b.f3).bind fun u => if u = true then (spinneyref05_Both.f k q a.f0 a.f1 a.f2 a.f3 b.f0 b.f1 b.f2 b.f3).bind fun x => some (x.1, x.2.1, x.2.2.1, x.2.2.2.1, x.2.2.2.2, 0) else some (tup6 ⟨0, 0, ⟨#[]⟩, []⟩ false 3)) (fun _ => if_pos (decide_eq_true ho)) ((rright_ev b hb).bind (f := fun k u => if u = true then (spinneyref05_Both.f k q a.f0 a.f1 a.f2 a.f3 b.f0 b.f1 b.f2 b.f3).bind fun x => some (x.1, x.2.1, x.2.2.1, x.2.2.2.1, x.2.2.2.2, 0) else some (tup6 ⟨0, 0, ⟨#[]⟩, []⟩ false 3)) (Ev.congr (f := fun k => (spinneyref05_Both.f k q a.f0 a.f1 a.f2 a.f3 b.f0 b.f1 b.f2 b.f3).bind fun x => some (x.1, x.2.1, x.2.2.1, x.2.2.2.1, x.2.2.2.2, 0)) (fun _ => if_pos (decide_eq_true hp)) (h2.bind (f := fun _ x => some (x.1, x.2.1, x.2.2.1, x.2.2.2.1, x.2.2.2.2, 0)) (Ev.now _))))))
   ·have hv := vcheck_ev b
    rw [if_neg hp] at hv
    refine ⟨⟨0, 0, ⟨#[]⟩, []⟩, false, 3, wf_nil, fun h => absurd h (by decide), ?_, ?_⟩
    ·refine hf.bind (f := fun k t => if t = 0 then (value_Check.f k b.f0 b.f1 b.f2 b.f3).bind fun t => if t = 0 then (fns_two.f k q a.f0 a.f1 a.f2 a.f3 b.f0 b.f1 b.f2 b.f3).bind fun x => (own_Value.f x.1 x.2.1 x.2.2.1 x.2.2.2.1).bind fun y => some (y.1, y.2.1, y.2.2.1, y.2.2.2, x.2.2.2.2, 0) else some (0, 0, ⟨#[]⟩, [], false, t) else some (0, 0, ⟨#[]⟩, [], false, t)) ?_
     refine Ev.congr (f := fun k => (value_Check.f k b.f0 b.f1 b.f2 b.f3).bind fun t => if t = 0 then (fns_two.f k q a.f0 a.f1 a.f2 a.f3 b.f0 b.f1 b.f2 b.f3).bind fun x => (own_Value.f x.1 x.2.1 x.2.2.1 x.2.2.2.1).bind fun y => some (y.1, y.2.1, y.2.2.1, y.2.2.2, x.2.2.2.2, 0) else some (0, 0, ⟨#[]⟩, [], false, t)) (fun _ => if_pos rfl) ?_
     exact hv.bind (f := fun k t => if t = 0 then (fns_two.f k q a.f0 a.f1 a.f2 a.f3 b.f0 b.f1 b.f2 b.f3).bind fun x => (own_Value.f x.1 x.2.1 x.2.2.1 x.2.2.2.1).bind fun y => some (y.1, y.2.1, y.2.2.1, y.2.2.2, x.2.2.2.2, 0) else some (0, 0, ⟨#[]⟩, [], false, t)) (Ev.congr (f := fun _ => some (tup6 ⟨0, 0, ⟨#[]⟩, []⟩ false 3)) (fun _ => if_neg (by decide)) (Ev.now _))
    ·refine Ev.congr hK ((rright_ev a ha).bind (f := fun k t => if t = true then (spinneyref01_Right.f k b.f0 b.f1 b.f2 b.f3).bind fun u => if u = true then (spinneyref05_Both.f k q a.f0 a.f1 a.f2 a.f3 b.f0 b.f1 b.f2 b.f3).bind fun x => some (x.1, x.2.1, x.2.2.1, x.2.2.2.1, x.2.2.2.2, 0) else some (tup6 ⟨0, 0, ⟨#[]⟩, []⟩ false 3) else some (tup6 ⟨0, 0, ⟨#[]⟩, []⟩ false 3)) (Ev.congr (f := fun k => (spinneyref01_Right.f k b.f0 b.f1 b.f2 b.f3).bind fun u => if u = true then (spinneyref05_Both.f k q a.f0 a.f1 a.f2 a.f3 b.f0 b.f1 b.f2 b.f3).bind fun x => some (x.1, x.2.1, x.2.2.1, x.2.2.2.1, x.2.2.2.2, 0) else some (tup6 ⟨0, 0, ⟨#[]⟩, []⟩ false 3)) (fun _ => if_pos (decide_eq_true ho)) ((rright_ev b hb).bind (f := fun k u => if u = true then (spinneyref05_Both.f k q a.f0 a.f1 a.f2 a.f3 b.f0 b.f1 b.f2 b.f3).bind fun x => some (x.1, x.2.1, x.2.2.1, x.2.2.2.1, x.2.2.2.2, 0) else some (tup6 ⟨0, 0, ⟨#[]⟩, []⟩ false 3)) (Ev.congr (f := fun _ => some (tup6 ⟨0, 0, ⟨#[]⟩, []⟩ false 3)) (fun _ => if_neg (by rw [decide_eq_false hp]; decide)) (Ev.now _)))))
  ·rw [if_neg ho] at hf
   refine ⟨⟨0, 0, ⟨#[]⟩, []⟩, false, 3, wf_nil, fun h => absurd h (by decide), ?_, ?_⟩
   ·exact hf.bind (f := fun k t => if t = 0 then (value_Check.f k b.f0 b.f1 b.f2 b.f3).bind fun t => if t = 0 then (fns_two.f k q a.f0 a.f1 a.f2 a.f3 b.f0 b.f1 b.f2 b.f3).bind fun x => (own_Value.f x.1 x.2.1 x.2.2.1 x.2.2.2.1).bind fun y => some (y.1, y.2.1, y.2.2.1, y.2.2.2, x.2.2.2.2, 0) else some (0, 0, ⟨#[]⟩, [], false, t) else some (0, 0, ⟨#[]⟩, [], false, t)) (Ev.congr (f := fun _ => some (tup6 ⟨0, 0, ⟨#[]⟩, []⟩ false 3)) (fun _ => if_neg (by decide)) (Ev.now _))
   ·exact Ev.congr hK ((rright_ev a ha).bind (f := fun k t => if t = true then (spinneyref01_Right.f k b.f0 b.f1 b.f2 b.f3).bind fun u => if u = true then (spinneyref05_Both.f k q a.f0 a.f1 a.f2 a.f3 b.f0 b.f1 b.f2 b.f3).bind fun x => some (x.1, x.2.1, x.2.2.1, x.2.2.2.1, x.2.2.2.2, 0) else some (tup6 ⟨0, 0, ⟨#[]⟩, []⟩ false 3) else some (tup6 ⟨0, 0, ⟨#[]⟩, []⟩ false 3)) (Ev.congr (f := fun _ => some (tup6 ⟨0, 0, ⟨#[]⟩, []⟩ false 3)) (fun _ => if_neg (by rw [decide_eq_false ho]; decide)) (Ev.now _)))
 ·rw [if_neg h] at hf
  refine ⟨⟨0, 0, ⟨#[]⟩, []⟩, false, 4, wf_nil, fun h => absurd h (by decide), ?_, ?_⟩
  ·exact hf.bind (f := fun k t => if t = 0 then (value_Check.f k b.f0 b.f1 b.f2 b.f3).bind fun t => if t = 0 then (fns_two.f k q a.f0 a.f1 a.f2 a.f3 b.f0 b.f1 b.f2 b.f3).bind fun x => (own_Value.f x.1 x.2.1 x.2.2.1 x.2.2.2.1).bind fun y => some (y.1, y.2.1, y.2.2.1, y.2.2.2, x.2.2.2.2, 0) else some (0, 0, ⟨#[]⟩, [], false, t) else some (0, 0, ⟨#[]⟩, [], false, t)) (Ev.congr (f := fun _ => some (tup6 ⟨0, 0, ⟨#[]⟩, []⟩ false 4)) (fun _ => if_neg (by decide)) (Ev.now _))
  ·refine Ev.congr (f := fun _ => some (tup6 ⟨0, 0, ⟨#[]⟩, []⟩ false 4)) (fun k => ?_) (Ev.now _)
   unfold spinneyref05_Two.f
   rw [kind5_is, decide_eq_false h]; rfl
end Go.Proofs.YtgmmoagclkmeaaaDoor.XH
end
section
namespace Go.Proofs.YtgmmoagclkmeaaaDoor.XH
open Go.RowKit Go.Proofs.YtgmmoagclkmeaaaDoorW.PrintWords Go.Proofs.YtgmmoagclkmeaaaDoorW.PrintLast Go.Proofs.YtgmmoagclkmeaaaDoorW.PrintMore
attribute [local go_sem] max2_int min2_int max_two min_two max_three min_three max_four min_four   -- for this text's walks alone
set_option linter.unusedVariables false
set_option linter.unusedSimpArgs false

theorem FnsTwo_pure (q : Int) (_ : (Lit.int .i64 q).wf = true) (k n : Int) (t : ByteArray) (l : List S24) (hw : WfV ⟨k, n, t, l⟩) (k' n' : Int) (t' : ByteArray) (l' : List S24) (hw' : WfV ⟨k', n', t', l'⟩) : ∃ i, spinneylaw05_FnsTwo.f i q k n t l k' n' t' l' = some true := by
 obtain ⟨r, s, e, hr, _, ⟨K1, h1⟩, ⟨K2, h2⟩⟩ := Two_same q ⟨k, n, t, l⟩ ⟨k', n', t', l'⟩ hw hw'
 obtain ⟨K3, h3⟩ := speaks5_ev
 obtain ⟨K4, h4⟩ := same_ev r hr
 refine ⟨K1 + K2 + K3 + K4, ?_⟩
 have h1 : fns_Two.f (K1 + K2 + K3 + K4) q k n t l k' n' t' l' = some (tup6 r s e) := h1 _ (by omega)
 have h2 : spinneyref05_Two.f (K1 + K2 + K3 + K4) q k n t l k' n' t' l' = some (tup6 r s e) := h2 _ (by omega)
 have h4 : spinneyplain_Value.f (K1 + K2 + K3 + K4) (tup6 r s e).1 (tup6 r s e).2.1 (tup6 r s e).2.2.1 (tup6 r s e).2.2.2.1 (tup6 r s e).1 (tup6 r s e).2.1 (tup6 r s e).2.2.1 (tup6 r s e).2.2.2.1 = some true := h4 _ (by omega)
 unfold spinneylaw05_FnsTwo.f
 rw [h1, Option.bind_some, h2, Option.bind_some, h4, h3 _ (by omega)]
 simp
end Go.Proofs.YtgmmoagclkmeaaaDoor.XH
end
