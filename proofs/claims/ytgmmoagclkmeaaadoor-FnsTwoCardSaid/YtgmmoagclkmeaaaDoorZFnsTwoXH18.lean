-- cut down by bundle.py (the session's own program) from the texts YtgmmoagclkmeaaaDoorXH18, to what this claim names
import Derived.Test.YtgmmoagclkmeaaaDoorZFnsTwoXH0
import Derived.Test.YtgmmoagclkmeaaaDoorZFnsTwoXH6
import Derived.Test.YtgmmoagclkmeaaaDoorZFnsTwoXH16
import Derived.Test.YtgmmoagclkmeaaaDoorZFnsTwoXH17
-- laid by xprint.py (the session's own program) out of the translation; Lean checks it
namespace Go.Proofs.YtgmmoagclkmeaaaDoor.XH
open Go.RowKit Go.Proofs.YtgmmoagclkmeaaaDoorW.PrintWords Go.Proofs.YtgmmoagclkmeaaaDoorW.PrintLast Go.Proofs.YtgmmoagclkmeaaaDoorW.PrintMore
attribute [local go_sem] max2_int min2_int max_two min_two max_three min_three max_four min_four   -- for this text's walks alone
set_option linter.unusedVariables false
set_option linter.unusedSimpArgs false

def spinneyref05_Both.f (k : Nat) (a0 : Int) (a1_0 : Int) (a1_1 : Int) (a1_2 : ByteArray) (l1_3 : List (S24)) (a2_0 : Int) (a2_1 : Int) (a2_2 : ByteArray) (l2_3 : List (S24)) : Option (Int × Int × ByteArray × (List (S24)) × Bool) := if a0 = 0 then ((spinneyref05_sum.f a1_0 a1_1 a1_2 l1_3 a2_0 a2_1 a2_2 l2_3).bind fun bt359 => (some (bt359.1, bt359.2.1, bt359.2.2.1, bt359.2.2.2, false))) else (if a0 = 1 then ((spinneyref01_Compare.f k a2_0 a2_1 a2_2 l2_3 a1_0 a1_1 a1_2 l1_3).bind fun t365 => (if t365 > 0 then (some (a2_0, a2_1, a2_2, l2_3, false)) else (some (a1_0, a1_1, a1_2, l1_3, false)))) else (if a0 = 2 then ((spinneyref01_Compare.f k a2_0 a2_1 a2_2 l2_3 a1_0 a1_1 a1_2 l1_3).bind fun t366 => (if t366 < 0 then (some (a2_0, a2_1, a2_2, l2_3, false)) else (some (a1_0, a1_1, a1_2, l1_3, false)))) else (if a0 = 3 then ((spinneyref05_conj.f k a1_0 a1_1 a1_2 l1_3 a2_0 a2_1 a2_2 l2_3).bind fun bt367 => (some (bt367.1, bt367.2.1, bt367.2.2.1, bt367.2.2.2, false))) else (if a0 = 5 then (some (a2_0, a2_1, a2_2, l2_3, false)) else (if a0 = 6 then ((spinneyref05_sum.f a1_0 a1_1 a1_2 l1_3 a2_0 a2_1 a2_2 l2_3).bind fun bt373 => (if bt373.1 = 2 then (some (bt373.1, bt373.2.1, bt373.2.2.1, bt373.2.2.2, decide (bt373.2.1 > 100))) else (some (bt373.1, bt373.2.1, bt373.2.2.1, bt373.2.2.2, false)))) else (if a0 = 7 then (if a1_0 = 2 then ((spinneyref05_Int.f (wrap64 (a1_1 + 1))).bind fun bt380 => (some (bt380.1, bt380.2.1, bt380.2.2.1, bt380.2.2.2, false))) else ((spinneyref05_Int.f 1).bind fun bt386 => (some (bt386.1, bt386.2.1, bt386.2.2.1, bt386.2.2.2, false)))) else (some (a1_0, a1_1, a1_2, l1_3, false))))))))
def spinneyref05_Both.T16 : Bool × List (List Nat × List Nat) := (true, [([], []), ([], []), ([1], [1]), ([2], [2]), ([3], [3]), ([4], [4]), ([5, 4], [4, 5]), ([6, 4], [4, 6]), ([4, 7], [4, 7]), ([0, 4, 0], [0]), ([8, 9, 0, 1, 2, 3, 4, 5, 6, 7, 8, 9], [8])])
def spinneyref05_Both.B16 : List Nat := [0, 0, 2, 6, 14, 30, 62, 126, 254, 31, 1023]
theorem spinneyref05_Both.tab16 : rtab .any (opsOf Tryd.f28 16) = spinneyref05_Both.T16 := by kernel_rfl
theorem spinneyref05_Both.bits16 : waitsOk spinneyref05_Both.T16.2 spinneyref05_Both.B16 = true := by kernel_rfl
set_option maxHeartbeats 8000000 in
set_option maxRecDepth 100000 in
theorem spinneyref05_Both.calls (k : Nat) (a0 : Int) (a1_0 : Int) (a1_1 : Int) (a1_2 : ByteArray) (P1_3_ : Nat → Prop) (A1_3 : Option Addr) (c1_3 : Nat) (l1_3 : List (S24)) (a2_0 : Int) (a2_1 : Int) (a2_2 : ByteArray) (P2_3_ : Nat → Prop) (A2_3 : Option Addr) (c2_3 : Nat) (l2_3 : List (S24)) (r1 : Int) (r2 : Int) (r3 : ByteArray) (r4 : List (S24)) (r5 : Bool) (w : World) (hs1_3 : Kd.V k24 24 w w.heap.size (fun k_ => P1_3_ k_) (.slice A1_3 l1_3.length c1_3) l1_3) (hs2_3 : Kd.V k24 24 w w.heap.size (fun k_ => P2_3_ k_) (.slice A2_3 l2_3.length c2_3) l2_3) (h : spinneyref05_Both.f k a0 a1_0 a1_1 a1_2 l1_3 a2_0 a2_1 a2_2 l2_3 = some (r1, r2, r3, r4, r5)) :
  Calls Tryd.prog 28 #[.int .i64 a0, .agg #[.int .i64 a1_0, .int .i64 a1_1, .string a1_2, .slice A1_3 l1_3.length c1_3], .agg #[.int .i64 a2_0, .int .i64 a2_1, .string a2_2, .slice A2_3 l2_3.length c2_3]] w fun e w' => ∃ v3_ : Value, e = .returned (.tuple #[.agg #[.int .i64 r1, .int .i64 r2, .string r3, v3_], .bool r5]) ∧ Kd.V k24 24 w' w.heap.size (fun k_ => ((P1_3_ k_ ∨ P2_3_ k_) ∨ w.heap.size ≤ k_)) v3_ r4 ∧ Below w.heap.size w w' := by
 have hu24 := Tryd.underlying24
 have HO1_3 := Aside0.mk (show Kd.V k24 24 w w.heap.size (fun k_ => ((P1_3_ k_ ∨ P2_3_ k_) ∨ w.heap.size ≤ k_)) (.slice A1_3 l1_3.length c1_3) l1_3 from Kd.V_mono hs1_3 (fun k_ hk => .inl (.inl hk)))
 have HO2_3 := Aside0.mk (show Kd.V k24 24 w w.heap.size (fun k_ => ((P1_3_ k_ ∨ P2_3_ k_) ∨ w.heap.size ≤ k_)) (.slice A2_3 l2_3.length c2_3) l2_3 from Kd.V_mono hs2_3 (fun k_ hk => .inl (.inr hk)))
 have HB := Aside0.mk (Below.refl w.heap.size w)
 have H : (if a0 = 0 then ((spinneyref05_sum.f a1_0 a1_1 a1_2 l1_3 a2_0 a2_1 a2_2 l2_3).bind fun bt359 => (some (bt359.1, bt359.2.1, bt359.2.2.1, bt359.2.2.2, false))) else (if a0 = 1 then ((spinneyref01_Compare.f k a2_0 a2_1 a2_2 l2_3 a1_0 a1_1 a1_2 l1_3).bind fun t365 => (if t365 > 0 then (some (a2_0, a2_1, a2_2, l2_3, false)) else (some (a1_0, a1_1, a1_2, l1_3, false)))) else (if a0 = 2 then ((spinneyref01_Compare.f k a2_0 a2_1 a2_2 l2_3 a1_0 a1_1 a1_2 l1_3).bind fun t366 => (if t366 < 0 then (some (a2_0, a2_1, a2_2, l2_3, false)) else (some (a1_0, a1_1, a1_2, l1_3, false)))) else (if a0 = 3 then ((spinneyref05_conj.f k a1_0 a1_1 a1_2 l1_3 a2_0 a2_1 a2_2 l2_3).bind fun bt367 => (some (bt367.1, bt367.2.1, bt367.2.2.1, bt367.2.2.2, false))) else (if a0 = 5 then (some (a2_0, a2_1, a2_2, l2_3, false)) else (if a0 = 6 then ((spinneyref05_sum.f a1_0 a1_1 a1_2 l1_3 a2_0 a2_1 a2_2 l2_3).bind fun bt373 => (if bt373.1 = 2 then (some (bt373.1, bt373.2.1, bt373.2.2.1, bt373.2.2.2, decide (bt373.2.1 > 100))) else (some (bt373.1, bt373.2.1, bt373.2.2.1, bt373.2.2.2, false)))) else (if a0 = 7 then (if a1_0 = 2 then ((spinneyref05_Int.f (wrap64 (a1_1 + 1))).bind fun bt380 => (some (bt380.1, bt380.2.1, bt380.2.2.1, bt380.2.2.2, false))) else ((spinneyref05_Int.f 1).bind fun bt386 => (some (bt386.1, bt386.2.1, bt386.2.2.1, bt386.2.2.2, false)))) else (some (a1_0, a1_1, a1_2, l1_3, false))))))))) = some (r1, r2, r3, r4, r5) := h
 clear h
 by_cases c4 : a0 = 0
 ·rw [if_pos c4] at H
  have c4b0 : (a0 == 0) = true := beq_iff_eq.mpr c4
  have c4b1 : (a0 != 0) = false := bne_eq_false_iff_eq.mpr c4
  clear c4
  replace H := Option.bind_eq_some_iff.mp H
  obtain ⟨⟨t359, t360, t361, t362⟩, A50, H⟩ := H
  replace H : (some (t359, t360, t361, t362, false)) = some (r1, r2, r3, r4, r5) := H
  have A5 := Aside0.mk A50
  clear A50
  simp only [Option.some.injEq, Prod.mk.injEq] at H
  obtain ⟨rfl, rfl, rfl, rfl, rfl⟩ := H
  go_enter Tryd.func28, Tryd.ntmps28
  go_wp2_with (first | ((with_reducible refine gate_dst (N := 4) rfl ?_); refine box_event ?hg (N := 4) ?hd (cs := #[.int .i64 a1_0, .int .i64 a1_1, .string a1_2, .slice A1_3 l1_3.length c1_3]) (t := 24) ?hr ?_; (case hd => rfl); (case hg => rfl); (case hr => first | (go_simp; done) | (go_simp; rfl)); intro gb356 hg w6 hbox hb; have BK356 := Aside0.mk (hbox); have GW356 := bx_g (up_h HB) hg; have GE356 := bx_g (up_h HB) hg; replace HO1_3 := bx_v HO1_3 hg hb; replace HO2_3 := bx_v HO2_3 hg hb; replace HB := ca_h HB hb; clear hb hbox hg) | ((with_reducible refine gate_dst (N := 5) rfl ?_); refine box_event ?hg (N := 5) ?hd (cs := #[.int .i64 a2_0, .int .i64 a2_1, .string a2_2, .slice A2_3 l2_3.length c2_3]) (t := 24) ?hr ?_; (case hd => rfl); (case hg => rfl); (case hr => first | (go_simp; done) | (go_simp; rfl)); intro gb357 hg w7 hbox hb; have BK357 := Aside0.mk (hbox); have GW357 := bx_g (up_h HB) hg; have GE357 := bx_g (up_h HB) hg; have NB356_357 := bx_n (up_b BK356) hg; have NB357_356 := bx_m (up_b BK356) hg; replace HO1_3 := bx_v HO1_3 hg hb; replace HO2_3 := bx_v HO2_3 hg hb; replace BK356 := ca_b BK356 hb; replace HB := ca_h HB hb; clear hb hbox hg) | ((with_reducible refine gate_dst (N := 6) rfl ?_); refine box_event ?hg (N := 6) ?hd (cs := #[.int .i64 0, .int .i64 0, .string (⟨#[]⟩ : ByteArray), .slice none 0 0]) (t := 24) ?hr ?_; (case hd => rfl); (case hg => rfl); (case hr => first | (go_simp; done) | (go_simp; rfl)); intro gb358 hg w8 hbox hb; have BK358 := Aside0.mk (hbox); have GW358 := bx_g (up_h HB) hg; have GE358 := bx_g (up_h HB) hg; have NB356_358 := bx_n (up_b BK356) hg; have NB358_356 := bx_m (up_b BK356) hg; have NB357_358 := bx_n (up_b BK357) hg; have NB358_357 := bx_m (up_b BK357) hg; replace HO1_3 := bx_v HO1_3 hg hb; replace HO2_3 := bx_v HO2_3 hg hb; replace BK356 := ca_b BK356 hb; replace BK357 := ca_b BK357 hb; replace HB := ca_h HB hb; clear hb hbox hg; have hnb9 := NB356_357.out; have hnc9 := NB357_356.out; have hnb10 := NB356_358.out; have hnc10 := NB358_356.out; obtain ⟨hcz11_0, hcz11_1, hcz11_2, hcz11_3, hfz11_0, hfz11_1, hfz11_2, hfz11_3⟩ := bk4 BK356; have hnb12 := NB357_358.out; have hnc12 := NB358_357.out; obtain ⟨hcz13_0, hcz13_1, hcz13_2, hcz13_3, hfz13_0, hfz13_1, hfz13_2, hfz13_3⟩ := bk4 BK357) | ((with_reducible refine gate_callee (f := 47) rfl ?_); refine goesL_ (some 14) rfl rfl Tryd.func47 (by kernel_rfl) rfl #[.agg #[.int .i64 a1_0, .int .i64 a1_1, .string a1_2, .slice A1_3 l1_3.length c1_3], .agg #[.int .i64 a2_0, .int .i64 a2_1, .string a2_2, .slice A2_3 l2_3.length c2_3]] rfl (by (try simp only [List.map_toArray, List.map_cons, List.map_nil]); first | done | rfl | (simp only [List.length_drop, List.length_take]; rfl) | (simp only [gt_iff_lt, Int.ofNat_lt]; rfl)) ?_; (with_reducible refine (spinneyref05_sum.calls a1_0 a1_1 a1_2 (fun k_ => (((((P1_3_ k_ ∨ P2_3_ k_) ∨ w.heap.size ≤ k_) ∧ k_ ≠ gb356) ∧ k_ ≠ gb357) ∧ k_ ≠ gb358)) _ _ l1_3 a2_0 a2_1 a2_2 _ _ l2_3 t359 t360 t361 t362 _ ?side1 ?side2 ?side3 A5.out).mono ?_); (case side1 => first | exact HO1_3.out | exact Kd.V_mono HO1_3.out (fun _ hk_ => by simp only [and_assoc] at hk_ ⊢; exact hk_)); (case side2 => repeat (first | exact (Kd.V_reads' HO2_3.out).2.2 | (with_reducible refine Kd.C_alloc ?_ _) | (with_reducible refine Kd.C_drewN ?_ _) | (with_reducible refine Kd.C_drew ?_))); (case side3 => exact (Kd.V_reads' HO2_3.out).2.1); rintro e w14 ⟨v363, rfl, ho0, hb⟩; refine ⟨_, rfl, ?_⟩; have HO364 := Aside0.mk (Kd.V_lower (Kd.V_mono (ok' := fun k_ => ((P1_3_ k_ ∨ P2_3_ k_) ∨ w.heap.size ≤ k_) ∧ k_ ≠ gb356 ∧ k_ ≠ gb357 ∧ k_ ≠ gb358) ho0 (fun k_ hk_ => ⟨Or.elim hk_ (fun hs_ => hs_.1.1.1) (fun hn_ => (.inr (Nat.le_trans (below_size (up_h HB)) hn_))), Or.elim hk_ (fun hs_ => hs_.1.1.2) (fun hn_ => (Kd.freshB (up_b BK356) k_ hn_)), Or.elim hk_ (fun hs_ => hs_.1.2) (fun hn_ => (Kd.freshB (up_b BK357) k_ hn_)), Or.elim hk_ (fun hs_ => hs_.2) (fun hn_ => (Kd.freshB (up_b BK358) k_ hn_))⟩)) (below_size (up_h HB))); replace HO1_3 := ca_v HO1_3 hb; replace HO2_3 := ca_v HO2_3 hb; replace BK356 := ca_b BK356 hb; replace BK357 := ca_b BK357 hb; replace BK358 := ca_b BK358 hb; replace HB := ca_h HB hb; (try clear hb); (try clear hb2); (try clear hk); (try clear hi); (try clear ho0); obtain ⟨hcz15_0, hcz15_1, hcz15_2, hcz15_3, hfz15_0, hfz15_1, hfz15_2, hfz15_3⟩ := bk4 BK358; obtain ⟨Ao16, co16, eo16⟩ := Kd.V_slice HO364.out; subst eo16))
  refine bodyPost_ret (results_ct rfl _ _ gb358 24 #[.int .i64 t359, .int .i64 t360, .string t361, .slice Ao16 t362.length co16] (0, 0) _ rfl (pu4 BK358) Tryd.underlying24 rfl (by kernel_rfl)) rfl ?_
  exact ⟨_, by first | rfl | (simp [errW_none, errW_some] <;> rfl) | (simp [*, errW_none, errW_some] <;> rfl), by (with_reducible repeat (first | apply Kd.V_alloc | apply Kd.V_drewN | apply Kd.V_drew)); exact Kd.V_mono (fa4_v HO364 (fun _ hk => hk.2.2.2)) (fun _ hk => hk.1.1), by repeat (first | (with_reducible first | exact HB.out | apply below_alloc | apply pw_below_drewN | apply below_drew1 | refine below_set ?_ GE356.out | refine below_set ?_ GE357.out | refine below_set ?_ GE358.out) | exact HB.out)⟩
 ·rw [if_neg c4] at H
  have c4b0 : (a0 == 0) = false := beq_eq_false_iff_ne.mpr c4
  have c4b1 : (a0 != 0) = true := bne_iff_ne.mpr c4
  by_cases c17 : a0 = 1
  ·rw [if_pos c17] at H
   have c17b0 : (a0 == 1) = true := beq_iff_eq.mpr c17
   have c17b1 : (a0 != 1) = false := bne_eq_false_iff_eq.mpr c17
   clear c17
   replace H := Option.bind_eq_some_iff.mp H
   obtain ⟨t365, A180, H⟩ := H
   replace H : (if t365 > 0 then (some (a2_0, a2_1, a2_2, l2_3, false)) else (some (a1_0, a1_1, a1_2, l1_3, false))) = some (r1, r2, r3, r4, r5) := H
   have A18 := Aside0.mk A180
   clear A180
   by_cases c19 : t365 > 0
   ·rw [if_pos c19] at H
    have c19b0 : decide (0 < t365) = true := decide_eq_true c19
    clear c19
    simp only [Option.some.injEq, Prod.mk.injEq] at H
    obtain ⟨rfl, rfl, rfl, rfl, rfl⟩ := H
    go_enter Tryd.func28, Tryd.ntmps28
    go_wp2_with (first | ((with_reducible refine gate_dst (N := 4) rfl ?_); refine box_event ?hg (N := 4) ?hd (cs := #[.int .i64 a1_0, .int .i64 a1_1, .string a1_2, .slice A1_3 l1_3.length c1_3]) (t := 24) ?hr ?_; (case hd => rfl); (case hg => rfl); (case hr => first | (go_simp; done) | (go_simp; rfl)); intro gb356 hg w20 hbox hb; have BK356 := Aside0.mk (hbox); have GW356 := bx_g (up_h HB) hg; have GE356 := bx_g (up_h HB) hg; replace HO1_3 := bx_v HO1_3 hg hb; replace HO2_3 := bx_v HO2_3 hg hb; replace HB := ca_h HB hb; clear hb hbox hg) | ((with_reducible refine gate_dst (N := 5) rfl ?_); refine box_event ?hg (N := 5) ?hd (cs := #[.int .i64 a2_0, .int .i64 a2_1, .string a2_2, .slice A2_3 l2_3.length c2_3]) (t := 24) ?hr ?_; (case hd => rfl); (case hg => rfl); (case hr => first | (go_simp; done) | (go_simp; rfl)); intro gb357 hg w21 hbox hb; have BK357 := Aside0.mk (hbox); have GW357 := bx_g (up_h HB) hg; have GE357 := bx_g (up_h HB) hg; have NB356_357 := bx_n (up_b BK356) hg; have NB357_356 := bx_m (up_b BK356) hg; replace HO1_3 := bx_v HO1_3 hg hb; replace HO2_3 := bx_v HO2_3 hg hb; replace BK356 := ca_b BK356 hb; replace HB := ca_h HB hb; clear hb hbox hg) | ((with_reducible refine gate_dst (N := 6) rfl ?_); refine box_event ?hg (N := 6) ?hd (cs := #[.int .i64 0, .int .i64 0, .string (⟨#[]⟩ : ByteArray), .slice none 0 0]) (t := 24) ?hr ?_; (case hd => rfl); (case hg => rfl); (case hr => first | (go_simp; done) | (go_simp; rfl)); intro gb358 hg w22 hbox hb; have BK358 := Aside0.mk (hbox); have GW358 := bx_g (up_h HB) hg; have GE358 := bx_g (up_h HB) hg; have NB356_358 := bx_n (up_b BK356) hg; have NB358_356 := bx_m (up_b BK356) hg; have NB357_358 := bx_n (up_b BK357) hg; have NB358_357 := bx_m (up_b BK357) hg; replace HO1_3 := bx_v HO1_3 hg hb; replace HO2_3 := bx_v HO2_3 hg hb; replace BK356 := ca_b BK356 hb; replace BK357 := ca_b BK357 hb; replace HB := ca_h HB hb; clear hb hbox hg; have hnb23 := NB357_356.out; have hnc23 := NB356_357.out; have hnb24 := NB357_358.out; have hnc24 := NB358_357.out; obtain ⟨hcz25_0, hcz25_1, hcz25_2, hcz25_3, hfz25_0, hfz25_1, hfz25_2, hfz25_3⟩ := bk4 BK357; have hnb26 := NB356_358.out; have hnc26 := NB358_356.out; obtain ⟨hcz27_0, hcz27_1, hcz27_2, hcz27_3, hfz27_0, hfz27_1, hfz27_2, hfz27_3⟩ := bk4 BK356) | ((with_reducible refine gate_callee (f := 48) rfl ?_); refine goesL_ (some 19) rfl rfl Tryd.func48 (by kernel_rfl) rfl #[.agg #[.int .i64 a2_0, .int .i64 a2_1, .string a2_2, .slice A2_3 l2_3.length c2_3], .agg #[.int .i64 a1_0, .int .i64 a1_1, .string a1_2, .slice A1_3 l1_3.length c1_3]] rfl (by (try simp only [List.map_toArray, List.map_cons, List.map_nil]); first | done | rfl | (simp only [List.length_drop, List.length_take]; rfl) | (simp only [gt_iff_lt, Int.ofNat_lt]; rfl)) ?_; (with_reducible refine (spinneyref01_Compare.calls k a2_0 a2_1 a2_2 _ _ l2_3 a1_0 a1_1 a1_2 _ _ l1_3 t365 _ ?side1 ?side2 ?side3 ?side4 A18.out).mono ?_); (case side1 => repeat (first | exact (Kd.V_reads' HO2_3.out).2.2 | (with_reducible refine Kd.C_alloc ?_ _) | (with_reducible refine Kd.C_drewN ?_ _) | (with_reducible refine Kd.C_drew ?_))); (case side2 => exact (Kd.V_reads' HO2_3.out).2.1); (case side3 => repeat (first | exact (Kd.V_reads' HO1_3.out).2.2 | (with_reducible refine Kd.C_alloc ?_ _) | (with_reducible refine Kd.C_drewN ?_ _) | (with_reducible refine Kd.C_drew ?_))); (case side4 => exact (Kd.V_reads' HO1_3.out).2.1); rintro e w28 ⟨rfl, hb⟩; refine ⟨_, rfl, ?_⟩; replace HO1_3 := ca_v HO1_3 hb; replace HO2_3 := ca_v HO2_3 hb; replace BK356 := ca_b BK356 hb; replace BK357 := ca_b BK357 hb; replace BK358 := ca_b BK358 hb; replace HB := ca_h HB hb; (try clear hb); (try clear hb2); (try clear hk); (try clear hi); obtain ⟨hcz29_0, hcz29_1, hcz29_2, hcz29_3, hfz29_0, hfz29_1, hfz29_2, hfz29_3⟩ := bk4 BK357; obtain ⟨hcz30_0, hcz30_1, hcz30_2, hcz30_3, hfz30_0, hfz30_1, hfz30_2, hfz30_3⟩ := bk4 BK358))
    refine bodyPost_ret (results_ct rfl _ _ gb358 24 #[.int .i64 a2_0, .int .i64 a2_1, .string a2_2, .slice A2_3 l2_3.length c2_3] (0, 0) _ rfl (pu4 BK358) Tryd.underlying24 rfl (by kernel_rfl)) rfl ?_
    exact ⟨_, by first | rfl | (simp [errW_none, errW_some] <;> rfl) | (simp [*, errW_none, errW_some] <;> rfl), by (with_reducible repeat (first | apply Kd.V_alloc | apply Kd.V_drewN | apply Kd.V_drew)); exact Kd.V_mono (fa4_v HO2_3 (fun _ hk => hk.2)) (fun _ hk => hk.1.1.1.1), by repeat (first | (with_reducible first | exact HB.out | apply below_alloc | apply pw_below_drewN | apply below_drew1 | refine below_set ?_ GE356.out | refine below_set ?_ GE357.out | refine below_set ?_ GE358.out) | exact HB.out)⟩
   ·rw [if_neg c19] at H
    have c19b0 : decide (0 < t365) = false := decide_eq_false c19
    clear c19
    simp only [Option.some.injEq, Prod.mk.injEq] at H
    obtain ⟨rfl, rfl, rfl, rfl, rfl⟩ := H
    go_enter Tryd.func28, Tryd.ntmps28
    go_wp2_with (first | ((with_reducible refine gate_dst (N := 4) rfl ?_); refine box_event ?hg (N := 4) ?hd (cs := #[.int .i64 a1_0, .int .i64 a1_1, .string a1_2, .slice A1_3 l1_3.length c1_3]) (t := 24) ?hr ?_; (case hd => rfl); (case hg => rfl); (case hr => first | (go_simp; done) | (go_simp; rfl)); intro gb356 hg w31 hbox hb; have BK356 := Aside0.mk (hbox); have GW356 := bx_g (up_h HB) hg; have GE356 := bx_g (up_h HB) hg; replace HO1_3 := bx_v HO1_3 hg hb; replace HO2_3 := bx_v HO2_3 hg hb; replace HB := ca_h HB hb; clear hb hbox hg) | ((with_reducible refine gate_dst (N := 5) rfl ?_); refine box_event ?hg (N := 5) ?hd (cs := #[.int .i64 a2_0, .int .i64 a2_1, .string a2_2, .slice A2_3 l2_3.length c2_3]) (t := 24) ?hr ?_; (case hd => rfl); (case hg => rfl); (case hr => first | (go_simp; done) | (go_simp; rfl)); intro gb357 hg w32 hbox hb; have BK357 := Aside0.mk (hbox); have GW357 := bx_g (up_h HB) hg; have GE357 := bx_g (up_h HB) hg; have NB356_357 := bx_n (up_b BK356) hg; have NB357_356 := bx_m (up_b BK356) hg; replace HO1_3 := bx_v HO1_3 hg hb; replace HO2_3 := bx_v HO2_3 hg hb; replace BK356 := ca_b BK356 hb; replace HB := ca_h HB hb; clear hb hbox hg) | ((with_reducible refine gate_dst (N := 6) rfl ?_); refine box_event ?hg (N := 6) ?hd (cs := #[.int .i64 0, .int .i64 0, .string (⟨#[]⟩ : ByteArray), .slice none 0 0]) (t := 24) ?hr ?_; (case hd => rfl); (case hg => rfl); (case hr => first | (go_simp; done) | (go_simp; rfl)); intro gb358 hg w33 hbox hb; have BK358 := Aside0.mk (hbox); have GW358 := bx_g (up_h HB) hg; have GE358 := bx_g (up_h HB) hg; have NB356_358 := bx_n (up_b BK356) hg; have NB358_356 := bx_m (up_b BK356) hg; have NB357_358 := bx_n (up_b BK357) hg; have NB358_357 := bx_m (up_b BK357) hg; replace HO1_3 := bx_v HO1_3 hg hb; replace HO2_3 := bx_v HO2_3 hg hb; replace BK356 := ca_b BK356 hb; replace BK357 := ca_b BK357 hb; replace HB := ca_h HB hb; clear hb hbox hg; have hnb34 := NB357_356.out; have hnc34 := NB356_357.out; have hnb35 := NB357_358.out; have hnc35 := NB358_357.out; obtain ⟨hcz36_0, hcz36_1, hcz36_2, hcz36_3, hfz36_0, hfz36_1, hfz36_2, hfz36_3⟩ := bk4 BK357; have hnb37 := NB356_358.out; have hnc37 := NB358_356.out; obtain ⟨hcz38_0, hcz38_1, hcz38_2, hcz38_3, hfz38_0, hfz38_1, hfz38_2, hfz38_3⟩ := bk4 BK356) | ((with_reducible refine gate_callee (f := 48) rfl ?_); refine goesL_ (some 19) rfl rfl Tryd.func48 (by kernel_rfl) rfl #[.agg #[.int .i64 a2_0, .int .i64 a2_1, .string a2_2, .slice A2_3 l2_3.length c2_3], .agg #[.int .i64 a1_0, .int .i64 a1_1, .string a1_2, .slice A1_3 l1_3.length c1_3]] rfl (by (try simp only [List.map_toArray, List.map_cons, List.map_nil]); first | done | rfl | (simp only [List.length_drop, List.length_take]; rfl) | (simp only [gt_iff_lt, Int.ofNat_lt]; rfl)) ?_; (with_reducible refine (spinneyref01_Compare.calls k a2_0 a2_1 a2_2 _ _ l2_3 a1_0 a1_1 a1_2 _ _ l1_3 t365 _ ?side1 ?side2 ?side3 ?side4 A18.out).mono ?_); (case side1 => repeat (first | exact (Kd.V_reads' HO2_3.out).2.2 | (with_reducible refine Kd.C_alloc ?_ _) | (with_reducible refine Kd.C_drewN ?_ _) | (with_reducible refine Kd.C_drew ?_))); (case side2 => exact (Kd.V_reads' HO2_3.out).2.1); (case side3 => repeat (first | exact (Kd.V_reads' HO1_3.out).2.2 | (with_reducible refine Kd.C_alloc ?_ _) | (with_reducible refine Kd.C_drewN ?_ _) | (with_reducible refine Kd.C_drew ?_))); (case side4 => exact (Kd.V_reads' HO1_3.out).2.1); rintro e w39 ⟨rfl, hb⟩; refine ⟨_, rfl, ?_⟩; replace HO1_3 := ca_v HO1_3 hb; replace HO2_3 := ca_v HO2_3 hb; replace BK356 := ca_b BK356 hb; replace BK357 := ca_b BK357 hb; replace BK358 := ca_b BK358 hb; replace HB := ca_h HB hb; (try clear hb); (try clear hb2); (try clear hk); (try clear hi); obtain ⟨hcz40_0, hcz40_1, hcz40_2, hcz40_3, hfz40_0, hfz40_1, hfz40_2, hfz40_3⟩ := bk4 BK356; obtain ⟨hcz41_0, hcz41_1, hcz41_2, hcz41_3, hfz41_0, hfz41_1, hfz41_2, hfz41_3⟩ := bk4 BK358))
    refine bodyPost_ret (results_ct rfl _ _ gb358 24 #[.int .i64 a1_0, .int .i64 a1_1, .string a1_2, .slice A1_3 l1_3.length c1_3] (0, 0) _ rfl (pu4 BK358) Tryd.underlying24 rfl (by kernel_rfl)) rfl ?_
    exact ⟨_, by first | rfl | (simp [errW_none, errW_some] <;> rfl) | (simp [*, errW_none, errW_some] <;> rfl), by (with_reducible repeat (first | apply Kd.V_alloc | apply Kd.V_drewN | apply Kd.V_drew)); exact Kd.V_mono (fa4_v HO1_3 (fun _ hk => hk.2)) (fun _ hk => hk.1.1.1.1), by repeat (first | (with_reducible first | exact HB.out | apply below_alloc | apply pw_below_drewN | apply below_drew1 | refine below_set ?_ GE356.out | refine below_set ?_ GE357.out | refine below_set ?_ GE358.out) | exact HB.out)⟩
  ·rw [if_neg c17] at H
   have c17b0 : (a0 == 1) = false := beq_eq_false_iff_ne.mpr c17
   have c17b1 : (a0 != 1) = true := bne_iff_ne.mpr c17
   by_cases c42 : a0 = 2
   ·rw [if_pos c42] at H
    have c42b0 : (a0 == 2) = true := beq_iff_eq.mpr c42
    have c42b1 : (a0 != 2) = false := bne_eq_false_iff_eq.mpr c42
    clear c42
    replace H := Option.bind_eq_some_iff.mp H
    obtain ⟨t366, A430, H⟩ := H
    replace H : (if t366 < 0 then (some (a2_0, a2_1, a2_2, l2_3, false)) else (some (a1_0, a1_1, a1_2, l1_3, false))) = some (r1, r2, r3, r4, r5) := H
    have A43 := Aside0.mk A430
    clear A430
    by_cases c44 : t366 < 0
    ·rw [if_pos c44] at H
     have c44b0 : decide (t366 < 0) = true := decide_eq_true c44
     clear c44
     simp only [Option.some.injEq, Prod.mk.injEq] at H
     obtain ⟨rfl, rfl, rfl, rfl, rfl⟩ := H
     go_enter Tryd.func28, Tryd.ntmps28
     go_wp2_with (first | ((with_reducible refine gate_dst (N := 4) rfl ?_); refine box_event ?hg (N := 4) ?hd (cs := #[.int .i64 a1_0, .int .i64 a1_1, .string a1_2, .slice A1_3 l1_3.length c1_3]) (t := 24) ?hr ?_; (case hd => rfl); (case hg => rfl); (case hr => first | (go_simp; done) | (go_simp; rfl)); intro gb356 hg w45 hbox hb; have BK356 := Aside0.mk (hbox); have GW356 := bx_g (up_h HB) hg; have GE356 := bx_g (up_h HB) hg; replace HO1_3 := bx_v HO1_3 hg hb; replace HO2_3 := bx_v HO2_3 hg hb; replace HB := ca_h HB hb; clear hb hbox hg) | ((with_reducible refine gate_dst (N := 5) rfl ?_); refine box_event ?hg (N := 5) ?hd (cs := #[.int .i64 a2_0, .int .i64 a2_1, .string a2_2, .slice A2_3 l2_3.length c2_3]) (t := 24) ?hr ?_; (case hd => rfl); (case hg => rfl); (case hr => first | (go_simp; done) | (go_simp; rfl)); intro gb357 hg w46 hbox hb; have BK357 := Aside0.mk (hbox); have GW357 := bx_g (up_h HB) hg; have GE357 := bx_g (up_h HB) hg; have NB356_357 := bx_n (up_b BK356) hg; have NB357_356 := bx_m (up_b BK356) hg; replace HO1_3 := bx_v HO1_3 hg hb; replace HO2_3 := bx_v HO2_3 hg hb; replace BK356 := ca_b BK356 hb; replace HB := ca_h HB hb; clear hb hbox hg) | ((with_reducible refine gate_dst (N := 6) rfl ?_); refine box_event ?hg (N := 6) ?hd (cs := #[.int .i64 0, .int .i64 0, .string (⟨#[]⟩ : ByteArray), .slice none 0 0]) (t := 24) ?hr ?_; (case hd => rfl); (case hg => rfl); (case hr => first | (go_simp; done) | (go_simp; rfl)); intro gb358 hg w47 hbox hb; have BK358 := Aside0.mk (hbox); have GW358 := bx_g (up_h HB) hg; have GE358 := bx_g (up_h HB) hg; have NB356_358 := bx_n (up_b BK356) hg; have NB358_356 := bx_m (up_b BK356) hg; have NB357_358 := bx_n (up_b BK357) hg; have NB358_357 := bx_m (up_b BK357) hg; replace HO1_3 := bx_v HO1_3 hg hb; replace HO2_3 := bx_v HO2_3 hg hb; replace BK356 := ca_b BK356 hb; replace BK357 := ca_b BK357 hb; replace HB := ca_h HB hb; clear hb hbox hg; have hnb48 := NB357_356.out; have hnc48 := NB356_357.out; have hnb49 := NB357_358.out; have hnc49 := NB358_357.out; obtain ⟨hcz50_0, hcz50_1, hcz50_2, hcz50_3, hfz50_0, hfz50_1, hfz50_2, hfz50_3⟩ := bk4 BK357; have hnb51 := NB356_358.out; have hnc51 := NB358_356.out; obtain ⟨hcz52_0, hcz52_1, hcz52_2, hcz52_3, hfz52_0, hfz52_1, hfz52_2, hfz52_3⟩ := bk4 BK356) | ((with_reducible refine gate_callee (f := 48) rfl ?_); refine goesL_ (some 26) rfl rfl Tryd.func48 (by kernel_rfl) rfl #[.agg #[.int .i64 a2_0, .int .i64 a2_1, .string a2_2, .slice A2_3 l2_3.length c2_3], .agg #[.int .i64 a1_0, .int .i64 a1_1, .string a1_2, .slice A1_3 l1_3.length c1_3]] rfl (by (try simp only [List.map_toArray, List.map_cons, List.map_nil]); first | done | rfl | (simp only [List.length_drop, List.length_take]; rfl) | (simp only [gt_iff_lt, Int.ofNat_lt]; rfl)) ?_; (with_reducible refine (spinneyref01_Compare.calls k a2_0 a2_1 a2_2 _ _ l2_3 a1_0 a1_1 a1_2 _ _ l1_3 t366 _ ?side1 ?side2 ?side3 ?side4 A43.out).mono ?_); (case side1 => repeat (first | exact (Kd.V_reads' HO2_3.out).2.2 | (with_reducible refine Kd.C_alloc ?_ _) | (with_reducible refine Kd.C_drewN ?_ _) | (with_reducible refine Kd.C_drew ?_))); (case side2 => exact (Kd.V_reads' HO2_3.out).2.1); (case side3 => repeat (first | exact (Kd.V_reads' HO1_3.out).2.2 | (with_reducible refine Kd.C_alloc ?_ _) | (with_reducible refine Kd.C_drewN ?_ _) | (with_reducible refine Kd.C_drew ?_))); (case side4 => exact (Kd.V_reads' HO1_3.out).2.1); rintro e w53 ⟨rfl, hb⟩; refine ⟨_, rfl, ?_⟩; replace HO1_3 := ca_v HO1_3 hb; replace HO2_3 := ca_v HO2_3 hb; replace BK356 := ca_b BK356 hb; replace BK357 := ca_b BK357 hb; replace BK358 := ca_b BK358 hb; replace HB := ca_h HB hb; (try clear hb); (try clear hb2); (try clear hk); (try clear hi); obtain ⟨hcz54_0, hcz54_1, hcz54_2, hcz54_3, hfz54_0, hfz54_1, hfz54_2, hfz54_3⟩ := bk4 BK357; obtain ⟨hcz55_0, hcz55_1, hcz55_2, hcz55_3, hfz55_0, hfz55_1, hfz55_2, hfz55_3⟩ := bk4 BK358))
     refine bodyPost_ret (results_ct rfl _ _ gb358 24 #[.int .i64 a2_0, .int .i64 a2_1, .string a2_2, .slice A2_3 l2_3.length c2_3] (0, 0) _ rfl (pu4 BK358) Tryd.underlying24 rfl (by kernel_rfl)) rfl ?_
     exact ⟨_, by first | rfl | (simp [errW_none, errW_some] <;> rfl) | (simp [*, errW_none, errW_some] <;> rfl), by (with_reducible repeat (first | apply Kd.V_alloc | apply Kd.V_drewN | apply Kd.V_drew)); exact Kd.V_mono (fa4_v HO2_3 (fun _ hk => hk.2)) (fun _ hk => hk.1.1.1.1), by repeat (first | (with_reducible first | exact HB.out | apply below_alloc | apply pw_below_drewN | apply below_drew1 | refine below_set ?_ GE356.out | refine below_set ?_ GE357.out | refine below_set ?_ GE358.out) | exact HB.out)⟩
    ·rw [if_neg c44] at H
     have c44b0 : decide (t366 < 0) = false := decide_eq_false c44
     clear c44
     simp only [Option.some.injEq, Prod.mk.injEq] at H
     obtain ⟨rfl, rfl, rfl, rfl, rfl⟩ := H
     go_enter Tryd.func28, Tryd.ntmps28
     go_wp2_with (first | ((with_reducible refine gate_dst (N := 4) rfl ?_); refine box_event ?hg (N := 4) ?hd (cs := #[.int .i64 a1_0, .int .i64 a1_1, .string a1_2, .slice A1_3 l1_3.length c1_3]) (t := 24) ?hr ?_; (case hd => rfl); (case hg => rfl); (case hr => first | (go_simp; done) | (go_simp; rfl)); intro gb356 hg w56 hbox hb; have BK356 := Aside0.mk (hbox); have GW356 := bx_g (up_h HB) hg; have GE356 := bx_g (up_h HB) hg; replace HO1_3 := bx_v HO1_3 hg hb; replace HO2_3 := bx_v HO2_3 hg hb; replace HB := ca_h HB hb; clear hb hbox hg) | ((with_reducible refine gate_dst (N := 5) rfl ?_); refine box_event ?hg (N := 5) ?hd (cs := #[.int .i64 a2_0, .int .i64 a2_1, .string a2_2, .slice A2_3 l2_3.length c2_3]) (t := 24) ?hr ?_; (case hd => rfl); (case hg => rfl); (case hr => first | (go_simp; done) | (go_simp; rfl)); intro gb357 hg w57 hbox hb; have BK357 := Aside0.mk (hbox); have GW357 := bx_g (up_h HB) hg; have GE357 := bx_g (up_h HB) hg; have NB356_357 := bx_n (up_b BK356) hg; have NB357_356 := bx_m (up_b BK356) hg; replace HO1_3 := bx_v HO1_3 hg hb; replace HO2_3 := bx_v HO2_3 hg hb; replace BK356 := ca_b BK356 hb; replace HB := ca_h HB hb; clear hb hbox hg) | ((with_reducible refine gate_dst (N := 6) rfl ?_); refine box_event ?hg (N := 6) ?hd (cs := #[.int .i64 0, .int .i64 0, .string (⟨#[]⟩ : ByteArray), .slice none 0 0]) (t := 24) ?hr ?_; (case hd => rfl); (case hg => rfl); (case hr => first | (go_simp; done) | (go_simp; rfl)); intro gb358 hg w58 hbox hb; have BK358 := Aside0.mk (hbox); have GW358 := bx_g (up_h HB) hg; have GE358 := bx_g (up_h HB) hg; have NB356_358 := bx_n (up_b BK356) hg; have NB358_356 := bx_m (up_b BK356) hg; have NB357_358 := bx_n (up_b BK357) hg; have NB358_357 := bx_m (up_b BK357) hg; replace HO1_3 := bx_v HO1_3 hg hb; replace HO2_3 := bx_v HO2_3 hg hb; replace BK356 := ca_b BK356 hb; replace BK357 := ca_b BK357 hb; replace HB := ca_h HB hb; clear hb hbox hg; have hnb59 := NB357_356.out; have hnc59 := NB356_357.out; have hnb60 := NB357_358.out; have hnc60 := NB358_357.out; obtain ⟨hcz61_0, hcz61_1, hcz61_2, hcz61_3, hfz61_0, hfz61_1, hfz61_2, hfz61_3⟩ := bk4 BK357; have hnb62 := NB356_358.out; have hnc62 := NB358_356.out; obtain ⟨hcz63_0, hcz63_1, hcz63_2, hcz63_3, hfz63_0, hfz63_1, hfz63_2, hfz63_3⟩ := bk4 BK356) | ((with_reducible refine gate_callee (f := 48) rfl ?_); refine goesL_ (some 26) rfl rfl Tryd.func48 (by kernel_rfl) rfl #[.agg #[.int .i64 a2_0, .int .i64 a2_1, .string a2_2, .slice A2_3 l2_3.length c2_3], .agg #[.int .i64 a1_0, .int .i64 a1_1, .string a1_2, .slice A1_3 l1_3.length c1_3]] rfl (by (try simp only [List.map_toArray, List.map_cons, List.map_nil]); first | done | rfl | (simp only [List.length_drop, List.length_take]; rfl) | (simp only [gt_iff_lt, Int.ofNat_lt]; rfl)) ?_; (with_reducible refine (spinneyref01_Compare.calls k a2_0 a2_1 a2_2 _ _ l2_3 a1_0 a1_1 a1_2 _ _ l1_3 t366 _ ?side1 ?side2 ?side3 ?side4 A43.out).mono ?_); (case side1 => repeat (first | exact (Kd.V_reads' HO2_3.out).2.2 | (with_reducible refine Kd.C_alloc ?_ _) | (with_reducible refine Kd.C_drewN ?_ _) | (with_reducible refine Kd.C_drew ?_))); (case side2 => exact (Kd.V_reads' HO2_3.out).2.1); (case side3 => repeat (first | exact (Kd.V_reads' HO1_3.out).2.2 | (with_reducible refine Kd.C_alloc ?_ _) | (with_reducible refine Kd.C_drewN ?_ _) | (with_reducible refine Kd.C_drew ?_))); (case side4 => exact (Kd.V_reads' HO1_3.out).2.1); rintro e w64 ⟨rfl, hb⟩; refine ⟨_, rfl, ?_⟩; replace HO1_3 := ca_v HO1_3 hb; replace HO2_3 := ca_v HO2_3 hb; replace BK356 := ca_b BK356 hb; replace BK357 := ca_b BK357 hb; replace BK358 := ca_b BK358 hb; replace HB := ca_h HB hb; (try clear hb); (try clear hb2); (try clear hk); (try clear hi); obtain ⟨hcz65_0, hcz65_1, hcz65_2, hcz65_3, hfz65_0, hfz65_1, hfz65_2, hfz65_3⟩ := bk4 BK356; obtain ⟨hcz66_0, hcz66_1, hcz66_2, hcz66_3, hfz66_0, hfz66_1, hfz66_2, hfz66_3⟩ := bk4 BK358))
     refine bodyPost_ret (results_ct rfl _ _ gb358 24 #[.int .i64 a1_0, .int .i64 a1_1, .string a1_2, .slice A1_3 l1_3.length c1_3] (0, 0) _ rfl (pu4 BK358) Tryd.underlying24 rfl (by kernel_rfl)) rfl ?_
     exact ⟨_, by first | rfl | (simp [errW_none, errW_some] <;> rfl) | (simp [*, errW_none, errW_some] <;> rfl), by (with_reducible repeat (first | apply Kd.V_alloc | apply Kd.V_drewN | apply Kd.V_drew)); exact Kd.V_mono (fa4_v HO1_3 (fun _ hk => hk.2)) (fun _ hk => hk.1.1.1.1), by repeat (first | (with_reducible first | exact HB.out | apply below_alloc | apply pw_below_drewN | apply below_drew1 | refine below_set ?_ GE356.out | refine below_set ?_ GE357.out | refine below_set ?_ GE358.out) | exact HB.out)⟩
   ·rw [if_neg c42] at H
    have c42b0 : (a0 == 2) = false := beq_eq_false_iff_ne.mpr c42
    have c42b1 : (a0 != 2) = true := bne_iff_ne.mpr c42
    by_cases c67 : a0 = 3
    ·rw [if_pos c67] at H
     have c67b0 : (a0 == 3) = true := beq_iff_eq.mpr c67
     have c67b1 : (a0 != 3) = false := bne_eq_false_iff_eq.mpr c67
     clear c67
     replace H := Option.bind_eq_some_iff.mp H
     obtain ⟨⟨t367, t368, t369, t370⟩, A680, H⟩ := H
     replace H : (some (t367, t368, t369, t370, false)) = some (r1, r2, r3, r4, r5) := H
     have A68 := Aside0.mk A680
     clear A680
     simp only [Option.some.injEq, Prod.mk.injEq] at H
     obtain ⟨rfl, rfl, rfl, rfl, rfl⟩ := H
     go_enter Tryd.func28, Tryd.ntmps28
     go_wp2_with (first | ((with_reducible refine gate_dst (N := 4) rfl ?_); refine box_event ?hg (N := 4) ?hd (cs := #[.int .i64 a1_0, .int .i64 a1_1, .string a1_2, .slice A1_3 l1_3.length c1_3]) (t := 24) ?hr ?_; (case hd => rfl); (case hg => rfl); (case hr => first | (go_simp; done) | (go_simp; rfl)); intro gb356 hg w69 hbox hb; have BK356 := Aside0.mk (hbox); have GW356 := bx_g (up_h HB) hg; have GE356 := bx_g (up_h HB) hg; replace HO1_3 := bx_v HO1_3 hg hb; replace HO2_3 := bx_v HO2_3 hg hb; replace HB := ca_h HB hb; clear hb hbox hg) | ((with_reducible refine gate_dst (N := 5) rfl ?_); refine box_event ?hg (N := 5) ?hd (cs := #[.int .i64 a2_0, .int .i64 a2_1, .string a2_2, .slice A2_3 l2_3.length c2_3]) (t := 24) ?hr ?_; (case hd => rfl); (case hg => rfl); (case hr => first | (go_simp; done) | (go_simp; rfl)); intro gb357 hg w70 hbox hb; have BK357 := Aside0.mk (hbox); have GW357 := bx_g (up_h HB) hg; have GE357 := bx_g (up_h HB) hg; have NB356_357 := bx_n (up_b BK356) hg; have NB357_356 := bx_m (up_b BK356) hg; replace HO1_3 := bx_v HO1_3 hg hb; replace HO2_3 := bx_v HO2_3 hg hb; replace BK356 := ca_b BK356 hb; replace HB := ca_h HB hb; clear hb hbox hg) | ((with_reducible refine gate_dst (N := 6) rfl ?_); refine box_event ?hg (N := 6) ?hd (cs := #[.int .i64 0, .int .i64 0, .string (⟨#[]⟩ : ByteArray), .slice none 0 0]) (t := 24) ?hr ?_; (case hd => rfl); (case hg => rfl); (case hr => first | (go_simp; done) | (go_simp; rfl)); intro gb358 hg w71 hbox hb; have BK358 := Aside0.mk (hbox); have GW358 := bx_g (up_h HB) hg; have GE358 := bx_g (up_h HB) hg; have NB356_358 := bx_n (up_b BK356) hg; have NB358_356 := bx_m (up_b BK356) hg; have NB357_358 := bx_n (up_b BK357) hg; have NB358_357 := bx_m (up_b BK357) hg; replace HO1_3 := bx_v HO1_3 hg hb; replace HO2_3 := bx_v HO2_3 hg hb; replace BK356 := ca_b BK356 hb; replace BK357 := ca_b BK357 hb; replace HB := ca_h HB hb; clear hb hbox hg; have hnb72 := NB356_357.out; have hnc72 := NB357_356.out; have hnb73 := NB356_358.out; have hnc73 := NB358_356.out; obtain ⟨hcz74_0, hcz74_1, hcz74_2, hcz74_3, hfz74_0, hfz74_1, hfz74_2, hfz74_3⟩ := bk4 BK356; have hnb75 := NB357_358.out; have hnc75 := NB358_357.out; obtain ⟨hcz76_0, hcz76_1, hcz76_2, hcz76_3, hfz76_0, hfz76_1, hfz76_2, hfz76_3⟩ := bk4 BK357) | ((with_reducible refine gate_callee (f := 49) rfl ?_); refine goesL_ (some 33) rfl rfl Tryd.func49 (by kernel_rfl) rfl #[.agg #[.int .i64 a1_0, .int .i64 a1_1, .string a1_2, .slice A1_3 l1_3.length c1_3], .agg #[.int .i64 a2_0, .int .i64 a2_1, .string a2_2, .slice A2_3 l2_3.length c2_3]] rfl (by (try simp only [List.map_toArray, List.map_cons, List.map_nil]); first | done | rfl | (simp only [List.length_drop, List.length_take]; rfl) | (simp only [gt_iff_lt, Int.ofNat_lt]; rfl)) ?_; (with_reducible refine (spinneyref05_conj.calls k a1_0 a1_1 a1_2 (fun k_ => (((((P1_3_ k_ ∨ P2_3_ k_) ∨ w.heap.size ≤ k_) ∧ k_ ≠ gb356) ∧ k_ ≠ gb357) ∧ k_ ≠ gb358)) _ _ l1_3 a2_0 a2_1 a2_2 (fun k_ => (((((P1_3_ k_ ∨ P2_3_ k_) ∨ w.heap.size ≤ k_) ∧ k_ ≠ gb356) ∧ k_ ≠ gb357) ∧ k_ ≠ gb358)) _ _ l2_3 t367 t368 t369 t370 _ ?side1 ?side2 A68.out).mono ?_); (case side1 => first | exact HO1_3.out | exact Kd.V_mono HO1_3.out (fun _ hk_ => by simp only [and_assoc] at hk_ ⊢; exact hk_)); (case side2 => first | exact HO2_3.out | exact Kd.V_mono HO2_3.out (fun _ hk_ => by simp only [and_assoc] at hk_ ⊢; exact hk_)); rintro e w77 ⟨v371, rfl, ho0, hb⟩; refine ⟨_, rfl, ?_⟩; have HO372 := Aside0.mk (Kd.V_lower (Kd.V_mono (ok' := fun k_ => ((P1_3_ k_ ∨ P2_3_ k_) ∨ w.heap.size ≤ k_) ∧ k_ ≠ gb356 ∧ k_ ≠ gb357 ∧ k_ ≠ gb358) ho0 (fun k_ hk_ => ⟨Or.elim hk_ (fun hs_ => Or.elim hs_ (fun hs_ => hs_.1.1.1) (fun hs_ => hs_.1.1.1)) (fun hn_ => (.inr (Nat.le_trans (below_size (up_h HB)) hn_))), Or.elim hk_ (fun hs_ => Or.elim hs_ (fun hs_ => hs_.1.1.2) (fun hs_ => hs_.1.1.2)) (fun hn_ => (Kd.freshB (up_b BK356) k_ hn_)), Or.elim hk_ (fun hs_ => Or.elim hs_ (fun hs_ => hs_.1.2) (fun hs_ => hs_.1.2)) (fun hn_ => (Kd.freshB (up_b BK357) k_ hn_)), Or.elim hk_ (fun hs_ => Or.elim hs_ (fun hs_ => hs_.2) (fun hs_ => hs_.2)) (fun hn_ => (Kd.freshB (up_b BK358) k_ hn_))⟩)) (below_size (up_h HB))); replace HO1_3 := ca_v HO1_3 hb; replace HO2_3 := ca_v HO2_3 hb; replace BK356 := ca_b BK356 hb; replace BK357 := ca_b BK357 hb; replace BK358 := ca_b BK358 hb; replace HB := ca_h HB hb; (try clear hb); (try clear hb2); (try clear hk); (try clear hi); (try clear ho0); obtain ⟨hcz78_0, hcz78_1, hcz78_2, hcz78_3, hfz78_0, hfz78_1, hfz78_2, hfz78_3⟩ := bk4 BK358; obtain ⟨Ao79, co79, eo79⟩ := Kd.V_slice HO372.out; subst eo79))
     refine bodyPost_ret (results_ct rfl _ _ gb358 24 #[.int .i64 t367, .int .i64 t368, .string t369, .slice Ao79 t370.length co79] (0, 0) _ rfl (pu4 BK358) Tryd.underlying24 rfl (by kernel_rfl)) rfl ?_
     exact ⟨_, by first | rfl | (simp [errW_none, errW_some] <;> rfl) | (simp [*, errW_none, errW_some] <;> rfl), by (with_reducible repeat (first | apply Kd.V_alloc | apply Kd.V_drewN | apply Kd.V_drew)); exact Kd.V_mono (fa4_v HO372 (fun _ hk => hk.2.2.2)) (fun _ hk => hk.1.1), by repeat (first | (with_reducible first | exact HB.out | apply below_alloc | apply pw_below_drewN | apply below_drew1 | refine below_set ?_ GE356.out | refine below_set ?_ GE357.out | refine below_set ?_ GE358.out) | exact HB.out)⟩
    ·rw [if_neg c67] at H
     have c67b0 : (a0 == 3) = false := beq_eq_false_iff_ne.mpr c67
     have c67b1 : (a0 != 3) = true := bne_iff_ne.mpr c67
     by_cases c80 : a0 = 5
     ·rw [if_pos c80] at H
      have c80b0 : (a0 == 5) = true := beq_iff_eq.mpr c80
      have c80b1 : (a0 != 5) = false := bne_eq_false_iff_eq.mpr c80
      clear c80
      simp only [Option.some.injEq, Prod.mk.injEq] at H
      obtain ⟨rfl, rfl, rfl, rfl, rfl⟩ := H
      go_enter Tryd.func28, Tryd.ntmps28
      go_wp2_with (first | ((with_reducible refine gate_dst (N := 4) rfl ?_); refine box_event ?hg (N := 4) ?hd (cs := #[.int .i64 a1_0, .int .i64 a1_1, .string a1_2, .slice A1_3 l1_3.length c1_3]) (t := 24) ?hr ?_; (case hd => rfl); (case hg => rfl); (case hr => first | (go_simp; done) | (go_simp; rfl)); intro gb356 hg w81 hbox hb; have BK356 := Aside0.mk (hbox); have GW356 := bx_g (up_h HB) hg; have GE356 := bx_g (up_h HB) hg; replace HO1_3 := bx_v HO1_3 hg hb; replace HO2_3 := bx_v HO2_3 hg hb; replace HB := ca_h HB hb; clear hb hbox hg) | ((with_reducible refine gate_dst (N := 5) rfl ?_); refine box_event ?hg (N := 5) ?hd (cs := #[.int .i64 a2_0, .int .i64 a2_1, .string a2_2, .slice A2_3 l2_3.length c2_3]) (t := 24) ?hr ?_; (case hd => rfl); (case hg => rfl); (case hr => first | (go_simp; done) | (go_simp; rfl)); intro gb357 hg w82 hbox hb; have BK357 := Aside0.mk (hbox); have GW357 := bx_g (up_h HB) hg; have GE357 := bx_g (up_h HB) hg; have NB356_357 := bx_n (up_b BK356) hg; have NB357_356 := bx_m (up_b BK356) hg; replace HO1_3 := bx_v HO1_3 hg hb; replace HO2_3 := bx_v HO2_3 hg hb; replace BK356 := ca_b BK356 hb; replace HB := ca_h HB hb; clear hb hbox hg) | ((with_reducible refine gate_dst (N := 6) rfl ?_); refine box_event ?hg (N := 6) ?hd (cs := #[.int .i64 0, .int .i64 0, .string (⟨#[]⟩ : ByteArray), .slice none 0 0]) (t := 24) ?hr ?_; (case hd => rfl); (case hg => rfl); (case hr => first | (go_simp; done) | (go_simp; rfl)); intro gb358 hg w83 hbox hb; have BK358 := Aside0.mk (hbox); have GW358 := bx_g (up_h HB) hg; have GE358 := bx_g (up_h HB) hg; have NB356_358 := bx_n (up_b BK356) hg; have NB358_356 := bx_m (up_b BK356) hg; have NB357_358 := bx_n (up_b BK357) hg; have NB358_357 := bx_m (up_b BK357) hg; replace HO1_3 := bx_v HO1_3 hg hb; replace HO2_3 := bx_v HO2_3 hg hb; replace BK356 := ca_b BK356 hb; replace BK357 := ca_b BK357 hb; replace HB := ca_h HB hb; clear hb hbox hg; have hnb84 := NB357_356.out; have hnc84 := NB356_357.out; have hnb85 := NB357_358.out; have hnc85 := NB358_357.out; obtain ⟨hcz86_0, hcz86_1, hcz86_2, hcz86_3, hfz86_0, hfz86_1, hfz86_2, hfz86_3⟩ := bk4 BK357; have hnb87 := NB358_356.out; have hnc87 := NB356_358.out; obtain ⟨hcz88_0, hcz88_1, hcz88_2, hcz88_3, hfz88_0, hfz88_1, hfz88_2, hfz88_3⟩ := bk4 BK358))
      refine bodyPost_ret (results_ct rfl _ _ gb358 24 #[.int .i64 a2_0, .int .i64 a2_1, .string a2_2, .slice A2_3 l2_3.length c2_3] (0, 0) _ rfl (pu4 BK358) Tryd.underlying24 rfl (by kernel_rfl)) rfl ?_
      exact ⟨_, by first | rfl | (simp [errW_none, errW_some] <;> rfl) | (simp [*, errW_none, errW_some] <;> rfl), by (with_reducible repeat (first | apply Kd.V_alloc | apply Kd.V_drewN | apply Kd.V_drew)); exact Kd.V_mono (fa4_v HO2_3 (fun _ hk => hk.2)) (fun _ hk => hk.1.1.1.1), by repeat (first | (with_reducible first | exact HB.out | apply below_alloc | apply pw_below_drewN | apply below_drew1 | refine below_set ?_ GE356.out | refine below_set ?_ GE357.out | refine below_set ?_ GE358.out) | exact HB.out)⟩
     ·rw [if_neg c80] at H
      have c80b0 : (a0 == 5) = false := beq_eq_false_iff_ne.mpr c80
      have c80b1 : (a0 != 5) = true := bne_iff_ne.mpr c80
      by_cases c89 : a0 = 6
      ·rw [if_pos c89] at H
       have c89b0 : (a0 == 6) = true := beq_iff_eq.mpr c89
       have c89b1 : (a0 != 6) = false := bne_eq_false_iff_eq.mpr c89
       clear c89
       replace H := Option.bind_eq_some_iff.mp H
       obtain ⟨⟨t373, t374, t375, t376⟩, A900, H⟩ := H
       replace H : (if t373 = 2 then (some (t373, t374, t375, t376, decide (t374 > 100))) else (some (t373, t374, t375, t376, false))) = some (r1, r2, r3, r4, r5) := H
       have A90 := Aside0.mk A900
       clear A900
       by_cases c91 : t373 = 2
       ·rw [if_pos c91] at H
        have c91b0 : (t373 == 2) = true := beq_iff_eq.mpr c91
        have c91b1 : (t373 != 2) = false := bne_eq_false_iff_eq.mpr c91
        clear c91
        simp only [Option.some.injEq, Prod.mk.injEq] at H
        obtain ⟨rfl, rfl, rfl, rfl, rfl⟩ := H
        go_enter Tryd.func28, Tryd.ntmps28
        try go_wp2_with (first | ((with_reducible refine gate_dst (N := 4) rfl ?_); refine box_event ?hg (N := 4) ?hd (cs := #[.int .i64 a1_0, .int .i64 a1_1, .string a1_2, .slice A1_3 l1_3.length c1_3]) (t := 24) ?hr ?_; (case hd => rfl); (case hg => rfl); (case hr => first | (go_simp; done) | (go_simp; rfl)); intro gb356 hg w92 hbox hb; have BK356 := Aside0.mk (hbox); have GW356 := bx_g (up_h HB) hg; have GE356 := bx_g (up_h HB) hg; replace HO1_3 := bx_v HO1_3 hg hb; replace HO2_3 := bx_v HO2_3 hg hb; replace HB := ca_h HB hb; clear hb hbox hg) | ((with_reducible refine gate_dst (N := 5) rfl ?_); refine box_event ?hg (N := 5) ?hd (cs := #[.int .i64 a2_0, .int .i64 a2_1, .string a2_2, .slice A2_3 l2_3.length c2_3]) (t := 24) ?hr ?_; (case hd => rfl); (case hg => rfl); (case hr => first | (go_simp; done) | (go_simp; rfl)); intro gb357 hg w93 hbox hb; have BK357 := Aside0.mk (hbox); have GW357 := bx_g (up_h HB) hg; have GE357 := bx_g (up_h HB) hg; have NB356_357 := bx_n (up_b BK356) hg; have NB357_356 := bx_m (up_b BK356) hg; replace HO1_3 := bx_v HO1_3 hg hb; replace HO2_3 := bx_v HO2_3 hg hb; replace BK356 := ca_b BK356 hb; replace HB := ca_h HB hb; clear hb hbox hg) | ((with_reducible refine gate_dst (N := 6) rfl ?_); refine box_event ?hg (N := 6) ?hd (cs := #[.int .i64 0, .int .i64 0, .string (⟨#[]⟩ : ByteArray), .slice none 0 0]) (t := 24) ?hr ?_; (case hd => rfl); (case hg => rfl); (case hr => first | (go_simp; done) | (go_simp; rfl)); intro gb358 hg w94 hbox hb; have BK358 := Aside0.mk (hbox); have GW358 := bx_g (up_h HB) hg; have GE358 := bx_g (up_h HB) hg; have NB356_358 := bx_n (up_b BK356) hg; have NB358_356 := bx_m (up_b BK356) hg; have NB357_358 := bx_n (up_b BK357) hg; have NB358_357 := bx_m (up_b BK357) hg; replace HO1_3 := bx_v HO1_3 hg hb; replace HO2_3 := bx_v HO2_3 hg hb; replace BK356 := ca_b BK356 hb; replace BK357 := ca_b BK357 hb; replace HB := ca_h HB hb; clear hb hbox hg; have hnb95 := NB356_357.out; have hnc95 := NB357_356.out; have hnb96 := NB356_358.out; have hnc96 := NB358_356.out; obtain ⟨hcz97_0, hcz97_1, hcz97_2, hcz97_3, hfz97_0, hfz97_1, hfz97_2, hfz97_3⟩ := bk4 BK356; have hnb98 := NB357_358.out; have hnc98 := NB358_357.out; obtain ⟨hcz99_0, hcz99_1, hcz99_2, hcz99_3, hfz99_0, hfz99_1, hfz99_2, hfz99_3⟩ := bk4 BK357) | ((with_reducible refine gate_callee (f := 47) rfl ?_); refine goesL_ (some 41) rfl rfl Tryd.func47 (by kernel_rfl) rfl #[.agg #[.int .i64 a1_0, .int .i64 a1_1, .string a1_2, .slice A1_3 l1_3.length c1_3], .agg #[.int .i64 a2_0, .int .i64 a2_1, .string a2_2, .slice A2_3 l2_3.length c2_3]] rfl (by (try simp only [List.map_toArray, List.map_cons, List.map_nil]); first | done | rfl | (simp only [List.length_drop, List.length_take]; rfl) | (simp only [gt_iff_lt, Int.ofNat_lt]; rfl)) ?_; (with_reducible refine (spinneyref05_sum.calls a1_0 a1_1 a1_2 (fun k_ => (((((P1_3_ k_ ∨ P2_3_ k_) ∨ w.heap.size ≤ k_) ∧ k_ ≠ gb356) ∧ k_ ≠ gb357) ∧ k_ ≠ gb358)) _ _ l1_3 a2_0 a2_1 a2_2 _ _ l2_3 t373 t374 t375 t376 _ ?side1 ?side2 ?side3 A90.out).mono ?_); (case side1 => first | exact HO1_3.out | exact Kd.V_mono HO1_3.out (fun _ hk_ => by simp only [and_assoc] at hk_ ⊢; exact hk_)); (case side2 => repeat (first | exact (Kd.V_reads' HO2_3.out).2.2 | (with_reducible refine Kd.C_alloc ?_ _) | (with_reducible refine Kd.C_drewN ?_ _) | (with_reducible refine Kd.C_drew ?_))); (case side3 => exact (Kd.V_reads' HO2_3.out).2.1); rintro e w100 ⟨v377, rfl, ho0, hb⟩; refine ⟨_, rfl, ?_⟩; have HO378 := Aside0.mk (Kd.V_lower (Kd.V_mono (ok' := fun k_ => ((P1_3_ k_ ∨ P2_3_ k_) ∨ w.heap.size ≤ k_) ∧ k_ ≠ gb356 ∧ k_ ≠ gb357 ∧ k_ ≠ gb358) ho0 (fun k_ hk_ => ⟨Or.elim hk_ (fun hs_ => hs_.1.1.1) (fun hn_ => (.inr (Nat.le_trans (below_size (up_h HB)) hn_))), Or.elim hk_ (fun hs_ => hs_.1.1.2) (fun hn_ => (Kd.freshB (up_b BK356) k_ hn_)), Or.elim hk_ (fun hs_ => hs_.1.2) (fun hn_ => (Kd.freshB (up_b BK357) k_ hn_)), Or.elim hk_ (fun hs_ => hs_.2) (fun hn_ => (Kd.freshB (up_b BK358) k_ hn_))⟩)) (below_size (up_h HB))); replace HO1_3 := ca_v HO1_3 hb; replace HO2_3 := ca_v HO2_3 hb; replace BK356 := ca_b BK356 hb; replace BK357 := ca_b BK357 hb; replace BK358 := ca_b BK358 hb; replace HB := ca_h HB hb; (try clear hb); (try clear hb2); (try clear hk); (try clear hi); (try clear ho0)) | ((with_reducible refine gate_dst (N := 8) rfl ?_); refine box_event ?hg (N := 8) ?hd (cs := #[.int .i64 0, .int .i64 0, .string (⟨#[]⟩ : ByteArray), .slice none 0 0]) (t := 24) ?hr ?_; (case hd => rfl); (case hg => rfl); (case hr => first | (go_simp; done) | (go_simp; rfl)); intro gb379 hg w101 hbox hb; have BK379 := Aside0.mk (hbox); have GW379 := bx_g (up_h HB) hg; have GE379 := bx_g (up_h HB) hg; have NB356_379 := bx_n (up_b BK356) hg; have NB379_356 := bx_m (up_b BK356) hg; have NB357_379 := bx_n (up_b BK357) hg; have NB379_357 := bx_m (up_b BK357) hg; have NB358_379 := bx_n (up_b BK358) hg; have NB379_358 := bx_m (up_b BK358) hg; replace HO1_3 := bx_v HO1_3 hg hb; replace HO2_3 := bx_v HO2_3 hg hb; replace HO378 := bx_v HO378 hg hb; replace BK356 := ca_b BK356 hb; replace BK357 := ca_b BK357 hb; replace BK358 := ca_b BK358 hb; replace HB := ca_h HB hb; clear hb hbox hg; have hnb102 := NB379_356.out; have hnc102 := NB356_379.out; have hnb103 := NB379_357.out; have hnc103 := NB357_379.out; have hnb104 := NB379_358.out; have hnc104 := NB358_379.out; obtain ⟨hcz105_0, hcz105_1, hcz105_2, hcz105_3, hfz105_0, hfz105_1, hfz105_2, hfz105_3⟩ := bk4 BK379; obtain ⟨Ao106, co106, eo106⟩ := Kd.V_slice HO378.out; subst eo106))
        have n0_ : Aside0 (Kd.V k24 24 ((((w101.setCell ⟨gb379, 0, none⟩ (.int .i64 t373)).setCell ⟨gb379, 1, none⟩ (.int .i64 t374)).setCell ⟨gb379, 2, none⟩ (.string t375)).setCell ⟨gb379, 3, none⟩ (.slice Ao106 t376.length co106)) w.heap.size (fun k_ => ((P1_3_ k_ ∨ P2_3_ k_) ∨ w.heap.size ≤ k_) ∧ k_ ≠ gb356 ∧ k_ ≠ gb357 ∧ k_ ≠ gb358 ∧ k_ ≠ gb379) (.slice A1_3 l1_3.length c1_3) l1_3) := ⟨by (with_reducible repeat (first | apply Kd.V_alloc | apply Kd.V_drewN | apply Kd.V_drew)); exact Kd.V_mono (fa4_v HO1_3 (fun _ hk => hk.2)) (fun _ hk => ⟨hk.1.1.1.1.1, ⟨hk.1.1.1.1.2, ⟨hk.1.1.1.2, ⟨hk.1.1.2, hk.1.2⟩⟩⟩⟩)⟩
        have n1_ : Aside0 (Kd.V k24 24 ((((w101.setCell ⟨gb379, 0, none⟩ (.int .i64 t373)).setCell ⟨gb379, 1, none⟩ (.int .i64 t374)).setCell ⟨gb379, 2, none⟩ (.string t375)).setCell ⟨gb379, 3, none⟩ (.slice Ao106 t376.length co106)) w.heap.size (fun k_ => ((P1_3_ k_ ∨ P2_3_ k_) ∨ w.heap.size ≤ k_) ∧ k_ ≠ gb356 ∧ k_ ≠ gb357 ∧ k_ ≠ gb358 ∧ k_ ≠ gb379) (.slice A2_3 l2_3.length c2_3) l2_3) := ⟨by (with_reducible repeat (first | apply Kd.V_alloc | apply Kd.V_drewN | apply Kd.V_drew)); exact Kd.V_mono (fa4_v HO2_3 (fun _ hk => hk.2)) (fun _ hk => ⟨hk.1.1.1.1.1, ⟨hk.1.1.1.1.2, ⟨hk.1.1.1.2, ⟨hk.1.1.2, hk.1.2⟩⟩⟩⟩)⟩
        have n2_ : Aside0 (Kd.V k24 24 ((((w101.setCell ⟨gb379, 0, none⟩ (.int .i64 t373)).setCell ⟨gb379, 1, none⟩ (.int .i64 t374)).setCell ⟨gb379, 2, none⟩ (.string t375)).setCell ⟨gb379, 3, none⟩ (.slice Ao106 t376.length co106)) w.heap.size (fun k_ => ((P1_3_ k_ ∨ P2_3_ k_) ∨ w.heap.size ≤ k_) ∧ k_ ≠ gb356 ∧ k_ ≠ gb357 ∧ k_ ≠ gb358 ∧ k_ ≠ gb379) (.slice Ao106 t376.length co106) t376) := ⟨by (with_reducible repeat (first | apply Kd.V_alloc | apply Kd.V_drewN | apply Kd.V_drew)); exact Kd.V_mono (fa4_v HO378 (fun _ hk => hk.2)) (fun _ hk => ⟨hk.1.1.1, ⟨hk.1.1.2.1, ⟨hk.1.1.2.2.1, ⟨hk.1.1.2.2.2, hk.1.2⟩⟩⟩⟩)⟩
        have n3_ : Aside0 (((((w101.setCell ⟨gb379, 0, none⟩ (.int .i64 t373)).setCell ⟨gb379, 1, none⟩ (.int .i64 t374)).setCell ⟨gb379, 2, none⟩ (.string t375)).setCell ⟨gb379, 3, none⟩ (.slice Ao106 t376.length co106)).heap[gb356]? = some (.cells #[.int .i64 a1_0, .int .i64 a1_1, .string a1_2, .slice A1_3 l1_3.length c1_3] 24 (0, 0))) := ⟨sb_b BK356 NB356_379⟩
        have n4_ : Aside0 (((((w101.setCell ⟨gb379, 0, none⟩ (.int .i64 t373)).setCell ⟨gb379, 1, none⟩ (.int .i64 t374)).setCell ⟨gb379, 2, none⟩ (.string t375)).setCell ⟨gb379, 3, none⟩ (.slice Ao106 t376.length co106)).heap[gb357]? = some (.cells #[.int .i64 a2_0, .int .i64 a2_1, .string a2_2, .slice A2_3 l2_3.length c2_3] 24 (0, 0))) := ⟨sb_b BK357 NB357_379⟩
        have n5_ : Aside0 (((((w101.setCell ⟨gb379, 0, none⟩ (.int .i64 t373)).setCell ⟨gb379, 1, none⟩ (.int .i64 t374)).setCell ⟨gb379, 2, none⟩ (.string t375)).setCell ⟨gb379, 3, none⟩ (.slice Ao106 t376.length co106)).heap[gb358]? = some (.cells #[.int .i64 0, .int .i64 0, .string (⟨#[]⟩ : ByteArray), .slice none 0 0] 24 (0, 0))) := ⟨sb_b BK358 NB358_379⟩
        have n6_ : Aside0 (((((w101.setCell ⟨gb379, 0, none⟩ (.int .i64 t373)).setCell ⟨gb379, 1, none⟩ (.int .i64 t374)).setCell ⟨gb379, 2, none⟩ (.string t375)).setCell ⟨gb379, 3, none⟩ (.slice Ao106 t376.length co106)).heap[gb379]? = some (.cells #[.int .i64 t373, .int .i64 t374, .string t375, .slice Ao106 t376.length co106] 24 (0, 0))) := ⟨pu4 BK379⟩
        have n7_ : Aside0 (Below w.heap.size w ((((w101.setCell ⟨gb379, 0, none⟩ (.int .i64 t373)).setCell ⟨gb379, 1, none⟩ (.int .i64 t374)).setCell ⟨gb379, 2, none⟩ (.string t375)).setCell ⟨gb379, 3, none⟩ (.slice Ao106 t376.length co106))) := ⟨sb_h HB GE379⟩
        (try clear HO1_3)
        (try clear HO2_3)
        (try clear HO378)
        (try clear BK356)
        (try clear BK357)
        (try clear BK358)
        (try clear BK379)
        (try clear HB)
        generalize ((((w101.setCell ⟨gb379, 0, none⟩ (.int .i64 t373)).setCell ⟨gb379, 1, none⟩ (.int .i64 t374)).setCell ⟨gb379, 2, none⟩ (.string t375)).setCell ⟨gb379, 3, none⟩ (.slice Ao106 t376.length co106)) = w107 at n0_ n1_ n2_ n3_ n4_ n5_ n6_ n7_ ⊢
        have HO1_3 := n0_
        have HO2_3 := n1_
        have HO378 := n2_
        have BK356 := n3_
        have BK357 := n4_
        have BK358 := n5_
        have BK379 := n6_
        have HB := n7_
        clear n0_ n1_ n2_ n3_ n4_ n5_ n6_ n7_
        replace HO1_3 := Aside0.mk (Kd.V_drew HO1_3.out); replace HO2_3 := Aside0.mk (Kd.V_drew HO2_3.out); replace HO378 := Aside0.mk (Kd.V_drew HO378.out); replace BK356 := Aside0.mk (blk_drew BK356.out); replace BK357 := Aside0.mk (blk_drew BK357.out); replace BK358 := Aside0.mk (blk_drew BK358.out); replace BK379 := Aside0.mk (blk_drew BK379.out); replace HB := Aside0.mk (below_drew1 HB.out)
        refine start_ (n := 11) (S := fun w' => w'.cell? ⟨gb379, 0, none⟩ = some (.int .i64 t373) ∧ w'.cell? ⟨gb379, 1, none⟩ = some (.int .i64 t374) ∧ w'.cell? ⟨gb379, 2, none⟩ = some (.string t375) ∧ w'.cell? ⟨gb379, 3, none⟩ = some (.slice Ao106 t376.length co106)) (ds := []) #[false, false, false, false, false, false, false, false, false, false, false] (by kernel_rfl) rfl rfl ⟨(blk_cell BK379.out 0).trans rfl, (blk_cell BK379.out 1).trans rfl, (blk_cell BK379.out 2).trans rfl, (blk_cell BK379.out 3).trans rfl⟩ (fun hHeld => ?_); refine with_tabW spinneyref05_Both.tab16 spinneyref05_Both.bits16 (fun HT_ HW_ => ?_)
        generalize w107.drew = w108 at HO1_3 HO2_3 HO378 BK356 BK357 BK358 BK379 HB hHeld ⊢
        refine pure_ (i := 1) (N := some 43) (v := ?_) (a' := ?_) #[false, true, false, false, false, false, false, false, false, false, false] rfl rfl (any_of HT_.out (by kernel_rfl)) (fun _ _ _ h => h) (Or.inl ⟨by rfl, ?_⟩) ?_ ?_
        rotate_left
        ·intro w'
         go_simp
         with_reducible rfl
        rotate_left
        ·simp only [Act.put, List.setIfInBounds_toArray, List.set_cons_zero, List.set_cons_succ, i64_w, i32_w]
         rfl
        refine take_ (i := 0) (N := some 42) (v := ?_) (a' := ?_) #[true, true, false, false, false, false, false, false, false, false, false] rfl rfl (take_ofW HT_.out HW_.out (by kernel_rfl)) (fun _ _ _ h => h) (Or.inl ⟨by rfl, ?_⟩) hHeld ?_ ?_
        rotate_left
        ·rintro w' ⟨s0, s1, s2, s3⟩
         go_simp
         with_reducible rfl
        rotate_left
        ·simp only [Act.put, List.setIfInBounds_toArray, List.set_cons_zero, List.set_cons_succ, i64_w, i32_w]
         rfl
        refine take_ (i := 2) (N := some 44) (v := ?_) (a' := ?_) #[true, true, true, false, false, false, false, false, false, false, false] rfl rfl (take_ofW HT_.out HW_.out (by kernel_rfl)) (fun _ _ _ h => h) (Or.inl ⟨by rfl, ?_⟩) hHeld ?_ ?_
        rotate_left
        ·rintro w' ⟨s0, s1, s2, s3⟩
         go_simp
         with_reducible rfl
        rotate_left
        ·simp only [Act.put, List.setIfInBounds_toArray, List.set_cons_zero, List.set_cons_succ, i64_w, i32_w]
         rfl
        refine pure_ (i := 3) (N := some 45) (v := ?_) (a' := ?_) #[true, true, true, true, false, false, false, false, false, false, false] rfl rfl (any_of HT_.out (by kernel_rfl)) (fun _ _ _ h => h) (Or.inl ⟨by rfl, ?_⟩) ?_ ?_
        rotate_left
        ·intro w'
         go_simp
         with_reducible rfl
        rotate_left
        ·simp only [Act.put, List.setIfInBounds_toArray, List.set_cons_zero, List.set_cons_succ, i64_w, i32_w]
         rfl
        refine pure_ (i := 4) (N := some 46) (v := ?_) (a' := ?_) #[true, true, true, true, true, false, false, false, false, false, false] rfl rfl (any_of HT_.out (by kernel_rfl)) (fun _ _ _ h => h) (Or.inl ⟨by rfl, ?_⟩) ?_ ?_
        rotate_left
        ·intro w'
         go_simp
         with_reducible rfl
        rotate_left
        ·simp only [Act.put, List.setIfInBounds_toArray, List.set_cons_zero, List.set_cons_succ, i64_w, i32_w]
         rfl
        refine pure_ (i := 5) (N := some 47) (v := ?_) (a' := ?_) #[true, true, true, true, true, true, false, false, false, false, false] rfl rfl (any_of HT_.out (by kernel_rfl)) (fun _ _ _ h => h) (Or.inl ⟨by rfl, ?_⟩) ?_ ?_
        rotate_left
        ·intro w'
         go_simp
         with_reducible rfl
        rotate_left
        ·simp only [Act.put, List.setIfInBounds_toArray, List.set_cons_zero, List.set_cons_succ, i64_w, i32_w]
         rfl
        refine take_ (i := 6) (N := some 48) (v := ?_) (a' := ?_) #[true, true, true, true, true, true, true, false, false, false, false] rfl rfl (take_ofW HT_.out HW_.out (by kernel_rfl)) (fun _ _ _ h => h) (Or.inl ⟨by rfl, ?_⟩) hHeld ?_ ?_
        rotate_left
        ·rintro w' ⟨s0, s1, s2, s3⟩
         go_simp
         with_reducible rfl
        rotate_left
        ·simp only [Act.put, List.setIfInBounds_toArray, List.set_cons_zero, List.set_cons_succ, i64_w, i32_w]
         rfl
        refine pure_ (i := 7) (N := some 49) (v := ?_) (a' := ?_) #[true, true, true, true, true, true, true, true, false, false, false] rfl rfl (any_of HT_.out (by kernel_rfl)) (fun _ _ _ h => h) (Or.inl ⟨by rfl, ?_⟩) ?_ ?_
        rotate_left
        ·intro w'
         go_simp
         with_reducible rfl
        rotate_left
        ·simp only [Act.put, List.setIfInBounds_toArray, List.set_cons_zero, List.set_cons_succ, i64_w, i32_w]
         rfl
        refine pure_ (i := 8) (N := some 50) (v := ?_) (a' := ?_) #[true, true, true, true, true, true, true, true, true, false, false] rfl rfl (any_of HT_.out (by kernel_rfl)) (fun _ _ _ h => h) (Or.inl ⟨by rfl, ?_⟩) ?_ ?_
        rotate_left
        ·intro w'
         go_simp
         with_reducible rfl
        rotate_left
        ·simp only [Act.put, List.setIfInBounds_toArray, List.set_cons_zero, List.set_cons_succ, i64_w, i32_w]
         rfl
        refine one_ (i := 9) (N := none) #[true, true, true, true, true, true, true, true, true, true, false] rfl rfl (one_of HT_.out (by kernel_rfl)) (by decide) (fun K hK => ?_)
        have hs109 : w108.cell? ⟨gb358, 0, none⟩ = some (.int .i64 0) := (blk_cell BK358.out 0).trans rfl
        have hfs109 := blk_frozen BK358.out 0
        have hns109_0 := NB356_358.out
        have hns109_1 := NB357_358.out
        have hns109_3 := NB379_358.out
        have hms109_0 := NB358_356.out
        have hms109_1 := NB358_357.out
        have hms109_3 := NB358_379.out
        have hs110 : w108.cell? ⟨gb358, 1, none⟩ = some (.int .i64 0) := (blk_cell BK358.out 1).trans rfl
        have hfs110 := blk_frozen BK358.out 1
        have hns110_0 := NB356_358.out
        have hns110_1 := NB357_358.out
        have hns110_3 := NB379_358.out
        have hms110_0 := NB358_356.out
        have hms110_1 := NB358_357.out
        have hms110_3 := NB358_379.out
        have hs111 : w108.cell? ⟨gb358, 2, none⟩ = some (.string (⟨#[]⟩ : ByteArray)) := (blk_cell BK358.out 2).trans rfl
        have hfs111 := blk_frozen BK358.out 2
        have hns111_0 := NB356_358.out
        have hns111_1 := NB357_358.out
        have hns111_3 := NB379_358.out
        have hms111_0 := NB358_356.out
        have hms111_1 := NB358_357.out
        have hms111_3 := NB358_379.out
        have hs112 : w108.cell? ⟨gb358, 3, none⟩ = some (.slice none 0 0) := (blk_cell BK358.out 3).trans rfl
        have hfs112 := blk_frozen BK358.out 3
        have hns112_0 := NB356_358.out
        have hns112_1 := NB357_358.out
        have hns112_3 := NB379_358.out
        have hms112_0 := NB358_356.out
        have hms112_1 := NB358_357.out
        have hms112_3 := NB358_379.out
        refine skip_ (w1 := ?_) (by rfl) rfl ?_ ?_
        rotate_left
        ·go_simp
         rfl
        refine hK.out _ _ ⟨((cell_far (p := ⟨gb358, _, none⟩) NB379_358.out _).trans (((cell_far (p := ⟨gb358, _, none⟩) NB379_358.out _).trans (((cell_far (p := ⟨gb358, _, none⟩) NB379_358.out _).trans (((cell_far (p := ⟨gb358, _, none⟩) NB379_358.out _).trans (hHeld.1)))))))), ((cell_far (p := ⟨gb358, _, none⟩) NB379_358.out _).trans (((cell_far (p := ⟨gb358, _, none⟩) NB379_358.out _).trans (((cell_far (p := ⟨gb358, _, none⟩) NB379_358.out _).trans (((cell_far (p := ⟨gb358, _, none⟩) NB379_358.out _).trans (hHeld.2.1)))))))), ((cell_far (p := ⟨gb358, _, none⟩) NB379_358.out _).trans (((cell_far (p := ⟨gb358, _, none⟩) NB379_358.out _).trans (((cell_far (p := ⟨gb358, _, none⟩) NB379_358.out _).trans (((cell_far (p := ⟨gb358, _, none⟩) NB379_358.out _).trans (hHeld.2.2.1)))))))), ((cell_far (p := ⟨gb358, _, none⟩) NB379_358.out _).trans (((cell_far (p := ⟨gb358, _, none⟩) NB379_358.out _).trans (((cell_far (p := ⟨gb358, _, none⟩) NB379_358.out _).trans (((cell_far (p := ⟨gb358, _, none⟩) NB379_358.out _).trans (hHeld.2.2.2))))))))⟩ (fun hHeld => ?_)
        clear hK K
        refine pure_ (i := 10) (N := some 7) (v := ?_) (a' := ?_) #[true, true, true, true, true, true, true, true, true, true, true] rfl rfl (any_of HT_.out (by kernel_rfl)) (fun _ _ _ h => h) (Or.inl ⟨by rfl, ?_⟩) ?_ ?_
        rotate_left
        ·intro w'
         go_simp
         with_reducible rfl
        rotate_left
        ·simp only [Act.put, List.setIfInBounds_toArray, List.set_cons_zero, List.set_cons_succ, i64_w, i32_w]
         rfl
        refine done_ (done_of HT_.out (by kernel_rfl)) ?_
        try go_wp2
        refine bodyPost_ret (results_ct rfl _ _ gb358 24 #[.int .i64 t373, .int .i64 t374, .string t375, .slice Ao106 t376.length co106] (0, 0) _ rfl (pu4 BK358) Tryd.underlying24 rfl (by kernel_rfl)) rfl ?_
        exact ⟨_, by first | rfl | (simp [errW_none, errW_some] <;> rfl) | (simp [*, errW_none, errW_some] <;> rfl), by (with_reducible repeat (first | apply Kd.V_alloc | apply Kd.V_drewN | apply Kd.V_drew)); exact Kd.V_mono (fa4_v HO378 (fun _ hk => hk.2.2.2.1)) (fun _ hk => hk.1.1), by repeat (first | (with_reducible first | exact HB.out | apply below_alloc | apply pw_below_drewN | apply below_drew1 | refine below_set ?_ GE356.out | refine below_set ?_ GE357.out | refine below_set ?_ GE358.out | refine below_set ?_ GE379.out) | exact HB.out)⟩
       ·rw [if_neg c91] at H
        have c91b0 : (t373 == 2) = false := beq_eq_false_iff_ne.mpr c91
        have c91b1 : (t373 != 2) = true := bne_iff_ne.mpr c91
        simp only [Option.some.injEq, Prod.mk.injEq] at H
        obtain ⟨rfl, rfl, rfl, rfl, rfl⟩ := H
        go_enter Tryd.func28, Tryd.ntmps28
        try go_wp2_with (first | ((with_reducible refine gate_dst (N := 4) rfl ?_); refine box_event ?hg (N := 4) ?hd (cs := #[.int .i64 a1_0, .int .i64 a1_1, .string a1_2, .slice A1_3 l1_3.length c1_3]) (t := 24) ?hr ?_; (case hd => rfl); (case hg => rfl); (case hr => first | (go_simp; done) | (go_simp; rfl)); intro gb356 hg w113 hbox hb; have BK356 := Aside0.mk (hbox); have GW356 := bx_g (up_h HB) hg; have GE356 := bx_g (up_h HB) hg; replace HO1_3 := bx_v HO1_3 hg hb; replace HO2_3 := bx_v HO2_3 hg hb; replace HB := ca_h HB hb; clear hb hbox hg) | ((with_reducible refine gate_dst (N := 5) rfl ?_); refine box_event ?hg (N := 5) ?hd (cs := #[.int .i64 a2_0, .int .i64 a2_1, .string a2_2, .slice A2_3 l2_3.length c2_3]) (t := 24) ?hr ?_; (case hd => rfl); (case hg => rfl); (case hr => first | (go_simp; done) | (go_simp; rfl)); intro gb357 hg w114 hbox hb; have BK357 := Aside0.mk (hbox); have GW357 := bx_g (up_h HB) hg; have GE357 := bx_g (up_h HB) hg; have NB356_357 := bx_n (up_b BK356) hg; have NB357_356 := bx_m (up_b BK356) hg; replace HO1_3 := bx_v HO1_3 hg hb; replace HO2_3 := bx_v HO2_3 hg hb; replace BK356 := ca_b BK356 hb; replace HB := ca_h HB hb; clear hb hbox hg) | ((with_reducible refine gate_dst (N := 6) rfl ?_); refine box_event ?hg (N := 6) ?hd (cs := #[.int .i64 0, .int .i64 0, .string (⟨#[]⟩ : ByteArray), .slice none 0 0]) (t := 24) ?hr ?_; (case hd => rfl); (case hg => rfl); (case hr => first | (go_simp; done) | (go_simp; rfl)); intro gb358 hg w115 hbox hb; have BK358 := Aside0.mk (hbox); have GW358 := bx_g (up_h HB) hg; have GE358 := bx_g (up_h HB) hg; have NB356_358 := bx_n (up_b BK356) hg; have NB358_356 := bx_m (up_b BK356) hg; have NB357_358 := bx_n (up_b BK357) hg; have NB358_357 := bx_m (up_b BK357) hg; replace HO1_3 := bx_v HO1_3 hg hb; replace HO2_3 := bx_v HO2_3 hg hb; replace BK356 := ca_b BK356 hb; replace BK357 := ca_b BK357 hb; replace HB := ca_h HB hb; clear hb hbox hg; have hnb116 := NB356_357.out; have hnc116 := NB357_356.out; have hnb117 := NB356_358.out; have hnc117 := NB358_356.out; obtain ⟨hcz118_0, hcz118_1, hcz118_2, hcz118_3, hfz118_0, hfz118_1, hfz118_2, hfz118_3⟩ := bk4 BK356; have hnb119 := NB357_358.out; have hnc119 := NB358_357.out; obtain ⟨hcz120_0, hcz120_1, hcz120_2, hcz120_3, hfz120_0, hfz120_1, hfz120_2, hfz120_3⟩ := bk4 BK357) | ((with_reducible refine gate_callee (f := 47) rfl ?_); refine goesL_ (some 41) rfl rfl Tryd.func47 (by kernel_rfl) rfl #[.agg #[.int .i64 a1_0, .int .i64 a1_1, .string a1_2, .slice A1_3 l1_3.length c1_3], .agg #[.int .i64 a2_0, .int .i64 a2_1, .string a2_2, .slice A2_3 l2_3.length c2_3]] rfl (by (try simp only [List.map_toArray, List.map_cons, List.map_nil]); first | done | rfl | (simp only [List.length_drop, List.length_take]; rfl) | (simp only [gt_iff_lt, Int.ofNat_lt]; rfl)) ?_; (with_reducible refine (spinneyref05_sum.calls a1_0 a1_1 a1_2 (fun k_ => (((((P1_3_ k_ ∨ P2_3_ k_) ∨ w.heap.size ≤ k_) ∧ k_ ≠ gb356) ∧ k_ ≠ gb357) ∧ k_ ≠ gb358)) _ _ l1_3 a2_0 a2_1 a2_2 _ _ l2_3 t373 t374 t375 t376 _ ?side1 ?side2 ?side3 A90.out).mono ?_); (case side1 => first | exact HO1_3.out | exact Kd.V_mono HO1_3.out (fun _ hk_ => by simp only [and_assoc] at hk_ ⊢; exact hk_)); (case side2 => repeat (first | exact (Kd.V_reads' HO2_3.out).2.2 | (with_reducible refine Kd.C_alloc ?_ _) | (with_reducible refine Kd.C_drewN ?_ _) | (with_reducible refine Kd.C_drew ?_))); (case side3 => exact (Kd.V_reads' HO2_3.out).2.1); rintro e w121 ⟨v377, rfl, ho0, hb⟩; refine ⟨_, rfl, ?_⟩; have HO378 := Aside0.mk (Kd.V_lower (Kd.V_mono (ok' := fun k_ => ((P1_3_ k_ ∨ P2_3_ k_) ∨ w.heap.size ≤ k_) ∧ k_ ≠ gb356 ∧ k_ ≠ gb357 ∧ k_ ≠ gb358) ho0 (fun k_ hk_ => ⟨Or.elim hk_ (fun hs_ => hs_.1.1.1) (fun hn_ => (.inr (Nat.le_trans (below_size (up_h HB)) hn_))), Or.elim hk_ (fun hs_ => hs_.1.1.2) (fun hn_ => (Kd.freshB (up_b BK356) k_ hn_)), Or.elim hk_ (fun hs_ => hs_.1.2) (fun hn_ => (Kd.freshB (up_b BK357) k_ hn_)), Or.elim hk_ (fun hs_ => hs_.2) (fun hn_ => (Kd.freshB (up_b BK358) k_ hn_))⟩)) (below_size (up_h HB))); replace HO1_3 := ca_v HO1_3 hb; replace HO2_3 := ca_v HO2_3 hb; replace BK356 := ca_b BK356 hb; replace BK357 := ca_b BK357 hb; replace BK358 := ca_b BK358 hb; replace HB := ca_h HB hb; (try clear hb); (try clear hb2); (try clear hk); (try clear hi); (try clear ho0)) | ((with_reducible refine gate_dst (N := 8) rfl ?_); refine box_event ?hg (N := 8) ?hd (cs := #[.int .i64 0, .int .i64 0, .string (⟨#[]⟩ : ByteArray), .slice none 0 0]) (t := 24) ?hr ?_; (case hd => rfl); (case hg => rfl); (case hr => first | (go_simp; done) | (go_simp; rfl)); intro gb379 hg w122 hbox hb; have BK379 := Aside0.mk (hbox); have GW379 := bx_g (up_h HB) hg; have GE379 := bx_g (up_h HB) hg; have NB356_379 := bx_n (up_b BK356) hg; have NB379_356 := bx_m (up_b BK356) hg; have NB357_379 := bx_n (up_b BK357) hg; have NB379_357 := bx_m (up_b BK357) hg; have NB358_379 := bx_n (up_b BK358) hg; have NB379_358 := bx_m (up_b BK358) hg; replace HO1_3 := bx_v HO1_3 hg hb; replace HO2_3 := bx_v HO2_3 hg hb; replace HO378 := bx_v HO378 hg hb; replace BK356 := ca_b BK356 hb; replace BK357 := ca_b BK357 hb; replace BK358 := ca_b BK358 hb; replace HB := ca_h HB hb; clear hb hbox hg; have hnb123 := NB379_356.out; have hnc123 := NB356_379.out; have hnb124 := NB379_357.out; have hnc124 := NB357_379.out; have hnb125 := NB379_358.out; have hnc125 := NB358_379.out; obtain ⟨hcz126_0, hcz126_1, hcz126_2, hcz126_3, hfz126_0, hfz126_1, hfz126_2, hfz126_3⟩ := bk4 BK379; obtain ⟨Ao127, co127, eo127⟩ := Kd.V_slice HO378.out; subst eo127))
        have n0_ : Aside0 (Kd.V k24 24 ((((w122.setCell ⟨gb379, 0, none⟩ (.int .i64 t373)).setCell ⟨gb379, 1, none⟩ (.int .i64 t374)).setCell ⟨gb379, 2, none⟩ (.string t375)).setCell ⟨gb379, 3, none⟩ (.slice Ao127 t376.length co127)) w.heap.size (fun k_ => ((P1_3_ k_ ∨ P2_3_ k_) ∨ w.heap.size ≤ k_) ∧ k_ ≠ gb356 ∧ k_ ≠ gb357 ∧ k_ ≠ gb358 ∧ k_ ≠ gb379) (.slice A1_3 l1_3.length c1_3) l1_3) := ⟨by (with_reducible repeat (first | apply Kd.V_alloc | apply Kd.V_drewN | apply Kd.V_drew)); exact Kd.V_mono (fa4_v HO1_3 (fun _ hk => hk.2)) (fun _ hk => ⟨hk.1.1.1.1.1, ⟨hk.1.1.1.1.2, ⟨hk.1.1.1.2, ⟨hk.1.1.2, hk.1.2⟩⟩⟩⟩)⟩
        have n1_ : Aside0 (Kd.V k24 24 ((((w122.setCell ⟨gb379, 0, none⟩ (.int .i64 t373)).setCell ⟨gb379, 1, none⟩ (.int .i64 t374)).setCell ⟨gb379, 2, none⟩ (.string t375)).setCell ⟨gb379, 3, none⟩ (.slice Ao127 t376.length co127)) w.heap.size (fun k_ => ((P1_3_ k_ ∨ P2_3_ k_) ∨ w.heap.size ≤ k_) ∧ k_ ≠ gb356 ∧ k_ ≠ gb357 ∧ k_ ≠ gb358 ∧ k_ ≠ gb379) (.slice A2_3 l2_3.length c2_3) l2_3) := ⟨by (with_reducible repeat (first | apply Kd.V_alloc | apply Kd.V_drewN | apply Kd.V_drew)); exact Kd.V_mono (fa4_v HO2_3 (fun _ hk => hk.2)) (fun _ hk => ⟨hk.1.1.1.1.1, ⟨hk.1.1.1.1.2, ⟨hk.1.1.1.2, ⟨hk.1.1.2, hk.1.2⟩⟩⟩⟩)⟩
        have n2_ : Aside0 (Kd.V k24 24 ((((w122.setCell ⟨gb379, 0, none⟩ (.int .i64 t373)).setCell ⟨gb379, 1, none⟩ (.int .i64 t374)).setCell ⟨gb379, 2, none⟩ (.string t375)).setCell ⟨gb379, 3, none⟩ (.slice Ao127 t376.length co127)) w.heap.size (fun k_ => ((P1_3_ k_ ∨ P2_3_ k_) ∨ w.heap.size ≤ k_) ∧ k_ ≠ gb356 ∧ k_ ≠ gb357 ∧ k_ ≠ gb358 ∧ k_ ≠ gb379) (.slice Ao127 t376.length co127) t376) := ⟨by (with_reducible repeat (first | apply Kd.V_alloc | apply Kd.V_drewN | apply Kd.V_drew)); exact Kd.V_mono (fa4_v HO378 (fun _ hk => hk.2)) (fun _ hk => ⟨hk.1.1.1, ⟨hk.1.1.2.1, ⟨hk.1.1.2.2.1, ⟨hk.1.1.2.2.2, hk.1.2⟩⟩⟩⟩)⟩
        have n3_ : Aside0 (((((w122.setCell ⟨gb379, 0, none⟩ (.int .i64 t373)).setCell ⟨gb379, 1, none⟩ (.int .i64 t374)).setCell ⟨gb379, 2, none⟩ (.string t375)).setCell ⟨gb379, 3, none⟩ (.slice Ao127 t376.length co127)).heap[gb356]? = some (.cells #[.int .i64 a1_0, .int .i64 a1_1, .string a1_2, .slice A1_3 l1_3.length c1_3] 24 (0, 0))) := ⟨sb_b BK356 NB356_379⟩
        have n4_ : Aside0 (((((w122.setCell ⟨gb379, 0, none⟩ (.int .i64 t373)).setCell ⟨gb379, 1, none⟩ (.int .i64 t374)).setCell ⟨gb379, 2, none⟩ (.string t375)).setCell ⟨gb379, 3, none⟩ (.slice Ao127 t376.length co127)).heap[gb357]? = some (.cells #[.int .i64 a2_0, .int .i64 a2_1, .string a2_2, .slice A2_3 l2_3.length c2_3] 24 (0, 0))) := ⟨sb_b BK357 NB357_379⟩
        have n5_ : Aside0 (((((w122.setCell ⟨gb379, 0, none⟩ (.int .i64 t373)).setCell ⟨gb379, 1, none⟩ (.int .i64 t374)).setCell ⟨gb379, 2, none⟩ (.string t375)).setCell ⟨gb379, 3, none⟩ (.slice Ao127 t376.length co127)).heap[gb358]? = some (.cells #[.int .i64 0, .int .i64 0, .string (⟨#[]⟩ : ByteArray), .slice none 0 0] 24 (0, 0))) := ⟨sb_b BK358 NB358_379⟩
        have n6_ : Aside0 (((((w122.setCell ⟨gb379, 0, none⟩ (.int .i64 t373)).setCell ⟨gb379, 1, none⟩ (.int .i64 t374)).setCell ⟨gb379, 2, none⟩ (.string t375)).setCell ⟨gb379, 3, none⟩ (.slice Ao127 t376.length co127)).heap[gb379]? = some (.cells #[.int .i64 t373, .int .i64 t374, .string t375, .slice Ao127 t376.length co127] 24 (0, 0))) := ⟨pu4 BK379⟩
        have n7_ : Aside0 (Below w.heap.size w ((((w122.setCell ⟨gb379, 0, none⟩ (.int .i64 t373)).setCell ⟨gb379, 1, none⟩ (.int .i64 t374)).setCell ⟨gb379, 2, none⟩ (.string t375)).setCell ⟨gb379, 3, none⟩ (.slice Ao127 t376.length co127))) := ⟨sb_h HB GE379⟩
        (try clear HO1_3)
        (try clear HO2_3)
        (try clear HO378)
        (try clear BK356)
        (try clear BK357)
        (try clear BK358)
        (try clear BK379)
        (try clear HB)
        generalize ((((w122.setCell ⟨gb379, 0, none⟩ (.int .i64 t373)).setCell ⟨gb379, 1, none⟩ (.int .i64 t374)).setCell ⟨gb379, 2, none⟩ (.string t375)).setCell ⟨gb379, 3, none⟩ (.slice Ao127 t376.length co127)) = w128 at n0_ n1_ n2_ n3_ n4_ n5_ n6_ n7_ ⊢
        have HO1_3 := n0_
        have HO2_3 := n1_
        have HO378 := n2_
        have BK356 := n3_
        have BK357 := n4_
        have BK358 := n5_
        have BK379 := n6_
        have HB := n7_
        clear n0_ n1_ n2_ n3_ n4_ n5_ n6_ n7_
        replace HO1_3 := Aside0.mk (Kd.V_drew HO1_3.out); replace HO2_3 := Aside0.mk (Kd.V_drew HO2_3.out); replace HO378 := Aside0.mk (Kd.V_drew HO378.out); replace BK356 := Aside0.mk (blk_drew BK356.out); replace BK357 := Aside0.mk (blk_drew BK357.out); replace BK358 := Aside0.mk (blk_drew BK358.out); replace BK379 := Aside0.mk (blk_drew BK379.out); replace HB := Aside0.mk (below_drew1 HB.out)
        refine start_ (n := 11) (S := fun w' => w'.cell? ⟨gb379, 0, none⟩ = some (.int .i64 t373) ∧ w'.cell? ⟨gb379, 1, none⟩ = some (.int .i64 t374) ∧ w'.cell? ⟨gb379, 2, none⟩ = some (.string t375) ∧ w'.cell? ⟨gb379, 3, none⟩ = some (.slice Ao127 t376.length co127)) (ds := []) #[false, false, false, false, false, false, false, false, false, false, false] (by kernel_rfl) rfl rfl ⟨(blk_cell BK379.out 0).trans rfl, (blk_cell BK379.out 1).trans rfl, (blk_cell BK379.out 2).trans rfl, (blk_cell BK379.out 3).trans rfl⟩ (fun hHeld => ?_); refine with_tabW spinneyref05_Both.tab16 spinneyref05_Both.bits16 (fun HT_ HW_ => ?_)
        generalize w128.drew = w129 at HO1_3 HO2_3 HO378 BK356 BK357 BK358 BK379 HB hHeld ⊢
        refine pure_ (i := 1) (N := some 43) (v := ?_) (a' := ?_) #[false, true, false, false, false, false, false, false, false, false, false] rfl rfl (any_of HT_.out (by kernel_rfl)) (fun _ _ _ h => h) (Or.inl ⟨by rfl, ?_⟩) ?_ ?_
        rotate_left
        ·intro w'
         go_simp
         with_reducible rfl
        rotate_left
        ·simp only [Act.put, List.setIfInBounds_toArray, List.set_cons_zero, List.set_cons_succ, i64_w, i32_w]
         rfl
        refine take_ (i := 0) (N := some 42) (v := ?_) (a' := ?_) #[true, true, false, false, false, false, false, false, false, false, false] rfl rfl (take_ofW HT_.out HW_.out (by kernel_rfl)) (fun _ _ _ h => h) (Or.inl ⟨by rfl, ?_⟩) hHeld ?_ ?_
        rotate_left
        ·rintro w' ⟨s0, s1, s2, s3⟩
         go_simp
         with_reducible rfl
        rotate_left
        ·simp only [Act.put, List.setIfInBounds_toArray, List.set_cons_zero, List.set_cons_succ, i64_w, i32_w]
         rfl
        refine take_ (i := 2) (N := some 44) (v := ?_) (a' := ?_) #[true, true, true, false, false, false, false, false, false, false, false] rfl rfl (take_ofW HT_.out HW_.out (by kernel_rfl)) (fun _ _ _ h => h) (Or.inl ⟨by rfl, ?_⟩) hHeld ?_ ?_
        rotate_left
        ·rintro w' ⟨s0, s1, s2, s3⟩
         go_simp
         with_reducible rfl
        rotate_left
        ·simp only [Act.put, List.setIfInBounds_toArray, List.set_cons_zero, List.set_cons_succ, i64_w, i32_w]
         rfl
        refine pure_ (i := 3) (N := some 45) (v := ?_) (a' := ?_) #[true, true, true, true, false, false, false, false, false, false, false] rfl rfl (any_of HT_.out (by kernel_rfl)) (fun _ _ _ h => h) (Or.inl ⟨by rfl, ?_⟩) ?_ ?_
        rotate_left
        ·intro w'
         go_simp
         with_reducible rfl
        rotate_left
        ·simp only [Act.put, List.setIfInBounds_toArray, List.set_cons_zero, List.set_cons_succ, i64_w, i32_w]
         rfl
        refine pure_ (i := 4) (N := some 46) (v := ?_) (a' := ?_) #[true, true, true, true, true, false, false, false, false, false, false] rfl rfl (any_of HT_.out (by kernel_rfl)) (fun _ _ _ h => h) (Or.inl ⟨by rfl, ?_⟩) ?_ ?_
        rotate_left
        ·intro w'
         go_simp
         with_reducible rfl
        rotate_left
        ·simp only [Act.put, List.setIfInBounds_toArray, List.set_cons_zero, List.set_cons_succ, i64_w, i32_w]
         rfl
        refine pure_ (i := 5) (N := some 47) (v := undef) (a' := ?_) #[true, true, true, true, true, true, false, false, false, false, false] rfl rfl (any_of HT_.out (by kernel_rfl)) (fun _ _ _ h => h) (Or.inr ⟨by rfl, rfl⟩) ?_ ?_
        rotate_left
        ·simp only [Act.put, List.setIfInBounds_toArray, List.set_cons_zero, List.set_cons_succ, i64_w, i32_w]
         rfl
        refine pure_ (i := 6) (N := some 48) (v := undef) (a' := ?_) #[true, true, true, true, true, true, true, false, false, false, false] rfl rfl (any_of HT_.out (by kernel_rfl)) (fun _ _ _ h => h) (Or.inr ⟨by rfl, rfl⟩) ?_ ?_
        rotate_left
        ·simp only [Act.put, List.setIfInBounds_toArray, List.set_cons_zero, List.set_cons_succ, i64_w, i32_w]
         rfl
        refine pure_ (i := 7) (N := some 49) (v := undef) (a' := ?_) #[true, true, true, true, true, true, true, true, false, false, false] rfl rfl (any_of HT_.out (by kernel_rfl)) (fun _ _ _ h => h) (Or.inr ⟨by rfl, rfl⟩) ?_ ?_
        rotate_left
        ·simp only [Act.put, List.setIfInBounds_toArray, List.set_cons_zero, List.set_cons_succ, i64_w, i32_w]
         rfl
        refine pure_ (i := 8) (N := some 50) (v := ?_) (a' := ?_) #[true, true, true, true, true, true, true, true, true, false, false] rfl rfl (any_of HT_.out (by kernel_rfl)) (fun _ _ _ h => h) (Or.inl ⟨by rfl, ?_⟩) ?_ ?_
        rotate_left
        ·intro w'
         go_simp
         with_reducible rfl
        rotate_left
        ·simp only [Act.put, List.setIfInBounds_toArray, List.set_cons_zero, List.set_cons_succ, i64_w, i32_w]
         rfl
        refine one_ (i := 9) (N := none) #[true, true, true, true, true, true, true, true, true, true, false] rfl rfl (one_of HT_.out (by kernel_rfl)) (by decide) (fun K hK => ?_)
        have hs130 : w129.cell? ⟨gb358, 0, none⟩ = some (.int .i64 0) := (blk_cell BK358.out 0).trans rfl
        have hfs130 := blk_frozen BK358.out 0
        have hns130_0 := NB356_358.out
        have hns130_1 := NB357_358.out
        have hns130_3 := NB379_358.out
        have hms130_0 := NB358_356.out
        have hms130_1 := NB358_357.out
        have hms130_3 := NB358_379.out
        have hs131 : w129.cell? ⟨gb358, 1, none⟩ = some (.int .i64 0) := (blk_cell BK358.out 1).trans rfl
        have hfs131 := blk_frozen BK358.out 1
        have hns131_0 := NB356_358.out
        have hns131_1 := NB357_358.out
        have hns131_3 := NB379_358.out
        have hms131_0 := NB358_356.out
        have hms131_1 := NB358_357.out
        have hms131_3 := NB358_379.out
        have hs132 : w129.cell? ⟨gb358, 2, none⟩ = some (.string (⟨#[]⟩ : ByteArray)) := (blk_cell BK358.out 2).trans rfl
        have hfs132 := blk_frozen BK358.out 2
        have hns132_0 := NB356_358.out
        have hns132_1 := NB357_358.out
        have hns132_3 := NB379_358.out
        have hms132_0 := NB358_356.out
        have hms132_1 := NB358_357.out
        have hms132_3 := NB358_379.out
        have hs133 : w129.cell? ⟨gb358, 3, none⟩ = some (.slice none 0 0) := (blk_cell BK358.out 3).trans rfl
        have hfs133 := blk_frozen BK358.out 3
        have hns133_0 := NB356_358.out
        have hns133_1 := NB357_358.out
        have hns133_3 := NB379_358.out
        have hms133_0 := NB358_356.out
        have hms133_1 := NB358_357.out
        have hms133_3 := NB358_379.out
        refine skip_ (w1 := ?_) (by rfl) rfl ?_ ?_
        rotate_left
        ·go_simp
         rfl
        refine hK.out _ _ ⟨((cell_far (p := ⟨gb358, _, none⟩) NB379_358.out _).trans (((cell_far (p := ⟨gb358, _, none⟩) NB379_358.out _).trans (((cell_far (p := ⟨gb358, _, none⟩) NB379_358.out _).trans (((cell_far (p := ⟨gb358, _, none⟩) NB379_358.out _).trans (hHeld.1)))))))), ((cell_far (p := ⟨gb358, _, none⟩) NB379_358.out _).trans (((cell_far (p := ⟨gb358, _, none⟩) NB379_358.out _).trans (((cell_far (p := ⟨gb358, _, none⟩) NB379_358.out _).trans (((cell_far (p := ⟨gb358, _, none⟩) NB379_358.out _).trans (hHeld.2.1)))))))), ((cell_far (p := ⟨gb358, _, none⟩) NB379_358.out _).trans (((cell_far (p := ⟨gb358, _, none⟩) NB379_358.out _).trans (((cell_far (p := ⟨gb358, _, none⟩) NB379_358.out _).trans (((cell_far (p := ⟨gb358, _, none⟩) NB379_358.out _).trans (hHeld.2.2.1)))))))), ((cell_far (p := ⟨gb358, _, none⟩) NB379_358.out _).trans (((cell_far (p := ⟨gb358, _, none⟩) NB379_358.out _).trans (((cell_far (p := ⟨gb358, _, none⟩) NB379_358.out _).trans (((cell_far (p := ⟨gb358, _, none⟩) NB379_358.out _).trans (hHeld.2.2.2))))))))⟩ (fun hHeld => ?_)
        clear hK K
        refine pure_ (i := 10) (N := some 7) (v := ?_) (a' := ?_) #[true, true, true, true, true, true, true, true, true, true, true] rfl rfl (any_of HT_.out (by kernel_rfl)) (fun _ _ _ h => h) (Or.inl ⟨by rfl, ?_⟩) ?_ ?_
        rotate_left
        ·intro w'
         go_simp
         with_reducible rfl
        rotate_left
        ·simp only [Act.put, List.setIfInBounds_toArray, List.set_cons_zero, List.set_cons_succ, i64_w, i32_w]
         rfl
        refine done_ (done_of HT_.out (by kernel_rfl)) ?_
        try go_wp2
        refine bodyPost_ret (results_ct rfl _ _ gb358 24 #[.int .i64 t373, .int .i64 t374, .string t375, .slice Ao127 t376.length co127] (0, 0) _ rfl (pu4 BK358) Tryd.underlying24 rfl (by kernel_rfl)) rfl ?_
        exact ⟨_, by first | rfl | (simp [errW_none, errW_some] <;> rfl) | (simp [*, errW_none, errW_some] <;> rfl), by (with_reducible repeat (first | apply Kd.V_alloc | apply Kd.V_drewN | apply Kd.V_drew)); exact Kd.V_mono (fa4_v HO378 (fun _ hk => hk.2.2.2.1)) (fun _ hk => hk.1.1), by repeat (first | (with_reducible first | exact HB.out | apply below_alloc | apply pw_below_drewN | apply below_drew1 | refine below_set ?_ GE356.out | refine below_set ?_ GE357.out | refine below_set ?_ GE358.out | refine below_set ?_ GE379.out) | exact HB.out)⟩
      ·rw [if_neg c89] at H
       have c89b0 : (a0 == 6) = false := beq_eq_false_iff_ne.mpr c89
       have c89b1 : (a0 != 6) = true := bne_iff_ne.mpr c89
       by_cases c134 : a0 = 7
       ·rw [if_pos c134] at H
        have c134b0 : (a0 == 7) = true := beq_iff_eq.mpr c134
        have c134b1 : (a0 != 7) = false := bne_eq_false_iff_eq.mpr c134
        clear c134
        by_cases c135 : a1_0 = 2
        ·rw [if_pos c135] at H
         have c135b0 : (a1_0 == 2) = true := beq_iff_eq.mpr c135
         have c135b1 : (a1_0 != 2) = false := bne_eq_false_iff_eq.mpr c135
         clear c135
         replace H := Option.bind_eq_some_iff.mp H
         obtain ⟨⟨t380, t381, t382, t383⟩, A1360, H⟩ := H
         replace H : (some (t380, t381, t382, t383, false)) = some (r1, r2, r3, r4, r5) := H
         have A136 := Aside0.mk A1360
         clear A1360
         simp only [Option.some.injEq, Prod.mk.injEq] at H
         obtain ⟨rfl, rfl, rfl, rfl, rfl⟩ := H
         go_enter Tryd.func28, Tryd.ntmps28
         go_wp2_with (first | ((with_reducible refine gate_dst (N := 4) rfl ?_); refine box_event ?hg (N := 4) ?hd (cs := #[.int .i64 a1_0, .int .i64 a1_1, .string a1_2, .slice A1_3 l1_3.length c1_3]) (t := 24) ?hr ?_; (case hd => rfl); (case hg => rfl); (case hr => first | (go_simp; done) | (go_simp; rfl)); intro gb356 hg w137 hbox hb; have BK356 := Aside0.mk (hbox); have GW356 := bx_g (up_h HB) hg; have GE356 := bx_g (up_h HB) hg; replace HO1_3 := bx_v HO1_3 hg hb; replace HO2_3 := bx_v HO2_3 hg hb; replace HB := ca_h HB hb; clear hb hbox hg) | ((with_reducible refine gate_dst (N := 5) rfl ?_); refine box_event ?hg (N := 5) ?hd (cs := #[.int .i64 a2_0, .int .i64 a2_1, .string a2_2, .slice A2_3 l2_3.length c2_3]) (t := 24) ?hr ?_; (case hd => rfl); (case hg => rfl); (case hr => first | (go_simp; done) | (go_simp; rfl)); intro gb357 hg w138 hbox hb; have BK357 := Aside0.mk (hbox); have GW357 := bx_g (up_h HB) hg; have GE357 := bx_g (up_h HB) hg; have NB356_357 := bx_n (up_b BK356) hg; have NB357_356 := bx_m (up_b BK356) hg; replace HO1_3 := bx_v HO1_3 hg hb; replace HO2_3 := bx_v HO2_3 hg hb; replace BK356 := ca_b BK356 hb; replace HB := ca_h HB hb; clear hb hbox hg) | ((with_reducible refine gate_dst (N := 6) rfl ?_); refine box_event ?hg (N := 6) ?hd (cs := #[.int .i64 0, .int .i64 0, .string (⟨#[]⟩ : ByteArray), .slice none 0 0]) (t := 24) ?hr ?_; (case hd => rfl); (case hg => rfl); (case hr => first | (go_simp; done) | (go_simp; rfl)); intro gb358 hg w139 hbox hb; have BK358 := Aside0.mk (hbox); have GW358 := bx_g (up_h HB) hg; have GE358 := bx_g (up_h HB) hg; have NB356_358 := bx_n (up_b BK356) hg; have NB358_356 := bx_m (up_b BK356) hg; have NB357_358 := bx_n (up_b BK357) hg; have NB358_357 := bx_m (up_b BK357) hg; replace HO1_3 := bx_v HO1_3 hg hb; replace HO2_3 := bx_v HO2_3 hg hb; replace BK356 := ca_b BK356 hb; replace BK357 := ca_b BK357 hb; replace HB := ca_h HB hb; clear hb hbox hg; have hnb140 := NB356_357.out; have hnc140 := NB357_356.out; have hnb141 := NB356_358.out; have hnc141 := NB358_356.out; obtain ⟨hcz142_0, hcz142_1, hcz142_2, hcz142_3, hfz142_0, hfz142_1, hfz142_2, hfz142_3⟩ := bk4 BK356) | ((with_reducible refine gate_callee (f := 50) rfl ?_); refine goesL_ (some 59) rfl rfl Tryd.func50 (by kernel_rfl) rfl #[.int .i64 (wrap64 (a1_1 + 1))] rfl (by (try simp only [List.map_toArray, List.map_cons, List.map_nil]); first | done | rfl | (simp only [List.length_drop, List.length_take]; rfl) | (simp only [gt_iff_lt, Int.ofNat_lt]; rfl)) ?_; (with_reducible refine (spinneyref05_Int.calls (wrap64 (a1_1 + 1)) t380 t381 t382 t383 _ A136.out).mono ?_); rintro e w143 ⟨v384, rfl, ho0, hb⟩; refine ⟨_, rfl, ?_⟩; have HO385 := Aside0.mk (Kd.R_lower (Kd.R_newB (Kd.R_newB (Kd.R_newB (Kd.R_newM (M := fun k_ => (w.heap.size ≤ k_)) ho0 (below_size (up_h HB)) (fun k_ h_ => h_)) (g := gb356) (o := .cells #[.int .i64 a1_0, .int .i64 a1_1, .string a1_2, .slice A1_3 l1_3.length c1_3] 24 (0, 0)) (up_b BK356)) (g := gb357) (o := .cells #[.int .i64 a2_0, .int .i64 a2_1, .string a2_2, .slice A2_3 l2_3.length c2_3] 24 (0, 0)) (up_b BK357)) (g := gb358) (o := .cells #[.int .i64 0, .int .i64 0, .string (⟨#[]⟩ : ByteArray), .slice none 0 0] 24 (0, 0)) (up_b BK358)) (below_size (up_h HB))); replace HO1_3 := Aside0.mk (Kd.V_elder' (up_v HO1_3) (Kd.R_base ho0) hb); replace HO2_3 := Aside0.mk (Kd.V_elder' (up_v HO2_3) (Kd.R_base ho0) hb); replace BK356 := ca_b BK356 hb; replace BK357 := ca_b BK357 hb; replace BK358 := ca_b BK358 hb; replace HB := ca_h HB hb; (try clear hb); (try clear hb2); (try clear hk); (try clear hi); (try clear ho0); have hnb144 := NB358_357.out; have hnc144 := NB357_358.out; obtain ⟨hcz145_0, hcz145_1, hcz145_2, hcz145_3, hfz145_0, hfz145_1, hfz145_2, hfz145_3⟩ := bk4 BK358; obtain ⟨Ao146, co146, eo146⟩ := Kd.R_slice HO385.out; subst eo146))
         refine bodyPost_ret (results_ct rfl _ _ gb358 24 #[.int .i64 t380, .int .i64 t381, .string t382, .slice Ao146 t383.length co146] (0, 0) _ rfl (pu4 BK358) Tryd.underlying24 rfl (by kernel_rfl)) rfl ?_
         exact ⟨_, by first | rfl | (simp [errW_none, errW_some] <;> rfl) | (simp [*, errW_none, errW_some] <;> rfl), Kd.V_mono (Kd.R_V (by (with_reducible repeat (first | apply Kd.R_alloc | apply Kd.R_drewN | apply Kd.R_drew)); exact Kd.R_mono (fa4_r HO385 (fun _ hk => hk.2)) (fun _ hk => hk.1.1.1.1.1))) (fun k_ hk => by first | exact ⟨(.inr (hk.1)), hk.2⟩ | exact (.inr (hk))), by repeat (first | (with_reducible first | exact HB.out | apply below_alloc | apply pw_below_drewN | apply below_drew1 | refine below_set ?_ GE356.out | refine below_set ?_ GE357.out | refine below_set ?_ GE358.out) | exact HB.out)⟩
        ·rw [if_neg c135] at H
         have c135b0 : (a1_0 == 2) = false := beq_eq_false_iff_ne.mpr c135
         have c135b1 : (a1_0 != 2) = true := bne_iff_ne.mpr c135
         replace H := Option.bind_eq_some_iff.mp H
         obtain ⟨⟨t386, t387, t388, t389⟩, A1470, H⟩ := H
         replace H : (some (t386, t387, t388, t389, false)) = some (r1, r2, r3, r4, r5) := H
         have A147 := Aside0.mk A1470
         clear A1470
         simp only [Option.some.injEq, Prod.mk.injEq] at H
         obtain ⟨rfl, rfl, rfl, rfl, rfl⟩ := H
         go_enter Tryd.func28, Tryd.ntmps28
         go_wp2_with (first | ((with_reducible refine gate_dst (N := 4) rfl ?_); refine box_event ?hg (N := 4) ?hd (cs := #[.int .i64 a1_0, .int .i64 a1_1, .string a1_2, .slice A1_3 l1_3.length c1_3]) (t := 24) ?hr ?_; (case hd => rfl); (case hg => rfl); (case hr => first | (go_simp; done) | (go_simp; rfl)); intro gb356 hg w148 hbox hb; have BK356 := Aside0.mk (hbox); have GW356 := bx_g (up_h HB) hg; have GE356 := bx_g (up_h HB) hg; replace HO1_3 := bx_v HO1_3 hg hb; replace HO2_3 := bx_v HO2_3 hg hb; replace HB := ca_h HB hb; clear hb hbox hg) | ((with_reducible refine gate_dst (N := 5) rfl ?_); refine box_event ?hg (N := 5) ?hd (cs := #[.int .i64 a2_0, .int .i64 a2_1, .string a2_2, .slice A2_3 l2_3.length c2_3]) (t := 24) ?hr ?_; (case hd => rfl); (case hg => rfl); (case hr => first | (go_simp; done) | (go_simp; rfl)); intro gb357 hg w149 hbox hb; have BK357 := Aside0.mk (hbox); have GW357 := bx_g (up_h HB) hg; have GE357 := bx_g (up_h HB) hg; have NB356_357 := bx_n (up_b BK356) hg; have NB357_356 := bx_m (up_b BK356) hg; replace HO1_3 := bx_v HO1_3 hg hb; replace HO2_3 := bx_v HO2_3 hg hb; replace BK356 := ca_b BK356 hb; replace HB := ca_h HB hb; clear hb hbox hg) | ((with_reducible refine gate_dst (N := 6) rfl ?_); refine box_event ?hg (N := 6) ?hd (cs := #[.int .i64 0, .int .i64 0, .string (⟨#[]⟩ : ByteArray), .slice none 0 0]) (t := 24) ?hr ?_; (case hd => rfl); (case hg => rfl); (case hr => first | (go_simp; done) | (go_simp; rfl)); intro gb358 hg w150 hbox hb; have BK358 := Aside0.mk (hbox); have GW358 := bx_g (up_h HB) hg; have GE358 := bx_g (up_h HB) hg; have NB356_358 := bx_n (up_b BK356) hg; have NB358_356 := bx_m (up_b BK356) hg; have NB357_358 := bx_n (up_b BK357) hg; have NB358_357 := bx_m (up_b BK357) hg; replace HO1_3 := bx_v HO1_3 hg hb; replace HO2_3 := bx_v HO2_3 hg hb; replace BK356 := ca_b BK356 hb; replace BK357 := ca_b BK357 hb; replace HB := ca_h HB hb; clear hb hbox hg; have hnb151 := NB356_357.out; have hnc151 := NB357_356.out; have hnb152 := NB356_358.out; have hnc152 := NB358_356.out; obtain ⟨hcz153_0, hcz153_1, hcz153_2, hcz153_3, hfz153_0, hfz153_1, hfz153_2, hfz153_3⟩ := bk4 BK356) | ((with_reducible refine gate_callee (f := 50) rfl ?_); refine goesL_ (some 60) rfl rfl Tryd.func50 (by kernel_rfl) rfl #[.int .i64 1] rfl (by (try simp only [List.map_toArray, List.map_cons, List.map_nil]); first | done | rfl | (simp only [List.length_drop, List.length_take]; rfl) | (simp only [gt_iff_lt, Int.ofNat_lt]; rfl)) ?_; (with_reducible refine (spinneyref05_Int.calls 1 t386 t387 t388 t389 _ A147.out).mono ?_); rintro e w154 ⟨v390, rfl, ho0, hb⟩; refine ⟨_, rfl, ?_⟩; have HO391 := Aside0.mk (Kd.R_lower (Kd.R_newB (Kd.R_newB (Kd.R_newB (Kd.R_newM (M := fun k_ => (w.heap.size ≤ k_)) ho0 (below_size (up_h HB)) (fun k_ h_ => h_)) (g := gb356) (o := .cells #[.int .i64 a1_0, .int .i64 a1_1, .string a1_2, .slice A1_3 l1_3.length c1_3] 24 (0, 0)) (up_b BK356)) (g := gb357) (o := .cells #[.int .i64 a2_0, .int .i64 a2_1, .string a2_2, .slice A2_3 l2_3.length c2_3] 24 (0, 0)) (up_b BK357)) (g := gb358) (o := .cells #[.int .i64 0, .int .i64 0, .string (⟨#[]⟩ : ByteArray), .slice none 0 0] 24 (0, 0)) (up_b BK358)) (below_size (up_h HB))); replace HO1_3 := Aside0.mk (Kd.V_elder' (up_v HO1_3) (Kd.R_base ho0) hb); replace HO2_3 := Aside0.mk (Kd.V_elder' (up_v HO2_3) (Kd.R_base ho0) hb); replace BK356 := ca_b BK356 hb; replace BK357 := ca_b BK357 hb; replace BK358 := ca_b BK358 hb; replace HB := ca_h HB hb; (try clear hb); (try clear hb2); (try clear hk); (try clear hi); (try clear ho0); have hnb155 := NB358_357.out; have hnc155 := NB357_358.out; obtain ⟨hcz156_0, hcz156_1, hcz156_2, hcz156_3, hfz156_0, hfz156_1, hfz156_2, hfz156_3⟩ := bk4 BK358; obtain ⟨Ao157, co157, eo157⟩ := Kd.R_slice HO391.out; subst eo157))
         refine bodyPost_ret (results_ct rfl _ _ gb358 24 #[.int .i64 t386, .int .i64 t387, .string t388, .slice Ao157 t389.length co157] (0, 0) _ rfl (pu4 BK358) Tryd.underlying24 rfl (by kernel_rfl)) rfl ?_
         exact ⟨_, by first | rfl | (simp [errW_none, errW_some] <;> rfl) | (simp [*, errW_none, errW_some] <;> rfl), Kd.V_mono (Kd.R_V (by (with_reducible repeat (first | apply Kd.R_alloc | apply Kd.R_drewN | apply Kd.R_drew)); exact Kd.R_mono (fa4_r HO391 (fun _ hk => hk.2)) (fun _ hk => hk.1.1.1.1.1))) (fun k_ hk => by first | exact ⟨(.inr (hk.1)), hk.2⟩ | exact (.inr (hk))), by repeat (first | (with_reducible first | exact HB.out | apply below_alloc | apply pw_below_drewN | apply below_drew1 | refine below_set ?_ GE356.out | refine below_set ?_ GE357.out | refine below_set ?_ GE358.out) | exact HB.out)⟩
       ·rw [if_neg c134] at H
        have c134b0 : (a0 == 7) = false := beq_eq_false_iff_ne.mpr c134
        have c134b1 : (a0 != 7) = true := bne_iff_ne.mpr c134
        simp only [Option.some.injEq, Prod.mk.injEq] at H
        obtain ⟨rfl, rfl, rfl, rfl, rfl⟩ := H
        go_enter Tryd.func28, Tryd.ntmps28
        go_wp2_with (first | ((with_reducible refine gate_dst (N := 4) rfl ?_); refine box_event ?hg (N := 4) ?hd (cs := #[.int .i64 a1_0, .int .i64 a1_1, .string a1_2, .slice A1_3 l1_3.length c1_3]) (t := 24) ?hr ?_; (case hd => rfl); (case hg => rfl); (case hr => first | (go_simp; done) | (go_simp; rfl)); intro gb356 hg w158 hbox hb; have BK356 := Aside0.mk (hbox); have GW356 := bx_g (up_h HB) hg; have GE356 := bx_g (up_h HB) hg; replace HO1_3 := bx_v HO1_3 hg hb; replace HO2_3 := bx_v HO2_3 hg hb; replace HB := ca_h HB hb; clear hb hbox hg) | ((with_reducible refine gate_dst (N := 5) rfl ?_); refine box_event ?hg (N := 5) ?hd (cs := #[.int .i64 a2_0, .int .i64 a2_1, .string a2_2, .slice A2_3 l2_3.length c2_3]) (t := 24) ?hr ?_; (case hd => rfl); (case hg => rfl); (case hr => first | (go_simp; done) | (go_simp; rfl)); intro gb357 hg w159 hbox hb; have BK357 := Aside0.mk (hbox); have GW357 := bx_g (up_h HB) hg; have GE357 := bx_g (up_h HB) hg; have NB356_357 := bx_n (up_b BK356) hg; have NB357_356 := bx_m (up_b BK356) hg; replace HO1_3 := bx_v HO1_3 hg hb; replace HO2_3 := bx_v HO2_3 hg hb; replace BK356 := ca_b BK356 hb; replace HB := ca_h HB hb; clear hb hbox hg) | ((with_reducible refine gate_dst (N := 6) rfl ?_); refine box_event ?hg (N := 6) ?hd (cs := #[.int .i64 0, .int .i64 0, .string (⟨#[]⟩ : ByteArray), .slice none 0 0]) (t := 24) ?hr ?_; (case hd => rfl); (case hg => rfl); (case hr => first | (go_simp; done) | (go_simp; rfl)); intro gb358 hg w160 hbox hb; have BK358 := Aside0.mk (hbox); have GW358 := bx_g (up_h HB) hg; have GE358 := bx_g (up_h HB) hg; have NB356_358 := bx_n (up_b BK356) hg; have NB358_356 := bx_m (up_b BK356) hg; have NB357_358 := bx_n (up_b BK357) hg; have NB358_357 := bx_m (up_b BK357) hg; replace HO1_3 := bx_v HO1_3 hg hb; replace HO2_3 := bx_v HO2_3 hg hb; replace BK356 := ca_b BK356 hb; replace BK357 := ca_b BK357 hb; replace HB := ca_h HB hb; clear hb hbox hg; have hnb161 := NB356_357.out; have hnc161 := NB357_356.out; have hnb162 := NB356_358.out; have hnc162 := NB358_356.out; obtain ⟨hcz163_0, hcz163_1, hcz163_2, hcz163_3, hfz163_0, hfz163_1, hfz163_2, hfz163_3⟩ := bk4 BK356; have hnb164 := NB358_357.out; have hnc164 := NB357_358.out; obtain ⟨hcz165_0, hcz165_1, hcz165_2, hcz165_3, hfz165_0, hfz165_1, hfz165_2, hfz165_3⟩ := bk4 BK358))
        refine bodyPost_ret (results_ct rfl _ _ gb358 24 #[.int .i64 a1_0, .int .i64 a1_1, .string a1_2, .slice A1_3 l1_3.length c1_3] (0, 0) _ rfl (pu4 BK358) Tryd.underlying24 rfl (by kernel_rfl)) rfl ?_
        exact ⟨_, by first | rfl | (simp [errW_none, errW_some] <;> rfl) | (simp [*, errW_none, errW_some] <;> rfl), by (with_reducible repeat (first | apply Kd.V_alloc | apply Kd.V_drewN | apply Kd.V_drew)); exact Kd.V_mono (fa4_v HO1_3 (fun _ hk => hk.2)) (fun _ hk => hk.1.1.1.1), by repeat (first | (with_reducible first | exact HB.out | apply below_alloc | apply pw_below_drewN | apply below_drew1 | refine below_set ?_ GE356.out | refine below_set ?_ GE357.out | refine below_set ?_ GE358.out) | exact HB.out)⟩

end Go.Proofs.YtgmmoagclkmeaaaDoor.XH
