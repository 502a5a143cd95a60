-- cut down by bundle.py (the session's own program) from the texts YtgmmoagclkmeaaaDoorXH10, YtgmmoagclkmeaaaDoorPl3, YtgmmoagclkmeaaaDoorPl1, to what this claim names
import Derived.Test.YtgmmoagclkmeaaaDoorZFnsMoreXH0
import Derived.Test.YtgmmoagclkmeaaaDoorZFnsMoreXH4
import Derived.Test.YtgmmoagclkmeaaaDoorZFnsMoreXH5
import Derived.Test.YtgmmoagclkmeaaaDoorZFnsMoreXH1
import Derived.Test.YtgmmoagclkmeaaaDoorZFnsMoreXH2
import Derived.Test.YtgmmoagclkmeaaaDoorZFnsMoreXH3
section
-- laid by xprint.py (the session's own program) out of the translation; Lean checks it
namespace Go.Proofs.YtgmmoagclkmeaaaDoor.XH
open Go.RowKit Go.Proofs.YtgmmoagclkmeaaaDoorW.PrintWords Go.Proofs.YtgmmoagclkmeaaaDoorW.PrintLast Go.Proofs.YtgmmoagclkmeaaaDoorW.PrintMore
attribute [local go_sem] max2_int min2_int max_two min_two max_three min_three max_four min_four   -- for this text's walks alone
set_option linter.unusedVariables false
set_option linter.unusedSimpArgs false

mutual
def spinneyref01_fits.j0 : Nat → Int → Int → Bool → Int → Int → ByteArray → List (S24) → Option (Int)
 | 0, _, _, _, _, _, _, _ => none
 | k + 1, x1, x2, x29, x152000, x152001, x152002, x152003 => if x29 = true then (some (-1)) else (spinneyref01_fits.l0 k x1 x2 1 x152003 (x152003.length : Int) 0 x152000 x152001 x152002 x152003)
def spinneyref01_fits.l0 : Nat → Int → Int → Int → List (S24) → Int → Int → Int → Int → ByteArray → List (S24) → Option (Int)
 | 0, _, _, _, _, _, _, _, _, _, _ => none
 | k + 1, x1, x2, x7, x31, x32, x33, x152000, x152001, x152002, x152003 => if x33 < x32 then (if 0 ≤ x33 then (if x33 < (x31.length : Int) then ((spinneyref01_fits.f k ((rd_T24 x31 x33).f0) ((rd_T24 x31 x33).f1) ((rd_T24 x31 x33).f2) ((rd_T24 x31 x33).f3) (wrap64 (x1 - 1)) (wrap64 (x2 - x7))).bind fun t154 => (if t154 < 0 then (some (-1)) else (spinneyref01_fits.l0 k x1 x2 (wrap64 (x7 + t154)) x31 x32 (wrap64 (x33 + 1)) x152000 x152001 x152002 x152003))) else (none)) else (none)) else ((spinneyref01_own.f k x152000 x152001 x152002 x152003).bind fun t155 => (if t155 = true then (some x7) else (some (-1))))
def spinneyref01_fits.f : Nat → Int → Int → ByteArray → List (S24) → Int → Int → Option (Int)
 | 0, _, _, _, _, _, _ => none
 | k + 1, a0_0, a0_1, a0_2, l0_3, a1, a2 => if a2 < 1 then (spinneyref01_fits.j0 k a1 a2 true a0_0 a0_1 a0_2 l0_3) else (if (l0_3.length : Int) > 0 then (if a1 = 0 then (spinneyref01_fits.j0 k a1 a2 true a0_0 a0_1 a0_2 l0_3) else (spinneyref01_fits.j0 k a1 a2 (decide ((l0_3.length : Int) > a2)) a0_0 a0_1 a0_2 l0_3)) else (spinneyref01_fits.j0 k a1 a2 (decide ((l0_3.length : Int) > a2)) a0_0 a0_1 a0_2 l0_3))
end
def spinneyref01_Right.f (k : Nat) (a0_0 : Int) (a0_1 : Int) (a0_2 : ByteArray) (l0_3 : List (S24)) : Option (Bool) := (spinneyref01_fits.f k a0_0 a0_1 a0_2 l0_3 16 1024).bind fun t157 => (some (decide (t157 ≥ 0)))
def fns_add.f (a0_0 : Int) (a0_1 : Int) (a0_2 : ByteArray) (l0_3 : List (S24)) (a1_0 : Int) (a1_1 : Int) (a1_2 : ByteArray) (l1_3 : List (S24)) : Option (Int × Int × ByteArray × (List (S24))) := (fns_isInt.f a0_0 a0_1 a0_2 l0_3).bind fun t166 => (if t166 = true then ((fns_isInt.f a1_0 a1_1 a1_2 l1_3).bind fun t167 => (if t167 = true then (some (a0_0, wrap64 (a0_1 + a1_1), a0_2, l0_3)) else (some (a0_0, a0_1, a0_2, l0_3)))) else (some (a0_0, a0_1, a0_2, l0_3)))
set_option maxHeartbeats 8000000 in
set_option maxRecDepth 100000 in
theorem fns_add.calls (a0_0 : Int) (a0_1 : Int) (a0_2 : ByteArray) (P0_3_ : Nat → Prop) (A0_3 : Option Addr) (c0_3 : Nat) (l0_3 : List (S24)) (a1_0 : Int) (a1_1 : Int) (a1_2 : ByteArray) (A1_3 : Option Addr) (c1_3 : Nat) (l1_3 : List (S24)) (r1 : Int) (r2 : Int) (r3 : ByteArray) (r4 : List (S24)) (w : World) (hs0_3 : Kd.V k24 24 w w.heap.size (fun k_ => P0_3_ k_) (.slice A0_3 l0_3.length c0_3) l0_3) (hr1_3 : Kd.C k24 w A1_3 l1_3.length l1_3) (hc1_3 : l1_3.length ≤ c1_3) (h : fns_add.f a0_0 a0_1 a0_2 l0_3 a1_0 a1_1 a1_2 l1_3 = some (r1, r2, r3, r4)) :
  Calls Tryd.prog 42 #[.agg #[.int .i64 a0_0, .int .i64 a0_1, .string a0_2, .slice A0_3 l0_3.length c0_3], .agg #[.int .i64 a1_0, .int .i64 a1_1, .string a1_2, .slice A1_3 l1_3.length c1_3]] w fun e w' => ∃ v3_ : Value, e = .returned (.agg #[.int .i64 r1, .int .i64 r2, .string r3, v3_]) ∧ Kd.V k24 24 w' w.heap.size (fun k_ => (P0_3_ k_ ∨ w.heap.size ≤ k_)) v3_ r4 ∧ Below w.heap.size w w' := by
 have hu24 := Tryd.underlying24
 have HO0_3 := Aside0.mk (show Kd.V k24 24 w w.heap.size (fun k_ => (P0_3_ k_ ∨ w.heap.size ≤ k_)) (.slice A0_3 l0_3.length c0_3) l0_3 from Kd.V_mono hs0_3 (fun k_ hk => .inl hk))
 have HR1_3 := Aside0.mk hr1_3
 have HC1_3 := Aside0.mk hc1_3
 clear hr1_3 hc1_3
 have HB := Aside0.mk (Below.refl w.heap.size w)
 have H : ((fns_isInt.f a0_0 a0_1 a0_2 l0_3).bind fun t166 => (if t166 = true then ((fns_isInt.f a1_0 a1_1 a1_2 l1_3).bind fun t167 => (if t167 = true then (some (a0_0, wrap64 (a0_1 + a1_1), a0_2, l0_3)) else (some (a0_0, a0_1, a0_2, l0_3)))) else (some (a0_0, a0_1, a0_2, l0_3)))) = some (r1, r2, r3, r4) := h
 clear h
 replace H := Option.bind_eq_some_iff.mp H
 obtain ⟨t166, A30, H⟩ := H
 replace H : (if t166 = true then ((fns_isInt.f a1_0 a1_1 a1_2 l1_3).bind fun t167 => (if t167 = true then (some (a0_0, wrap64 (a0_1 + a1_1), a0_2, l0_3)) else (some (a0_0, a0_1, a0_2, l0_3)))) else (some (a0_0, a0_1, a0_2, l0_3))) = some (r1, r2, r3, r4) := H
 have A3 := Aside0.mk A30
 clear A30
 by_cases c4 : t166 = true
 ·subst c4
  have H1 : ((fns_isInt.f a1_0 a1_1 a1_2 l1_3).bind fun t167 => (if t167 = true then (some (a0_0, wrap64 (a0_1 + a1_1), a0_2, l0_3)) else (some (a0_0, a0_1, a0_2, l0_3)))) = some (r1, r2, r3, r4) := by rw [if_pos rfl] at H; exact H
  clear H
  have H := H1
  clear H1
  replace H := Option.bind_eq_some_iff.mp H
  obtain ⟨t167, A50, H⟩ := H
  replace H : (if t167 = true then (some (a0_0, wrap64 (a0_1 + a1_1), a0_2, l0_3)) else (some (a0_0, a0_1, a0_2, l0_3))) = some (r1, r2, r3, r4) := H
  have A5 := Aside0.mk A50
  clear A50
  by_cases c6 : t167 = true
  ·subst c6
   have H1 : (some (a0_0, wrap64 (a0_1 + a1_1), a0_2, l0_3)) = some (r1, r2, r3, r4) := by rw [if_pos rfl] at H; exact H
   clear H
   have H := H1
   clear H1
   simp only [Option.some.injEq, Prod.mk.injEq] at H
   obtain ⟨rfl, rfl, rfl, rfl⟩ := H
   go_enter Tryd.func42, Tryd.ntmps42
   go_wp2_with (first | ((with_reducible refine gate_dst (N := 2) rfl ?_); refine box_event ?hg (N := 2) ?hd (cs := #[.int .i64 a0_0, .int .i64 a0_1, .string a0_2, .slice A0_3 l0_3.length c0_3]) (t := 24) ?hr ?_; (case hd => rfl); (case hg => rfl); (case hr => first | (go_simp; done) | (go_simp; rfl)); intro gb163 hg w7 hbox hb; have BK163 := Aside0.mk (hbox); have GW163 := bx_g (up_h HB) hg; have GE163 := bx_g (up_h HB) hg; replace HO0_3 := bx_v HO0_3 hg hb; replace HB := ca_h HB hb; clear hb hbox hg) | ((with_reducible refine gate_dst (N := 3) rfl ?_); refine box_event ?hg (N := 3) ?hd (cs := #[.int .i64 a1_0, .int .i64 a1_1, .string a1_2, .slice A1_3 l1_3.length c1_3]) (t := 24) ?hr ?_; (case hd => rfl); (case hg => rfl); (case hr => first | (go_simp; done) | (go_simp; rfl)); intro gb164 hg w8 hbox hb; have BK164 := Aside0.mk (hbox); have GW164 := bx_g (up_h HB) hg; have GE164 := bx_g (up_h HB) hg; have NB163_164 := bx_n (up_b BK163) hg; have NB164_163 := bx_m (up_b BK163) hg; replace HO0_3 := bx_v HO0_3 hg hb; replace BK163 := ca_b BK163 hb; replace HB := ca_h HB hb; clear hb hbox hg) | ((with_reducible refine gate_dst (N := 4) rfl ?_); refine box_event ?hg (N := 4) ?hd (cs := #[.int .i64 0, .int .i64 0, .string (⟨#[]⟩ : ByteArray), .slice none 0 0]) (t := 24) ?hr ?_; (case hd => rfl); (case hg => rfl); (case hr => first | (go_simp; done) | (go_simp; rfl)); intro gb165 hg w9 hbox hb; have BK165 := Aside0.mk (hbox); have GW165 := bx_g (up_h HB) hg; have GE165 := bx_g (up_h HB) hg; have NB163_165 := bx_n (up_b BK163) hg; have NB165_163 := bx_m (up_b BK163) hg; have NB164_165 := bx_n (up_b BK164) hg; have NB165_164 := bx_m (up_b BK164) hg; replace HO0_3 := bx_v HO0_3 hg hb; replace BK163 := ca_b BK163 hb; replace BK164 := ca_b BK164 hb; replace HB := ca_h HB hb; clear hb hbox hg; have hnb10 := NB163_164.out; have hnc10 := NB164_163.out; have hnb11 := NB163_165.out; have hnc11 := NB165_163.out; obtain ⟨hcz12_0, hcz12_1, hcz12_2, hcz12_3, hfz12_0, hfz12_1, hfz12_2, hfz12_3⟩ := bk4 BK163) | ((with_reducible refine gate_callee (f := 35) rfl ?_); refine goesL_ (some 6) rfl rfl Tryd.func35 (by kernel_rfl) rfl #[.agg #[.int .i64 a0_0, .int .i64 a0_1, .string a0_2, .slice A0_3 l0_3.length c0_3]] rfl (by (try simp only [List.map_toArray, List.map_cons, List.map_nil]); first | done | rfl | (simp only [List.length_drop, List.length_take]; rfl) | (simp only [gt_iff_lt, Int.ofNat_lt]; rfl)) ?_; (with_reducible refine (fns_isInt.calls a0_0 a0_1 a0_2 _ _ l0_3 true _ ?side1 ?side2 A3.out).mono ?_); (case side1 => repeat (first | exact (Kd.V_reads' HO0_3.out).2.2 | (with_reducible refine Kd.C_alloc ?_ _) | (with_reducible refine Kd.C_drewN ?_ _) | (with_reducible refine Kd.C_drew ?_))); (case side2 => exact (Kd.V_reads' HO0_3.out).2.1); rintro e w13 ⟨rfl, hb⟩; refine ⟨_, rfl, ?_⟩; replace HO0_3 := ca_v HO0_3 hb; replace BK163 := ca_b BK163 hb; replace BK164 := ca_b BK164 hb; replace BK165 := ca_b BK165 hb; replace HB := ca_h HB hb; (try clear hb); (try clear hb2); (try clear hk); (try clear hi); have hnb14 := NB164_165.out; have hnc14 := NB165_164.out; obtain ⟨hcz15_0, hcz15_1, hcz15_2, hcz15_3, hfz15_0, hfz15_1, hfz15_2, hfz15_3⟩ := bk4 BK164) | (go_at_call 35; (with_reducible refine (fns_isInt.calls a1_0 a1_1 a1_2 _ _ l1_3 true _ ?side1 ?side2 A5.out).mono ?_); (case side1 => repeat (first | exact (Kd.C_below HR1_3.out HB.out) | (with_reducible refine Kd.C_alloc ?_ _) | (with_reducible refine Kd.C_drewN ?_ _) | (with_reducible refine Kd.C_drew ?_))); (case side2 => exact HC1_3.out); rintro e w16 ⟨rfl, hb⟩; replace HO0_3 := ca_v HO0_3 hb; replace BK163 := ca_b BK163 hb; replace BK164 := ca_b BK164 hb; replace BK165 := ca_b BK165 hb; replace HB := ca_h HB hb; (try clear hb); (try clear hb2); (try clear hk); (try clear hi); obtain ⟨hcz17_0, hcz17_1, hcz17_2, hcz17_3, hfz17_0, hfz17_1, hfz17_2, hfz17_3⟩ := bk4 BK163; obtain ⟨hcz18_0, hcz18_1, hcz18_2, hcz18_3, hfz18_0, hfz18_1, hfz18_2, hfz18_3⟩ := bk4 BK164; obtain ⟨hcz19_0, hcz19_1, hcz19_2, hcz19_3, hfz19_0, hfz19_1, hfz19_2, hfz19_3⟩ := bk4 BK165))
   refine bodyPost_ret (results_cell_row rfl _ _ gb165 24 #[.int .i64 a0_0, .int .i64 (wrap64 (a0_1 + a1_1)), .string a0_2, .slice A0_3 l0_3.length c0_3] (0, 0) _ rfl (by (with_reducible repeat (first | refine blk_drewN ?_ _ | refine blk_drew ?_ | refine blk_alloc ?_ _)); refine blk_put (cs := #[.int .i64 a0_0, .int .i64 (wrap64 (a0_1 + a1_1)), .string a0_2, .slice none 0 0]) ?_ 3 _ rfl; (with_reducible repeat (first | refine blk_drewN ?_ _ | refine blk_drew ?_ | refine blk_alloc ?_ _)); refine blk_put (cs := #[.int .i64 a0_0, .int .i64 (wrap64 (a0_1 + a1_1)), .string (⟨#[]⟩ : ByteArray), .slice none 0 0]) ?_ 2 _ rfl; (with_reducible repeat (first | refine blk_drewN ?_ _ | refine blk_drew ?_ | refine blk_alloc ?_ _)); refine blk_put (cs := #[.int .i64 a0_0, .int .i64 0, .string (⟨#[]⟩ : ByteArray), .slice none 0 0]) ?_ 1 _ rfl; (with_reducible repeat (first | refine blk_drewN ?_ _ | refine blk_drew ?_ | refine blk_alloc ?_ _)); refine blk_put (cs := #[.int .i64 0, .int .i64 0, .string (⟨#[]⟩ : ByteArray), .slice none 0 0]) ?_ 0 _ rfl; (with_reducible repeat (first | refine blk_drewN ?_ _ | refine blk_drew ?_ | refine blk_alloc ?_ _)); refine blk_far ?_ NB165_163.out _; (with_reducible repeat (first | refine blk_drewN ?_ _ | refine blk_drew ?_ | refine blk_alloc ?_ _)); exact BK165.out) Tryd.underlying24 rfl (by kernel_rfl)) rfl ?_
   exact ⟨_, by first | rfl | (simp [errW_none, errW_some] <;> rfl) | (simp [*, errW_none, errW_some] <;> rfl), by (with_reducible repeat (first | apply Kd.V_alloc | apply Kd.V_drewN | apply Kd.V_drew)); exact Kd.V_mono (Kd.V_far (p := ⟨gb165, 3, none⟩) (Kd.V_far (p := ⟨gb165, 2, none⟩) (Kd.V_far (p := ⟨gb165, 1, none⟩) (Kd.V_far (p := ⟨gb165, 0, none⟩) (Kd.V_far (p := ⟨gb163, 1, none⟩) (Kd.V_mono (Kd.V_mono HO0_3.out (fun k_ hk => (⟨hk, hk.1.1.2⟩ : _ ∧ k_ ≠ gb163))) (fun k_ hk => (⟨hk, hk.1.2⟩ : _ ∧ k_ ≠ gb165))) (fun _ hk => hk.1.2) (.int .i64 (wrap64 (a0_1 + a1_1)))) (fun _ hk => hk.2) (.int .i64 a0_0)) (fun _ hk => hk.2) (.int .i64 (wrap64 (a0_1 + a1_1)))) (fun _ hk => hk.2) (.string a0_2)) (fun _ hk => hk.2) (.slice A0_3 l0_3.length c0_3)) (fun _ hk => hk.1.1.1.1.1), by repeat (first | (with_reducible first | exact HB.out | apply below_alloc | apply pw_below_drewN | apply below_drew1 | refine below_set ?_ GE163.out | refine below_set ?_ GE164.out | refine below_set ?_ GE165.out) | exact HB.out)⟩
  ·replace c6 := Bool.eq_false_iff.mpr c6
   subst c6
   have H1 : (some (a0_0, a0_1, a0_2, l0_3)) = some (r1, r2, r3, r4) := by rw [if_neg (show ¬ (false = true) by decide)] at H; exact H
   clear H
   have H := H1
   clear H1
   simp only [Option.some.injEq, Prod.mk.injEq] at H
   obtain ⟨rfl, rfl, rfl, rfl⟩ := H
   go_enter Tryd.func42, Tryd.ntmps42
   go_wp2_with (first | ((with_reducible refine gate_dst (N := 2) rfl ?_); refine box_event ?hg (N := 2) ?hd (cs := #[.int .i64 a0_0, .int .i64 a0_1, .string a0_2, .slice A0_3 l0_3.length c0_3]) (t := 24) ?hr ?_; (case hd => rfl); (case hg => rfl); (case hr => first | (go_simp; done) | (go_simp; rfl)); intro gb163 hg w20 hbox hb; have BK163 := Aside0.mk (hbox); have GW163 := bx_g (up_h HB) hg; have GE163 := bx_g (up_h HB) hg; replace HO0_3 := bx_v HO0_3 hg hb; replace HB := ca_h HB hb; clear hb hbox hg) | ((with_reducible refine gate_dst (N := 3) rfl ?_); refine box_event ?hg (N := 3) ?hd (cs := #[.int .i64 a1_0, .int .i64 a1_1, .string a1_2, .slice A1_3 l1_3.length c1_3]) (t := 24) ?hr ?_; (case hd => rfl); (case hg => rfl); (case hr => first | (go_simp; done) | (go_simp; rfl)); intro gb164 hg w21 hbox hb; have BK164 := Aside0.mk (hbox); have GW164 := bx_g (up_h HB) hg; have GE164 := bx_g (up_h HB) hg; have NB163_164 := bx_n (up_b BK163) hg; have NB164_163 := bx_m (up_b BK163) hg; replace HO0_3 := bx_v HO0_3 hg hb; replace BK163 := ca_b BK163 hb; replace HB := ca_h HB hb; clear hb hbox hg) | ((with_reducible refine gate_dst (N := 4) rfl ?_); refine box_event ?hg (N := 4) ?hd (cs := #[.int .i64 0, .int .i64 0, .string (⟨#[]⟩ : ByteArray), .slice none 0 0]) (t := 24) ?hr ?_; (case hd => rfl); (case hg => rfl); (case hr => first | (go_simp; done) | (go_simp; rfl)); intro gb165 hg w22 hbox hb; have BK165 := Aside0.mk (hbox); have GW165 := bx_g (up_h HB) hg; have GE165 := bx_g (up_h HB) hg; have NB163_165 := bx_n (up_b BK163) hg; have NB165_163 := bx_m (up_b BK163) hg; have NB164_165 := bx_n (up_b BK164) hg; have NB165_164 := bx_m (up_b BK164) hg; replace HO0_3 := bx_v HO0_3 hg hb; replace BK163 := ca_b BK163 hb; replace BK164 := ca_b BK164 hb; replace HB := ca_h HB hb; clear hb hbox hg; have hnb23 := NB163_164.out; have hnc23 := NB164_163.out; have hnb24 := NB163_165.out; have hnc24 := NB165_163.out; obtain ⟨hcz25_0, hcz25_1, hcz25_2, hcz25_3, hfz25_0, hfz25_1, hfz25_2, hfz25_3⟩ := bk4 BK163) | ((with_reducible refine gate_callee (f := 35) rfl ?_); refine goesL_ (some 6) rfl rfl Tryd.func35 (by kernel_rfl) rfl #[.agg #[.int .i64 a0_0, .int .i64 a0_1, .string a0_2, .slice A0_3 l0_3.length c0_3]] rfl (by (try simp only [List.map_toArray, List.map_cons, List.map_nil]); first | done | rfl | (simp only [List.length_drop, List.length_take]; rfl) | (simp only [gt_iff_lt, Int.ofNat_lt]; rfl)) ?_; (with_reducible refine (fns_isInt.calls a0_0 a0_1 a0_2 _ _ l0_3 true _ ?side1 ?side2 A3.out).mono ?_); (case side1 => repeat (first | exact (Kd.V_reads' HO0_3.out).2.2 | (with_reducible refine Kd.C_alloc ?_ _) | (with_reducible refine Kd.C_drewN ?_ _) | (with_reducible refine Kd.C_drew ?_))); (case side2 => exact (Kd.V_reads' HO0_3.out).2.1); rintro e w26 ⟨rfl, hb⟩; refine ⟨_, rfl, ?_⟩; replace HO0_3 := ca_v HO0_3 hb; replace BK163 := ca_b BK163 hb; replace BK164 := ca_b BK164 hb; replace BK165 := ca_b BK165 hb; replace HB := ca_h HB hb; (try clear hb); (try clear hb2); (try clear hk); (try clear hi); have hnb27 := NB164_165.out; have hnc27 := NB165_164.out; obtain ⟨hcz28_0, hcz28_1, hcz28_2, hcz28_3, hfz28_0, hfz28_1, hfz28_2, hfz28_3⟩ := bk4 BK164) | (go_at_call 35; (with_reducible refine (fns_isInt.calls a1_0 a1_1 a1_2 _ _ l1_3 false _ ?side1 ?side2 A5.out).mono ?_); (case side1 => repeat (first | exact (Kd.C_below HR1_3.out HB.out) | (with_reducible refine Kd.C_alloc ?_ _) | (with_reducible refine Kd.C_drewN ?_ _) | (with_reducible refine Kd.C_drew ?_))); (case side2 => exact HC1_3.out); rintro e w29 ⟨rfl, hb⟩; replace HO0_3 := ca_v HO0_3 hb; replace BK163 := ca_b BK163 hb; replace BK164 := ca_b BK164 hb; replace BK165 := ca_b BK165 hb; replace HB := ca_h HB hb; (try clear hb); (try clear hb2); (try clear hk); (try clear hi); obtain ⟨hcz30_0, hcz30_1, hcz30_2, hcz30_3, hfz30_0, hfz30_1, hfz30_2, hfz30_3⟩ := bk4 BK163; obtain ⟨hcz31_0, hcz31_1, hcz31_2, hcz31_3, hfz31_0, hfz31_1, hfz31_2, hfz31_3⟩ := bk4 BK165))
   refine bodyPost_ret (results_cell_row rfl _ _ gb165 24 #[.int .i64 a0_0, .int .i64 a0_1, .string a0_2, .slice A0_3 l0_3.length c0_3] (0, 0) _ rfl (pu4 BK165) Tryd.underlying24 rfl (by kernel_rfl)) rfl ?_
   exact ⟨_, by first | rfl | (simp [errW_none, errW_some] <;> rfl) | (simp [*, errW_none, errW_some] <;> rfl), by (with_reducible repeat (first | apply Kd.V_alloc | apply Kd.V_drewN | apply Kd.V_drew)); exact Kd.V_mono (fa4_v HO0_3 (fun _ hk => hk.2)) (fun _ hk => hk.1.1.1.1), by repeat (first | (with_reducible first | exact HB.out | apply below_alloc | apply pw_below_drewN | apply below_drew1 | refine below_set ?_ GE163.out | refine below_set ?_ GE164.out | refine below_set ?_ GE165.out) | exact HB.out)⟩
 ·replace c4 := Bool.eq_false_iff.mpr c4
  subst c4
  have H1 : (some (a0_0, a0_1, a0_2, l0_3)) = some (r1, r2, r3, r4) := by rw [if_neg (show ¬ (false = true) by decide)] at H; exact H
  clear H
  have H := H1
  clear H1
  simp only [Option.some.injEq, Prod.mk.injEq] at H
  obtain ⟨rfl, rfl, rfl, rfl⟩ := H
  go_enter Tryd.func42, Tryd.ntmps42
  go_wp2_with (first | ((with_reducible refine gate_dst (N := 2) rfl ?_); refine box_event ?hg (N := 2) ?hd (cs := #[.int .i64 a0_0, .int .i64 a0_1, .string a0_2, .slice A0_3 l0_3.length c0_3]) (t := 24) ?hr ?_; (case hd => rfl); (case hg => rfl); (case hr => first | (go_simp; done) | (go_simp; rfl)); intro gb163 hg w32 hbox hb; have BK163 := Aside0.mk (hbox); have GW163 := bx_g (up_h HB) hg; have GE163 := bx_g (up_h HB) hg; replace HO0_3 := bx_v HO0_3 hg hb; replace HB := ca_h HB hb; clear hb hbox hg) | ((with_reducible refine gate_dst (N := 3) rfl ?_); refine box_event ?hg (N := 3) ?hd (cs := #[.int .i64 a1_0, .int .i64 a1_1, .string a1_2, .slice A1_3 l1_3.length c1_3]) (t := 24) ?hr ?_; (case hd => rfl); (case hg => rfl); (case hr => first | (go_simp; done) | (go_simp; rfl)); intro gb164 hg w33 hbox hb; have BK164 := Aside0.mk (hbox); have GW164 := bx_g (up_h HB) hg; have GE164 := bx_g (up_h HB) hg; have NB163_164 := bx_n (up_b BK163) hg; have NB164_163 := bx_m (up_b BK163) hg; replace HO0_3 := bx_v HO0_3 hg hb; replace BK163 := ca_b BK163 hb; replace HB := ca_h HB hb; clear hb hbox hg) | ((with_reducible refine gate_dst (N := 4) rfl ?_); refine box_event ?hg (N := 4) ?hd (cs := #[.int .i64 0, .int .i64 0, .string (⟨#[]⟩ : ByteArray), .slice none 0 0]) (t := 24) ?hr ?_; (case hd => rfl); (case hg => rfl); (case hr => first | (go_simp; done) | (go_simp; rfl)); intro gb165 hg w34 hbox hb; have BK165 := Aside0.mk (hbox); have GW165 := bx_g (up_h HB) hg; have GE165 := bx_g (up_h HB) hg; have NB163_165 := bx_n (up_b BK163) hg; have NB165_163 := bx_m (up_b BK163) hg; have NB164_165 := bx_n (up_b BK164) hg; have NB165_164 := bx_m (up_b BK164) hg; replace HO0_3 := bx_v HO0_3 hg hb; replace BK163 := ca_b BK163 hb; replace BK164 := ca_b BK164 hb; replace HB := ca_h HB hb; clear hb hbox hg; have hnb35 := NB163_164.out; have hnc35 := NB164_163.out; have hnb36 := NB163_165.out; have hnc36 := NB165_163.out; obtain ⟨hcz37_0, hcz37_1, hcz37_2, hcz37_3, hfz37_0, hfz37_1, hfz37_2, hfz37_3⟩ := bk4 BK163) | ((with_reducible refine gate_callee (f := 35) rfl ?_); refine goesL_ (some 6) rfl rfl Tryd.func35 (by kernel_rfl) rfl #[.agg #[.int .i64 a0_0, .int .i64 a0_1, .string a0_2, .slice A0_3 l0_3.length c0_3]] rfl (by (try simp only [List.map_toArray, List.map_cons, List.map_nil]); first | done | rfl | (simp only [List.length_drop, List.length_take]; rfl) | (simp only [gt_iff_lt, Int.ofNat_lt]; rfl)) ?_; (with_reducible refine (fns_isInt.calls a0_0 a0_1 a0_2 _ _ l0_3 false _ ?side1 ?side2 A3.out).mono ?_); (case side1 => repeat (first | exact (Kd.V_reads' HO0_3.out).2.2 | (with_reducible refine Kd.C_alloc ?_ _) | (with_reducible refine Kd.C_drewN ?_ _) | (with_reducible refine Kd.C_drew ?_))); (case side2 => exact (Kd.V_reads' HO0_3.out).2.1); rintro e w38 ⟨rfl, hb⟩; refine ⟨_, rfl, ?_⟩; replace HO0_3 := ca_v HO0_3 hb; replace BK163 := ca_b BK163 hb; replace BK164 := ca_b BK164 hb; replace BK165 := ca_b BK165 hb; replace HB := ca_h HB hb; (try clear hb); (try clear hb2); (try clear hk); (try clear hi); obtain ⟨hcz39_0, hcz39_1, hcz39_2, hcz39_3, hfz39_0, hfz39_1, hfz39_2, hfz39_3⟩ := bk4 BK163; have hnb40 := NB165_164.out; have hnc40 := NB164_165.out; obtain ⟨hcz41_0, hcz41_1, hcz41_2, hcz41_3, hfz41_0, hfz41_1, hfz41_2, hfz41_3⟩ := bk4 BK165))
  refine bodyPost_ret (results_cell_row rfl _ _ gb165 24 #[.int .i64 a0_0, .int .i64 a0_1, .string a0_2, .slice A0_3 l0_3.length c0_3] (0, 0) _ rfl (pu4 BK165) Tryd.underlying24 rfl (by kernel_rfl)) rfl ?_
  exact ⟨_, by first | rfl | (simp [errW_none, errW_some] <;> rfl) | (simp [*, errW_none, errW_some] <;> rfl), by (with_reducible repeat (first | apply Kd.V_alloc | apply Kd.V_drewN | apply Kd.V_drew)); exact Kd.V_mono (fa4_v HO0_3 (fun _ hk => hk.2)) (fun _ hk => hk.1.1.1.1), by repeat (first | (with_reducible first | exact HB.out | apply below_alloc | apply pw_below_drewN | apply below_drew1 | refine below_set ?_ GE163.out | refine below_set ?_ GE164.out | refine below_set ?_ GE165.out) | exact HB.out)⟩

def fns_right.f (k : Nat) (a0_0 : Int) (a0_1 : Int) (a0_2 : ByteArray) (l0_3 : List (S24)) (a1_0 : Int) (a1_1 : Int) (a1_2 : ByteArray) (l1_3 : List (S24)) : Option (Int × Int × ByteArray × (List (S24))) := (value_Check.f k a0_0 a0_1 a0_2 l0_3).bind fun t171 => (if t171 = 0 then (some (a0_0, a0_1, a0_2, l0_3)) else (some (a1_0, a1_1, a1_2, l1_3)))
theorem fns_right.mono : ∀ a0 a1 a2 a3 a4 a5 a6 a7 k, LeO (fns_right.f k a0 a1 a2 a3 a4 a5 a6 a7) (fns_right.f (k + 1) a0 a1 a2 a3 a4 a5 a6 a7) := by
 intro a0 a1 a2 a3 a4 a5 a6 a7 k
 unfold fns_right.f
 repeat' first
   | (with_reducible exact value_Check.mono _ _ _ _ _)
   | (with_reducible exact LeO.refl _)
   | (with_reducible exact LeO.none _)
   | (with_reducible refine LeO.ite ?_ ?_)
   | (with_reducible refine LeO.bind ?_ (fun _ => ?_))
   | exact value_Check.mono _ _ _ _ _
   | exact LeO.none _
   | refine LeO.ite ?_ ?_
   | refine LeO.bind ?_ (fun _ => ?_)
set_option maxHeartbeats 8000000 in
set_option maxRecDepth 100000 in
theorem fns_right.calls (k : Nat) (a0_0 : Int) (a0_1 : Int) (a0_2 : ByteArray) (P0_3_ : Nat → Prop) (A0_3 : Option Addr) (c0_3 : Nat) (l0_3 : List (S24)) (a1_0 : Int) (a1_1 : Int) (a1_2 : ByteArray) (P1_3_ : Nat → Prop) (A1_3 : Option Addr) (c1_3 : Nat) (l1_3 : List (S24)) (r1 : Int) (r2 : Int) (r3 : ByteArray) (r4 : List (S24)) (w : World) (hL : LaidW w) (hs0_3 : Kd.V k24 24 w w.heap.size (fun k_ => P0_3_ k_) (.slice A0_3 l0_3.length c0_3) l0_3) (hs1_3 : Kd.V k24 24 w w.heap.size (fun k_ => P1_3_ k_) (.slice A1_3 l1_3.length c1_3) l1_3) (h : fns_right.f k a0_0 a0_1 a0_2 l0_3 a1_0 a1_1 a1_2 l1_3 = some (r1, r2, r3, r4)) :
  Calls Tryd.prog 58 #[.agg #[.int .i64 a0_0, .int .i64 a0_1, .string a0_2, .slice A0_3 l0_3.length c0_3], .agg #[.int .i64 a1_0, .int .i64 a1_1, .string a1_2, .slice A1_3 l1_3.length c1_3]] w fun e w' => ∃ v3_ : Value, e = .returned (.agg #[.int .i64 r1, .int .i64 r2, .string r3, v3_]) ∧ Kd.V k24 24 w' w.heap.size (fun k_ => ((P0_3_ k_ ∨ P1_3_ k_) ∨ w.heap.size ≤ k_)) v3_ r4 ∧ Below w.heap.size w w' := by
 have hu24 := Tryd.underlying24
 have HO0_3 := Aside0.mk (show Kd.V k24 24 w w.heap.size (fun k_ => ((P0_3_ k_ ∨ P1_3_ k_) ∨ w.heap.size ≤ k_)) (.slice A0_3 l0_3.length c0_3) l0_3 from Kd.V_mono hs0_3 (fun k_ hk => .inl (.inl hk)))
 have HO1_3 := Aside0.mk (show Kd.V k24 24 w w.heap.size (fun k_ => ((P0_3_ k_ ∨ P1_3_ k_) ∨ w.heap.size ≤ k_)) (.slice A1_3 l1_3.length c1_3) l1_3 from Kd.V_mono hs1_3 (fun k_ hk => .inl (.inr hk)))
 have HLT := Aside0.mk hL
 clear hL
 have HB := Aside0.mk (Below.refl w.heap.size w)
 have H : ((value_Check.f k a0_0 a0_1 a0_2 l0_3).bind fun t171 => (if t171 = 0 then (some (a0_0, a0_1, a0_2, l0_3)) else (some (a1_0, a1_1, a1_2, l1_3)))) = some (r1, r2, r3, r4) := h
 clear h
 replace H := Option.bind_eq_some_iff.mp H
 obtain ⟨t171, A30, H⟩ := H
 replace H : (if t171 = 0 then (some (a0_0, a0_1, a0_2, l0_3)) else (some (a1_0, a1_1, a1_2, l1_3))) = some (r1, r2, r3, r4) := H
 have A3 := Aside0.mk A30
 clear A30
 by_cases c4 : t171 = 0
 ·rw [if_pos c4] at H
  have c4b0 : (t171 == 0) = true := beq_iff_eq.mpr c4
  have c4b1 : (t171 != 0) = false := bne_eq_false_iff_eq.mpr c4
  clear c4
  simp only [Option.some.injEq, Prod.mk.injEq] at H
  obtain ⟨rfl, rfl, rfl, rfl⟩ := H
  go_enter Tryd.func58, Tryd.ntmps58
  go_wp2_with (first | ((with_reducible refine gate_dst (N := 2) rfl ?_); refine box_event ?hg (N := 2) ?hd (cs := #[.int .i64 a0_0, .int .i64 a0_1, .string a0_2, .slice A0_3 l0_3.length c0_3]) (t := 24) ?hr ?_; (case hd => rfl); (case hg => rfl); (case hr => first | (go_simp; done) | (go_simp; rfl)); intro gb168 hg w5 hbox hb; have BK168 := Aside0.mk (hbox); have GW168 := bx_g (up_h HB) hg; have GE168 := bx_g (up_h HB) hg; replace HO0_3 := bx_v HO0_3 hg hb; replace HO1_3 := bx_v HO1_3 hg hb; replace HB := ca_h HB hb; clear hb hbox hg) | ((with_reducible refine gate_dst (N := 3) rfl ?_); refine box_event ?hg (N := 3) ?hd (cs := #[.int .i64 a1_0, .int .i64 a1_1, .string a1_2, .slice A1_3 l1_3.length c1_3]) (t := 24) ?hr ?_; (case hd => rfl); (case hg => rfl); (case hr => first | (go_simp; done) | (go_simp; rfl)); intro gb169 hg w6 hbox hb; have BK169 := Aside0.mk (hbox); have GW169 := bx_g (up_h HB) hg; have GE169 := bx_g (up_h HB) hg; have NB168_169 := bx_n (up_b BK168) hg; have NB169_168 := bx_m (up_b BK168) hg; replace HO0_3 := bx_v HO0_3 hg hb; replace HO1_3 := bx_v HO1_3 hg hb; replace BK168 := ca_b BK168 hb; replace HB := ca_h HB hb; clear hb hbox hg) | ((with_reducible refine gate_dst (N := 4) rfl ?_); refine box_event ?hg (N := 4) ?hd (cs := #[.int .i64 0, .int .i64 0, .string (⟨#[]⟩ : ByteArray), .slice none 0 0]) (t := 24) ?hr ?_; (case hd => rfl); (case hg => rfl); (case hr => first | (go_simp; done) | (go_simp; rfl)); intro gb170 hg w7 hbox hb; have BK170 := Aside0.mk (hbox); have GW170 := bx_g (up_h HB) hg; have GE170 := bx_g (up_h HB) hg; have NB168_170 := bx_n (up_b BK168) hg; have NB170_168 := bx_m (up_b BK168) hg; have NB169_170 := bx_n (up_b BK169) hg; have NB170_169 := bx_m (up_b BK169) hg; replace HO0_3 := bx_v HO0_3 hg hb; replace HO1_3 := bx_v HO1_3 hg hb; replace BK168 := ca_b BK168 hb; replace BK169 := ca_b BK169 hb; replace HB := ca_h HB hb; clear hb hbox hg; have hnb8 := NB168_169.out; have hnc8 := NB169_168.out; have hnb9 := NB168_170.out; have hnc9 := NB170_168.out; obtain ⟨hcz10_0, hcz10_1, hcz10_2, hcz10_3, hfz10_0, hfz10_1, hfz10_2, hfz10_3⟩ := bk4 BK168) | ((with_reducible refine gate_callee (f := 15) rfl ?_); refine goesL_ (some 6) rfl rfl Tryd.func15 (by kernel_rfl) rfl #[.agg #[.int .i64 a0_0, .int .i64 a0_1, .string a0_2, .slice A0_3 l0_3.length c0_3]] rfl (by (try simp only [List.map_toArray, List.map_cons, List.map_nil]); first | done | rfl | (simp only [List.length_drop, List.length_take]; rfl) | (simp only [gt_iff_lt, Int.ofNat_lt]; rfl)) ?_; (with_reducible refine (value_Check.calls k a0_0 a0_1 a0_2 _ _ l0_3 t171 _ ?side1 ?side2 ?side3 A3.out).mono ?_); (case side1 => exact LaidW.below HLT.out (up_h HB)); (case side2 => repeat (first | exact (Kd.V_reads' HO0_3.out).2.2 | (with_reducible refine Kd.C_alloc ?_ _) | (with_reducible refine Kd.C_drewN ?_ _) | (with_reducible refine Kd.C_drew ?_))); (case side3 => exact (Kd.V_reads' HO0_3.out).2.1); rintro e w11 ⟨rfl, hb⟩; refine ⟨_, rfl, ?_⟩; replace HO0_3 := ca_v HO0_3 hb; replace HO1_3 := ca_v HO1_3 hb; replace BK168 := ca_b BK168 hb; replace BK169 := ca_b BK169 hb; replace BK170 := ca_b BK170 hb; replace HB := ca_h HB hb; (try clear hb); (try clear hb2); (try clear hk); (try clear hi); obtain ⟨hcz12_0, hcz12_1, hcz12_2, hcz12_3, hfz12_0, hfz12_1, hfz12_2, hfz12_3⟩ := bk4 BK168; have hnb13 := NB170_169.out; have hnc13 := NB169_170.out; obtain ⟨hcz14_0, hcz14_1, hcz14_2, hcz14_3, hfz14_0, hfz14_1, hfz14_2, hfz14_3⟩ := bk4 BK170))
  refine bodyPost_ret (results_cell_row rfl _ _ gb170 24 #[.int .i64 a0_0, .int .i64 a0_1, .string a0_2, .slice A0_3 l0_3.length c0_3] (0, 0) _ rfl (pu4 BK170) Tryd.underlying24 rfl (by kernel_rfl)) rfl ?_
  exact ⟨_, by first | rfl | (simp [errW_none, errW_some] <;> rfl) | (simp [*, errW_none, errW_some] <;> rfl), by (with_reducible repeat (first | apply Kd.V_alloc | apply Kd.V_drewN | apply Kd.V_drew)); exact Kd.V_mono (fa4_v HO0_3 (fun _ hk => hk.2)) (fun _ hk => hk.1.1.1.1), by repeat (first | (with_reducible first | exact HB.out | apply below_alloc | apply pw_below_drewN | apply below_drew1 | refine below_set ?_ GE168.out | refine below_set ?_ GE169.out | refine below_set ?_ GE170.out) | exact HB.out)⟩
 ·rw [if_neg c4] at H
  have c4b0 : (t171 == 0) = false := beq_eq_false_iff_ne.mpr c4
  have c4b1 : (t171 != 0) = true := bne_iff_ne.mpr c4
  simp only [Option.some.injEq, Prod.mk.injEq] at H
  obtain ⟨rfl, rfl, rfl, rfl⟩ := H
  go_enter Tryd.func58, Tryd.ntmps58
  go_wp2_with (first | ((with_reducible refine gate_dst (N := 2) rfl ?_); refine box_event ?hg (N := 2) ?hd (cs := #[.int .i64 a0_0, .int .i64 a0_1, .string a0_2, .slice A0_3 l0_3.length c0_3]) (t := 24) ?hr ?_; (case hd => rfl); (case hg => rfl); (case hr => first | (go_simp; done) | (go_simp; rfl)); intro gb168 hg w15 hbox hb; have BK168 := Aside0.mk (hbox); have GW168 := bx_g (up_h HB) hg; have GE168 := bx_g (up_h HB) hg; replace HO0_3 := bx_v HO0_3 hg hb; replace HO1_3 := bx_v HO1_3 hg hb; replace HB := ca_h HB hb; clear hb hbox hg) | ((with_reducible refine gate_dst (N := 3) rfl ?_); refine box_event ?hg (N := 3) ?hd (cs := #[.int .i64 a1_0, .int .i64 a1_1, .string a1_2, .slice A1_3 l1_3.length c1_3]) (t := 24) ?hr ?_; (case hd => rfl); (case hg => rfl); (case hr => first | (go_simp; done) | (go_simp; rfl)); intro gb169 hg w16 hbox hb; have BK169 := Aside0.mk (hbox); have GW169 := bx_g (up_h HB) hg; have GE169 := bx_g (up_h HB) hg; have NB168_169 := bx_n (up_b BK168) hg; have NB169_168 := bx_m (up_b BK168) hg; replace HO0_3 := bx_v HO0_3 hg hb; replace HO1_3 := bx_v HO1_3 hg hb; replace BK168 := ca_b BK168 hb; replace HB := ca_h HB hb; clear hb hbox hg) | ((with_reducible refine gate_dst (N := 4) rfl ?_); refine box_event ?hg (N := 4) ?hd (cs := #[.int .i64 0, .int .i64 0, .string (⟨#[]⟩ : ByteArray), .slice none 0 0]) (t := 24) ?hr ?_; (case hd => rfl); (case hg => rfl); (case hr => first | (go_simp; done) | (go_simp; rfl)); intro gb170 hg w17 hbox hb; have BK170 := Aside0.mk (hbox); have GW170 := bx_g (up_h HB) hg; have GE170 := bx_g (up_h HB) hg; have NB168_170 := bx_n (up_b BK168) hg; have NB170_168 := bx_m (up_b BK168) hg; have NB169_170 := bx_n (up_b BK169) hg; have NB170_169 := bx_m (up_b BK169) hg; replace HO0_3 := bx_v HO0_3 hg hb; replace HO1_3 := bx_v HO1_3 hg hb; replace BK168 := ca_b BK168 hb; replace BK169 := ca_b BK169 hb; replace HB := ca_h HB hb; clear hb hbox hg; have hnb18 := NB168_169.out; have hnc18 := NB169_168.out; have hnb19 := NB168_170.out; have hnc19 := NB170_168.out; obtain ⟨hcz20_0, hcz20_1, hcz20_2, hcz20_3, hfz20_0, hfz20_1, hfz20_2, hfz20_3⟩ := bk4 BK168) | ((with_reducible refine gate_callee (f := 15) rfl ?_); refine goesL_ (some 6) rfl rfl Tryd.func15 (by kernel_rfl) rfl #[.agg #[.int .i64 a0_0, .int .i64 a0_1, .string a0_2, .slice A0_3 l0_3.length c0_3]] rfl (by (try simp only [List.map_toArray, List.map_cons, List.map_nil]); first | done | rfl | (simp only [List.length_drop, List.length_take]; rfl) | (simp only [gt_iff_lt, Int.ofNat_lt]; rfl)) ?_; (with_reducible refine (value_Check.calls k a0_0 a0_1 a0_2 _ _ l0_3 t171 _ ?side1 ?side2 ?side3 A3.out).mono ?_); (case side1 => exact LaidW.below HLT.out (up_h HB)); (case side2 => repeat (first | exact (Kd.V_reads' HO0_3.out).2.2 | (with_reducible refine Kd.C_alloc ?_ _) | (with_reducible refine Kd.C_drewN ?_ _) | (with_reducible refine Kd.C_drew ?_))); (case side3 => exact (Kd.V_reads' HO0_3.out).2.1); rintro e w21 ⟨rfl, hb⟩; refine ⟨_, rfl, ?_⟩; replace HO0_3 := ca_v HO0_3 hb; replace HO1_3 := ca_v HO1_3 hb; replace BK168 := ca_b BK168 hb; replace BK169 := ca_b BK169 hb; replace BK170 := ca_b BK170 hb; replace HB := ca_h HB hb; (try clear hb); (try clear hb2); (try clear hk); (try clear hi); have hnb22 := NB169_170.out; have hnc22 := NB170_169.out; obtain ⟨hcz23_0, hcz23_1, hcz23_2, hcz23_3, hfz23_0, hfz23_1, hfz23_2, hfz23_3⟩ := bk4 BK169; obtain ⟨hcz24_0, hcz24_1, hcz24_2, hcz24_3, hfz24_0, hfz24_1, hfz24_2, hfz24_3⟩ := bk4 BK170))
  refine bodyPost_ret (results_cell_row rfl _ _ gb170 24 #[.int .i64 a1_0, .int .i64 a1_1, .string a1_2, .slice A1_3 l1_3.length c1_3] (0, 0) _ rfl (pu4 BK170) Tryd.underlying24 rfl (by kernel_rfl)) rfl ?_
  exact ⟨_, by first | rfl | (simp [errW_none, errW_some] <;> rfl) | (simp [*, errW_none, errW_some] <;> rfl), by (with_reducible repeat (first | apply Kd.V_alloc | apply Kd.V_drewN | apply Kd.V_drew)); exact Kd.V_mono (fa4_v HO1_3 (fun _ hk => hk.2)) (fun _ hk => hk.1.1.1.1), by repeat (first | (with_reducible first | exact HB.out | apply below_alloc | apply pw_below_drewN | apply below_drew1 | refine below_set ?_ GE168.out | refine below_set ?_ GE169.out | refine below_set ?_ GE170.out) | exact HB.out)⟩

end Go.Proofs.YtgmmoagclkmeaaaDoor.XH
end
section
namespace Go.Proofs.YtgmmoagclkmeaaaDoor.XH
open Go.RowKit Go.Proofs.YtgmmoagclkmeaaaDoorW.PrintWords Go.Proofs.YtgmmoagclkmeaaaDoorW.PrintLast Go.Proofs.YtgmmoagclkmeaaaDoorW.PrintMore
attribute [local go_sem] max2_int min2_int max_two min_two max_three min_three max_four min_four   -- for this text's walks alone
set_option linter.unusedVariables false
set_option linter.unusedSimpArgs false

theorem u8_lt_or (a b : UInt8) : a < b ∨ a = b ∨ b < a := by
 rcases Nat.lt_trichotomy a.toNat b.toNat with h | h | h
 ·exact .inl (UInt8.lt_iff_toNat_lt.2 h)
 ·exact .inr (.inl (UInt8.toNat_inj.1 h))
 ·exact .inr (.inr (UInt8.lt_iff_toNat_lt.2 h))
theorem u8_irr (a : UInt8) : ¬ a < a := fun h => Nat.lt_irrefl _ (UInt8.lt_iff_toNat_lt.1 h)
theorem u8_asym {a b : UInt8} (h : a < b) : ¬ b < a := fun g => Nat.lt_asymm (UInt8.lt_iff_toNat_lt.1 h) (UInt8.lt_iff_toNat_lt.1 g)
theorem cmp_less : ∀ a b : List UInt8, Lib.compareBytes a b = if Op.bytesLess a b = true then -1 else if Op.bytesLess b a = true then 1 else 0
 | [], [] => by simp [Lib.compareBytes, Op.bytesLess]
 | [], _ :: _ => by simp [Lib.compareBytes, Op.bytesLess]
 | _ :: _, [] => by simp [Lib.compareBytes, Op.bytesLess]
 | a :: x, b :: y => by
  simp only [Lib.compareBytes, Op.bytesLess]
  rcases u8_lt_or a b with h | rfl | h
  ·simp [h]
  ·simp [u8_irr, cmp_less x y]
  ·have hn := u8_asym h
   have he : ¬ a = b := fun e => u8_irr b (e ▸ h)
   simp [h, hn, he]
theorem sign_is (p q : Bool) : spinneyref01_sign.f p q = some (if p = true then -1 else if q = true then 1 else 0) := by
 unfold spinneyref01_sign.f
 cases p <;> cases q <;> rfl
theorem rd_at (l : List S24) (i : Nat) (h : i < l.length) : rd_T24 l (i : Int) = l[i] := by
 unfold rd_T24
 simp [List.getD_eq_getElem?_getD, h]
def CmpEv (a b : S24) : Prop := Ev (fun k => spinneyref01_Compare.f k a.f0 a.f1 a.f2 a.f3 b.f0 b.f1 b.f2 b.f3) (cmpV a b)
theorem cmp_loop (l m : List S24) (hl : l.length ≤ 9223372036854775807) (E : ∀ a ∈ l, ∀ b ∈ m, CmpEv a b) (x0 x1 : Int) (x2 : ByteArray) (y0 y1 : Int) (y2 : ByteArray) (d : Nat) :
  ∀ i : Nat, l.length - i = d → i ≤ l.length → i ≤ m.length → Ev (fun k => spinneyref01_Compare.l0 k (i : Int) x0 x1 x2 l y0 y1 y2 m) (cmpL (l.drop i) (m.drop i)) := by
 have last : ∀ (i : Nat) (r : Int), (if ((l.length : Int) < (m.length : Int)) then (-1 : Int) else if ((l.length : Int) > (m.length : Int)) then 1 else 0) = r → Ev (fun k => spinneyref01_Compare.j3 k (i : Int) false x0 x1 x2 l y0 y1 y2 m) r := by
  intro i r hr
  refine Ev.step (f := fun _ => some r) (fun k => ?_) (Ev.now _)
  simp only [spinneyref01_Compare.j3]
  rw [if_neg (by decide), sign_is, Option.bind_some]
  simp only [decide_eq_true_eq]
  rw [hr]
 induction d with
 | zero =>
  intro i hd h1 h2
  obtain rfl : i = l.length := by omega
  refine Ev.step (f := fun k => spinneyref01_Compare.j3 k (l.length : Int) false x0 x1 x2 l y0 y1 y2 m) (fun k => ?_) (last _ _ ?_)
  ·simp only [spinneyref01_Compare.l0]
   rw [if_neg (by omega)]
  ·rw [List.drop_length]
   by_cases hm : l.length < m.length
   ·rw [if_pos (by omega), List.drop_eq_getElem_cons hm]
    simp only [cmpL]
   ·rw [if_neg (by omega), if_neg (by omega), List.drop_eq_nil_of_le (by omega)]
    simp only [cmpL]
 | succ d ih =>
  intro i hd h1 h2
  have hi : i < l.length := by omega
  by_cases hm : i < m.length
  ·refine Ev.step (f := fun k => spinneyref01_Compare.j3 k (i : Int) true x0 x1 x2 l y0 y1 y2 m) (fun k => ?_) ?_
   ·simp only [spinneyref01_Compare.l0]
    rw [if_pos (by omega), show decide ((i : Int) < (m.length : Int)) = true from decide_eq_true (by omega)]
   ·refine Ev.step (f := fun k => (spinneyref01_Compare.f k (l[i]).f0 (l[i]).f1 (l[i]).f2 (l[i]).f3 (m[i]).f0 (m[i]).f1 (m[i]).f2 (m[i]).f3).bind fun t => if t = 0 then spinneyref01_Compare.l0 k ((i + 1 : Nat) : Int) x0 x1 x2 l y0 y1 y2 m else some t) (fun k => ?_) ?_
    ·simp only [spinneyref01_Compare.j3]
     rw [if_pos trivial, if_pos (by omega), if_pos (by omega), if_pos (by omega), rd_at l i hi, rd_at m i hm, show wrap64 ((i : Int) + 1) = ((i + 1 : Nat) : Int) by unfold wrap64; omega]
    ·rw [List.drop_eq_getElem_cons hi, List.drop_eq_getElem_cons hm]
     simp only [cmpL]
     refine (E _ (List.getElem_mem hi) _ (List.getElem_mem hm)).bind (f := fun k t => if t = 0 then spinneyref01_Compare.l0 k ((i + 1 : Nat) : Int) x0 x1 x2 l y0 y1 y2 m else some t) ?_
     by_cases hz : cmpV l[i] m[i] = 0
     ·rw [if_pos hz]
      exact Ev.congr (f := fun k => spinneyref01_Compare.l0 k ((i + 1 : Nat) : Int) x0 x1 x2 l y0 y1 y2 m) (fun k => if_pos hz) (ih (i + 1) (by omega) (by omega) (by omega))
     ·rw [if_neg hz]
      exact Ev.congr (f := fun _ => some _) (fun k => if_neg hz) (Ev.now _)
  ·refine Ev.step (f := fun k => spinneyref01_Compare.j3 k (i : Int) false x0 x1 x2 l y0 y1 y2 m) (fun k => ?_) (last _ _ ?_)
   ·simp only [spinneyref01_Compare.l0]
    rw [if_pos (by omega), show decide ((i : Int) < (m.length : Int)) = false from decide_eq_false (by omega)]
   ·rw [if_neg (by omega), if_pos (by omega), List.drop_eq_getElem_cons hi, show m.drop i = [] from List.drop_eq_nil_of_le (by omega)]
    simp only [cmpL]
theorem cmp_one (k n : Int) (t : ByteArray) (l : List S24) (hl : l.length ≤ 9223372036854775807) (b : S24) (E : ∀ a ∈ l, ∀ c ∈ b.f3, CmpEv a c) : CmpEv ⟨k, n, t, l⟩ b := by
 obtain ⟨k', n', t', m⟩ := b
 have j1t : Ev (fun i => spinneyref01_Compare.j1 i true k n t l k' n' t' m) (cmpL l m) := by
  refine Ev.step (f := fun i => spinneyref01_Compare.l0 i ((0 : Nat) : Int) k n t l k' n' t' m) (fun i => ?_) ?_
  ·simp only [spinneyref01_Compare.j1, if_true]; rfl
  ·have := cmp_loop l m hl E k n t k' n' t' l.length 0 (by omega) (by omega) (by omega)
   simpa using this
 unfold CmpEv
 simp only [cmpV]
 by_cases hk : k = k'
 ·subst hk
  rw [if_pos rfl]
  by_cases h12 : k = 1 ∨ k = 2
  ·rw [if_pos h12]
   refine Ev.step (f := fun i => spinneyref01_Compare.j0 i k true k n t l k n' t' m) (fun i => ?_) ?_
   ·simp only [spinneyref01_Compare.f, if_true]
    rcases h12 with rfl | rfl
    ·rfl
    ·rfl
   ·refine Ev.step (f := fun _ => some (cmpI n n')) (fun i => ?_) (Ev.now _)
    simp only [spinneyref01_Compare.j0, if_true]
    rw [sign_is, Option.bind_some]
    simp only [decide_eq_true_eq]
    rfl
  ·rw [if_neg h12]
   refine Ev.step (f := fun i => spinneyref01_Compare.j0 i k false k n t l k n' t' m) (fun i => ?_) ?_
   ·simp only [spinneyref01_Compare.f, if_true]
    rw [if_neg (by omega), beq_eq_false_iff_ne.2 (show k ≠ 2 by omega)]
   ·by_cases h3 : k = 3
    ·rw [if_pos h3]
     refine Ev.step (f := fun _ => some _) (fun i => ?_) (Ev.now _)
     simp only [spinneyref01_Compare.j0]
     rw [if_neg (by decide), if_pos h3, sign_is, Option.bind_some, cmp_less, ByteArray.toList_eq, ByteArray.toList_eq]
    ·rw [if_neg h3]
     by_cases h4 : k = 4 ∨ k = 5 ∨ k = 6
     ·rw [if_pos h4]
      refine Ev.step (f := fun i => spinneyref01_Compare.j1 i true k n t l k n' t' m) (fun i => ?_) j1t
      simp only [spinneyref01_Compare.j0]
      rw [if_neg (by decide), if_neg h3]
      rcases h4 with rfl | rfl | rfl
      ·rfl
      ·rfl
      ·rfl
     ·rw [if_neg h4]
      refine Ev.step (f := fun i => spinneyref01_Compare.j1 i false k n t l k n' t' m) (fun i => ?_) ?_
      ·simp only [spinneyref01_Compare.j0]
       rw [if_neg (by decide), if_neg h3, if_neg (by omega), if_neg (by omega), beq_eq_false_iff_ne.2 (show k ≠ 6 by omega)]
      ·refine Ev.step (f := fun _ => some _) (fun i => ?_) (Ev.now _)
       simp only [spinneyref01_Compare.j1]
       rw [if_neg (by decide)]
 ·rw [if_neg hk]
  refine Ev.step (f := fun _ => some _) (fun i => ?_) (Ev.now _)
  simp only [spinneyref01_Compare.f]
  rw [if_neg hk, sign_is, Option.bind_some]
  unfold cmpI
  simp only [decide_eq_true_eq, if_true]
  by_cases hlt : k < k'
  ·rw [if_pos hlt, if_pos hlt]
  ·rw [if_neg hlt, if_neg hlt, if_pos (by omega)]
mutual
theorem cmp_ev : (a : S24) → WfV a → (b : S24) → CmpEv a b
 | ⟨k, n, t, l⟩, h, b => cmp_one k n t l (by simp only [WfV] at h; exact h.2.2.2.1) b (fun a ha c _ => cmp_evL l (by simp only [WfV] at h; exact h.2.2.2.2) a ha c)
theorem cmp_evL : (l : List S24) → WfL l → ∀ a ∈ l, ∀ b : S24, CmpEv a b
 | [], _, a, ha, _ => by cases ha
 | x :: l, h, a, ha, b => by
  rcases List.mem_cons.1 ha with e | ha
  ·rw [e]; exact cmp_ev x (by simp only [WfL] at h; exact h.1) b
  ·exact cmp_evL l (by simp only [WfL] at h; exact h.2) a ha b
end
end Go.Proofs.YtgmmoagclkmeaaaDoor.XH
end
section
namespace Go.Proofs.YtgmmoagclkmeaaaDoor.XH
open Go.RowKit Go.Proofs.YtgmmoagclkmeaaaDoorW.PrintWords Go.Proofs.YtgmmoagclkmeaaaDoorW.PrintLast Go.Proofs.YtgmmoagclkmeaaaDoorW.PrintMore
attribute [local go_sem] max2_int min2_int max_two min_two max_three min_three max_four min_four   -- for this text's walks alone
set_option linter.unusedVariables false
set_option linter.unusedSimpArgs false

theorem bt_get (s : ByteArray) (p : Nat) : bt s (p : Int) = ((s.get! p).toNat : Int) := by
 unfold bt
 by_cases h : p < s.size
 ·rw [dif_pos (show ((p : Int)).toNat < s.size by simpa using h)]
  have e : s.get! p = s[p]'h := by
   obtain ⟨a⟩ := s
   show a[p]! = _
   exact getElem!_pos a p h
  rw [e]; simp
 ·rw [dif_neg (show ¬ ((p : Int)).toNat < s.size by simpa using h)]
  have e : s.get! p = 0 := by
   obtain ⟨a⟩ := s
   show a[p]! = _
   exact getElem!_neg a p h
  rw [e]; rfl
def by_ (s : ByteArray) (p : Nat) : Nat := (s.get! p).toNat
theorem by_lt (s : ByteArray) (p : Nat) : by_ s p < 256 := (s.get! p).toNat_lt
theorem bt_by (s : ByteArray) (p : Nat) : bt s (p : Int) = (by_ s p : Int) := bt_get s p
theorem w64 {x : Int} (h0 : -9223372036854775808 ≤ x) (h1 : x ≤ 9223372036854775807) : wrap64 x = x := by unfold wrap64; omega
def rest_ (s : ByteArray) (p n j : Nat) : Nat → Bool
 | 0 => true
 | d + 1 => if j < n then (128 ≤ by_ s (p + j) && by_ s (p + j) ≤ 191 && rest_ s p n (j + 1) d) else true
theorem l0_ev (s : ByteArray) (p n : Nat) (hn : p + n ≤ s.size) (hS : s.size ≤ 4611686018427387904) (d : Nat) : ∀ j : Nat, n - j = d → j ≤ n → Ev (fun k => spinneyref01_utf.l0 k s (p : Int) (n : Int) (j : Int)) (if rest_ s p n j d = true then (n : Int) else 0) := by
 induction d with
 | zero =>
  intro j hd hj
  obtain rfl : j = n := by omega
  refine Ev.step (f := fun _ => some _) (fun k => ?_) (Ev.now _)
  simp only [spinneyref01_utf.l0, rest_, if_true]
  rw [if_neg (by omega)]
 | succ d ih =>
  intro j hd hj
  have hlt : j < n := by omega
  have e1 : wrap64 ((p : Int) + (j : Int)) = ((p + j : Nat) : Int) := by rw [w64 (by omega) (by omega)]; omega
  have e2 : wrap64 ((j : Int) + 1) = ((j + 1 : Nat) : Int) := by rw [w64 (by omega) (by omega)]; omega
  have hb := by_lt s (p + j)
  by_cases c1 : by_ s (p + j) < 128
  ·have e : rest_ s p n j (d + 1) = false := by
    simp only [rest_]
    rw [if_pos hlt, show decide (128 ≤ by_ s (p + j)) = false from decide_eq_false (by omega)]; rfl
   rw [e, if_neg (by decide)]
   refine Ev.step (f := fun _ => some _) (fun k => ?_) (Ev.now _)
   simp only [spinneyref01_utf.l0]
   rw [e1, if_pos (by omega), if_pos (by omega), if_pos (by omega), bt_by, if_pos (by omega)]
  ·by_cases c2 : by_ s (p + j) ≤ 191
   ·have e : rest_ s p n j (d + 1) = rest_ s p n (j + 1) d := by
     conv => lhs; simp only [rest_]
     rw [if_pos hlt, show decide (128 ≤ by_ s (p + j)) = true from decide_eq_true (by omega), show decide (by_ s (p + j) ≤ 191) = true from decide_eq_true c2]; rfl
    rw [e]
    refine Ev.step (f := fun k => spinneyref01_utf.l0 k s (p : Int) (n : Int) ((j + 1 : Nat) : Int)) (fun k => ?_) (ih (j + 1) (by omega) (by omega))
    simp only [spinneyref01_utf.l0]
    rw [e1, if_pos (by omega), if_pos (by omega), if_pos (by omega), bt_by, if_neg (by omega), if_neg (by omega), e2]
   ·have e : rest_ s p n j (d + 1) = false := by
     simp only [rest_]
     rw [if_pos hlt, show decide (by_ s (p + j) ≤ 191) = false from decide_eq_false c2]; simp
    rw [e, if_neg (by decide)]
    refine Ev.step (f := fun _ => some _) (fun k => ?_) (Ev.now _)
    simp only [spinneyref01_utf.l0]
    rw [e1, if_pos (by omega), if_pos (by omega), if_pos (by omega), bt_by, if_neg (by omega), if_pos (by omega)]
def chk (s : ByteArray) (p n lo hi : Nat) : Nat := if s.size < p + n then 0 else if by_ s (p + 1) < lo ∨ hi < by_ s (p + 1) then 0 else if rest_ s p n 2 (n - 2) = true then n else 0
theorem j3_ev (s : ByteArray) (p n lo hi : Nat) (h2 : 2 ≤ n) (hn4 : n ≤ 4) (hp : p < s.size) (hS : s.size ≤ 4611686018427387904) : Ev (fun k => spinneyref01_utf.j3 k s (p : Int) (n : Int) (lo : Int) (hi : Int)) (chk s p n lo hi : Int) := by
 have e1 : wrap64 ((p : Int) + (n : Int)) = ((p + n : Nat) : Int) := by rw [w64 (by omega) (by omega)]; omega
 have e2 : wrap64 ((p : Int) + 1) = ((p + 1 : Nat) : Int) := by rw [w64 (by omega) (by omega)]; omega
 have jt : Ev (fun k => spinneyref01_utf.j4 k s (p : Int) (n : Int) true) 0 := Ev.step (f := fun _ => some 0) (fun k => by simp only [spinneyref01_utf.j4, if_true]) (Ev.now _)
 unfold chk
 by_cases c1 : s.size < p + n
 ·refine Ev.step (f := fun k => spinneyref01_utf.j4 k s (p : Int) (n : Int) true) (fun k => ?_) ?_
  ·simp only [spinneyref01_utf.j3]
   rw [e1, if_pos (by omega)]
  ·rw [if_pos c1]; exact jt
 ·rw [if_neg c1]
  by_cases c2 : by_ s (p + 1) < lo
  ·refine Ev.step (f := fun k => spinneyref01_utf.j4 k s (p : Int) (n : Int) true) (fun k => ?_) ?_
   ·simp only [spinneyref01_utf.j3]
    rw [e1, e2, if_neg (by omega), if_pos (by omega), if_pos (by omega), bt_by, if_pos (by omega)]
   ·rw [if_pos (.inl c2)]; exact jt
  ·by_cases c3 : hi < by_ s (p + 1)
   ·refine Ev.step (f := fun k => spinneyref01_utf.j4 k s (p : Int) (n : Int) true) (fun k => ?_) ?_
    ·simp only [spinneyref01_utf.j3]
     rw [e1, e2, if_neg (by omega), if_pos (by omega), if_pos (by omega), bt_by, if_neg (by omega), show decide ((by_ s (p + 1) : Int) > (hi : Int)) = true from decide_eq_true (by omega)]
    ·rw [if_pos (.inr c3)]; exact jt
   ·refine Ev.step (f := fun k => spinneyref01_utf.j4 k s (p : Int) (n : Int) false) (fun k => ?_) ?_
    ·simp only [spinneyref01_utf.j3]
     rw [e1, e2, if_neg (by omega), if_pos (by omega), if_pos (by omega), bt_by, if_neg (by omega), show decide ((by_ s (p + 1) : Int) > (hi : Int)) = false from decide_eq_false (by omega)]
    ·rw [if_neg (by omega)]
     have := l0_ev s p n (by omega) hS (n - 2) 2 rfl h2
     refine Ev.step (f := fun k => spinneyref01_utf.l0 k s (p : Int) (n : Int) 2) (fun k => by simp only [spinneyref01_utf.j4]; rfl) ?_
     have e : (if rest_ s p n 2 (n - 2) = true then (n : Int) else 0) = ((if rest_ s p n 2 (n - 2) = true then n else 0 : Nat) : Int) := by split <;> rfl
     rw [← e]; exact this
def utfN (s : ByteArray) (p : Nat) : Nat :=
 if by_ s p < 128 then 1
 else if 194 ≤ by_ s p ∧ by_ s p ≤ 223 then chk s p 2 128 191
 else if by_ s p = 224 then chk s p 3 160 191
 else if by_ s p = 237 then chk s p 3 128 159
 else if 224 ≤ by_ s p ∧ by_ s p ≤ 239 then chk s p 3 128 191
 else if by_ s p = 240 then chk s p 4 144 191
 else if by_ s p = 244 then chk s p 4 128 143
 else if 240 ≤ by_ s p ∧ by_ s p ≤ 244 then chk s p 4 128 191
 else 0
theorem utf_ev (s : ByteArray) (p : Nat) (hp : p < s.size) (hS : s.size ≤ 4611686018427387904) : Ev (fun k => spinneyref01_utf.f k s (p : Int)) (utfN s p : Int) := by
 have hb := by_lt s p
 have j2 : ∀ n : Nat, 2 ≤ n → n ≤ 4 → ∀ x : Nat, x = by_ s p → Ev (fun k => spinneyref01_utf.j2 k s (p : Int) (x : Int) (n : Int) 128 191) ((if x = 224 then chk s p n 160 191 else if x = 237 then chk s p n 128 159 else if x = 240 then chk s p n 144 191 else if x = 244 then chk s p n 128 143 else chk s p n 128 191 : Nat) : Int) := by
  intro n h2 h4 x hx
  by_cases c1 : x = 224
  ·exact Ev.step (f := fun k => spinneyref01_utf.j3 k s (p : Int) (n : Int) ((160 : Nat) : Int) ((191 : Nat) : Int)) (fun k => by simp only [spinneyref01_utf.j2]; rw [if_pos (by omega)]; rfl) (by rw [if_pos c1]; exact j3_ev s p n 160 191 h2 h4 hp hS)
  by_cases c2 : x = 237
  ·exact Ev.step (f := fun k => spinneyref01_utf.j3 k s (p : Int) (n : Int) ((128 : Nat) : Int) ((159 : Nat) : Int)) (fun k => by simp only [spinneyref01_utf.j2]; rw [if_neg (by omega), if_pos (by omega)]; rfl) (by rw [if_neg c1, if_pos c2]; exact j3_ev s p n 128 159 h2 h4 hp hS)
  by_cases c3 : x = 240
  ·exact Ev.step (f := fun k => spinneyref01_utf.j3 k s (p : Int) (n : Int) ((144 : Nat) : Int) ((191 : Nat) : Int)) (fun k => by simp only [spinneyref01_utf.j2]; rw [if_neg (by omega), if_neg (by omega), if_pos (by omega)]; rfl) (by rw [if_neg c1, if_neg c2, if_pos c3]; exact j3_ev s p n 144 191 h2 h4 hp hS)
  by_cases c4 : x = 244
  ·exact Ev.step (f := fun k => spinneyref01_utf.j3 k s (p : Int) (n : Int) ((128 : Nat) : Int) ((143 : Nat) : Int)) (fun k => by simp only [spinneyref01_utf.j2]; rw [if_neg (by omega), if_neg (by omega), if_neg (by omega), if_pos (by omega)]; rfl) (by rw [if_neg c1, if_neg c2, if_neg c3, if_pos c4]; exact j3_ev s p n 128 143 h2 h4 hp hS)
  ·exact Ev.step (f := fun k => spinneyref01_utf.j3 k s (p : Int) (n : Int) ((128 : Nat) : Int) ((191 : Nat) : Int)) (fun k => by simp only [spinneyref01_utf.j2]; rw [if_neg (by omega), if_neg (by omega), if_neg (by omega), if_neg (by omega)]; rfl) (by rw [if_neg c1, if_neg c2, if_neg c3, if_neg c4]; exact j3_ev s p n 128 191 h2 h4 hp hS)
 have hd : ∀ k, spinneyref01_utf.f k s (p : Int) = if (by_ s p : Int) < 128 then some 1 else if (by_ s p : Int) ≥ 194 then spinneyref01_utf.j0 k s (p : Int) (by_ s p : Int) 128 191 (decide ((by_ s p : Int) ≤ 223)) else spinneyref01_utf.j0 k s (p : Int) (by_ s p : Int) 128 191 false := by
  intro k
  unfold spinneyref01_utf.f
  rw [if_pos (by omega), if_pos (by omega), bt_by]
 refine Ev.congr hd ?_
 unfold utfN
 by_cases c1 : by_ s p < 128
 ·rw [if_pos c1]; exact Ev.congr (f := fun _ => some 1) (fun k => by rw [if_pos (by omega)]) (Ev.now _)
 rw [if_neg c1]
 by_cases c2 : 194 ≤ by_ s p ∧ by_ s p ≤ 223
 ·rw [if_pos c2]
  refine Ev.congr (f := fun k => spinneyref01_utf.j0 k s (p : Int) (by_ s p : Int) 128 191 true) (fun k => by rw [if_neg (by omega), if_pos (by omega), show decide ((by_ s p : Int) ≤ 223) = true from decide_eq_true (by omega)]) ?_
  have := j2 2 (by omega) (by omega) _ rfl
  rw [if_neg (by omega), if_neg (by omega), if_neg (by omega), if_neg (by omega)] at this
  exact Ev.step (f := fun k => spinneyref01_utf.j2 k s (p : Int) (by_ s p : Int) 2 128 191) (fun k => by simp only [spinneyref01_utf.j0, if_true]) this
 rw [if_neg c2]
 have j0f : ∀ r : Int, Ev (fun k => if (by_ s p : Int) ≥ 224 then spinneyref01_utf.j1 k s (p : Int) (by_ s p : Int) 128 191 (decide ((by_ s p : Int) ≤ 239)) else spinneyref01_utf.j1 k s (p : Int) (by_ s p : Int) 128 191 false) r →
   Ev (fun k => if (by_ s p : Int) < 128 then some 1 else if (by_ s p : Int) ≥ 194 then spinneyref01_utf.j0 k s (p : Int) (by_ s p : Int) 128 191 (decide ((by_ s p : Int) ≤ 223)) else spinneyref01_utf.j0 k s (p : Int) (by_ s p : Int) 128 191 false) r := by
  intro r h
  refine Ev.congr (f := fun k => spinneyref01_utf.j0 k s (p : Int) (by_ s p : Int) 128 191 false) (fun k => ?_) ?_
  ·rw [if_neg (by omega)]
   by_cases c : (by_ s p : Int) ≥ 194
   ·rw [if_pos c, show decide ((by_ s p : Int) ≤ 223) = false from decide_eq_false (by omega)]
   ·rw [if_neg c]
  ·exact Ev.step (fun k => by simp only [spinneyref01_utf.j0]; rfl) h
 refine j0f _ ?_
 by_cases c3 : 224 ≤ by_ s p ∧ by_ s p ≤ 239
 ·refine Ev.congr (f := fun k => spinneyref01_utf.j1 k s (p : Int) (by_ s p : Int) 128 191 true) (fun k => by rw [if_pos (by omega), show decide ((by_ s p : Int) ≤ 239) = true from decide_eq_true (by omega)]) ?_
  have := j2 3 (by omega) (by omega) _ rfl
  rw [if_neg (c := by_ s p = 240) (by omega), if_neg (c := by_ s p = 244) (by omega)] at this
  rw [if_pos c3]
  exact Ev.step (f := fun k => spinneyref01_utf.j2 k s (p : Int) (by_ s p : Int) 3 128 191) (fun k => by simp only [spinneyref01_utf.j1, if_true]) this
 rw [if_neg (show ¬ by_ s p = 224 by omega), if_neg (show ¬ by_ s p = 237 by omega), if_neg c3]
 refine Ev.congr (f := fun k => spinneyref01_utf.j1 k s (p : Int) (by_ s p : Int) 128 191 false) (fun k => ?_) ?_
 ·by_cases c : (by_ s p : Int) ≥ 224
  ·rw [if_pos c, show decide ((by_ s p : Int) ≤ 239) = false from decide_eq_false (by omega)]
  ·rw [if_neg c]
 by_cases c4 : 240 ≤ by_ s p ∧ by_ s p ≤ 244
 ·have := j2 4 (by omega) (by omega) _ rfl
  rw [if_neg (c := by_ s p = 224) (by omega), if_neg (c := by_ s p = 237) (by omega)] at this
  rw [if_pos c4]
  exact Ev.step (f := fun k => spinneyref01_utf.j2 k s (p : Int) (by_ s p : Int) 4 128 191) (fun k => by simp only [spinneyref01_utf.j1]; rw [if_neg (by decide), if_pos (by omega), if_pos (by omega)]) this
 ·rw [if_neg (show ¬ by_ s p = 240 by omega), if_neg (show ¬ by_ s p = 244 by omega), if_neg c4]
  refine Ev.step (f := fun _ => some 0) (fun k => ?_) (Ev.now _)
  simp only [spinneyref01_utf.j1]
  rw [if_neg (by decide)]
  by_cases c : (by_ s p : Int) ≥ 240
  ·rw [if_pos c, if_neg (by omega)]
  ·rw [if_neg c]
end Go.Proofs.YtgmmoagclkmeaaaDoor.XH
end
