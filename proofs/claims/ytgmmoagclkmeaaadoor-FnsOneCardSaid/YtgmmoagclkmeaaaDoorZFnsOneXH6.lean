-- cut down by bundle.py (the session's own program) from the texts YtgmmoagclkmeaaaDoorXH6, to what this claim names
import Derived.Test.YtgmmoagclkmeaaaDoorZFnsOneXH0
import Derived.Test.YtgmmoagclkmeaaaDoorZFnsOneXH5
-- laid by xprint.py (the session's own program) out of the translation; Lean checks it
namespace Go.Proofs.YtgmmoagclkmeaaaDoor.XH
open Go.RowKit Go.Proofs.YtgmmoagclkmeaaaDoorW.PrintWords Go.Proofs.YtgmmoagclkmeaaaDoorW.PrintLast Go.Proofs.YtgmmoagclkmeaaaDoorW.PrintMore
attribute [local go_sem] max2_int min2_int max_two min_two max_three min_three max_four min_four   -- for this text's walks alone
set_option linter.unusedVariables false
set_option linter.unusedSimpArgs false

mutual
def spinneyref01_Compare.j0:Nat→Int→Bool→Int→Int→ByteArray→List (S24)→Int→Int→ByteArray→List (S24)→Option (Int)
 | 0,_,_,_,_,_,_,_,_,_,_ => none
 | k+1,x19,x20,x136000,x136001,x136002,x136003,x137000,x137001,x137002,x137003 => if x20=true then ((spinneyref01_sign.f (decide (x136001 < x137001)) (decide (x136001 > x137001))).bind fun t138 => (some t138)) else (if x19=3 then ((spinneyref01_sign.f (Op.bytesLess x136002.toList x137002.toList) (Op.bytesLess x137002.toList x136002.toList)).bind fun t139 => (some t139)) else (if x19=4 then (spinneyref01_Compare.j1 k (x19 == 4) x136000 x136001 x136002 x136003 x137000 x137001 x137002 x137003) else (if x19=5 then (spinneyref01_Compare.j1 k (x19 == 5) x136000 x136001 x136002 x136003 x137000 x137001 x137002 x137003) else (spinneyref01_Compare.j1 k (x19 == 6) x136000 x136001 x136002 x136003 x137000 x137001 x137002 x137003))))
def spinneyref01_Compare.j1:Nat→Bool→Int→Int→ByteArray→List (S24)→Int→Int→ByteArray→List (S24)→Option (Int)
 | 0,_,_,_,_,_,_,_,_,_ => none
 | k+1,x47,x136000,x136001,x136002,x136003,x137000,x137001,x137002,x137003 => if x47=true then (spinneyref01_Compare.l0 k 0 x136000 x136001 x136002 x136003 x137000 x137001 x137002 x137003) else (some 0)
def spinneyref01_Compare.l0:Nat→Int→Int→Int→ByteArray→List (S24)→Int→Int→ByteArray→List (S24)→Option (Int)
 | 0,_,_,_,_,_,_,_,_,_ => none
 | k+1,x5,x136000,x136001,x136002,x136003,x137000,x137001,x137002,x137003 => if x5 < (x136003.length:Int) then (spinneyref01_Compare.j3 k x5 (decide (x5 < (x137003.length:Int))) x136000 x136001 x136002 x136003 x137000 x137001 x137002 x137003) else (spinneyref01_Compare.j3 k x5 false x136000 x136001 x136002 x136003 x137000 x137001 x137002 x137003)
def spinneyref01_Compare.j3:Nat→Int→Bool→Int→Int→ByteArray→List (S24)→Int→Int→ByteArray→List (S24)→Option (Int)
 | 0,_,_,_,_,_,_,_,_,_,_ => none
 | k+1,x5,x62,x136000,x136001,x136002,x136003,x137000,x137001,x137002,x137003 => if x62=true then (if 0≤x5 then (if x5 < (x136003.length:Int) then (if x5 < (x137003.length:Int) then ((spinneyref01_Compare.f k ((rd_T24 x136003 x5).f0) ((rd_T24 x136003 x5).f1) ((rd_T24 x136003 x5).f2) ((rd_T24 x136003 x5).f3) ((rd_T24 x137003 x5).f0) ((rd_T24 x137003 x5).f1) ((rd_T24 x137003 x5).f2) ((rd_T24 x137003 x5).f3)).bind fun t142 => (if t142=0 then (spinneyref01_Compare.l0 k (wrap64 (x5+1)) x136000 x136001 x136002 x136003 x137000 x137001 x137002 x137003) else (some t142))) else (none)) else (none)) else (none)) else ((spinneyref01_sign.f (decide ((x136003.length:Int) < (x137003.length:Int))) (decide ((x136003.length:Int) > (x137003.length:Int)))).bind fun t143 => (some t143))
def spinneyref01_Compare.f:Nat→Int→Int→ByteArray→List (S24)→Int→Int→ByteArray→List (S24)→Option (Int)
 | 0,_,_,_,_,_,_,_,_ => none
 | k+1,a0_0,a0_1,a0_2,l0_3,a1_0,a1_1,a1_2,l1_3 => if a0_0=a1_0 then (if a0_0=1 then (spinneyref01_Compare.j0 k a0_0 (a0_0 == 1) a0_0 a0_1 a0_2 l0_3 a1_0 a1_1 a1_2 l1_3) else (spinneyref01_Compare.j0 k a0_0 (a0_0 == 2) a0_0 a0_1 a0_2 l0_3 a1_0 a1_1 a1_2 l1_3)) else ((spinneyref01_sign.f (decide (a0_0 < a1_0)) true).bind fun t137 => (some t137))
end
def spinneyref01_Compare.T15:Bool × List (List Nat × List Nat):=(true,[([],[]),([0],[0]),([],[]),([1,2],[1,2]),([3],[3]),([],[]),([5],[5]),([],[]),([6,7],[6,7]),([8],[8]),([4,9],[4,9]),([10,10,0,1,2,3,4,5,6,7,8,9,10],[10])])
def spinneyref01_Compare.B15:List Nat:=[0,1,0,7,15,0,32,0,224,480,1023,2047]
theorem spinneyref01_Compare.tab15:rtab .any (opsOf Tryd.f48 15)=spinneyref01_Compare.T15:=by kernel_rfl
theorem spinneyref01_Compare.bits15:waitsOk spinneyref01_Compare.T15.2 spinneyref01_Compare.B15=true:=by kernel_rfl
set_option maxHeartbeats 8000000 in
set_option maxRecDepth 100000 in
theorem spinneyref01_Compare.calls (k:Nat):∀ (a0_0:Int) (a0_1:Int) (a0_2:ByteArray) (A0_3:Option Addr) (c0_3:Nat) (l0_3:List (S24)) (a1_0:Int) (a1_1:Int) (a1_2:ByteArray) (A1_3:Option Addr) (c1_3:Nat) (l1_3:List (S24)) (r:Int) (w:World) (hr0_3:Kd.C k24 w A0_3 l0_3.length l0_3) (hc0_3:l0_3.length≤c0_3) (hr1_3:Kd.C k24 w A1_3 l1_3.length l1_3) (hc1_3:l1_3.length≤c1_3) (h:spinneyref01_Compare.f k a0_0 a0_1 a0_2 l0_3 a1_0 a1_1 a1_2 l1_3=some r),
  Calls Tryd.prog 48 #[.agg #[.int .i64 a0_0,.int .i64 a0_1,.string a0_2,.slice A0_3 l0_3.length c0_3],.agg #[.int .i64 a1_0,.int .i64 a1_1,.string a1_2,.slice A1_3 l1_3.length c1_3]] w fun e w' => e=.returned (.int .i64 r)∧Below w.heap.size w w':=by
 induction k using Nat.strongRecOn with
 | _ k ih =>
 intro a0_0 a0_1 a0_2 A0_3 c0_3 l0_3 a1_0 a1_1 a1_2 A1_3 c1_3 l1_3 r w hr0_3 hc0_3 hr1_3 hc1_3 h
 cases k with
 | zero => exact absurd h (by simp [spinneyref01_Compare.f])
 | succ k =>
 simp only [spinneyref01_Compare.f] at h
 have hu24:=Tryd.underlying24
 have HR0_3:=Aside0.mk hr0_3
 have HC0_3:=Aside0.mk hc0_3
 clear hr0_3 hc0_3
 have HR1_3:=Aside0.mk hr1_3
 have HC1_3:=Aside0.mk hc1_3
 clear hr1_3 hc1_3
 have HB:=Aside0.mk (Below.refl w.heap.size w)
 have H:(if a0_0=a1_0 then (if a0_0=1 then (spinneyref01_Compare.j0 k a0_0 (a0_0 == 1) a0_0 a0_1 a0_2 l0_3 a1_0 a1_1 a1_2 l1_3) else (spinneyref01_Compare.j0 k a0_0 (a0_0 == 2) a0_0 a0_1 a0_2 l0_3 a1_0 a1_1 a1_2 l1_3)) else ((spinneyref01_sign.f (decide (a0_0 < a1_0)) true).bind fun t137 => (some t137)))=some r:=h
 clear h
 by_cases c3:a0_0=a1_0
 ·rw [if_pos c3] at H
  have c3b0:(a0_0 == a1_0)=true:=beq_iff_eq.mpr c3
  have c3b1:(a0_0 != a1_0)=false:=bne_eq_false_iff_eq.mpr c3
  clear c3
  have HC4:=Aside0.mk H
  clear H
  go_enter Tryd.func48,Tryd.ntmps48
  go_upto_if 20 with (first|((with_reducible refine gate_dst (N:=2) rfl ?_);(try (refine gate_guard (by rfl) ?_;dsimp only));refine box_event ?hg (N:=2) ?hd (cs:=#[.int .i64 a0_0,.int .i64 a0_1,.string a0_2,.slice A0_3 l0_3.length c0_3]) (t:=24) ?hr ?_;(case hd => rfl);(case hg => rfl);(case hr => first|(go_simp;done)|(go_simp;rfl));intro gb135 hg w5 hbox hb;have BK135:=Aside0.mk (hbox);have GW135:=Aside0.mk ((by rw [hg];exact (below_size (by repeat (first|(with_reducible first|exact HB.out|apply below_alloc|apply pw_below_drewN|apply below_drew1)|exact HB.out))):w.heap.size≤gb135));have GE135:=Aside0.mk ((by rw [hg];exact (below_size (by repeat (first|(with_reducible first|exact HB.out|apply below_alloc|apply pw_below_drewN|apply below_drew1)|exact HB.out))):w.heap.size≤gb135));replace HB:=Aside0.mk (below_step (by repeat (first|(with_reducible first|exact HB.out|apply below_alloc|apply pw_below_drewN|apply below_drew1)|exact HB.out)) hb);clear hb hbox hg)|((with_reducible refine gate_dst (N:=3) rfl ?_);(try (refine gate_guard (by rfl) ?_;dsimp only));refine box_event ?hg (N:=3) ?hd (cs:=#[.int .i64 a1_0,.int .i64 a1_1,.string a1_2,.slice A1_3 l1_3.length c1_3]) (t:=24) ?hr ?_;(case hd => rfl);(case hg => rfl);(case hr => first|(go_simp;done)|(go_simp;rfl));intro gb136 hg w6 hbox hb;have BK136:=Aside0.mk (hbox);have GW136:=Aside0.mk ((by rw [hg];exact (below_size (by repeat (first|(with_reducible first|exact HB.out|apply below_alloc|apply pw_below_drewN|apply below_drew1|refine below_set ?_ GE135.out)|exact HB.out))):w.heap.size≤gb136));have GE136:=Aside0.mk ((by rw [hg];exact (below_size (by repeat (first|(with_reducible first|exact HB.out|apply below_alloc|apply pw_below_drewN|apply below_drew1|refine below_set ?_ GE135.out)|exact HB.out))):w.heap.size≤gb136));have NB135_136:=bx_n (up_b BK135) hg;have NB136_135:=bx_m (up_b BK135) hg;replace BK135:=ca_b BK135 hb;replace HB:=Aside0.mk (below_step (by repeat (first|(with_reducible first|exact HB.out|apply below_alloc|apply pw_below_drewN|apply below_drew1|refine below_set ?_ GE135.out)|exact HB.out)) hb);clear hb hbox hg;have hnb7:=NB135_136.out;have hnc7:=NB136_135.out;obtain ⟨hcz8_0,hcz8_1,hcz8_2,hcz8_3,hfz8_0,hfz8_1,hfz8_2,hfz8_3⟩:=bk4 BK135;obtain ⟨hcz9_0,hcz9_1,hcz9_2,hcz9_3,hfz9_0,hfz9_1,hfz9_2,hfz9_3⟩:=bk4 BK136))
  (try simp only [Act.put,List.setIfInBounds_toArray,List.set_cons_zero,List.set_cons_succ])
  go_cut [20] (fun v20 wc => ∃ (kq:Nat) (x20_3:Bool),v20=.bool x20_3∧Aside0 (spinneyref01_Compare.j0 kq a0_0 x20_3 a0_0 a0_1 a0_2 l0_3 a1_0 a1_1 a1_2 l1_3=some r)∧Aside0 (kq≤k)∧Aside0 (wc.heap[gb135]? = some (.cells #[.int .i64 a0_0,.int .i64 a0_1,.string a0_2,(.slice A0_3 l0_3.length c0_3)] 24 (0,0)))∧Aside0 (wc.heap[gb136]? = some (.cells #[.int .i64 a1_0,.int .i64 a1_1,.string a1_2,(.slice A1_3 l1_3.length c1_3)] 24 (0,0)))∧Aside0 (Below w.heap.size w wc))
  case first =>
   have H:=HC4.out
   clear HC4
   by_cases c10:a0_0=1
   ·rw [if_pos c10] at H
    have c10b0:(a0_0 == 1)=true:=beq_iff_eq.mpr c10
    have c10b1:(a0_0 != 1)=false:=bne_eq_false_iff_eq.mpr c10
    clear c10
    (first|rw [c10b0]|(simp only [i64_w,i32_w];rw [c10b0])|skip)
    have H':=Aside0.mk H
    clear H
    go_wp2
    go_meet
    case rel => exact ⟨_,((a0_0 == 1)),(by first|rfl|(simp;done)|(simp [*];done)),H',⟨by first|omega|exact Nat.le_refl _⟩,⟨by (with_reducible repeat (first|refine blk_drewN ?_ _|refine blk_drew ?_|refine blk_alloc ?_ _));exact BK135.out⟩,⟨by (with_reducible repeat (first|refine blk_drewN ?_ _|refine blk_drew ?_|refine blk_alloc ?_ _));exact BK136.out⟩,⟨by repeat (first|(with_reducible first|exact HB.out|apply below_alloc|apply pw_below_drewN|apply below_drew1|refine below_set ?_ GE135.out|refine below_set ?_ GE136.out)|exact HB.out)⟩⟩
   ·rw [if_neg c10] at H
    have c10b0:(a0_0 == 1)=false:=beq_eq_false_iff_ne.mpr c10
    have c10b1:(a0_0 != 1)=true:=bne_iff_ne.mpr c10
    (first|rw [c10b0]|(simp only [i64_w,i32_w];rw [c10b0])|skip)
    have H':=Aside0.mk H
    clear H
    go_wp2
    go_meet
    case rel => exact ⟨_,((a0_0 == 2)),(by first|rfl|(simp;done)|(simp [*];done)),H',⟨by first|omega|exact Nat.le_refl _⟩,⟨by (with_reducible repeat (first|refine blk_drewN ?_ _|refine blk_drew ?_|refine blk_alloc ?_ _));exact BK135.out⟩,⟨by (with_reducible repeat (first|refine blk_drewN ?_ _|refine blk_drew ?_|refine blk_alloc ?_ _));exact BK136.out⟩,⟨by repeat (first|(with_reducible first|exact HB.out|apply below_alloc|apply pw_below_drewN|apply below_drew1|refine below_set ?_ GE135.out|refine below_set ?_ GE136.out)|exact HB.out)⟩⟩
  case rest =>
   clear HC4
   try clear c1
   try clear p2
   try clear c3
   try clear c3b0
   try clear c3b1
   try clear c4
   try clear c7
   try clear c10
   try clear c10b0
   try clear c10b1
   try clear hcz8_0
   try clear hcz8_1
   try clear hcz8_2
   try clear hcz8_3
   try clear hcz9_0
   try clear hcz9_1
   try clear hcz9_2
   try clear hcz9_3
   try clear hfz8_0
   try clear hfz8_1
   try clear hfz8_2
   try clear hfz8_3
   try clear hfz9_0
   try clear hfz9_1
   try clear hfz9_2
   try clear hfz9_3
   obtain ⟨kq,x20_3,rfl,HA,HJ3,BK135,BK136,HB⟩:=hcut
   cases kq with
   | zero => exact absurd HA.out (by simp [spinneyref01_Compare.j0])
   | succ kj3 =>
    have H:=HA.out
    clear HA
    simp only [spinneyref01_Compare.j0] at H
    by_cases c11:x20_3=true
    ·subst c11
     have H1:((spinneyref01_sign.f (decide (a0_1 < a1_1)) (decide (a0_1 > a1_1))).bind fun t138 => (some t138))=some r:=by rw [if_pos rfl] at H;exact H
     clear H
     have H:=H1
     clear H1
     replace H:=Option.bind_eq_some_iff.mp H
     obtain ⟨t138,A120,H⟩:=H
     replace H:(some t138)=some r:=H
     have A12:=Aside0.mk A120
     clear A120
     obtain rfl:=Option.some.inj H
     have hnb13:=NB135_136.out
     have hnc13:=NB136_135.out
     have hcz14_0:wc.cell? ⟨gb135,0,none⟩=some (.int .i64 a0_0):=(blk_cell BK135.out 0).trans rfl;have hcz14_1:wc.cell? ⟨gb135,1,none⟩=some (.int .i64 a0_1):=(blk_cell BK135.out 1).trans rfl;have hcz14_2:wc.cell? ⟨gb135,2,none⟩=some (.string a0_2):=(blk_cell BK135.out 2).trans rfl;have hcz14_3:wc.cell? ⟨gb135,3,none⟩=some (.slice A0_3 l0_3.length c0_3):=(blk_cell BK135.out 3).trans rfl;have hfz14_0:=blk_frozen BK135.out 0;have hfz14_1:=blk_frozen BK135.out 1;have hfz14_2:=blk_frozen BK135.out 2;have hfz14_3:=blk_frozen BK135.out 3;have hcz15_0:wc.cell? ⟨gb136,0,none⟩=some (.int .i64 a1_0):=(blk_cell BK136.out 0).trans rfl;have hcz15_1:wc.cell? ⟨gb136,1,none⟩=some (.int .i64 a1_1):=(blk_cell BK136.out 1).trans rfl;have hcz15_2:wc.cell? ⟨gb136,2,none⟩=some (.string a1_2):=(blk_cell BK136.out 2).trans rfl;have hcz15_3:wc.cell? ⟨gb136,3,none⟩=some (.slice A1_3 l1_3.length c1_3):=(blk_cell BK136.out 3).trans rfl;have hfz15_0:=blk_frozen BK136.out 0;have hfz15_1:=blk_frozen BK136.out 1;have hfz15_2:=blk_frozen BK136.out 2;have hfz15_3:=blk_frozen BK136.out 3
     go_wp2_with (first|((with_reducible refine gate_callee (f:=69) rfl ?_);refine goesL_ (some 33) rfl rfl Tryd.func69 (by kernel_rfl) rfl #[.bool (decide (a0_1 < a1_1)),.bool (decide (a0_1 > a1_1))] rfl (by (try simp only [List.map_toArray,List.map_cons,List.map_nil]);first|done|rfl|(simp only [List.length_drop,List.length_take];rfl)|(simp only [gt_iff_lt,Int.ofNat_lt];rfl)) ?_;(with_reducible refine (spinneyref01_sign.calls (decide (a0_1 < a1_1)) (decide (a0_1 > a1_1)) t138 _ A12.out).mono ?_);rintro e w' ⟨rfl,⟨nd,rfl⟩⟩;refine ⟨_,rfl,?_⟩))
     go_ret
     exact ⟨by first|rfl|(simp [errW_none,errW_some] <;> rfl)|(simp [*,errW_none,errW_some] <;> rfl),by repeat (first|(with_reducible first|exact HB.out|apply below_alloc|apply pw_below_drewN|apply below_drew1|refine below_set ?_ GE135.out|refine below_set ?_ GE136.out)|exact HB.out)⟩
    ·replace c11:=Bool.eq_false_iff.mpr c11
     subst c11
     have H1:(if a0_0=3 then ((spinneyref01_sign.f (Op.bytesLess a0_2.toList a1_2.toList) (Op.bytesLess a1_2.toList a0_2.toList)).bind fun t139 => (some t139)) else (if a0_0=4 then (spinneyref01_Compare.j1 kj3 (a0_0 == 4) a0_0 a0_1 a0_2 l0_3 a1_0 a1_1 a1_2 l1_3) else (if a0_0=5 then (spinneyref01_Compare.j1 kj3 (a0_0 == 5) a0_0 a0_1 a0_2 l0_3 a1_0 a1_1 a1_2 l1_3) else (spinneyref01_Compare.j1 kj3 (a0_0 == 6) a0_0 a0_1 a0_2 l0_3 a1_0 a1_1 a1_2 l1_3))))=some r:=by rw [if_neg (show ¬ (false=true) by decide)] at H;exact H
     clear H
     have H:=H1
     clear H1
     by_cases c16:a0_0=3
     ·rw [if_pos c16] at H
      have c16b0:(a0_0 == 3)=true:=beq_iff_eq.mpr c16
      have c16b1:(a0_0 != 3)=false:=bne_eq_false_iff_eq.mpr c16
      clear c16
      replace H:=Option.bind_eq_some_iff.mp H
      obtain ⟨t139,A170,H⟩:=H
      replace H:(some t139)=some r:=H
      have A17:=Aside0.mk A170
      clear A170
      obtain rfl:=Option.some.inj H
      have hnb18:=NB135_136.out
      have hnc18:=NB136_135.out
      have hcz19_0:wc.cell? ⟨gb135,0,none⟩=some (.int .i64 a0_0):=(blk_cell BK135.out 0).trans rfl;have hcz19_1:wc.cell? ⟨gb135,1,none⟩=some (.int .i64 a0_1):=(blk_cell BK135.out 1).trans rfl;have hcz19_2:wc.cell? ⟨gb135,2,none⟩=some (.string a0_2):=(blk_cell BK135.out 2).trans rfl;have hcz19_3:wc.cell? ⟨gb135,3,none⟩=some (.slice A0_3 l0_3.length c0_3):=(blk_cell BK135.out 3).trans rfl;have hfz19_0:=blk_frozen BK135.out 0;have hfz19_1:=blk_frozen BK135.out 1;have hfz19_2:=blk_frozen BK135.out 2;have hfz19_3:=blk_frozen BK135.out 3;have hcz20_0:wc.cell? ⟨gb136,0,none⟩=some (.int .i64 a1_0):=(blk_cell BK136.out 0).trans rfl;have hcz20_1:wc.cell? ⟨gb136,1,none⟩=some (.int .i64 a1_1):=(blk_cell BK136.out 1).trans rfl;have hcz20_2:wc.cell? ⟨gb136,2,none⟩=some (.string a1_2):=(blk_cell BK136.out 2).trans rfl;have hcz20_3:wc.cell? ⟨gb136,3,none⟩=some (.slice A1_3 l1_3.length c1_3):=(blk_cell BK136.out 3).trans rfl;have hfz20_0:=blk_frozen BK136.out 0;have hfz20_1:=blk_frozen BK136.out 1;have hfz20_2:=blk_frozen BK136.out 2;have hfz20_3:=blk_frozen BK136.out 3
      go_wp2_with (first|((with_reducible refine gate_callee (f:=69) rfl ?_);refine goesL_ (some 46) rfl rfl Tryd.func69 (by kernel_rfl) rfl #[.bool (Op.bytesLess a0_2.toList a1_2.toList),.bool (Op.bytesLess a1_2.toList a0_2.toList)] rfl (by (try simp only [List.map_toArray,List.map_cons,List.map_nil]);first|done|rfl|(simp only [List.length_drop,List.length_take];rfl)|(simp only [gt_iff_lt,Int.ofNat_lt];rfl)) ?_;(with_reducible refine (spinneyref01_sign.calls (Op.bytesLess a0_2.toList a1_2.toList) (Op.bytesLess a1_2.toList a0_2.toList) t139 _ A17.out).mono ?_);rintro e w' ⟨rfl,⟨nd,rfl⟩⟩;refine ⟨_,rfl,?_⟩))
      go_ret
      exact ⟨by first|rfl|(simp [errW_none,errW_some] <;> rfl)|(simp [*,errW_none,errW_some] <;> rfl),by repeat (first|(with_reducible first|exact HB.out|apply below_alloc|apply pw_below_drewN|apply below_drew1|refine below_set ?_ GE135.out|refine below_set ?_ GE136.out)|exact HB.out)⟩
     ·rw [if_neg c16] at H
      have c16b0:(a0_0 == 3)=false:=beq_eq_false_iff_ne.mpr c16
      have c16b1:(a0_0 != 3)=true:=bne_iff_ne.mpr c16
      have HC21:=Aside0.mk H
      clear H
      go_upto_if 47 with (fail)
      go_cut [47] (fun v47 wc => ∃ (kq:Nat) (x47_20:Bool),v47=.bool x47_20∧Aside0 (spinneyref01_Compare.j1 kq x47_20 a0_0 a0_1 a0_2 l0_3 a1_0 a1_1 a1_2 l1_3=some r)∧Aside0 (kq≤kj3)∧Aside0 (wc.heap[gb135]? = some (.cells #[.int .i64 a0_0,.int .i64 a0_1,.string a0_2,(.slice A0_3 l0_3.length c0_3)] 24 (0,0)))∧Aside0 (wc.heap[gb136]? = some (.cells #[.int .i64 a1_0,.int .i64 a1_1,.string a1_2,(.slice A1_3 l1_3.length c1_3)] 24 (0,0)))∧Aside0 (Below w.heap.size w wc))
      case first =>
       have H:=HC21.out
       clear HC21
       by_cases c22:a0_0=4
       ·rw [if_pos c22] at H
        have c22b0:(a0_0 == 4)=true:=beq_iff_eq.mpr c22
        have c22b1:(a0_0 != 4)=false:=bne_eq_false_iff_eq.mpr c22
        clear c22
        (first|rw [c22b0]|(simp only [i64_w,i32_w];rw [c22b0])|skip)
        have H':=Aside0.mk H
        clear H
        go_wp2
        go_meet
        case rel => exact ⟨_,((a0_0 == 4)),(by first|rfl|(simp;done)|(simp [*];done)),H',⟨by have:=HJ3.out;first|omega|exact Nat.le_refl _⟩,⟨by (with_reducible repeat (first|refine blk_drewN ?_ _|refine blk_drew ?_|refine blk_alloc ?_ _));exact BK135.out⟩,⟨by (with_reducible repeat (first|refine blk_drewN ?_ _|refine blk_drew ?_|refine blk_alloc ?_ _));exact BK136.out⟩,⟨by repeat (first|(with_reducible first|exact HB.out|apply below_alloc|apply pw_below_drewN|apply below_drew1|refine below_set ?_ GE135.out|refine below_set ?_ GE136.out)|exact HB.out)⟩⟩
       ·rw [if_neg c22] at H
        have c22b0:(a0_0 == 4)=false:=beq_eq_false_iff_ne.mpr c22
        have c22b1:(a0_0 != 4)=true:=bne_iff_ne.mpr c22
        (first|rw [c22b0]|(simp only [i64_w,i32_w];rw [c22b0])|skip)
        by_cases c23:a0_0=5
        ·rw [if_pos c23] at H
         have c23b0:(a0_0 == 5)=true:=beq_iff_eq.mpr c23
         have c23b1:(a0_0 != 5)=false:=bne_eq_false_iff_eq.mpr c23
         clear c23
         have H':=Aside0.mk H
         clear H
         go_wp2
         go_meet
         case rel => exact ⟨_,((a0_0 == 5)),(by first|rfl|(simp;done)|(simp [*];done)),H',⟨by have:=HJ3.out;first|omega|exact Nat.le_refl _⟩,⟨by (with_reducible repeat (first|refine blk_drewN ?_ _|refine blk_drew ?_|refine blk_alloc ?_ _));exact BK135.out⟩,⟨by (with_reducible repeat (first|refine blk_drewN ?_ _|refine blk_drew ?_|refine blk_alloc ?_ _));exact BK136.out⟩,⟨by repeat (first|(with_reducible first|exact HB.out|apply below_alloc|apply pw_below_drewN|apply below_drew1|refine below_set ?_ GE135.out|refine below_set ?_ GE136.out)|exact HB.out)⟩⟩
        ·rw [if_neg c23] at H
         have c23b0:(a0_0 == 5)=false:=beq_eq_false_iff_ne.mpr c23
         have c23b1:(a0_0 != 5)=true:=bne_iff_ne.mpr c23
         have H':=Aside0.mk H
         clear H
         go_wp2
         go_meet
         case rel => exact ⟨_,((a0_0 == 6)),(by first|rfl|(simp;done)|(simp [*];done)),H',⟨by have:=HJ3.out;first|omega|exact Nat.le_refl _⟩,⟨by (with_reducible repeat (first|refine blk_drewN ?_ _|refine blk_drew ?_|refine blk_alloc ?_ _));exact BK135.out⟩,⟨by (with_reducible repeat (first|refine blk_drewN ?_ _|refine blk_drew ?_|refine blk_alloc ?_ _));exact BK136.out⟩,⟨by repeat (first|(with_reducible first|exact HB.out|apply below_alloc|apply pw_below_drewN|apply below_drew1|refine below_set ?_ GE135.out|refine below_set ?_ GE136.out)|exact HB.out)⟩⟩
      case rest =>
       clear HC21
       try clear c1
       try clear c2
       try clear p2
       try clear c3
       try clear c3b0
       try clear c3b1
       try clear c4
       try clear c6
       try clear c7
       try clear c10
       try clear c10b0
       try clear c10b1
       try clear c11
       try clear c13
       try clear c16
       try clear c16b0
       try clear c16b1
       try clear c18
       try clear c22
       try clear c22b0
       try clear c22b1
       try clear c23
       try clear c23b0
       try clear c23b1
       try clear hcz14_0
       try clear hcz14_1
       try clear hcz14_2
       try clear hcz14_3
       try clear hcz15_0
       try clear hcz15_1
       try clear hcz15_2
       try clear hcz15_3
       try clear hcz19_0
       try clear hcz19_1
       try clear hcz19_2
       try clear hcz19_3
       try clear hcz20_0
       try clear hcz20_1
       try clear hcz20_2
       try clear hcz20_3
       try clear hcz8_0
       try clear hcz8_1
       try clear hcz8_2
       try clear hcz8_3
       try clear hcz9_0
       try clear hcz9_1
       try clear hcz9_2
       try clear hcz9_3
       try clear hfz14_0
       try clear hfz14_1
       try clear hfz14_2
       try clear hfz14_3
       try clear hfz15_0
       try clear hfz15_1
       try clear hfz15_2
       try clear hfz15_3
       try clear hfz19_0
       try clear hfz19_1
       try clear hfz19_2
       try clear hfz19_3
       try clear hfz20_0
       try clear hfz20_1
       try clear hfz20_2
       try clear hfz20_3
       try clear hfz8_0
       try clear hfz8_1
       try clear hfz8_2
       try clear hfz8_3
       try clear hfz9_0
       try clear hfz9_1
       try clear hfz9_2
       try clear hfz9_3
       try clear p2
       obtain ⟨kq,x47_20,rfl,HA,HJ20,BK135,BK136,HB⟩:=hcut
       cases kq with
       | zero => exact absurd HA.out (by simp [spinneyref01_Compare.j1])
       | succ kj20 =>
        have H:=HA.out
        clear HA
        simp only [spinneyref01_Compare.j1] at H
        by_cases c24:x47_20=true
        ·subst c24
         have H1:(spinneyref01_Compare.l0 kj20 0 a0_0 a0_1 a0_2 l0_3 a1_0 a1_1 a1_2 l1_3)=some r:=by rw [if_pos rfl] at H;exact H
         clear H
         have H:=H1
         clear H1
         have H':=Aside0.mk H
         clear H
         go_wp2
         go_loopg [5] kj20 (fun kq v5 w' => ∃ (x5_3:Int),v5=.int .i64 x5_3∧Aside0 (spinneyref01_Compare.l0 kq x5_3 a0_0 a0_1 a0_2 l0_3 a1_0 a1_1 a1_2 l1_3=some r)∧Aside0 (kq≤kj20)∧Aside0 (w'.heap[gb135]? = some (.cells #[.int .i64 a0_0,.int .i64 a0_1,.string a0_2,(.slice A0_3 l0_3.length c0_3)] 24 (0,0)))∧Aside0 (w'.heap[gb136]? = some (.cells #[.int .i64 a1_0,.int .i64 a1_1,.string a1_2,(.slice A1_3 l1_3.length c1_3)] 24 (0,0)))∧Aside0 (Below w.heap.size w w'))
         case atStart => exact ⟨(0),(by first|rfl|(simp;done)|(simp [*];done)),H',⟨Nat.le_refl _⟩,⟨by (with_reducible repeat (first|refine blk_drewN ?_ _|refine blk_drew ?_|refine blk_alloc ?_ _));exact BK135.out⟩,⟨by (with_reducible repeat (first|refine blk_drewN ?_ _|refine blk_drew ?_|refine blk_alloc ?_ _));exact BK136.out⟩,⟨by repeat (first|(with_reducible first|exact HB.out|apply below_alloc|apply pw_below_drewN|apply below_drew1|refine below_set ?_ GE135.out|refine below_set ?_ GE136.out)|exact HB.out)⟩⟩
         case round =>
          clear H'
          try clear c1
          try clear c2
          try clear p2
          try clear c3
          try clear c3b0
          try clear c3b1
          try clear c4
          try clear c6
          try clear c7
          try clear c10
          try clear c10b0
          try clear c10b1
          try clear c11
          try clear c13
          try clear c16
          try clear c16b0
          try clear c16b1
          try clear c18
          try clear c22
          try clear c22b0
          try clear c22b1
          try clear c23
          try clear c23b0
          try clear c23b1
          try clear c24
          try clear hcz14_0
          try clear hcz14_1
          try clear hcz14_2
          try clear hcz14_3
          try clear hcz15_0
          try clear hcz15_1
          try clear hcz15_2
          try clear hcz15_3
          try clear hcz19_0
          try clear hcz19_1
          try clear hcz19_2
          try clear hcz19_3
          try clear hcz20_0
          try clear hcz20_1
          try clear hcz20_2
          try clear hcz20_3
          try clear hcz8_0
          try clear hcz8_1
          try clear hcz8_2
          try clear hcz8_3
          try clear hcz9_0
          try clear hcz9_1
          try clear hcz9_2
          try clear hcz9_3
          try clear hfz14_0
          try clear hfz14_1
          try clear hfz14_2
          try clear hfz14_3
          try clear hfz15_0
          try clear hfz15_1
          try clear hfz15_2
          try clear hfz15_3
          try clear hfz19_0
          try clear hfz19_1
          try clear hfz19_2
          try clear hfz19_3
          try clear hfz20_0
          try clear hfz20_1
          try clear hfz20_2
          try clear hfz20_3
          try clear hfz8_0
          try clear hfz8_1
          try clear hfz8_2
          try clear hfz8_3
          try clear hfz9_0
          try clear hfz9_1
          try clear hfz9_2
          try clear hfz9_3
          try clear p2
          obtain ⟨x5_3,rfl,HA,HK3,BK135,BK136,HB⟩:=hrel
          cases gk with
          | zero => exact absurd HA.out (by simp [spinneyref01_Compare.l0])
          | succ k3 =>
           have H:=HA.out
           clear HA
           simp only [spinneyref01_Compare.l0] at H
           have HC25:=Aside0.mk H
           clear H
           go_upto_region 13 with (fail)
           go_cut [62] (fun v62 wc => ∃ (kq:Nat) (x62_24:Bool),v62=.bool x62_24∧Aside0 (spinneyref01_Compare.j3 kq x5_3 x62_24 a0_0 a0_1 a0_2 l0_3 a1_0 a1_1 a1_2 l1_3=some r)∧Aside0 (kq≤k3)∧Aside0 (wc.heap[gb135]? = some (.cells #[.int .i64 a0_0,.int .i64 a0_1,.string a0_2,(.slice A0_3 l0_3.length c0_3)] 24 (0,0)))∧Aside0 (wc.heap[gb136]? = some (.cells #[.int .i64 a1_0,.int .i64 a1_1,.string a1_2,(.slice A1_3 l1_3.length c1_3)] 24 (0,0)))∧Aside0 (Below w.heap.size w wc))
           case first =>
            have H:=HC25.out
            clear HC25
            by_cases c26:x5_3 < (l0_3.length:Int)
            ·rw [if_pos c26] at H
             have c26b0:decide (x5_3 < (l0_3.length:Int))=true:=decide_eq_true c26
             clear c26
             (first|rw [c26b0]|(simp only [i64_w,i32_w];rw [c26b0])|skip)
             have H':=Aside0.mk H
             clear H
             have hnb27:=NB135_136.out
             have hnc27:=NB136_135.out
             have hcz28_0:wr.cell? ⟨gb135,0,none⟩=some (.int .i64 a0_0):=(blk_cell BK135.out 0).trans rfl;have hcz28_1:wr.cell? ⟨gb135,1,none⟩=some (.int .i64 a0_1):=(blk_cell BK135.out 1).trans rfl;have hcz28_2:wr.cell? ⟨gb135,2,none⟩=some (.string a0_2):=(blk_cell BK135.out 2).trans rfl;have hcz28_3:wr.cell? ⟨gb135,3,none⟩=some (.slice A0_3 l0_3.length c0_3):=(blk_cell BK135.out 3).trans rfl;have hfz28_0:=blk_frozen BK135.out 0;have hfz28_1:=blk_frozen BK135.out 1;have hfz28_2:=blk_frozen BK135.out 2;have hfz28_3:=blk_frozen BK135.out 3;have hcz29_0:wr.cell? ⟨gb136,0,none⟩=some (.int .i64 a1_0):=(blk_cell BK136.out 0).trans rfl;have hcz29_1:wr.cell? ⟨gb136,1,none⟩=some (.int .i64 a1_1):=(blk_cell BK136.out 1).trans rfl;have hcz29_2:wr.cell? ⟨gb136,2,none⟩=some (.string a1_2):=(blk_cell BK136.out 2).trans rfl;have hcz29_3:wr.cell? ⟨gb136,3,none⟩=some (.slice A1_3 l1_3.length c1_3):=(blk_cell BK136.out 3).trans rfl;have hfz29_0:=blk_frozen BK136.out 0;have hfz29_1:=blk_frozen BK136.out 1;have hfz29_2:=blk_frozen BK136.out 2;have hfz29_3:=blk_frozen BK136.out 3
             go_wp2
             go_meet
             case rel => exact ⟨_,(decide (x5_3 < (l1_3.length:Int))),(by first|rfl|(simp;done)|(simp [*];done)),H',⟨by have:=HJ3.out;have:=HJ20.out;have:=HK3.out;first|omega|exact Nat.le_refl _⟩,⟨by (with_reducible repeat (first|refine blk_drewN ?_ _|refine blk_drew ?_|refine blk_alloc ?_ _));exact BK135.out⟩,⟨by (with_reducible repeat (first|refine blk_drewN ?_ _|refine blk_drew ?_|refine blk_alloc ?_ _));exact BK136.out⟩,⟨by repeat (first|(with_reducible first|exact HB.out|apply below_alloc|apply pw_below_drewN|apply below_drew1|refine below_set ?_ GE135.out|refine below_set ?_ GE136.out)|exact HB.out)⟩⟩
            ·rw [if_neg c26] at H
             have c26b0:decide (x5_3 < (l0_3.length:Int))=false:=decide_eq_false c26
             clear c26
             (first|rw [c26b0]|(simp only [i64_w,i32_w];rw [c26b0])|skip)
             have H':=Aside0.mk H
             clear H
             have hnb30:=NB135_136.out
             have hnc30:=NB136_135.out
             have hcz31_0:wr.cell? ⟨gb135,0,none⟩=some (.int .i64 a0_0):=(blk_cell BK135.out 0).trans rfl;have hcz31_1:wr.cell? ⟨gb135,1,none⟩=some (.int .i64 a0_1):=(blk_cell BK135.out 1).trans rfl;have hcz31_2:wr.cell? ⟨gb135,2,none⟩=some (.string a0_2):=(blk_cell BK135.out 2).trans rfl;have hcz31_3:wr.cell? ⟨gb135,3,none⟩=some (.slice A0_3 l0_3.length c0_3):=(blk_cell BK135.out 3).trans rfl;have hfz31_0:=blk_frozen BK135.out 0;have hfz31_1:=blk_frozen BK135.out 1;have hfz31_2:=blk_frozen BK135.out 2;have hfz31_3:=blk_frozen BK135.out 3
             go_wp2
             go_meet
             case rel => exact ⟨_,(false),(by first|rfl|(simp;done)|(simp [*];done)),H',⟨by have:=HJ3.out;have:=HJ20.out;have:=HK3.out;first|omega|exact Nat.le_refl _⟩,⟨by (with_reducible repeat (first|refine blk_drewN ?_ _|refine blk_drew ?_|refine blk_alloc ?_ _));exact BK135.out⟩,⟨by (with_reducible repeat (first|refine blk_drewN ?_ _|refine blk_drew ?_|refine blk_alloc ?_ _));exact BK136.out⟩,⟨by repeat (first|(with_reducible first|exact HB.out|apply below_alloc|apply pw_below_drewN|apply below_drew1|refine below_set ?_ GE135.out|refine below_set ?_ GE136.out)|exact HB.out)⟩⟩
           case rest =>
            clear HC25
            try clear c1
            try clear c2
            try clear p2
            try clear c3
            try clear c3b0
            try clear c3b1
            try clear c4
            try clear c6
            try clear c7
            try clear c10
            try clear c10b0
            try clear c10b1
            try clear c11
            try clear c13
            try clear c16
            try clear c16b0
            try clear c16b1
            try clear c18
            try clear c22
            try clear c22b0
            try clear c22b1
            try clear c23
            try clear c23b0
            try clear c23b1
            try clear c24
            try clear c26
            try clear c26b0
            try clear c27
            try clear c30
            try clear hcz14_0
            try clear hcz14_1
            try clear hcz14_2
            try clear hcz14_3
            try clear hcz15_0
            try clear hcz15_1
            try clear hcz15_2
            try clear hcz15_3
            try clear hcz19_0
            try clear hcz19_1
            try clear hcz19_2
            try clear hcz19_3
            try clear hcz20_0
            try clear hcz20_1
            try clear hcz20_2
            try clear hcz20_3
            try clear hcz28_0
            try clear hcz28_1
            try clear hcz28_2
            try clear hcz28_3
            try clear hcz29_0
            try clear hcz29_1
            try clear hcz29_2
            try clear hcz29_3
            try clear hcz31_0
            try clear hcz31_1
            try clear hcz31_2
            try clear hcz31_3
            try clear hcz8_0
            try clear hcz8_1
            try clear hcz8_2
            try clear hcz8_3
            try clear hcz9_0
            try clear hcz9_1
            try clear hcz9_2
            try clear hcz9_3
            try clear hfz14_0
            try clear hfz14_1
            try clear hfz14_2
            try clear hfz14_3
            try clear hfz15_0
            try clear hfz15_1
            try clear hfz15_2
            try clear hfz15_3
            try clear hfz19_0
            try clear hfz19_1
            try clear hfz19_2
            try clear hfz19_3
            try clear hfz20_0
            try clear hfz20_1
            try clear hfz20_2
            try clear hfz20_3
            try clear hfz28_0
            try clear hfz28_1
            try clear hfz28_2
            try clear hfz28_3
            try clear hfz29_0
            try clear hfz29_1
            try clear hfz29_2
            try clear hfz29_3
            try clear hfz31_0
            try clear hfz31_1
            try clear hfz31_2
            try clear hfz31_3
            try clear hfz8_0
            try clear hfz8_1
            try clear hfz8_2
            try clear hfz8_3
            try clear hfz9_0
            try clear hfz9_1
            try clear hfz9_2
            try clear hfz9_3
            try clear p2
            obtain ⟨kq,x62_24,rfl,HA,HJ24,BK135,BK136,HB⟩:=hcut
            cases kq with
            | zero => exact absurd HA.out (by simp [spinneyref01_Compare.j3])
            | succ kj24 =>
             have H:=HA.out
             clear HA
             simp only [spinneyref01_Compare.j3] at H
             by_cases c32:x62_24=true
             ·subst c32
              have H1:(if 0≤x5_3 then (if x5_3 < (l0_3.length:Int) then (if x5_3 < (l1_3.length:Int) then ((spinneyref01_Compare.f kj24 ((rd_T24 l0_3 x5_3).f0) ((rd_T24 l0_3 x5_3).f1) ((rd_T24 l0_3 x5_3).f2) ((rd_T24 l0_3 x5_3).f3) ((rd_T24 l1_3 x5_3).f0) ((rd_T24 l1_3 x5_3).f1) ((rd_T24 l1_3 x5_3).f2) ((rd_T24 l1_3 x5_3).f3)).bind fun t142 => (if t142=0 then (spinneyref01_Compare.l0 kj24 (wrap64 (x5_3+1)) a0_0 a0_1 a0_2 l0_3 a1_0 a1_1 a1_2 l1_3) else (some t142))) else (none)) else (none)) else (none))=some r:=by rw [if_pos rfl] at H;exact H
              clear H
              have H:=H1
              clear H1
              by_cases c33:0≤x5_3
              ·rw [if_pos c33] at H
               have c33b0:decide (0≤x5_3)=true:=decide_eq_true c33
               clear c33
               by_cases c34:x5_3 < (l0_3.length:Int)
               ·rw [if_pos c34] at H
                have c34b0:decide (x5_3 < (l0_3.length:Int))=true:=decide_eq_true c34
                clear c34
                by_cases c35:x5_3 < (l1_3.length:Int)
                ·rw [if_pos c35] at H
                 have c35b0:decide (x5_3 < (l1_3.length:Int))=true:=decide_eq_true c35
                 clear c35
                 replace H:=Option.bind_eq_some_iff.mp H
                 obtain ⟨t142,A360,H⟩:=H
                 replace H:(if t142=0 then (spinneyref01_Compare.l0 kj24 (wrap64 (x5_3+1)) a0_0 a0_1 a0_2 l0_3 a1_0 a1_1 a1_2 l1_3) else (some t142))=some r:=H
                 have A36:=Aside0.mk A360
                 clear A360
                 by_cases c37:t142=0
                 ·rw [if_pos c37] at H
                  have c37b0:(t142 == 0)=true:=beq_iff_eq.mpr c37
                  have c37b1:(t142 != 0)=false:=bne_eq_false_iff_eq.mpr c37
                  clear c37
                  have H':=Aside0.mk H
                  clear H
                  try go_wp2
                  replace BK135:=Aside0.mk (blk_drew BK135.out);replace BK136:=Aside0.mk (blk_drew BK136.out);replace HB:=Aside0.mk (below_drew1 HB.out)
                  have p140:0≤(x5_3:Int):=of_decide_eq_true (by first|(with_reducible assumption)|assumption)
                  have q140:x5_3 < (l0_3.length:Int):=of_decide_eq_true (by first|(with_reducible assumption)|assumption)
                  obtain ⟨ad140,A140_3,c140_3,e140,hx140_0,hx140_1,hx140_2,hx140_3,hl140_3,hi140_3⟩:=at_T24 HR0_3.out x5_3 p140 q140
                  have hw140_3:=hx140_3
                  have hw140_2:=hx140_2
                  have hw140_1:=hx140_1
                  have hw140_0:=hx140_0
                  cases e140
                  replace hx140_0:=(HB.out.cell (World.block_lt_of_cell? w _ hx140_0)).trans hx140_0
                  replace hx140_1:=(HB.out.cell (World.block_lt_of_cell? w _ hx140_1)).trans hx140_1
                  replace hx140_2:=(HB.out.cell (World.block_lt_of_cell? w _ hx140_2)).trans hx140_2
                  replace hx140_3:=(HB.out.cell (World.block_lt_of_cell? w _ hx140_3)).trans hx140_3
                  have HR140_3:=Aside0.mk hi140_3
                  have HC140_3:=Aside0.mk hl140_3
                  clear hi140_3 hl140_3
                  replace p140:=eq_true p140
                  replace q140:=eq_true q140
                  have p141:0≤(x5_3:Int):=of_decide_eq_true (by first|(with_reducible assumption)|assumption)
                  have q141:x5_3 < (l1_3.length:Int):=of_decide_eq_true (by first|(with_reducible assumption)|assumption)
                  obtain ⟨ad141,A141_3,c141_3,e141,hx141_0,hx141_1,hx141_2,hx141_3,hl141_3,hi141_3⟩:=at_T24 HR1_3.out x5_3 p141 q141
                  have hw141_3:=hx141_3
                  have hw141_2:=hx141_2
                  have hw141_1:=hx141_1
                  have hw141_0:=hx141_0
                  cases e141
                  replace hx141_0:=(HB.out.cell (World.block_lt_of_cell? w _ hx141_0)).trans hx141_0
                  replace hx141_1:=(HB.out.cell (World.block_lt_of_cell? w _ hx141_1)).trans hx141_1
                  replace hx141_2:=(HB.out.cell (World.block_lt_of_cell? w _ hx141_2)).trans hx141_2
                  replace hx141_3:=(HB.out.cell (World.block_lt_of_cell? w _ hx141_3)).trans hx141_3
                  have HR141_3:=Aside0.mk hi141_3
                  have HC141_3:=Aside0.mk hl141_3
                  clear hi141_3 hl141_3
                  replace p141:=eq_true p141
                  replace q141:=eq_true q141
                  refine start_ (n:=12) (S:=fun w' => w'.cell? ⟨gb135,0,none⟩=some (.int .i64 a0_0)∧w'.cell? ⟨gb135,1,none⟩=some (.int .i64 a0_1)∧w'.cell? ⟨gb135,2,none⟩=some (.string a0_2)∧w'.cell? ⟨gb135,3,none⟩=some (.slice (some ad140) l0_3.length c0_3)∧w'.cell? ⟨gb136,0,none⟩=some (.int .i64 a1_0)∧w'.cell? ⟨gb136,1,none⟩=some (.int .i64 a1_1)∧w'.cell? ⟨gb136,2,none⟩=some (.string a1_2)∧w'.cell? ⟨gb136,3,none⟩=some (.slice (some ad141) l1_3.length c1_3)∧w'.cell? (ad140.add ((x5_3).toNat * 4))=some (.int .i64 ((rd_T24 l0_3 x5_3).f0))∧w'.cell? ⟨(ad140.add ((x5_3).toNat * 4)).block,(ad140.add ((x5_3).toNat * 4)).off+1,none⟩=some (.int .i64 ((rd_T24 l0_3 x5_3).f1))∧w'.cell? ⟨(ad140.add ((x5_3).toNat * 4)).block,(ad140.add ((x5_3).toNat * 4)).off+2,none⟩=some (.string ((rd_T24 l0_3 x5_3).f2))∧w'.cell? ⟨(ad140.add ((x5_3).toNat * 4)).block,(ad140.add ((x5_3).toNat * 4)).off+3,none⟩=some (.slice A140_3 ((rd_T24 l0_3 x5_3).f3).length c140_3)∧w'.cell? (ad141.add ((x5_3).toNat * 4))=some (.int .i64 ((rd_T24 l1_3 x5_3).f0))∧w'.cell? ⟨(ad141.add ((x5_3).toNat * 4)).block,(ad141.add ((x5_3).toNat * 4)).off+1,none⟩=some (.int .i64 ((rd_T24 l1_3 x5_3).f1))∧w'.cell? ⟨(ad141.add ((x5_3).toNat * 4)).block,(ad141.add ((x5_3).toNat * 4)).off+2,none⟩=some (.string ((rd_T24 l1_3 x5_3).f2))∧w'.cell? ⟨(ad141.add ((x5_3).toNat * 4)).block,(ad141.add ((x5_3).toNat * 4)).off+3,none⟩=some (.slice A141_3 ((rd_T24 l1_3 x5_3).f3).length c141_3)) (ds:=[]) #[false,false,false,false,false,false,false,false,false,false,false,false] (by kernel_rfl) rfl rfl ⟨(blk_cell BK135.out 0).trans rfl,(blk_cell BK135.out 1).trans rfl,(blk_cell BK135.out 2).trans rfl,(blk_cell BK135.out 3).trans rfl,(blk_cell BK136.out 0).trans rfl,(blk_cell BK136.out 1).trans rfl,(blk_cell BK136.out 2).trans rfl,(blk_cell BK136.out 3).trans rfl,((HB.out.cell (World.block_lt_of_cell? w _ hw140_0)).trans hw140_0),((HB.out.cell (World.block_lt_of_cell? w _ hw140_1)).trans hw140_1),((HB.out.cell (World.block_lt_of_cell? w _ hw140_2)).trans hw140_2),((HB.out.cell (World.block_lt_of_cell? w _ hw140_3)).trans hw140_3),((HB.out.cell (World.block_lt_of_cell? w _ hw141_0)).trans hw141_0),((HB.out.cell (World.block_lt_of_cell? w _ hw141_1)).trans hw141_1),((HB.out.cell (World.block_lt_of_cell? w _ hw141_2)).trans hw141_2),((HB.out.cell (World.block_lt_of_cell? w _ hw141_3)).trans hw141_3)⟩ (fun hHeld => ?_);refine with_tabW spinneyref01_Compare.tab15 spinneyref01_Compare.bits15 (fun HT_ HW_ => ?_)
                  generalize wc.drew=w38 at BK135 BK136 HB HR140_3 HR141_3 hx140_0 hx140_1 hx140_2 hx140_3 hx141_0 hx141_1 hx141_2 hx141_3 hHeld ⊢
                  refine pure_ (i:=0) (N:=some 65) (v:=?_) (a':=?_) #[true,false,false,false,false,false,false,false,false,false,false,false] rfl rfl (any_of HT_.out (by kernel_rfl)) (fun _ _ _ h => h) (Or.inl ⟨by rfl,?_⟩) ?_ ?_
                  rotate_left
                  ·intro w'
                   go_simp
                   with_reducible rfl
                  rotate_left
                  ·simp only [Act.put,List.setIfInBounds_toArray,List.set_cons_zero,List.set_cons_succ,i64_w,i32_w]
                   rfl
                  refine pure_ (i:=2) (N:=some 67) (v:=?_) (a':=?_) #[true,false,true,false,false,false,false,false,false,false,false,false] rfl rfl (any_of HT_.out (by kernel_rfl)) (fun _ _ _ h => h) (Or.inl ⟨by rfl,?_⟩) ?_ ?_
                  rotate_left
                  ·intro w'
                   go_simp
                   with_reducible rfl
                  rotate_left
                  ·simp only [Act.put,List.setIfInBounds_toArray,List.set_cons_zero,List.set_cons_succ,i64_w,i32_w]
                   rfl
                  refine pure_ (i:=5) (N:=some 70) (v:=?_) (a':=?_) #[true,false,true,false,false,true,false,false,false,false,false,false] rfl rfl (any_of HT_.out (by kernel_rfl)) (fun _ _ _ h => h) (Or.inl ⟨by rfl,?_⟩) ?_ ?_
                  rotate_left
                  ·intro w'
                   go_simp
                   with_reducible rfl
                  rotate_left
                  ·simp only [Act.put,List.setIfInBounds_toArray,List.set_cons_zero,List.set_cons_succ,i64_w,i32_w]
                   rfl
                  refine pure_ (i:=7) (N:=some 72) (v:=?_) (a':=?_) #[true,false,true,false,false,true,false,true,false,false,false,false] rfl rfl (any_of HT_.out (by kernel_rfl)) (fun _ _ _ h => h) (Or.inl ⟨by rfl,?_⟩) ?_ ?_
                  rotate_left
                  ·intro w'
                   go_simp
                   with_reducible rfl
                  rotate_left
                  ·simp only [Act.put,List.setIfInBounds_toArray,List.set_cons_zero,List.set_cons_succ,i64_w,i32_w]
                   rfl
                  refine take_ (i:=1) (N:=some 66) (v:=?_) (a':=?_) #[true,true,true,false,false,true,false,true,false,false,false,false] rfl rfl (take_ofW HT_.out HW_.out (by kernel_rfl)) (fun _ _ _ h => h) (Or.inl ⟨by rfl,?_⟩) hHeld ?_ ?_
                  rotate_left
                  ·rintro w' ⟨s0,s1,s2,s3,s4,s5,s6,s7,s8,s9,s10,s11,s12,s13,s14,s15⟩
                   go_simp
                   with_reducible rfl
                  rotate_left
                  ·simp only [Act.put,List.setIfInBounds_toArray,List.set_cons_zero,List.set_cons_succ,i64_w,i32_w]
                   rfl
                  refine pure_ (i:=3) (N:=some 68) (v:=?_) (a':=?_) #[true,true,true,true,false,true,false,true,false,false,false,false] rfl rfl (any_of HT_.out (by kernel_rfl)) (fun _ _ _ h => h) (Or.inl ⟨by rfl,?_⟩) ?_ ?_
                  rotate_left
                  ·intro w'
                   go_simp
                   with_reducible rfl
                  rotate_left
                  ·simp only [Act.put,List.setIfInBounds_toArray,List.set_cons_zero,List.set_cons_succ,i64_w,i32_w]
                   rfl
                  refine take_ (i:=4) (N:=some 69) (v:=?_) (a':=?_) #[true,true,true,true,true,true,false,true,false,false,false,false] rfl rfl (take_ofW HT_.out HW_.out (by kernel_rfl)) (fun _ _ _ h => h) (Or.inl ⟨by rfl,?_⟩) hHeld ?_ ?_
                  rotate_left
                  ·rintro w' ⟨s0,s1,s2,s3,s4,s5,s6,s7,s8,s9,s10,s11,s12,s13,s14,s15⟩
                   go_simp
                   with_reducible rfl
                  rotate_left
                  ·simp only [Act.put,List.setIfInBounds_toArray,List.set_cons_zero,List.set_cons_succ,i64_w,i32_w]
                   rfl
                  refine take_ (i:=6) (N:=some 71) (v:=?_) (a':=?_) #[true,true,true,true,true,true,true,true,false,false,false,false] rfl rfl (take_ofW HT_.out HW_.out (by kernel_rfl)) (fun _ _ _ h => h) (Or.inl ⟨by rfl,?_⟩) hHeld ?_ ?_
                  rotate_left
                  ·rintro w' ⟨s0,s1,s2,s3,s4,s5,s6,s7,s8,s9,s10,s11,s12,s13,s14,s15⟩
                   go_simp
                   with_reducible rfl
                  rotate_left
                  ·simp only [Act.put,List.setIfInBounds_toArray,List.set_cons_zero,List.set_cons_succ,i64_w,i32_w]
                   rfl
                  refine pure_ (i:=8) (N:=some 73) (v:=?_) (a':=?_) #[true,true,true,true,true,true,true,true,true,false,false,false] rfl rfl (any_of HT_.out (by kernel_rfl)) (fun _ _ _ h => h) (Or.inl ⟨by rfl,?_⟩) ?_ ?_
                  rotate_left
                  ·intro w'
                   go_simp
                   with_reducible rfl
                  rotate_left
                  ·simp only [Act.put,List.setIfInBounds_toArray,List.set_cons_zero,List.set_cons_succ,i64_w,i32_w]
                   rfl
                  refine take_ (i:=9) (N:=some 74) (v:=?_) (a':=?_) #[true,true,true,true,true,true,true,true,true,true,false,false] rfl rfl (take_ofW HT_.out HW_.out (by kernel_rfl)) (fun _ _ _ h => h) (Or.inl ⟨by rfl,?_⟩) hHeld ?_ ?_
                  rotate_left
                  ·rintro w' ⟨s0,s1,s2,s3,s4,s5,s6,s7,s8,s9,s10,s11,s12,s13,s14,s15⟩
                   go_simp
                   with_reducible rfl
                  rotate_left
                  ·simp only [Act.put,List.setIfInBounds_toArray,List.set_cons_zero,List.set_cons_succ,i64_w,i32_w]
                   rfl
                  refine one_ (i:=10) (N:=some 75) #[true,true,true,true,true,true,true,true,true,true,true,false] rfl rfl (one_of HT_.out (by kernel_rfl)) (by decide) (fun K hK => ?_)
                  refine goes_ Tryd.func48 (by kernel_rfl) rfl #[.agg #[.int .i64 ((rd_T24 l0_3 x5_3).f0),.int .i64 ((rd_T24 l0_3 x5_3).f1),.string ((rd_T24 l0_3 x5_3).f2),.slice A140_3 ((rd_T24 l0_3 x5_3).f3).length c140_3],.agg #[.int .i64 ((rd_T24 l1_3 x5_3).f0),.int .i64 ((rd_T24 l1_3 x5_3).f1),.string ((rd_T24 l1_3 x5_3).f2),.slice A141_3 ((rd_T24 l1_3 x5_3).f3).length c141_3]] (by rfl) rfl rfl (by (try simp only [List.map_toArray,List.map_cons,List.map_nil]);first|done|rfl|(simp only [List.length_drop,List.length_take];rfl)|(simp only [gt_iff_lt,Int.ofNat_lt];rfl)) ?_
                  with_reducible refine (ih kj24 (by have:=HJ3.out;have:=HJ20.out;have:=HK3.out;have:=HJ24.out;omega) ((rd_T24 l0_3 x5_3).f0) ((rd_T24 l0_3 x5_3).f1) ((rd_T24 l0_3 x5_3).f2) _ _ ((rd_T24 l0_3 x5_3).f3) ((rd_T24 l1_3 x5_3).f0) ((rd_T24 l1_3 x5_3).f1) ((rd_T24 l1_3 x5_3).f2) _ _ ((rd_T24 l1_3 x5_3).f3) t142 _ ?side1 ?side2 ?side3 ?side4 A36.out).mono ?_
                  (case side1 => repeat (first|exact (Kd.C_below HR140_3.out HB.out)|(with_reducible refine Kd.C_alloc ?_ _)|(with_reducible refine Kd.C_drewN ?_ _)|(with_reducible refine Kd.C_drew ?_)))
                  (case side2 => exact HC140_3.out)
                  (case side3 => repeat (first|exact (Kd.C_below HR141_3.out HB.out)|(with_reducible refine Kd.C_alloc ?_ _)|(with_reducible refine Kd.C_drewN ?_ _)|(with_reducible refine Kd.C_drew ?_)))
                  (case side4 => exact HC141_3.out)
                  rintro e w39 ⟨rfl,hb⟩
                  refine ⟨_,rfl,?_⟩
                  replace BK135:=ca_b BK135 hb;replace BK136:=ca_b BK136 hb;replace HB:=ca_h HB hb
                  (try clear hb)
                  (try clear hb2)
                  (try clear hk)
                  (try clear hi)
                  refine hK.out _ _ ⟨(blk_cell BK135.out 0).trans rfl,(blk_cell BK135.out 1).trans rfl,(blk_cell BK135.out 2).trans rfl,(blk_cell BK135.out 3).trans rfl,(blk_cell BK136.out 0).trans rfl,(blk_cell BK136.out 1).trans rfl,(blk_cell BK136.out 2).trans rfl,(blk_cell BK136.out 3).trans rfl,((HB.out.cell (World.block_lt_of_cell? w _ hw140_0)).trans hw140_0),((HB.out.cell (World.block_lt_of_cell? w _ hw140_1)).trans hw140_1),((HB.out.cell (World.block_lt_of_cell? w _ hw140_2)).trans hw140_2),((HB.out.cell (World.block_lt_of_cell? w _ hw140_3)).trans hw140_3),((HB.out.cell (World.block_lt_of_cell? w _ hw141_0)).trans hw141_0),((HB.out.cell (World.block_lt_of_cell? w _ hw141_1)).trans hw141_1),((HB.out.cell (World.block_lt_of_cell? w _ hw141_2)).trans hw141_2),((HB.out.cell (World.block_lt_of_cell? w _ hw141_3)).trans hw141_3)⟩ (fun hHeld => ?_)
                  clear hK K
                  refine norm_ (a':=?_) ?_ ?_
                  rotate_left
                  ·show Act.put _ (some 75) _=_
                   simp only [Act.put,List.setIfInBounds_toArray,List.set_cons_zero,List.set_cons_succ,i64_w,i32_w]
                   rfl
                  refine pure_ (i:=11) (N:=some 6) (v:=?_) (a':=?_) #[true,true,true,true,true,true,true,true,true,true,true,true] rfl rfl (any_of HT_.out (by kernel_rfl)) (fun _ _ _ h => h) (Or.inl ⟨by rfl,?_⟩) ?_ ?_
                  rotate_left
                  ·intro w'
                   go_simp
                   with_reducible rfl
                  rotate_left
                  ·simp only [Act.put,List.setIfInBounds_toArray,List.set_cons_zero,List.set_cons_succ,i64_w,i32_w]
                   rfl
                  refine done_ (done_of HT_.out (by kernel_rfl)) ?_
                  try go_wp2
                  go_roundg kj24
                  case measure => have:=HJ3.out;have:=HJ20.out;have:=HK3.out;have:=HJ24.out;omega
                  case rel => exact ⟨(wrap64 (x5_3+1)),(by first|rfl|(simp;done)|(simp [*];done)),H',⟨by have:=HJ3.out;have:=HJ20.out;have:=HK3.out;have:=HJ24.out;omega⟩,⟨by (with_reducible repeat (first|refine blk_drewN ?_ _|refine blk_drew ?_|refine blk_alloc ?_ _));exact BK135.out⟩,⟨by (with_reducible repeat (first|refine blk_drewN ?_ _|refine blk_drew ?_|refine blk_alloc ?_ _));exact BK136.out⟩,⟨by repeat (first|(with_reducible first|exact HB.out|apply below_alloc|apply pw_below_drewN|apply below_drew1|refine below_set ?_ GE135.out|refine below_set ?_ GE136.out)|exact HB.out)⟩⟩
                 ·rw [if_neg c37] at H
                  have c37b0:(t142 == 0)=false:=beq_eq_false_iff_ne.mpr c37
                  have c37b1:(t142 != 0)=true:=bne_iff_ne.mpr c37
                  obtain rfl:=Option.some.inj H
                  try go_wp2
                  replace BK135:=Aside0.mk (blk_drew BK135.out);replace BK136:=Aside0.mk (blk_drew BK136.out);replace HB:=Aside0.mk (below_drew1 HB.out)
                  have p140:0≤(x5_3:Int):=of_decide_eq_true (by first|(with_reducible assumption)|assumption)
                  have q140:x5_3 < (l0_3.length:Int):=of_decide_eq_true (by first|(with_reducible assumption)|assumption)
                  obtain ⟨ad140,A140_3,c140_3,e140,hx140_0,hx140_1,hx140_2,hx140_3,hl140_3,hi140_3⟩:=at_T24 HR0_3.out x5_3 p140 q140
                  have hw140_3:=hx140_3
                  have hw140_2:=hx140_2
                  have hw140_1:=hx140_1
                  have hw140_0:=hx140_0
                  cases e140
                  replace hx140_0:=(HB.out.cell (World.block_lt_of_cell? w _ hx140_0)).trans hx140_0
                  replace hx140_1:=(HB.out.cell (World.block_lt_of_cell? w _ hx140_1)).trans hx140_1
                  replace hx140_2:=(HB.out.cell (World.block_lt_of_cell? w _ hx140_2)).trans hx140_2
                  replace hx140_3:=(HB.out.cell (World.block_lt_of_cell? w _ hx140_3)).trans hx140_3
                  have HR140_3:=Aside0.mk hi140_3
                  have HC140_3:=Aside0.mk hl140_3
                  clear hi140_3 hl140_3
                  replace p140:=eq_true p140
                  replace q140:=eq_true q140
                  have p141:0≤(x5_3:Int):=of_decide_eq_true (by first|(with_reducible assumption)|assumption)
                  have q141:x5_3 < (l1_3.length:Int):=of_decide_eq_true (by first|(with_reducible assumption)|assumption)
                  obtain ⟨ad141,A141_3,c141_3,e141,hx141_0,hx141_1,hx141_2,hx141_3,hl141_3,hi141_3⟩:=at_T24 HR1_3.out x5_3 p141 q141
                  have hw141_3:=hx141_3
                  have hw141_2:=hx141_2
                  have hw141_1:=hx141_1
                  have hw141_0:=hx141_0
                  cases e141
                  replace hx141_0:=(HB.out.cell (World.block_lt_of_cell? w _ hx141_0)).trans hx141_0
                  replace hx141_1:=(HB.out.cell (World.block_lt_of_cell? w _ hx141_1)).trans hx141_1
                  replace hx141_2:=(HB.out.cell (World.block_lt_of_cell? w _ hx141_2)).trans hx141_2
                  replace hx141_3:=(HB.out.cell (World.block_lt_of_cell? w _ hx141_3)).trans hx141_3
                  have HR141_3:=Aside0.mk hi141_3
                  have HC141_3:=Aside0.mk hl141_3
                  clear hi141_3 hl141_3
                  replace p141:=eq_true p141
                  replace q141:=eq_true q141
                  refine start_ (n:=12) (S:=fun w' => w'.cell? ⟨gb135,0,none⟩=some (.int .i64 a0_0)∧w'.cell? ⟨gb135,1,none⟩=some (.int .i64 a0_1)∧w'.cell? ⟨gb135,2,none⟩=some (.string a0_2)∧w'.cell? ⟨gb135,3,none⟩=some (.slice (some ad140) l0_3.length c0_3)∧w'.cell? ⟨gb136,0,none⟩=some (.int .i64 a1_0)∧w'.cell? ⟨gb136,1,none⟩=some (.int .i64 a1_1)∧w'.cell? ⟨gb136,2,none⟩=some (.string a1_2)∧w'.cell? ⟨gb136,3,none⟩=some (.slice (some ad141) l1_3.length c1_3)∧w'.cell? (ad140.add ((x5_3).toNat * 4))=some (.int .i64 ((rd_T24 l0_3 x5_3).f0))∧w'.cell? ⟨(ad140.add ((x5_3).toNat * 4)).block,(ad140.add ((x5_3).toNat * 4)).off+1,none⟩=some (.int .i64 ((rd_T24 l0_3 x5_3).f1))∧w'.cell? ⟨(ad140.add ((x5_3).toNat * 4)).block,(ad140.add ((x5_3).toNat * 4)).off+2,none⟩=some (.string ((rd_T24 l0_3 x5_3).f2))∧w'.cell? ⟨(ad140.add ((x5_3).toNat * 4)).block,(ad140.add ((x5_3).toNat * 4)).off+3,none⟩=some (.slice A140_3 ((rd_T24 l0_3 x5_3).f3).length c140_3)∧w'.cell? (ad141.add ((x5_3).toNat * 4))=some (.int .i64 ((rd_T24 l1_3 x5_3).f0))∧w'.cell? ⟨(ad141.add ((x5_3).toNat * 4)).block,(ad141.add ((x5_3).toNat * 4)).off+1,none⟩=some (.int .i64 ((rd_T24 l1_3 x5_3).f1))∧w'.cell? ⟨(ad141.add ((x5_3).toNat * 4)).block,(ad141.add ((x5_3).toNat * 4)).off+2,none⟩=some (.string ((rd_T24 l1_3 x5_3).f2))∧w'.cell? ⟨(ad141.add ((x5_3).toNat * 4)).block,(ad141.add ((x5_3).toNat * 4)).off+3,none⟩=some (.slice A141_3 ((rd_T24 l1_3 x5_3).f3).length c141_3)) (ds:=[]) #[false,false,false,false,false,false,false,false,false,false,false,false] (by kernel_rfl) rfl rfl ⟨(blk_cell BK135.out 0).trans rfl,(blk_cell BK135.out 1).trans rfl,(blk_cell BK135.out 2).trans rfl,(blk_cell BK135.out 3).trans rfl,(blk_cell BK136.out 0).trans rfl,(blk_cell BK136.out 1).trans rfl,(blk_cell BK136.out 2).trans rfl,(blk_cell BK136.out 3).trans rfl,((HB.out.cell (World.block_lt_of_cell? w _ hw140_0)).trans hw140_0),((HB.out.cell (World.block_lt_of_cell? w _ hw140_1)).trans hw140_1),((HB.out.cell (World.block_lt_of_cell? w _ hw140_2)).trans hw140_2),((HB.out.cell (World.block_lt_of_cell? w _ hw140_3)).trans hw140_3),((HB.out.cell (World.block_lt_of_cell? w _ hw141_0)).trans hw141_0),((HB.out.cell (World.block_lt_of_cell? w _ hw141_1)).trans hw141_1),((HB.out.cell (World.block_lt_of_cell? w _ hw141_2)).trans hw141_2),((HB.out.cell (World.block_lt_of_cell? w _ hw141_3)).trans hw141_3)⟩ (fun hHeld => ?_);refine with_tabW spinneyref01_Compare.tab15 spinneyref01_Compare.bits15 (fun HT_ HW_ => ?_)
                  generalize wc.drew=w40 at BK135 BK136 HB HR140_3 HR141_3 hx140_0 hx140_1 hx140_2 hx140_3 hx141_0 hx141_1 hx141_2 hx141_3 hHeld ⊢
                  refine pure_ (i:=0) (N:=some 65) (v:=?_) (a':=?_) #[true,false,false,false,false,false,false,false,false,false,false,false] rfl rfl (any_of HT_.out (by kernel_rfl)) (fun _ _ _ h => h) (Or.inl ⟨by rfl,?_⟩) ?_ ?_
                  rotate_left
                  ·intro w'
                   go_simp
                   with_reducible rfl
                  rotate_left
                  ·simp only [Act.put,List.setIfInBounds_toArray,List.set_cons_zero,List.set_cons_succ,i64_w,i32_w]
                   rfl
                  refine pure_ (i:=2) (N:=some 67) (v:=?_) (a':=?_) #[true,false,true,false,false,false,false,false,false,false,false,false] rfl rfl (any_of HT_.out (by kernel_rfl)) (fun _ _ _ h => h) (Or.inl ⟨by rfl,?_⟩) ?_ ?_
                  rotate_left
                  ·intro w'
                   go_simp
                   with_reducible rfl
                  rotate_left
                  ·simp only [Act.put,List.setIfInBounds_toArray,List.set_cons_zero,List.set_cons_succ,i64_w,i32_w]
                   rfl
                  refine pure_ (i:=5) (N:=some 70) (v:=?_) (a':=?_) #[true,false,true,false,false,true,false,false,false,false,false,false] rfl rfl (any_of HT_.out (by kernel_rfl)) (fun _ _ _ h => h) (Or.inl ⟨by rfl,?_⟩) ?_ ?_
                  rotate_left
                  ·intro w'
                   go_simp
                   with_reducible rfl
                  rotate_left
                  ·simp only [Act.put,List.setIfInBounds_toArray,List.set_cons_zero,List.set_cons_succ,i64_w,i32_w]
                   rfl
                  refine pure_ (i:=7) (N:=some 72) (v:=?_) (a':=?_) #[true,false,true,false,false,true,false,true,false,false,false,false] rfl rfl (any_of HT_.out (by kernel_rfl)) (fun _ _ _ h => h) (Or.inl ⟨by rfl,?_⟩) ?_ ?_
                  rotate_left
                  ·intro w'
                   go_simp
                   with_reducible rfl
                  rotate_left
                  ·simp only [Act.put,List.setIfInBounds_toArray,List.set_cons_zero,List.set_cons_succ,i64_w,i32_w]
                   rfl
                  refine take_ (i:=1) (N:=some 66) (v:=?_) (a':=?_) #[true,true,true,false,false,true,false,true,false,false,false,false] rfl rfl (take_ofW HT_.out HW_.out (by kernel_rfl)) (fun _ _ _ h => h) (Or.inl ⟨by rfl,?_⟩) hHeld ?_ ?_
                  rotate_left
                  ·rintro w' ⟨s0,s1,s2,s3,s4,s5,s6,s7,s8,s9,s10,s11,s12,s13,s14,s15⟩
                   go_simp
                   with_reducible rfl
                  rotate_left
                  ·simp only [Act.put,List.setIfInBounds_toArray,List.set_cons_zero,List.set_cons_succ,i64_w,i32_w]
                   rfl
                  refine pure_ (i:=3) (N:=some 68) (v:=?_) (a':=?_) #[true,true,true,true,false,true,false,true,false,false,false,false] rfl rfl (any_of HT_.out (by kernel_rfl)) (fun _ _ _ h => h) (Or.inl ⟨by rfl,?_⟩) ?_ ?_
                  rotate_left
                  ·intro w'
                   go_simp
                   with_reducible rfl
                  rotate_left
                  ·simp only [Act.put,List.setIfInBounds_toArray,List.set_cons_zero,List.set_cons_succ,i64_w,i32_w]
                   rfl
                  refine take_ (i:=4) (N:=some 69) (v:=?_) (a':=?_) #[true,true,true,true,true,true,false,true,false,false,false,false] rfl rfl (take_ofW HT_.out HW_.out (by kernel_rfl)) (fun _ _ _ h => h) (Or.inl ⟨by rfl,?_⟩) hHeld ?_ ?_
                  rotate_left
                  ·rintro w' ⟨s0,s1,s2,s3,s4,s5,s6,s7,s8,s9,s10,s11,s12,s13,s14,s15⟩
                   go_simp
                   with_reducible rfl
                  rotate_left
                  ·simp only [Act.put,List.setIfInBounds_toArray,List.set_cons_zero,List.set_cons_succ,i64_w,i32_w]
                   rfl
                  refine take_ (i:=6) (N:=some 71) (v:=?_) (a':=?_) #[true,true,true,true,true,true,true,true,false,false,false,false] rfl rfl (take_ofW HT_.out HW_.out (by kernel_rfl)) (fun _ _ _ h => h) (Or.inl ⟨by rfl,?_⟩) hHeld ?_ ?_
                  rotate_left
                  ·rintro w' ⟨s0,s1,s2,s3,s4,s5,s6,s7,s8,s9,s10,s11,s12,s13,s14,s15⟩
                   go_simp
                   with_reducible rfl
                  rotate_left
                  ·simp only [Act.put,List.setIfInBounds_toArray,List.set_cons_zero,List.set_cons_succ,i64_w,i32_w]
                   rfl
                  refine pure_ (i:=8) (N:=some 73) (v:=?_) (a':=?_) #[true,true,true,true,true,true,true,true,true,false,false,false] rfl rfl (any_of HT_.out (by kernel_rfl)) (fun _ _ _ h => h) (Or.inl ⟨by rfl,?_⟩) ?_ ?_
                  rotate_left
                  ·intro w'
                   go_simp
                   with_reducible rfl
                  rotate_left
                  ·simp only [Act.put,List.setIfInBounds_toArray,List.set_cons_zero,List.set_cons_succ,i64_w,i32_w]
                   rfl
                  refine take_ (i:=9) (N:=some 74) (v:=?_) (a':=?_) #[true,true,true,true,true,true,true,true,true,true,false,false] rfl rfl (take_ofW HT_.out HW_.out (by kernel_rfl)) (fun _ _ _ h => h) (Or.inl ⟨by rfl,?_⟩) hHeld ?_ ?_
                  rotate_left
                  ·rintro w' ⟨s0,s1,s2,s3,s4,s5,s6,s7,s8,s9,s10,s11,s12,s13,s14,s15⟩
                   go_simp
                   with_reducible rfl
                  rotate_left
                  ·simp only [Act.put,List.setIfInBounds_toArray,List.set_cons_zero,List.set_cons_succ,i64_w,i32_w]
                   rfl
                  refine one_ (i:=10) (N:=some 75) #[true,true,true,true,true,true,true,true,true,true,true,false] rfl rfl (one_of HT_.out (by kernel_rfl)) (by decide) (fun K hK => ?_)
                  refine goes_ Tryd.func48 (by kernel_rfl) rfl #[.agg #[.int .i64 ((rd_T24 l0_3 x5_3).f0),.int .i64 ((rd_T24 l0_3 x5_3).f1),.string ((rd_T24 l0_3 x5_3).f2),.slice A140_3 ((rd_T24 l0_3 x5_3).f3).length c140_3],.agg #[.int .i64 ((rd_T24 l1_3 x5_3).f0),.int .i64 ((rd_T24 l1_3 x5_3).f1),.string ((rd_T24 l1_3 x5_3).f2),.slice A141_3 ((rd_T24 l1_3 x5_3).f3).length c141_3]] (by rfl) rfl rfl (by (try simp only [List.map_toArray,List.map_cons,List.map_nil]);first|done|rfl|(simp only [List.length_drop,List.length_take];rfl)|(simp only [gt_iff_lt,Int.ofNat_lt];rfl)) ?_
                  with_reducible refine (ih kj24 (by have:=HJ3.out;have:=HJ20.out;have:=HK3.out;have:=HJ24.out;omega) ((rd_T24 l0_3 x5_3).f0) ((rd_T24 l0_3 x5_3).f1) ((rd_T24 l0_3 x5_3).f2) _ _ ((rd_T24 l0_3 x5_3).f3) ((rd_T24 l1_3 x5_3).f0) ((rd_T24 l1_3 x5_3).f1) ((rd_T24 l1_3 x5_3).f2) _ _ ((rd_T24 l1_3 x5_3).f3) t142 _ ?side1 ?side2 ?side3 ?side4 A36.out).mono ?_
                  (case side1 => repeat (first|exact (Kd.C_below HR140_3.out HB.out)|(with_reducible refine Kd.C_alloc ?_ _)|(with_reducible refine Kd.C_drewN ?_ _)|(with_reducible refine Kd.C_drew ?_)))
                  (case side2 => exact HC140_3.out)
                  (case side3 => repeat (first|exact (Kd.C_below HR141_3.out HB.out)|(with_reducible refine Kd.C_alloc ?_ _)|(with_reducible refine Kd.C_drewN ?_ _)|(with_reducible refine Kd.C_drew ?_)))
                  (case side4 => exact HC141_3.out)
                  rintro e w41 ⟨rfl,hb⟩
                  refine ⟨_,rfl,?_⟩
                  replace BK135:=ca_b BK135 hb;replace BK136:=ca_b BK136 hb;replace HB:=ca_h HB hb
                  (try clear hb)
                  (try clear hb2)
                  (try clear hk)
                  (try clear hi)
                  refine hK.out _ _ ⟨(blk_cell BK135.out 0).trans rfl,(blk_cell BK135.out 1).trans rfl,(blk_cell BK135.out 2).trans rfl,(blk_cell BK135.out 3).trans rfl,(blk_cell BK136.out 0).trans rfl,(blk_cell BK136.out 1).trans rfl,(blk_cell BK136.out 2).trans rfl,(blk_cell BK136.out 3).trans rfl,((HB.out.cell (World.block_lt_of_cell? w _ hw140_0)).trans hw140_0),((HB.out.cell (World.block_lt_of_cell? w _ hw140_1)).trans hw140_1),((HB.out.cell (World.block_lt_of_cell? w _ hw140_2)).trans hw140_2),((HB.out.cell (World.block_lt_of_cell? w _ hw140_3)).trans hw140_3),((HB.out.cell (World.block_lt_of_cell? w _ hw141_0)).trans hw141_0),((HB.out.cell (World.block_lt_of_cell? w _ hw141_1)).trans hw141_1),((HB.out.cell (World.block_lt_of_cell? w _ hw141_2)).trans hw141_2),((HB.out.cell (World.block_lt_of_cell? w _ hw141_3)).trans hw141_3)⟩ (fun hHeld => ?_)
                  clear hK K
                  refine norm_ (a':=?_) ?_ ?_
                  rotate_left
                  ·show Act.put _ (some 75) _=_
                   simp only [Act.put,List.setIfInBounds_toArray,List.set_cons_zero,List.set_cons_succ,i64_w,i32_w]
                   rfl
                  refine pure_ (i:=11) (N:=some 6) (v:=?_) (a':=?_) #[true,true,true,true,true,true,true,true,true,true,true,true] rfl rfl (any_of HT_.out (by kernel_rfl)) (fun _ _ _ h => h) (Or.inl ⟨by rfl,?_⟩) ?_ ?_
                  rotate_left
                  ·intro w'
                   go_simp
                   with_reducible rfl
                  rotate_left
                  ·simp only [Act.put,List.setIfInBounds_toArray,List.set_cons_zero,List.set_cons_succ,i64_w,i32_w]
                   rfl
                  refine done_ (done_of HT_.out (by kernel_rfl)) ?_
                  try go_wp2
                  go_ret
                  exact ⟨by first|rfl|(simp [errW_none,errW_some] <;> rfl)|(simp [*,errW_none,errW_some] <;> rfl),by repeat (first|(with_reducible first|exact HB.out|apply below_alloc|apply pw_below_drewN|apply below_drew1|refine below_set ?_ GE135.out|refine below_set ?_ GE136.out)|exact HB.out)⟩
                ·rw [if_neg c35] at H
                 exact absurd H (by simp)
               ·rw [if_neg c34] at H
                exact absurd H (by simp)
              ·rw [if_neg c33] at H
               exact absurd H (by simp)
             ·replace c32:=Bool.eq_false_iff.mpr c32
              subst c32
              have H1:((spinneyref01_sign.f (decide ((l0_3.length:Int) < (l1_3.length:Int))) (decide ((l0_3.length:Int) > (l1_3.length:Int)))).bind fun t143 => (some t143))=some r:=by rw [if_neg (show ¬ (false=true) by decide)] at H;exact H
              clear H
              have H:=H1
              clear H1
              replace H:=Option.bind_eq_some_iff.mp H
              obtain ⟨t143,A420,H⟩:=H
              replace H:(some t143)=some r:=H
              have A42:=Aside0.mk A420
              clear A420
              obtain rfl:=Option.some.inj H
              have hnb43:=NB135_136.out
              have hnc43:=NB136_135.out
              have hcz44_0:wc.cell? ⟨gb135,0,none⟩=some (.int .i64 a0_0):=(blk_cell BK135.out 0).trans rfl;have hcz44_1:wc.cell? ⟨gb135,1,none⟩=some (.int .i64 a0_1):=(blk_cell BK135.out 1).trans rfl;have hcz44_2:wc.cell? ⟨gb135,2,none⟩=some (.string a0_2):=(blk_cell BK135.out 2).trans rfl;have hcz44_3:wc.cell? ⟨gb135,3,none⟩=some (.slice A0_3 l0_3.length c0_3):=(blk_cell BK135.out 3).trans rfl;have hfz44_0:=blk_frozen BK135.out 0;have hfz44_1:=blk_frozen BK135.out 1;have hfz44_2:=blk_frozen BK135.out 2;have hfz44_3:=blk_frozen BK135.out 3;have hcz45_0:wc.cell? ⟨gb136,0,none⟩=some (.int .i64 a1_0):=(blk_cell BK136.out 0).trans rfl;have hcz45_1:wc.cell? ⟨gb136,1,none⟩=some (.int .i64 a1_1):=(blk_cell BK136.out 1).trans rfl;have hcz45_2:wc.cell? ⟨gb136,2,none⟩=some (.string a1_2):=(blk_cell BK136.out 2).trans rfl;have hcz45_3:wc.cell? ⟨gb136,3,none⟩=some (.slice A1_3 l1_3.length c1_3):=(blk_cell BK136.out 3).trans rfl;have hfz45_0:=blk_frozen BK136.out 0;have hfz45_1:=blk_frozen BK136.out 1;have hfz45_2:=blk_frozen BK136.out 2;have hfz45_3:=blk_frozen BK136.out 3
              go_wp2_with (first|((with_reducible refine gate_callee (f:=69) rfl ?_);refine goesL_ (some 93) rfl rfl Tryd.func69 (by kernel_rfl) rfl #[.bool (decide ((l0_3.length:Int) < (l1_3.length:Int))),.bool (decide ((l0_3.length:Int) > (l1_3.length:Int)))] rfl (by (try simp only [List.map_toArray,List.map_cons,List.map_nil]);first|done|rfl|(simp only [List.length_drop,List.length_take];rfl)|(simp only [gt_iff_lt,Int.ofNat_lt];rfl)) ?_;(with_reducible refine (spinneyref01_sign.calls (decide ((l0_3.length:Int) < (l1_3.length:Int))) (decide ((l0_3.length:Int) > (l1_3.length:Int))) t143 _ A42.out).mono ?_);rintro e w' ⟨rfl,⟨nd,rfl⟩⟩;refine ⟨_,rfl,?_⟩))
              go_ret
              exact ⟨by first|rfl|(simp [errW_none,errW_some] <;> rfl)|(simp [*,errW_none,errW_some] <;> rfl),by repeat (first|(with_reducible first|exact HB.out|apply below_alloc|apply pw_below_drewN|apply below_drew1|refine below_set ?_ GE135.out|refine below_set ?_ GE136.out)|exact HB.out)⟩
        ·replace c24:=Bool.eq_false_iff.mpr c24
         subst c24
         have H1:(some 0)=some r:=by rw [if_neg (show ¬ (false=true) by decide)] at H;exact H
         clear H
         have H:=H1
         clear H1
         obtain rfl:=Option.some.inj H
         go_wp2
         go_ret
         exact ⟨by first|rfl|(simp [errW_none,errW_some] <;> rfl)|(simp [*,errW_none,errW_some] <;> rfl),by repeat (first|(with_reducible first|exact HB.out|apply below_alloc|apply pw_below_drewN|apply below_drew1|refine below_set ?_ GE135.out|refine below_set ?_ GE136.out)|exact HB.out)⟩
 ·rw [if_neg c3] at H
  have c3b0:(a0_0 == a1_0)=false:=beq_eq_false_iff_ne.mpr c3
  have c3b1:(a0_0 != a1_0)=true:=bne_iff_ne.mpr c3
  replace H:=Option.bind_eq_some_iff.mp H
  obtain ⟨t137,A460,H⟩:=H
  replace H:(some t137)=some r:=H
  have A46:=Aside0.mk A460
  clear A460
  obtain rfl:=Option.some.inj H
  go_enter Tryd.func48,Tryd.ntmps48
  go_wp2_with (first|((with_reducible refine gate_dst (N:=2) rfl ?_);(try (refine gate_guard (by rfl) ?_;dsimp only));refine box_event ?hg (N:=2) ?hd (cs:=#[.int .i64 a0_0,.int .i64 a0_1,.string a0_2,.slice A0_3 l0_3.length c0_3]) (t:=24) ?hr ?_;(case hd => rfl);(case hg => rfl);(case hr => first|(go_simp;done)|(go_simp;rfl));intro gb135 hg w47 hbox hb;have BK135:=Aside0.mk (hbox);have GW135:=bx_g (up_h HB) hg;have GE135:=bx_g (up_h HB) hg;replace HB:=ca_h HB hb;clear hb hbox hg)|((with_reducible refine gate_dst (N:=3) rfl ?_);(try (refine gate_guard (by rfl) ?_;dsimp only));refine box_event ?hg (N:=3) ?hd (cs:=#[.int .i64 a1_0,.int .i64 a1_1,.string a1_2,.slice A1_3 l1_3.length c1_3]) (t:=24) ?hr ?_;(case hd => rfl);(case hg => rfl);(case hr => first|(go_simp;done)|(go_simp;rfl));intro gb136 hg w48 hbox hb;have BK136:=Aside0.mk (hbox);have GW136:=bx_g (up_h HB) hg;have GE136:=bx_g (up_h HB) hg;have NB135_136:=bx_n (up_b BK135) hg;have NB136_135:=bx_m (up_b BK135) hg;replace BK135:=ca_b BK135 hb;replace HB:=ca_h HB hb;clear hb hbox hg;have hnb49:=NB135_136.out;have hnc49:=NB136_135.out;obtain ⟨hcz50_0,hcz50_1,hcz50_2,hcz50_3,hfz50_0,hfz50_1,hfz50_2,hfz50_3⟩:=bk4 BK135;obtain ⟨hcz51_0,hcz51_1,hcz51_2,hcz51_3,hfz51_0,hfz51_1,hfz51_2,hfz51_3⟩:=bk4 BK136)|((with_reducible refine gate_callee (f:=69) rfl ?_);refine goesL_ (some 17) rfl rfl Tryd.func69 (by kernel_rfl) rfl #[.bool (decide (a0_0 < a1_0)),.bool true] rfl (by (try simp only [List.map_toArray,List.map_cons,List.map_nil]);first|done|rfl|(simp only [List.length_drop,List.length_take];rfl)|(simp only [gt_iff_lt,Int.ofNat_lt];rfl)) ?_;(with_reducible refine (spinneyref01_sign.calls (decide (a0_0 < a1_0)) true t137 _ A46.out).mono ?_);rintro e w' ⟨rfl,⟨nd,rfl⟩⟩;refine ⟨_,rfl,?_⟩))
  go_ret
  exact ⟨by first|rfl|(simp [errW_none,errW_some] <;> rfl)|(simp [*,errW_none,errW_some] <;> rfl),by repeat (first|(with_reducible first|exact HB.out|apply below_alloc|apply pw_below_drewN|apply below_drew1|refine below_set ?_ GE135.out|refine below_set ?_ GE136.out)|exact HB.out)⟩

end Go.Proofs.YtgmmoagclkmeaaaDoor.XH
