-- cut down by bundle.py (the session's own program) from the texts YtgmmoagclkmeaaaDoorXH9, to what this claim names
import Derived.Test.YtgmmoagclkmeaaaDoorZFnsOneXH0
import Derived.Test.YtgmmoagclkmeaaaDoorZFnsOneXH6
import Derived.Test.YtgmmoagclkmeaaaDoorZFnsOneXH7
-- laid by xprint.py (the session's own program) out of the translation; Lean checks it
namespace Go.Proofs.YtgmmoagclkmeaaaDoor.XH
open Go.RowKit Go.Proofs.YtgmmoagclkmeaaaDoorW.PrintWords Go.Proofs.YtgmmoagclkmeaaaDoorW.PrintLast Go.Proofs.YtgmmoagclkmeaaaDoorW.PrintMore
attribute [local go_sem] max2_int min2_int max_two min_two max_three min_three max_four min_four   -- for this text's walks alone
set_option linter.unusedVariables false
set_option linter.unusedSimpArgs false

mutual
def spinneyref01_own.j0:Nat→Bool→Int→Int→ByteArray→List (S24)→Option (Bool)
 | 0,_,_,_,_,_ => none
 | k+1,x12,x146000,x146001,x146002,x146003 => if x12=true then (some false) else (if x146000=2 then (spinneyref01_own.j1 k false x146000 x146001 x146002 x146003) else (if x146001=0 then (spinneyref01_own.j1 k false x146000 x146001 x146002 x146003) else (if x146000=1 then (spinneyref01_own.j1 k (!(x146001 == 1)) x146000 x146001 x146002 x146003) else (spinneyref01_own.j1 k (!false) x146000 x146001 x146002 x146003))))
def spinneyref01_own.j1:Nat→Bool→Int→Int→ByteArray→List (S24)→Option (Bool)
 | 0,_,_,_,_,_ => none
 | k+1,x31,x146000,x146001,x146002,x146003 => if x31=true then (some false) else (if x146000=3 then (if (x146002.size:Int)≤256 then ((spinneyref01_Letters.f k x146002).bind fun t146 => (if t146 ≥ 0 then (some ((x146003.length:Int) == 0)) else (some false))) else (some false)) else (if x146002.toList=([]:List UInt8) then ((spinneyref01_coll.f x146000).bind fun t147 => (if t147=true then (spinneyref01_own.j2 k false x146000 x146001 x146002 x146003) else (spinneyref01_own.j2 k (decide ((x146003.length:Int) > 0)) x146000 x146001 x146002 x146003))) else (spinneyref01_own.j2 k true x146000 x146001 x146002 x146003)))
def spinneyref01_own.j2:Nat→Bool→Int→Int→ByteArray→List (S24)→Option (Bool)
 | 0,_,_,_,_,_ => none
 | k+1,x65,x146000,x146001,x146002,x146003 => if x65=true then (some false) else (if x146000=6 then (spinneyref01_own.j3 k 2 x146000 x146001 x146002 x146003) else (spinneyref01_own.j3 k 1 x146000 x146001 x146002 x146003))
def spinneyref01_own.j3:Nat→Int→Int→Int→ByteArray→List (S24)→Option (Bool)
 | 0,_,_,_,_,_ => none
 | k+1,x3,x146000,x146001,x146002,x146003 => if x3=0 then (none) else (if ((x146003.length:Int) % x3)=0 then (if x146000=4 then (some true) else (spinneyref01_own.l0 k x3 x3 x146000 x146001 x146002 x146003)) else (some false))
def spinneyref01_own.l0:Nat→Int→Int→Int→Int→ByteArray→List (S24)→Option (Bool)
 | 0,_,_,_,_,_,_ => none
 | k+1,x3,x4,x146000,x146001,x146002,x146003 => if x4 < (x146003.length:Int) then (if 0≤(wrap64 (x4 - x3)) then (if (wrap64 (x4 - x3)) < (x146003.length:Int) then (if 0≤x4 then ((spinneyref01_Compare.f k ((rd_T24 x146003 (wrap64 (x4 - x3))).f0) ((rd_T24 x146003 (wrap64 (x4 - x3))).f1) ((rd_T24 x146003 (wrap64 (x4 - x3))).f2) ((rd_T24 x146003 (wrap64 (x4 - x3))).f3) ((rd_T24 x146003 x4).f0) ((rd_T24 x146003 x4).f1) ((rd_T24 x146003 x4).f2) ((rd_T24 x146003 x4).f3)).bind fun t150 => (if t150 ≥ 0 then (some false) else (spinneyref01_own.l0 k x3 (wrap64 (x4+x3)) x146000 x146001 x146002 x146003))) else (none)) else (none)) else (none)) else (some true)
end
def spinneyref01_own.f (k:Nat) (a0_0:Int) (a0_1:Int) (a0_2:ByteArray) (l0_3:List (S24)):Option (Bool):=if a0_0 < 0 then (spinneyref01_own.j0 k true a0_0 a0_1 a0_2 l0_3) else (spinneyref01_own.j0 k (decide (a0_0 > 6)) a0_0 a0_1 a0_2 l0_3)
def spinneyref01_own.T18:Bool × List (List Nat × List Nat):=(true,[([],[]),([0],[0]),([],[]),([],[]),([2,3],[2,3]),([1,4],[1,4]),([5],[5]),([],[]),([7],[7]),([],[]),([8,9],[8,9]),([10],[10]),([6,11],[6,11]),([12],[12])])
def spinneyref01_own.B18:List Nat:=[0,1,0,0,12,31,63,0,128,0,896,1920,4095,8191]
theorem spinneyref01_own.tab18:rtab .any (opsOf Tryd.f64 18)=spinneyref01_own.T18:=by kernel_rfl
theorem spinneyref01_own.bits18:waitsOk spinneyref01_own.T18.2 spinneyref01_own.B18=true:=by kernel_rfl
set_option maxHeartbeats 8000000 in
set_option maxRecDepth 100000 in
theorem spinneyref01_own.calls (k:Nat) (a0_0:Int) (a0_1:Int) (a0_2:ByteArray) (A0_3:Option Addr) (c0_3:Nat) (l0_3:List (S24)) (r:Bool) (w:World) (hr0_3:Kd.C k24 w A0_3 l0_3.length l0_3) (hc0_3:l0_3.length≤c0_3) (h:spinneyref01_own.f k a0_0 a0_1 a0_2 l0_3=some r) :
  Calls Tryd.prog 64 #[.agg #[.int .i64 a0_0,.int .i64 a0_1,.string a0_2,.slice A0_3 l0_3.length c0_3]] w fun e w' => e=.returned (.bool r)∧Below w.heap.size w w':=by
 have hu24:=Tryd.underlying24
 have HR0_3:=Aside0.mk hr0_3
 have HC0_3:=Aside0.mk hc0_3
 clear hr0_3 hc0_3
 have HB:=Aside0.mk (Below.refl w.heap.size w)
 have H:(if a0_0 < 0 then (spinneyref01_own.j0 k true a0_0 a0_1 a0_2 l0_3) else (spinneyref01_own.j0 k (decide (a0_0 > 6)) a0_0 a0_1 a0_2 l0_3))=some r:=h
 clear h
 have HC2:=Aside0.mk H
 clear H
 go_enter Tryd.func64,Tryd.ntmps64
 go_upto_region 1 with (first|((with_reducible refine gate_dst (N:=1) rfl ?_);(try (refine gate_guard (by rfl) ?_;dsimp only));refine box_event ?hg (N:=1) ?hd (cs:=#[.int .i64 a0_0,.int .i64 a0_1,.string a0_2,.slice A0_3 l0_3.length c0_3]) (t:=24) ?hr ?_;(case hd => rfl);(case hg => rfl);(case hr => first|(go_simp;done)|(go_simp;rfl));intro gb145 hg w3 hbox hb;have BK145:=Aside0.mk (hbox);have GW145:=Aside0.mk ((by rw [hg];exact (below_size (by repeat (first|(with_reducible first|exact HB.out|apply below_alloc|apply pw_below_drewN|apply below_drew1)|exact HB.out))):w.heap.size≤gb145));have GE145:=Aside0.mk ((by rw [hg];exact (below_size (by repeat (first|(with_reducible first|exact HB.out|apply below_alloc|apply pw_below_drewN|apply below_drew1)|exact HB.out))):w.heap.size≤gb145));replace HB:=Aside0.mk (below_step (by repeat (first|(with_reducible first|exact HB.out|apply below_alloc|apply pw_below_drewN|apply below_drew1)|exact HB.out)) hb);clear hb hbox hg))
 (try simp only [Act.put,List.setIfInBounds_toArray,List.set_cons_zero,List.set_cons_succ])
 go_cut [12] (fun v12 wc => ∃ (kq:Nat) (x12_1:Bool),v12=.bool x12_1∧Aside0 (spinneyref01_own.j0 kq x12_1 a0_0 a0_1 a0_2 l0_3=some r)∧Aside0 (kq≤k)∧Aside0 (wc.heap[gb145]? = some (.cells #[.int .i64 a0_0,.int .i64 a0_1,.string a0_2,(.slice A0_3 l0_3.length c0_3)] 24 (0,0)))∧Aside0 (Below w.heap.size w wc))
 case first =>
  have H:=HC2.out
  clear HC2
  by_cases c4:a0_0 < 0
  ·rw [if_pos c4] at H
   have c4b0:decide (a0_0 < 0)=true:=decide_eq_true c4
   clear c4
   (first|rw [c4b0]|(simp only [i64_w,i32_w];rw [c4b0])|skip)
   have H':=Aside0.mk H
   clear H
   obtain ⟨hcz5_0,hcz5_1,hcz5_2,hcz5_3,hfz5_0,hfz5_1,hfz5_2,hfz5_3⟩:=bk4 BK145
   go_wp2
   go_meet
   case rel => exact ⟨_,(true),(by first|rfl|(simp;done)|(simp [*];done)),H',⟨by first|omega|exact Nat.le_refl _⟩,⟨by (with_reducible repeat (first|refine blk_drewN ?_ _|refine blk_drew ?_|refine blk_alloc ?_ _));exact BK145.out⟩,⟨by repeat (first|(with_reducible first|exact HB.out|apply below_alloc|apply pw_below_drewN|apply below_drew1|refine below_set ?_ GE145.out)|exact HB.out)⟩⟩
  ·rw [if_neg c4] at H
   have c4b0:decide (a0_0 < 0)=false:=decide_eq_false c4
   clear c4
   (first|rw [c4b0]|(simp only [i64_w,i32_w];rw [c4b0])|skip)
   have H':=Aside0.mk H
   clear H
   obtain ⟨hcz6_0,hcz6_1,hcz6_2,hcz6_3,hfz6_0,hfz6_1,hfz6_2,hfz6_3⟩:=bk4 BK145
   go_wp2
   go_meet
   case rel => exact ⟨_,(decide (a0_0 > 6)),(by first|rfl|(simp;done)|(simp [*];done)),H',⟨by first|omega|exact Nat.le_refl _⟩,⟨by (with_reducible repeat (first|refine blk_drewN ?_ _|refine blk_drew ?_|refine blk_alloc ?_ _));exact BK145.out⟩,⟨by repeat (first|(with_reducible first|exact HB.out|apply below_alloc|apply pw_below_drewN|apply below_drew1|refine below_set ?_ GE145.out)|exact HB.out)⟩⟩
 case rest =>
  clear HC2
  try clear p2
  try clear c4
  try clear c4b0
  try clear c6
  try clear hcz5_0
  try clear hcz5_1
  try clear hcz5_2
  try clear hcz5_3
  try clear hcz6_0
  try clear hcz6_1
  try clear hcz6_2
  try clear hcz6_3
  try clear hfz5_0
  try clear hfz5_1
  try clear hfz5_2
  try clear hfz5_3
  try clear hfz6_0
  try clear hfz6_1
  try clear hfz6_2
  try clear hfz6_3
  obtain ⟨kq,x12_1,rfl,HA,HJ1,BK145,HB⟩:=hcut
  cases kq with
  | zero => exact absurd HA.out (by simp [spinneyref01_own.j0])
  | succ kj1 =>
   have H:=HA.out
   clear HA
   simp only [spinneyref01_own.j0] at H
   by_cases c7:x12_1=true
   ·subst c7
    have H1:(some false)=some r:=by rw [if_pos rfl] at H;exact H
    clear H
    have H:=H1
    clear H1
    obtain rfl:=Option.some.inj H
    go_wp2
    go_ret
    exact ⟨by first|rfl|(simp [errW_none,errW_some] <;> rfl)|(simp [*,errW_none,errW_some] <;> rfl),by repeat (first|(with_reducible first|exact HB.out|apply below_alloc|apply pw_below_drewN|apply below_drew1|refine below_set ?_ GE145.out)|exact HB.out)⟩
   ·replace c7:=Bool.eq_false_iff.mpr c7
    subst c7
    have H1:(if a0_0=2 then (spinneyref01_own.j1 kj1 false a0_0 a0_1 a0_2 l0_3) else (if a0_1=0 then (spinneyref01_own.j1 kj1 false a0_0 a0_1 a0_2 l0_3) else (if a0_0=1 then (spinneyref01_own.j1 kj1 (!(a0_1 == 1)) a0_0 a0_1 a0_2 l0_3) else (spinneyref01_own.j1 kj1 (!false) a0_0 a0_1 a0_2 l0_3))))=some r:=by rw [if_neg (show ¬ (false=true) by decide)] at H;exact H
    clear H
    have H:=H1
    clear H1
    have HC8:=Aside0.mk H
    clear H
    go_upto_region 3 with (fail)
    go_cut [31] (fun v31 wc => ∃ (kq:Nat) (x31_7:Bool),v31=.bool x31_7∧Aside0 (spinneyref01_own.j1 kq x31_7 a0_0 a0_1 a0_2 l0_3=some r)∧Aside0 (kq≤kj1)∧Aside0 (wc.heap[gb145]? = some (.cells #[.int .i64 a0_0,.int .i64 a0_1,.string a0_2,(.slice A0_3 l0_3.length c0_3)] 24 (0,0)))∧Aside0 (Below w.heap.size w wc))
    case first =>
     have H:=HC8.out
     clear HC8
     by_cases c9:a0_0=2
     ·rw [if_pos c9] at H
      have c9b0:(a0_0 == 2)=true:=beq_iff_eq.mpr c9
      have c9b1:(a0_0 != 2)=false:=bne_eq_false_iff_eq.mpr c9
      clear c9
      (first|rw [c9b0]|(simp only [i64_w,i32_w];rw [c9b0])|skip)
      have H':=Aside0.mk H
      clear H
      have hcz10_0:wc.cell? ⟨gb145,0,none⟩=some (.int .i64 a0_0):=(blk_cell BK145.out 0).trans rfl;have hcz10_1:wc.cell? ⟨gb145,1,none⟩=some (.int .i64 a0_1):=(blk_cell BK145.out 1).trans rfl;have hcz10_2:wc.cell? ⟨gb145,2,none⟩=some (.string a0_2):=(blk_cell BK145.out 2).trans rfl;have hcz10_3:wc.cell? ⟨gb145,3,none⟩=some (.slice A0_3 l0_3.length c0_3):=(blk_cell BK145.out 3).trans rfl;have hfz10_0:=blk_frozen BK145.out 0;have hfz10_1:=blk_frozen BK145.out 1;have hfz10_2:=blk_frozen BK145.out 2;have hfz10_3:=blk_frozen BK145.out 3
      go_wp2
      go_meet
      case rel => exact ⟨_,(false),(by first|rfl|(simp;done)|(simp [*];done)),H',⟨by have:=HJ1.out;first|omega|exact Nat.le_refl _⟩,⟨by (with_reducible repeat (first|refine blk_drewN ?_ _|refine blk_drew ?_|refine blk_alloc ?_ _));exact BK145.out⟩,⟨by repeat (first|(with_reducible first|exact HB.out|apply below_alloc|apply pw_below_drewN|apply below_drew1|refine below_set ?_ GE145.out)|exact HB.out)⟩⟩
     ·rw [if_neg c9] at H
      have c9b0:(a0_0 == 2)=false:=beq_eq_false_iff_ne.mpr c9
      have c9b1:(a0_0 != 2)=true:=bne_iff_ne.mpr c9
      (first|rw [c9b0]|(simp only [i64_w,i32_w];rw [c9b0])|skip)
      by_cases c11:a0_1=0
      ·rw [if_pos c11] at H
       have c11b0:(a0_1 == 0)=true:=beq_iff_eq.mpr c11
       have c11b1:(a0_1 != 0)=false:=bne_eq_false_iff_eq.mpr c11
       clear c11
       have H':=Aside0.mk H
       clear H
       have hcz12_0:wc.cell? ⟨gb145,0,none⟩=some (.int .i64 a0_0):=(blk_cell BK145.out 0).trans rfl;have hcz12_1:wc.cell? ⟨gb145,1,none⟩=some (.int .i64 a0_1):=(blk_cell BK145.out 1).trans rfl;have hcz12_2:wc.cell? ⟨gb145,2,none⟩=some (.string a0_2):=(blk_cell BK145.out 2).trans rfl;have hcz12_3:wc.cell? ⟨gb145,3,none⟩=some (.slice A0_3 l0_3.length c0_3):=(blk_cell BK145.out 3).trans rfl;have hfz12_0:=blk_frozen BK145.out 0;have hfz12_1:=blk_frozen BK145.out 1;have hfz12_2:=blk_frozen BK145.out 2;have hfz12_3:=blk_frozen BK145.out 3
       go_wp2
       go_meet
       case rel => exact ⟨_,(false),(by first|rfl|(simp;done)|(simp [*];done)),H',⟨by have:=HJ1.out;first|omega|exact Nat.le_refl _⟩,⟨by (with_reducible repeat (first|refine blk_drewN ?_ _|refine blk_drew ?_|refine blk_alloc ?_ _));exact BK145.out⟩,⟨by repeat (first|(with_reducible first|exact HB.out|apply below_alloc|apply pw_below_drewN|apply below_drew1|refine below_set ?_ GE145.out)|exact HB.out)⟩⟩
      ·rw [if_neg c11] at H
       have c11b0:(a0_1 == 0)=false:=beq_eq_false_iff_ne.mpr c11
       have c11b1:(a0_1 != 0)=true:=bne_iff_ne.mpr c11
       by_cases c13:a0_0=1
       ·rw [if_pos c13] at H
        have c13b0:(a0_0 == 1)=true:=beq_iff_eq.mpr c13
        have c13b1:(a0_0 != 1)=false:=bne_eq_false_iff_eq.mpr c13
        clear c13
        have H':=Aside0.mk H
        clear H
        have hcz14_0:wc.cell? ⟨gb145,0,none⟩=some (.int .i64 a0_0):=(blk_cell BK145.out 0).trans rfl;have hcz14_1:wc.cell? ⟨gb145,1,none⟩=some (.int .i64 a0_1):=(blk_cell BK145.out 1).trans rfl;have hcz14_2:wc.cell? ⟨gb145,2,none⟩=some (.string a0_2):=(blk_cell BK145.out 2).trans rfl;have hcz14_3:wc.cell? ⟨gb145,3,none⟩=some (.slice A0_3 l0_3.length c0_3):=(blk_cell BK145.out 3).trans rfl;have hfz14_0:=blk_frozen BK145.out 0;have hfz14_1:=blk_frozen BK145.out 1;have hfz14_2:=blk_frozen BK145.out 2;have hfz14_3:=blk_frozen BK145.out 3
        go_wp2
        go_meet
        case rel => exact ⟨_,(!(a0_1 == 1)),(by first|rfl|(simp;done)|(simp [*];done)),H',⟨by have:=HJ1.out;first|omega|exact Nat.le_refl _⟩,⟨by (with_reducible repeat (first|refine blk_drewN ?_ _|refine blk_drew ?_|refine blk_alloc ?_ _));exact BK145.out⟩,⟨by repeat (first|(with_reducible first|exact HB.out|apply below_alloc|apply pw_below_drewN|apply below_drew1|refine below_set ?_ GE145.out)|exact HB.out)⟩⟩
       ·rw [if_neg c13] at H
        have c13b0:(a0_0 == 1)=false:=beq_eq_false_iff_ne.mpr c13
        have c13b1:(a0_0 != 1)=true:=bne_iff_ne.mpr c13
        have H':=Aside0.mk H
        clear H
        have hcz15_0:wc.cell? ⟨gb145,0,none⟩=some (.int .i64 a0_0):=(blk_cell BK145.out 0).trans rfl;have hcz15_1:wc.cell? ⟨gb145,1,none⟩=some (.int .i64 a0_1):=(blk_cell BK145.out 1).trans rfl;have hcz15_2:wc.cell? ⟨gb145,2,none⟩=some (.string a0_2):=(blk_cell BK145.out 2).trans rfl;have hcz15_3:wc.cell? ⟨gb145,3,none⟩=some (.slice A0_3 l0_3.length c0_3):=(blk_cell BK145.out 3).trans rfl;have hfz15_0:=blk_frozen BK145.out 0;have hfz15_1:=blk_frozen BK145.out 1;have hfz15_2:=blk_frozen BK145.out 2;have hfz15_3:=blk_frozen BK145.out 3
        go_wp2
        go_meet
        case rel => exact ⟨_,(!false),(by first|rfl|(simp;done)|(simp [*];done)),H',⟨by have:=HJ1.out;first|omega|exact Nat.le_refl _⟩,⟨by (with_reducible repeat (first|refine blk_drewN ?_ _|refine blk_drew ?_|refine blk_alloc ?_ _));exact BK145.out⟩,⟨by repeat (first|(with_reducible first|exact HB.out|apply below_alloc|apply pw_below_drewN|apply below_drew1|refine below_set ?_ GE145.out)|exact HB.out)⟩⟩
    case rest =>
     clear HC8
     try clear c1
     try clear p2
     try clear c4
     try clear c4b0
     try clear c6
     try clear c7
     try clear c9
     try clear c9b0
     try clear c9b1
     try clear c11
     try clear c11b0
     try clear c11b1
     try clear c13
     try clear c13b0
     try clear c13b1
     try clear hcz10_0
     try clear hcz10_1
     try clear hcz10_2
     try clear hcz10_3
     try clear hcz12_0
     try clear hcz12_1
     try clear hcz12_2
     try clear hcz12_3
     try clear hcz14_0
     try clear hcz14_1
     try clear hcz14_2
     try clear hcz14_3
     try clear hcz15_0
     try clear hcz15_1
     try clear hcz15_2
     try clear hcz15_3
     try clear hcz5_0
     try clear hcz5_1
     try clear hcz5_2
     try clear hcz5_3
     try clear hcz6_0
     try clear hcz6_1
     try clear hcz6_2
     try clear hcz6_3
     try clear hfz10_0
     try clear hfz10_1
     try clear hfz10_2
     try clear hfz10_3
     try clear hfz12_0
     try clear hfz12_1
     try clear hfz12_2
     try clear hfz12_3
     try clear hfz14_0
     try clear hfz14_1
     try clear hfz14_2
     try clear hfz14_3
     try clear hfz15_0
     try clear hfz15_1
     try clear hfz15_2
     try clear hfz15_3
     try clear hfz5_0
     try clear hfz5_1
     try clear hfz5_2
     try clear hfz5_3
     try clear hfz6_0
     try clear hfz6_1
     try clear hfz6_2
     try clear hfz6_3
     try clear p2
     obtain ⟨kq,x31_7,rfl,HA,HJ7,BK145,HB⟩:=hcut
     cases kq with
     | zero => exact absurd HA.out (by simp [spinneyref01_own.j1])
     | succ kj7 =>
      have H:=HA.out
      clear HA
      simp only [spinneyref01_own.j1] at H
      by_cases c16:x31_7=true
      ·subst c16
       have H1:(some false)=some r:=by rw [if_pos rfl] at H;exact H
       clear H
       have H:=H1
       clear H1
       obtain rfl:=Option.some.inj H
       go_wp2
       go_ret
       exact ⟨by first|rfl|(simp [errW_none,errW_some] <;> rfl)|(simp [*,errW_none,errW_some] <;> rfl),by repeat (first|(with_reducible first|exact HB.out|apply below_alloc|apply pw_below_drewN|apply below_drew1|refine below_set ?_ GE145.out)|exact HB.out)⟩
      ·replace c16:=Bool.eq_false_iff.mpr c16
       subst c16
       have H1:(if a0_0=3 then (if (a0_2.size:Int)≤256 then ((spinneyref01_Letters.f kj7 a0_2).bind fun t146 => (if t146 ≥ 0 then (some ((l0_3.length:Int) == 0)) else (some false))) else (some false)) else (if a0_2.toList=([]:List UInt8) then ((spinneyref01_coll.f a0_0).bind fun t147 => (if t147=true then (spinneyref01_own.j2 kj7 false a0_0 a0_1 a0_2 l0_3) else (spinneyref01_own.j2 kj7 (decide ((l0_3.length:Int) > 0)) a0_0 a0_1 a0_2 l0_3))) else (spinneyref01_own.j2 kj7 true a0_0 a0_1 a0_2 l0_3)))=some r:=by rw [if_neg (show ¬ (false=true) by decide)] at H;exact H
       clear H
       have H:=H1
       clear H1
       by_cases c17:a0_0=3
       ·rw [if_pos c17] at H
        have c17b0:(a0_0 == 3)=true:=beq_iff_eq.mpr c17
        have c17b1:(a0_0 != 3)=false:=bne_eq_false_iff_eq.mpr c17
        clear c17
        by_cases c18:(a0_2.size:Int)≤256
        ·rw [if_pos c18] at H
         have c18b0:decide ((a0_2.size:Int)≤256)=true:=decide_eq_true c18
         have c18b1:decide (a0_2.size≤256)=true:=decide_eq_true (by omega)
         clear c18
         replace H:=Option.bind_eq_some_iff.mp H
         obtain ⟨t146,A190,H⟩:=H
         replace H:(if t146 ≥ 0 then (some ((l0_3.length:Int) == 0)) else (some false))=some r:=H
         have A19:=Aside0.mk A190
         clear A190
         by_cases c20:t146 ≥ 0
         ·rw [if_pos c20] at H
          have c20b0:decide (0≤t146)=true:=decide_eq_true c20
          clear c20
          obtain rfl:=Option.some.inj H
          have hcz21_0:wc.cell? ⟨gb145,0,none⟩=some (.int .i64 a0_0):=(blk_cell BK145.out 0).trans rfl;have hcz21_1:wc.cell? ⟨gb145,1,none⟩=some (.int .i64 a0_1):=(blk_cell BK145.out 1).trans rfl;have hcz21_2:wc.cell? ⟨gb145,2,none⟩=some (.string a0_2):=(blk_cell BK145.out 2).trans rfl;have hcz21_3:wc.cell? ⟨gb145,3,none⟩=some (.slice A0_3 l0_3.length c0_3):=(blk_cell BK145.out 3).trans rfl;have hfz21_0:=blk_frozen BK145.out 0;have hfz21_1:=blk_frozen BK145.out 1;have hfz21_2:=blk_frozen BK145.out 2;have hfz21_3:=blk_frozen BK145.out 3
          go_wp2_with (first|(go_at_call 73;(with_reducible refine (spinneyref01_Letters.calls kj7 a0_2 t146 _ A19.out).mono ?_);rintro e w' ⟨rfl,⟨nd,rfl⟩⟩))
          go_ret
          exact ⟨by first|rfl|(simp [errW_none,errW_some] <;> rfl)|(simp [*,errW_none,errW_some] <;> rfl),by repeat (first|(with_reducible first|exact HB.out|apply below_alloc|apply pw_below_drewN|apply below_drew1|refine below_set ?_ GE145.out)|exact HB.out)⟩
         ·rw [if_neg c20] at H
          have c20b0:decide (0≤t146)=false:=decide_eq_false c20
          clear c20
          obtain rfl:=Option.some.inj H
          have hcz22_0:wc.cell? ⟨gb145,0,none⟩=some (.int .i64 a0_0):=(blk_cell BK145.out 0).trans rfl;have hcz22_1:wc.cell? ⟨gb145,1,none⟩=some (.int .i64 a0_1):=(blk_cell BK145.out 1).trans rfl;have hcz22_2:wc.cell? ⟨gb145,2,none⟩=some (.string a0_2):=(blk_cell BK145.out 2).trans rfl;have hcz22_3:wc.cell? ⟨gb145,3,none⟩=some (.slice A0_3 l0_3.length c0_3):=(blk_cell BK145.out 3).trans rfl;have hfz22_0:=blk_frozen BK145.out 0;have hfz22_1:=blk_frozen BK145.out 1;have hfz22_2:=blk_frozen BK145.out 2;have hfz22_3:=blk_frozen BK145.out 3
          go_wp2_with (first|(go_at_call 73;(with_reducible refine (spinneyref01_Letters.calls kj7 a0_2 t146 _ A19.out).mono ?_);rintro e w' ⟨rfl,⟨nd,rfl⟩⟩))
          go_ret
          exact ⟨by first|rfl|(simp [errW_none,errW_some] <;> rfl)|(simp [*,errW_none,errW_some] <;> rfl),by repeat (first|(with_reducible first|exact HB.out|apply below_alloc|apply pw_below_drewN|apply below_drew1|refine below_set ?_ GE145.out)|exact HB.out)⟩
        ·rw [if_neg c18] at H
         have c18b0:decide ((a0_2.size:Int)≤256)=false:=decide_eq_false c18
         have c18b1:decide (a0_2.size≤256)=false:=decide_eq_false (by omega)
         clear c18
         obtain rfl:=Option.some.inj H
         have hcz23_0:wc.cell? ⟨gb145,0,none⟩=some (.int .i64 a0_0):=(blk_cell BK145.out 0).trans rfl;have hcz23_1:wc.cell? ⟨gb145,1,none⟩=some (.int .i64 a0_1):=(blk_cell BK145.out 1).trans rfl;have hcz23_2:wc.cell? ⟨gb145,2,none⟩=some (.string a0_2):=(blk_cell BK145.out 2).trans rfl;have hcz23_3:wc.cell? ⟨gb145,3,none⟩=some (.slice A0_3 l0_3.length c0_3):=(blk_cell BK145.out 3).trans rfl;have hfz23_0:=blk_frozen BK145.out 0;have hfz23_1:=blk_frozen BK145.out 1;have hfz23_2:=blk_frozen BK145.out 2;have hfz23_3:=blk_frozen BK145.out 3
         go_wp2
         go_ret
         exact ⟨by first|rfl|(simp [errW_none,errW_some] <;> rfl)|(simp [*,errW_none,errW_some] <;> rfl),by repeat (first|(with_reducible first|exact HB.out|apply below_alloc|apply pw_below_drewN|apply below_drew1|refine below_set ?_ GE145.out)|exact HB.out)⟩
       ·rw [if_neg c17] at H
        have c17b0:(a0_0 == 3)=false:=beq_eq_false_iff_ne.mpr c17
        have c17b1:(a0_0 != 3)=true:=bne_iff_ne.mpr c17
        have HC24:=Aside0.mk H
        clear H
        have hcz25_0:wc.cell? ⟨gb145,0,none⟩=some (.int .i64 a0_0):=(blk_cell BK145.out 0).trans rfl;have hcz25_1:wc.cell? ⟨gb145,1,none⟩=some (.int .i64 a0_1):=(blk_cell BK145.out 1).trans rfl;have hcz25_2:wc.cell? ⟨gb145,2,none⟩=some (.string a0_2):=(blk_cell BK145.out 2).trans rfl;have hcz25_3:wc.cell? ⟨gb145,3,none⟩=some (.slice A0_3 l0_3.length c0_3):=(blk_cell BK145.out 3).trans rfl;have hfz25_0:=blk_frozen BK145.out 0;have hfz25_1:=blk_frozen BK145.out 1;have hfz25_2:=blk_frozen BK145.out 2;have hfz25_3:=blk_frozen BK145.out 3
        go_upto_region 7 with (fail)
        go_cut [65] (fun v65 wc => ∃ (kq:Nat) (x65_23:Bool),v65=.bool x65_23∧Aside0 (spinneyref01_own.j2 kq x65_23 a0_0 a0_1 a0_2 l0_3=some r)∧Aside0 (kq≤kj7)∧Aside0 (wc.heap[gb145]? = some (.cells #[.int .i64 a0_0,.int .i64 a0_1,.string a0_2,(.slice A0_3 l0_3.length c0_3)] 24 (0,0)))∧Aside0 (Below w.heap.size w wc))
        case first =>
         have H:=HC24.out
         clear HC24
         by_cases c26:a0_2.toList=([]:List UInt8)
         ·rw [if_pos c26] at H
          have c26b0:(a0_2.toList == ([]:List UInt8))=true:=beq_iff_eq.mpr c26
          have c26b1:(a0_2.toList != ([]:List UInt8))=false:=bne_eq_false_iff_eq.mpr c26
          clear c26
          (first|rw [c26b0]|(simp only [i64_w,i32_w];rw [c26b0])|skip)
          replace H:=Option.bind_eq_some_iff.mp H
          obtain ⟨t147,A270,H⟩:=H
          replace H:(if t147=true then (spinneyref01_own.j2 kj7 false a0_0 a0_1 a0_2 l0_3) else (spinneyref01_own.j2 kj7 (decide ((l0_3.length:Int) > 0)) a0_0 a0_1 a0_2 l0_3))=some r:=H
          have A27:=Aside0.mk A270
          clear A270
          by_cases c28:t147=true
          ·subst c28
           have H1:(spinneyref01_own.j2 kj7 false a0_0 a0_1 a0_2 l0_3)=some r:=by rw [if_pos rfl] at H;exact H
           clear H
           have H:=H1
           clear H1
           have H':=Aside0.mk H
           clear H
           have hcz29_0:wc.cell? ⟨gb145,0,none⟩=some (.int .i64 a0_0):=(blk_cell BK145.out 0).trans rfl;have hcz29_1:wc.cell? ⟨gb145,1,none⟩=some (.int .i64 a0_1):=(blk_cell BK145.out 1).trans rfl;have hcz29_2:wc.cell? ⟨gb145,2,none⟩=some (.string a0_2):=(blk_cell BK145.out 2).trans rfl;have hcz29_3:wc.cell? ⟨gb145,3,none⟩=some (.slice A0_3 l0_3.length c0_3):=(blk_cell BK145.out 3).trans rfl;have hfz29_0:=blk_frozen BK145.out 0;have hfz29_1:=blk_frozen BK145.out 1;have hfz29_2:=blk_frozen BK145.out 2;have hfz29_3:=blk_frozen BK145.out 3
           go_wp2_with (first|(go_at_call 75;(with_reducible refine (spinneyref01_coll.calls a0_0 true _ A27.out).mono ?_);rintro e w' ⟨rfl,⟨nd,rfl⟩⟩))
           go_meet
           case rel => exact ⟨_,(false),(by first|rfl|(simp;done)|(simp [*];done)),H',⟨by have:=HJ1.out;have:=HJ7.out;first|omega|exact Nat.le_refl _⟩,⟨by (with_reducible repeat (first|refine blk_drewN ?_ _|refine blk_drew ?_|refine blk_alloc ?_ _));exact BK145.out⟩,⟨by repeat (first|(with_reducible first|exact HB.out|apply below_alloc|apply pw_below_drewN|apply below_drew1|refine below_set ?_ GE145.out)|exact HB.out)⟩⟩
          ·replace c28:=Bool.eq_false_iff.mpr c28
           subst c28
           have H1:(spinneyref01_own.j2 kj7 (decide ((l0_3.length:Int) > 0)) a0_0 a0_1 a0_2 l0_3)=some r:=by rw [if_neg (show ¬ (false=true) by decide)] at H;exact H
           clear H
           have H:=H1
           clear H1
           have H':=Aside0.mk H
           clear H
           have hcz30_0:wc.cell? ⟨gb145,0,none⟩=some (.int .i64 a0_0):=(blk_cell BK145.out 0).trans rfl;have hcz30_1:wc.cell? ⟨gb145,1,none⟩=some (.int .i64 a0_1):=(blk_cell BK145.out 1).trans rfl;have hcz30_2:wc.cell? ⟨gb145,2,none⟩=some (.string a0_2):=(blk_cell BK145.out 2).trans rfl;have hcz30_3:wc.cell? ⟨gb145,3,none⟩=some (.slice A0_3 l0_3.length c0_3):=(blk_cell BK145.out 3).trans rfl;have hfz30_0:=blk_frozen BK145.out 0;have hfz30_1:=blk_frozen BK145.out 1;have hfz30_2:=blk_frozen BK145.out 2;have hfz30_3:=blk_frozen BK145.out 3
           go_wp2_with (first|(go_at_call 75;(with_reducible refine (spinneyref01_coll.calls a0_0 false _ A27.out).mono ?_);rintro e w' ⟨rfl,⟨nd,rfl⟩⟩))
           go_meet
           case rel => exact ⟨_,(decide ((l0_3.length:Int) > 0)),(by first|rfl|(simp;done)|(simp [*];done)),H',⟨by have:=HJ1.out;have:=HJ7.out;first|omega|exact Nat.le_refl _⟩,⟨by (with_reducible repeat (first|refine blk_drewN ?_ _|refine blk_drew ?_|refine blk_alloc ?_ _));exact BK145.out⟩,⟨by repeat (first|(with_reducible first|exact HB.out|apply below_alloc|apply pw_below_drewN|apply below_drew1|refine below_set ?_ GE145.out)|exact HB.out)⟩⟩
         ·rw [if_neg c26] at H
          have c26b0:(a0_2.toList == ([]:List UInt8))=false:=beq_eq_false_iff_ne.mpr c26
          have c26b1:(a0_2.toList != ([]:List UInt8))=true:=bne_iff_ne.mpr c26
          (first|rw [c26b0]|(simp only [i64_w,i32_w];rw [c26b0])|skip)
          have H':=Aside0.mk H
          clear H
          have hcz31_0:wc.cell? ⟨gb145,0,none⟩=some (.int .i64 a0_0):=(blk_cell BK145.out 0).trans rfl;have hcz31_1:wc.cell? ⟨gb145,1,none⟩=some (.int .i64 a0_1):=(blk_cell BK145.out 1).trans rfl;have hcz31_2:wc.cell? ⟨gb145,2,none⟩=some (.string a0_2):=(blk_cell BK145.out 2).trans rfl;have hcz31_3:wc.cell? ⟨gb145,3,none⟩=some (.slice A0_3 l0_3.length c0_3):=(blk_cell BK145.out 3).trans rfl;have hfz31_0:=blk_frozen BK145.out 0;have hfz31_1:=blk_frozen BK145.out 1;have hfz31_2:=blk_frozen BK145.out 2;have hfz31_3:=blk_frozen BK145.out 3
          go_wp2
          go_meet
          case rel => exact ⟨_,(true),(by first|rfl|(simp;done)|(simp [*];done)),H',⟨by have:=HJ1.out;have:=HJ7.out;first|omega|exact Nat.le_refl _⟩,⟨by (with_reducible repeat (first|refine blk_drewN ?_ _|refine blk_drew ?_|refine blk_alloc ?_ _));exact BK145.out⟩,⟨by repeat (first|(with_reducible first|exact HB.out|apply below_alloc|apply pw_below_drewN|apply below_drew1|refine below_set ?_ GE145.out)|exact HB.out)⟩⟩
        case rest =>
         clear HC24
         try clear c1
         try clear c2
         try clear p2
         try clear c4
         try clear c4b0
         try clear c6
         try clear c7
         try clear c9
         try clear c9b0
         try clear c9b1
         try clear c11
         try clear c11b0
         try clear c11b1
         try clear c13
         try clear c13b0
         try clear c13b1
         try clear c16
         try clear c17
         try clear c17b0
         try clear c17b1
         try clear c18
         try clear c18b0
         try clear c18b1
         try clear c20
         try clear c20b0
         try clear c26
         try clear c26b0
         try clear c26b1
         try clear c28
         try clear hcz10_0
         try clear hcz10_1
         try clear hcz10_2
         try clear hcz10_3
         try clear hcz12_0
         try clear hcz12_1
         try clear hcz12_2
         try clear hcz12_3
         try clear hcz14_0
         try clear hcz14_1
         try clear hcz14_2
         try clear hcz14_3
         try clear hcz15_0
         try clear hcz15_1
         try clear hcz15_2
         try clear hcz15_3
         try clear hcz21_0
         try clear hcz21_1
         try clear hcz21_2
         try clear hcz21_3
         try clear hcz22_0
         try clear hcz22_1
         try clear hcz22_2
         try clear hcz22_3
         try clear hcz23_0
         try clear hcz23_1
         try clear hcz23_2
         try clear hcz23_3
         try clear hcz25_0
         try clear hcz25_1
         try clear hcz25_2
         try clear hcz25_3
         try clear hcz29_0
         try clear hcz29_1
         try clear hcz29_2
         try clear hcz29_3
         try clear hcz30_0
         try clear hcz30_1
         try clear hcz30_2
         try clear hcz30_3
         try clear hcz31_0
         try clear hcz31_1
         try clear hcz31_2
         try clear hcz31_3
         try clear hcz5_0
         try clear hcz5_1
         try clear hcz5_2
         try clear hcz5_3
         try clear hcz6_0
         try clear hcz6_1
         try clear hcz6_2
         try clear hcz6_3
         try clear hfz10_0
         try clear hfz10_1
         try clear hfz10_2
         try clear hfz10_3
         try clear hfz12_0
         try clear hfz12_1
         try clear hfz12_2
         try clear hfz12_3
         try clear hfz14_0
         try clear hfz14_1
         try clear hfz14_2
         try clear hfz14_3
         try clear hfz15_0
         try clear hfz15_1
         try clear hfz15_2
         try clear hfz15_3
         try clear hfz21_0
         try clear hfz21_1
         try clear hfz21_2
         try clear hfz21_3
         try clear hfz22_0
         try clear hfz22_1
         try clear hfz22_2
         try clear hfz22_3
         try clear hfz23_0
         try clear hfz23_1
         try clear hfz23_2
         try clear hfz23_3
         try clear hfz25_0
         try clear hfz25_1
         try clear hfz25_2
         try clear hfz25_3
         try clear hfz29_0
         try clear hfz29_1
         try clear hfz29_2
         try clear hfz29_3
         try clear hfz30_0
         try clear hfz30_1
         try clear hfz30_2
         try clear hfz30_3
         try clear hfz31_0
         try clear hfz31_1
         try clear hfz31_2
         try clear hfz31_3
         try clear hfz5_0
         try clear hfz5_1
         try clear hfz5_2
         try clear hfz5_3
         try clear hfz6_0
         try clear hfz6_1
         try clear hfz6_2
         try clear hfz6_3
         try clear p2
         obtain ⟨kq,x65_23,rfl,HA,HJ23,BK145,HB⟩:=hcut
         cases kq with
         | zero => exact absurd HA.out (by simp [spinneyref01_own.j2])
         | succ kj23 =>
          have H:=HA.out
          clear HA
          simp only [spinneyref01_own.j2] at H
          by_cases c32:x65_23=true
          ·subst c32
           have H1:(some false)=some r:=by rw [if_pos rfl] at H;exact H
           clear H
           have H:=H1
           clear H1
           obtain rfl:=Option.some.inj H
           go_wp2
           go_ret
           exact ⟨by first|rfl|(simp [errW_none,errW_some] <;> rfl)|(simp [*,errW_none,errW_some] <;> rfl),by repeat (first|(with_reducible first|exact HB.out|apply below_alloc|apply pw_below_drewN|apply below_drew1|refine below_set ?_ GE145.out)|exact HB.out)⟩
          ·replace c32:=Bool.eq_false_iff.mpr c32
           subst c32
           have H1:(if a0_0=6 then (spinneyref01_own.j3 kj23 2 a0_0 a0_1 a0_2 l0_3) else (spinneyref01_own.j3 kj23 1 a0_0 a0_1 a0_2 l0_3))=some r:=by rw [if_neg (show ¬ (false=true) by decide)] at H;exact H
           clear H
           have H:=H1
           clear H1
           have HC33:=Aside0.mk H
           clear H
           have hcz34_0:wc.cell? ⟨gb145,0,none⟩=some (.int .i64 a0_0):=(blk_cell BK145.out 0).trans rfl;have hcz34_1:wc.cell? ⟨gb145,1,none⟩=some (.int .i64 a0_1):=(blk_cell BK145.out 1).trans rfl;have hcz34_2:wc.cell? ⟨gb145,2,none⟩=some (.string a0_2):=(blk_cell BK145.out 2).trans rfl;have hcz34_3:wc.cell? ⟨gb145,3,none⟩=some (.slice A0_3 l0_3.length c0_3):=(blk_cell BK145.out 3).trans rfl;have hfz34_0:=blk_frozen BK145.out 0;have hfz34_1:=blk_frozen BK145.out 1;have hfz34_2:=blk_frozen BK145.out 2;have hfz34_3:=blk_frozen BK145.out 3
           go_upto_if 68 with (fail)
           go_cut [3] (fun v3 wc => ∃ (kq:Nat) (x3_32:Int),v3=.int .i64 x3_32∧Aside0 (spinneyref01_own.j3 kq x3_32 a0_0 a0_1 a0_2 l0_3=some r)∧Aside0 (kq≤kj23)∧Aside0 (wc.heap[gb145]? = some (.cells #[.int .i64 a0_0,.int .i64 a0_1,.string a0_2,(.slice A0_3 l0_3.length c0_3)] 24 (0,0)))∧Aside0 (Below w.heap.size w wc))
           case first =>
            have H:=HC33.out
            clear HC33
            by_cases c35:a0_0=6
            ·rw [if_pos c35] at H
             have c35b0:(a0_0 == 6)=true:=beq_iff_eq.mpr c35
             have c35b1:(a0_0 != 6)=false:=bne_eq_false_iff_eq.mpr c35
             clear c35
             (first|rw [c35b0]|(simp only [i64_w,i32_w];rw [c35b0])|skip)
             have H':=Aside0.mk H
             clear H
             go_wp2
             go_meet
             case rel => exact ⟨_,(2),(by first|rfl|(simp;done)|(simp [*];done)),H',⟨by have:=HJ1.out;have:=HJ7.out;have:=HJ23.out;first|omega|exact Nat.le_refl _⟩,⟨by (with_reducible repeat (first|refine blk_drewN ?_ _|refine blk_drew ?_|refine blk_alloc ?_ _));exact BK145.out⟩,⟨by repeat (first|(with_reducible first|exact HB.out|apply below_alloc|apply pw_below_drewN|apply below_drew1|refine below_set ?_ GE145.out)|exact HB.out)⟩⟩
            ·rw [if_neg c35] at H
             have c35b0:(a0_0 == 6)=false:=beq_eq_false_iff_ne.mpr c35
             have c35b1:(a0_0 != 6)=true:=bne_iff_ne.mpr c35
             (first|rw [c35b0]|(simp only [i64_w,i32_w];rw [c35b0])|skip)
             have H':=Aside0.mk H
             clear H
             go_wp2
             go_meet
             case rel => exact ⟨_,(1),(by first|rfl|(simp;done)|(simp [*];done)),H',⟨by have:=HJ1.out;have:=HJ7.out;have:=HJ23.out;first|omega|exact Nat.le_refl _⟩,⟨by (with_reducible repeat (first|refine blk_drewN ?_ _|refine blk_drew ?_|refine blk_alloc ?_ _));exact BK145.out⟩,⟨by repeat (first|(with_reducible first|exact HB.out|apply below_alloc|apply pw_below_drewN|apply below_drew1|refine below_set ?_ GE145.out)|exact HB.out)⟩⟩
           case rest =>
            clear HC33
            try clear c1
            try clear c2
            try clear p2
            try clear c3
            try clear c4
            try clear c4b0
            try clear c6
            try clear c7
            try clear c9
            try clear c9b0
            try clear c9b1
            try clear c11
            try clear c11b0
            try clear c11b1
            try clear c13
            try clear c13b0
            try clear c13b1
            try clear c16
            try clear c17
            try clear c17b0
            try clear c17b1
            try clear c18
            try clear c18b0
            try clear c18b1
            try clear c20
            try clear c20b0
            try clear c26
            try clear c26b0
            try clear c26b1
            try clear c28
            try clear c32
            try clear c35
            try clear c35b0
            try clear c35b1
            try clear hcz10_0
            try clear hcz10_1
            try clear hcz10_2
            try clear hcz10_3
            try clear hcz12_0
            try clear hcz12_1
            try clear hcz12_2
            try clear hcz12_3
            try clear hcz14_0
            try clear hcz14_1
            try clear hcz14_2
            try clear hcz14_3
            try clear hcz15_0
            try clear hcz15_1
            try clear hcz15_2
            try clear hcz15_3
            try clear hcz21_0
            try clear hcz21_1
            try clear hcz21_2
            try clear hcz21_3
            try clear hcz22_0
            try clear hcz22_1
            try clear hcz22_2
            try clear hcz22_3
            try clear hcz23_0
            try clear hcz23_1
            try clear hcz23_2
            try clear hcz23_3
            try clear hcz25_0
            try clear hcz25_1
            try clear hcz25_2
            try clear hcz25_3
            try clear hcz29_0
            try clear hcz29_1
            try clear hcz29_2
            try clear hcz29_3
            try clear hcz30_0
            try clear hcz30_1
            try clear hcz30_2
            try clear hcz30_3
            try clear hcz31_0
            try clear hcz31_1
            try clear hcz31_2
            try clear hcz31_3
            try clear hcz34_0
            try clear hcz34_1
            try clear hcz34_2
            try clear hcz34_3
            try clear hcz5_0
            try clear hcz5_1
            try clear hcz5_2
            try clear hcz5_3
            try clear hcz6_0
            try clear hcz6_1
            try clear hcz6_2
            try clear hcz6_3
            try clear hfz10_0
            try clear hfz10_1
            try clear hfz10_2
            try clear hfz10_3
            try clear hfz12_0
            try clear hfz12_1
            try clear hfz12_2
            try clear hfz12_3
            try clear hfz14_0
            try clear hfz14_1
            try clear hfz14_2
            try clear hfz14_3
            try clear hfz15_0
            try clear hfz15_1
            try clear hfz15_2
            try clear hfz15_3
            try clear hfz21_0
            try clear hfz21_1
            try clear hfz21_2
            try clear hfz21_3
            try clear hfz22_0
            try clear hfz22_1
            try clear hfz22_2
            try clear hfz22_3
            try clear hfz23_0
            try clear hfz23_1
            try clear hfz23_2
            try clear hfz23_3
            try clear hfz25_0
            try clear hfz25_1
            try clear hfz25_2
            try clear hfz25_3
            try clear hfz29_0
            try clear hfz29_1
            try clear hfz29_2
            try clear hfz29_3
            try clear hfz30_0
            try clear hfz30_1
            try clear hfz30_2
            try clear hfz30_3
            try clear hfz31_0
            try clear hfz31_1
            try clear hfz31_2
            try clear hfz31_3
            try clear hfz34_0
            try clear hfz34_1
            try clear hfz34_2
            try clear hfz34_3
            try clear hfz5_0
            try clear hfz5_1
            try clear hfz5_2
            try clear hfz5_3
            try clear hfz6_0
            try clear hfz6_1
            try clear hfz6_2
            try clear hfz6_3
            try clear p2
            obtain ⟨kq,x3_32,rfl,HA,HJ32,BK145,HB⟩:=hcut
            cases kq with
            | zero => exact absurd HA.out (by simp [spinneyref01_own.j3])
            | succ kj32 =>
             have H:=HA.out
             clear HA
             simp only [spinneyref01_own.j3] at H
             by_cases c36:x3_32=0
             ·rw [if_pos c36] at H
              exact absurd H (by simp)
             ·rw [if_neg c36] at H
              have c36b0:(x3_32 == 0)=false:=beq_eq_false_iff_ne.mpr c36
              have c36b1:(x3_32 != 0)=true:=bne_iff_ne.mpr c36
              by_cases c37:((l0_3.length:Int) % x3_32)=0
              ·rw [if_pos c37] at H
               have c37b0:(((l0_3.length:Int) % x3_32) == 0)=true:=beq_iff_eq.mpr c37
               have c37b1:(((l0_3.length:Int) % x3_32) != 0)=false:=bne_eq_false_iff_eq.mpr c37
               clear c37
               by_cases c38:a0_0=4
               ·rw [if_pos c38] at H
                have c38b0:(a0_0 == 4)=true:=beq_iff_eq.mpr c38
                have c38b1:(a0_0 != 4)=false:=bne_eq_false_iff_eq.mpr c38
                clear c38
                obtain rfl:=Option.some.inj H
                have hcz39_0:wc.cell? ⟨gb145,0,none⟩=some (.int .i64 a0_0):=(blk_cell BK145.out 0).trans rfl;have hcz39_1:wc.cell? ⟨gb145,1,none⟩=some (.int .i64 a0_1):=(blk_cell BK145.out 1).trans rfl;have hcz39_2:wc.cell? ⟨gb145,2,none⟩=some (.string a0_2):=(blk_cell BK145.out 2).trans rfl;have hcz39_3:wc.cell? ⟨gb145,3,none⟩=some (.slice A0_3 l0_3.length c0_3):=(blk_cell BK145.out 3).trans rfl;have hfz39_0:=blk_frozen BK145.out 0;have hfz39_1:=blk_frozen BK145.out 1;have hfz39_2:=blk_frozen BK145.out 2;have hfz39_3:=blk_frozen BK145.out 3
                go_wp2
                go_ret
                exact ⟨by first|rfl|(simp [errW_none,errW_some] <;> rfl)|(simp [*,errW_none,errW_some] <;> rfl),by repeat (first|(with_reducible first|exact HB.out|apply below_alloc|apply pw_below_drewN|apply below_drew1|refine below_set ?_ GE145.out)|exact HB.out)⟩
               ·rw [if_neg c38] at H
                have c38b0:(a0_0 == 4)=false:=beq_eq_false_iff_ne.mpr c38
                have c38b1:(a0_0 != 4)=true:=bne_iff_ne.mpr c38
                have H':=Aside0.mk H
                clear H
                have hcz40_0:wc.cell? ⟨gb145,0,none⟩=some (.int .i64 a0_0):=(blk_cell BK145.out 0).trans rfl;have hcz40_1:wc.cell? ⟨gb145,1,none⟩=some (.int .i64 a0_1):=(blk_cell BK145.out 1).trans rfl;have hcz40_2:wc.cell? ⟨gb145,2,none⟩=some (.string a0_2):=(blk_cell BK145.out 2).trans rfl;have hcz40_3:wc.cell? ⟨gb145,3,none⟩=some (.slice A0_3 l0_3.length c0_3):=(blk_cell BK145.out 3).trans rfl;have hfz40_0:=blk_frozen BK145.out 0;have hfz40_1:=blk_frozen BK145.out 1;have hfz40_2:=blk_frozen BK145.out 2;have hfz40_3:=blk_frozen BK145.out 3
                go_wp2
                go_loopg [4] kj32 (fun kq v4 w' => ∃ (x4_5:Int),v4=.int .i64 x4_5∧Aside0 (spinneyref01_own.l0 kq x3_32 x4_5 a0_0 a0_1 a0_2 l0_3=some r)∧Aside0 (kq≤kj32)∧Aside0 (w'.heap[gb145]? = some (.cells #[.int .i64 a0_0,.int .i64 a0_1,.string a0_2,(.slice A0_3 l0_3.length c0_3)] 24 (0,0)))∧Aside0 (Below w.heap.size w w'))
                case atStart => exact ⟨(x3_32),(by first|rfl|(simp;done)|(simp [*];done)),H',⟨Nat.le_refl _⟩,⟨by (with_reducible repeat (first|refine blk_drewN ?_ _|refine blk_drew ?_|refine blk_alloc ?_ _));exact BK145.out⟩,⟨by repeat (first|(with_reducible first|exact HB.out|apply below_alloc|apply pw_below_drewN|apply below_drew1|refine below_set ?_ GE145.out)|exact HB.out)⟩⟩
                case round =>
                 clear H'
                 try clear c1
                 try clear c2
                 try clear p2
                 try clear c3
                 try clear c4
                 try clear c4b0
                 try clear c6
                 try clear c7
                 try clear c9
                 try clear c9b0
                 try clear c9b1
                 try clear c11
                 try clear c11b0
                 try clear c11b1
                 try clear c13
                 try clear c13b0
                 try clear c13b1
                 try clear c16
                 try clear c17
                 try clear c17b0
                 try clear c17b1
                 try clear c18
                 try clear c18b0
                 try clear c18b1
                 try clear c20
                 try clear c20b0
                 try clear c26
                 try clear c26b0
                 try clear c26b1
                 try clear c28
                 try clear c32
                 try clear c35
                 try clear c35b0
                 try clear c35b1
                 try clear c36
                 try clear c36b0
                 try clear c36b1
                 try clear c37
                 try clear c37b0
                 try clear c37b1
                 try clear c38
                 try clear c38b0
                 try clear c38b1
                 try clear hcz10_0
                 try clear hcz10_1
                 try clear hcz10_2
                 try clear hcz10_3
                 try clear hcz12_0
                 try clear hcz12_1
                 try clear hcz12_2
                 try clear hcz12_3
                 try clear hcz14_0
                 try clear hcz14_1
                 try clear hcz14_2
                 try clear hcz14_3
                 try clear hcz15_0
                 try clear hcz15_1
                 try clear hcz15_2
                 try clear hcz15_3
                 try clear hcz21_0
                 try clear hcz21_1
                 try clear hcz21_2
                 try clear hcz21_3
                 try clear hcz22_0
                 try clear hcz22_1
                 try clear hcz22_2
                 try clear hcz22_3
                 try clear hcz23_0
                 try clear hcz23_1
                 try clear hcz23_2
                 try clear hcz23_3
                 try clear hcz25_0
                 try clear hcz25_1
                 try clear hcz25_2
                 try clear hcz25_3
                 try clear hcz29_0
                 try clear hcz29_1
                 try clear hcz29_2
                 try clear hcz29_3
                 try clear hcz30_0
                 try clear hcz30_1
                 try clear hcz30_2
                 try clear hcz30_3
                 try clear hcz31_0
                 try clear hcz31_1
                 try clear hcz31_2
                 try clear hcz31_3
                 try clear hcz34_0
                 try clear hcz34_1
                 try clear hcz34_2
                 try clear hcz34_3
                 try clear hcz39_0
                 try clear hcz39_1
                 try clear hcz39_2
                 try clear hcz39_3
                 try clear hcz40_0
                 try clear hcz40_1
                 try clear hcz40_2
                 try clear hcz40_3
                 try clear hcz5_0
                 try clear hcz5_1
                 try clear hcz5_2
                 try clear hcz5_3
                 try clear hcz6_0
                 try clear hcz6_1
                 try clear hcz6_2
                 try clear hcz6_3
                 try clear hfz10_0
                 try clear hfz10_1
                 try clear hfz10_2
                 try clear hfz10_3
                 try clear hfz12_0
                 try clear hfz12_1
                 try clear hfz12_2
                 try clear hfz12_3
                 try clear hfz14_0
                 try clear hfz14_1
                 try clear hfz14_2
                 try clear hfz14_3
                 try clear hfz15_0
                 try clear hfz15_1
                 try clear hfz15_2
                 try clear hfz15_3
                 try clear hfz21_0
                 try clear hfz21_1
                 try clear hfz21_2
                 try clear hfz21_3
                 try clear hfz22_0
                 try clear hfz22_1
                 try clear hfz22_2
                 try clear hfz22_3
                 try clear hfz23_0
                 try clear hfz23_1
                 try clear hfz23_2
                 try clear hfz23_3
                 try clear hfz25_0
                 try clear hfz25_1
                 try clear hfz25_2
                 try clear hfz25_3
                 try clear hfz29_0
                 try clear hfz29_1
                 try clear hfz29_2
                 try clear hfz29_3
                 try clear hfz30_0
                 try clear hfz30_1
                 try clear hfz30_2
                 try clear hfz30_3
                 try clear hfz31_0
                 try clear hfz31_1
                 try clear hfz31_2
                 try clear hfz31_3
                 try clear hfz34_0
                 try clear hfz34_1
                 try clear hfz34_2
                 try clear hfz34_3
                 try clear hfz39_0
                 try clear hfz39_1
                 try clear hfz39_2
                 try clear hfz39_3
                 try clear hfz40_0
                 try clear hfz40_1
                 try clear hfz40_2
                 try clear hfz40_3
                 try clear hfz5_0
                 try clear hfz5_1
                 try clear hfz5_2
                 try clear hfz5_3
                 try clear hfz6_0
                 try clear hfz6_1
                 try clear hfz6_2
                 try clear hfz6_3
                 try clear p2
                 obtain ⟨x4_5,rfl,HA,HK5,BK145,HB⟩:=hrel
                 cases gk with
                 | zero => exact absurd HA.out (by simp [spinneyref01_own.l0])
                 | succ k5 =>
                  have H:=HA.out
                  clear HA
                  simp only [spinneyref01_own.l0] at H
                  by_cases c41:x4_5 < (l0_3.length:Int)
                  ·rw [if_pos c41] at H
                   have c41b0:decide (x4_5 < (l0_3.length:Int))=true:=decide_eq_true c41
                   clear c41
                   obtain ⟨ji42,hji42⟩:∃ j_:Int,(wrap64 (x4_5 - x3_32))=j_:=⟨_,rfl⟩
                   replace H:(if 0≤(ji42) then (if (ji42) < (l0_3.length:Int) then (if 0≤x4_5 then ((spinneyref01_Compare.f k5 ((rd_T24 l0_3 (ji42)).f0) ((rd_T24 l0_3 (ji42)).f1) ((rd_T24 l0_3 (ji42)).f2) ((rd_T24 l0_3 (ji42)).f3) ((rd_T24 l0_3 x4_5).f0) ((rd_T24 l0_3 x4_5).f1) ((rd_T24 l0_3 x4_5).f2) ((rd_T24 l0_3 x4_5).f3)).bind fun t150 => (if t150 ≥ 0 then (some false) else (spinneyref01_own.l0 k5 x3_32 (wrap64 (x4_5+x3_32)) a0_0 a0_1 a0_2 l0_3))) else (none)) else (none)) else (none))=some r:=by first|(rw [hji42] at H;exact H)|(simp only [hji42] at H ⊢;exact H)
                   have hji42w:(IntKind.i64.wrap (x4_5 - x3_32))=ji42:=(i64_w _).trans hji42
                   by_cases c43:0≤(ji42)
                   ·rw [if_pos c43] at H
                    have c43b0:decide (0≤(ji42))=true:=decide_eq_true c43
                    clear c43
                    by_cases c44:(ji42) < (l0_3.length:Int)
                    ·rw [if_pos c44] at H
                     have c44b0:decide ((ji42) < (l0_3.length:Int))=true:=decide_eq_true c44
                     clear c44
                     by_cases c45:0≤x4_5
                     ·rw [if_pos c45] at H
                      have c45b0:decide (0≤x4_5)=true:=decide_eq_true c45
                      clear c45
                      replace H:=Option.bind_eq_some_iff.mp H
                      obtain ⟨t150,A460,H⟩:=H
                      replace H:(if t150 ≥ 0 then (some false) else (spinneyref01_own.l0 k5 x3_32 (wrap64 (x4_5+x3_32)) a0_0 a0_1 a0_2 l0_3))=some r:=H
                      have A46:=Aside0.mk A460
                      clear A460
                      by_cases c47:t150 ≥ 0
                      ·rw [if_pos c47] at H
                       have c47b0:decide (0≤t150)=true:=decide_eq_true c47
                       clear c47
                       obtain rfl:=Option.some.inj H
                       have hcz48_0:wr.cell? ⟨gb145,0,none⟩=some (.int .i64 a0_0):=(blk_cell BK145.out 0).trans rfl;have hcz48_1:wr.cell? ⟨gb145,1,none⟩=some (.int .i64 a0_1):=(blk_cell BK145.out 1).trans rfl;have hcz48_2:wr.cell? ⟨gb145,2,none⟩=some (.string a0_2):=(blk_cell BK145.out 2).trans rfl;have hcz48_3:wr.cell? ⟨gb145,3,none⟩=some (.slice A0_3 l0_3.length c0_3):=(blk_cell BK145.out 3).trans rfl;have hfz48_0:=blk_frozen BK145.out 0;have hfz48_1:=blk_frozen BK145.out 1;have hfz48_2:=blk_frozen BK145.out 2;have hfz48_3:=blk_frozen BK145.out 3
                       try go_wp2
                       replace BK145:=Aside0.mk (blk_drew BK145.out);replace HB:=Aside0.mk (below_drew1 HB.out)
                       have p148:0≤((ji42):Int):=of_decide_eq_true (by first|(with_reducible assumption)|assumption)
                       have q148:(ji42) < (l0_3.length:Int):=of_decide_eq_true (by first|(with_reducible assumption)|assumption)
                       obtain ⟨ad148,A148_3,c148_3,e148,hx148_0,hx148_1,hx148_2,hx148_3,hl148_3,hi148_3⟩:=at_T24 HR0_3.out (ji42) p148 q148
                       have hw148_3:=hx148_3
                       have hw148_2:=hx148_2
                       have hw148_1:=hx148_1
                       have hw148_0:=hx148_0
                       cases e148
                       replace hx148_0:=(HB.out.cell (World.block_lt_of_cell? w _ hx148_0)).trans hx148_0
                       replace hx148_1:=(HB.out.cell (World.block_lt_of_cell? w _ hx148_1)).trans hx148_1
                       replace hx148_2:=(HB.out.cell (World.block_lt_of_cell? w _ hx148_2)).trans hx148_2
                       replace hx148_3:=(HB.out.cell (World.block_lt_of_cell? w _ hx148_3)).trans hx148_3
                       have HR148_3:=Aside0.mk hi148_3
                       have HC148_3:=Aside0.mk hl148_3
                       clear hi148_3 hl148_3
                       replace p148:=eq_true p148
                       replace q148:=eq_true q148
                       have p149:0≤(x4_5:Int):=of_decide_eq_true (by first|(with_reducible assumption)|assumption)
                       have q149:x4_5 < (l0_3.length:Int):=of_decide_eq_true (by first|(with_reducible assumption)|assumption)
                       obtain ⟨ad149,A149_3,c149_3,e149,hx149_0,hx149_1,hx149_2,hx149_3,hl149_3,hi149_3⟩:=at_T24 HR0_3.out x4_5 p149 q149
                       have hw149_3:=hx149_3
                       have hw149_2:=hx149_2
                       have hw149_1:=hx149_1
                       have hw149_0:=hx149_0
                       obtain rfl:ad148=ad149:=(by injection e149)
                       replace hx149_0:=(HB.out.cell (World.block_lt_of_cell? w _ hx149_0)).trans hx149_0
                       replace hx149_1:=(HB.out.cell (World.block_lt_of_cell? w _ hx149_1)).trans hx149_1
                       replace hx149_2:=(HB.out.cell (World.block_lt_of_cell? w _ hx149_2)).trans hx149_2
                       replace hx149_3:=(HB.out.cell (World.block_lt_of_cell? w _ hx149_3)).trans hx149_3
                       have HR149_3:=Aside0.mk hi149_3
                       have HC149_3:=Aside0.mk hl149_3
                       clear hi149_3 hl149_3
                       replace p149:=eq_true p149
                       replace q149:=eq_true q149
                       refine start_ (n:=14) (S:=fun w' => w'.cell? ⟨gb145,0,none⟩=some (.int .i64 a0_0)∧w'.cell? ⟨gb145,1,none⟩=some (.int .i64 a0_1)∧w'.cell? ⟨gb145,2,none⟩=some (.string a0_2)∧w'.cell? ⟨gb145,3,none⟩=some (.slice (some ad148) l0_3.length c0_3)∧w'.cell? (ad148.add (((ji42)).toNat * 4))=some (.int .i64 ((rd_T24 l0_3 (ji42)).f0))∧w'.cell? ⟨(ad148.add (((ji42)).toNat * 4)).block,(ad148.add (((ji42)).toNat * 4)).off+1,none⟩=some (.int .i64 ((rd_T24 l0_3 (ji42)).f1))∧w'.cell? ⟨(ad148.add (((ji42)).toNat * 4)).block,(ad148.add (((ji42)).toNat * 4)).off+2,none⟩=some (.string ((rd_T24 l0_3 (ji42)).f2))∧w'.cell? ⟨(ad148.add (((ji42)).toNat * 4)).block,(ad148.add (((ji42)).toNat * 4)).off+3,none⟩=some (.slice A148_3 ((rd_T24 l0_3 (ji42)).f3).length c148_3)∧w'.cell? (ad148.add ((x4_5).toNat * 4))=some (.int .i64 ((rd_T24 l0_3 x4_5).f0))∧w'.cell? ⟨(ad148.add ((x4_5).toNat * 4)).block,(ad148.add ((x4_5).toNat * 4)).off+1,none⟩=some (.int .i64 ((rd_T24 l0_3 x4_5).f1))∧w'.cell? ⟨(ad148.add ((x4_5).toNat * 4)).block,(ad148.add ((x4_5).toNat * 4)).off+2,none⟩=some (.string ((rd_T24 l0_3 x4_5).f2))∧w'.cell? ⟨(ad148.add ((x4_5).toNat * 4)).block,(ad148.add ((x4_5).toNat * 4)).off+3,none⟩=some (.slice A149_3 ((rd_T24 l0_3 x4_5).f3).length c149_3)) (ds:=[]) #[false,false,false,false,false,false,false,false,false,false,false,false,false,false] (by kernel_rfl) rfl rfl ⟨(blk_cell BK145.out 0).trans rfl,(blk_cell BK145.out 1).trans rfl,(blk_cell BK145.out 2).trans rfl,(blk_cell BK145.out 3).trans rfl,((HB.out.cell (World.block_lt_of_cell? w _ hw148_0)).trans hw148_0),((HB.out.cell (World.block_lt_of_cell? w _ hw148_1)).trans hw148_1),((HB.out.cell (World.block_lt_of_cell? w _ hw148_2)).trans hw148_2),((HB.out.cell (World.block_lt_of_cell? w _ hw148_3)).trans hw148_3),((HB.out.cell (World.block_lt_of_cell? w _ hw149_0)).trans hw149_0),((HB.out.cell (World.block_lt_of_cell? w _ hw149_1)).trans hw149_1),((HB.out.cell (World.block_lt_of_cell? w _ hw149_2)).trans hw149_2),((HB.out.cell (World.block_lt_of_cell? w _ hw149_3)).trans hw149_3)⟩ (fun hHeld => ?_);refine with_tabW spinneyref01_own.tab18 spinneyref01_own.bits18 (fun HT_ HW_ => ?_)
                       generalize wr.drew=w49 at BK145 HB HR148_3 HR149_3 hx148_0 hx148_1 hx148_2 hx148_3 hx149_0 hx149_1 hx149_2 hx149_3 hHeld ⊢
                       refine pure_ (i:=0) (N:=some 87) (v:=?_) (a':=?_) #[true,false,false,false,false,false,false,false,false,false,false,false,false,false] rfl rfl (any_of HT_.out (by kernel_rfl)) (fun _ _ _ h => h) (Or.inl ⟨by rfl,?_⟩) ?_ ?_
                       rotate_left
                       ·intro w'
                        go_simp
                        with_reducible rfl
                       rotate_left
                       ·simp only [Act.put,List.setIfInBounds_toArray,List.set_cons_zero,List.set_cons_succ,i64_w,i32_w]
                        rfl
                       refine pure_ (i:=2) (N:=some 89) (v:=?_) (a':=?_) #[true,false,true,false,false,false,false,false,false,false,false,false,false,false] rfl rfl (any_of HT_.out (by kernel_rfl)) (fun _ _ _ h => h) (Or.inl ⟨by rfl,?_⟩) ?_ ?_
                       rotate_left
                       ·intro w'
                        go_simp
                        with_reducible rfl
                       rotate_left
                       ·simp only [Act.put,List.setIfInBounds_toArray,List.set_cons_zero,List.set_cons_succ,i64_w,i32_w]
                        rfl
                       refine pure_ (i:=3) (N:=some 90) (v:=?_) (a':=?_) #[true,false,true,true,false,false,false,false,false,false,false,false,false,false] rfl rfl (any_of HT_.out (by kernel_rfl)) (fun _ _ _ h => h) (Or.inl ⟨by rfl,?_⟩) ?_ ?_
                       rotate_left
                       ·intro w'
                        go_simp
                        with_reducible rfl
                       rotate_left
                       ·simp only [Act.put,List.setIfInBounds_toArray,List.set_cons_zero,List.set_cons_succ,i64_w,i32_w]
                        rfl
                       refine pure_ (i:=4) (N:=some 91) (v:=?_) (a':=?_) #[true,false,true,true,true,false,false,false,false,false,false,false,false,false] rfl rfl (any_of HT_.out (by kernel_rfl)) (fun _ _ _ h => h) (Or.inl ⟨by rfl,?_⟩) ?_ ?_
                       rotate_left
                       ·intro w'
                        go_simp
                        with_reducible rfl
                       rotate_left
                       ·simp only [Act.put,List.setIfInBounds_toArray,List.set_cons_zero,List.set_cons_succ,i64_w,i32_w]
                        rfl
                       refine pure_ (i:=7) (N:=some 94) (v:=?_) (a':=?_) #[true,false,true,true,true,false,false,true,false,false,false,false,false,false] rfl rfl (any_of HT_.out (by kernel_rfl)) (fun _ _ _ h => h) (Or.inl ⟨by rfl,?_⟩) ?_ ?_
                       rotate_left
                       ·intro w'
                        go_simp
                        with_reducible rfl
                       rotate_left
                       ·simp only [Act.put,List.setIfInBounds_toArray,List.set_cons_zero,List.set_cons_succ,i64_w,i32_w]
                        rfl
                       refine pure_ (i:=9) (N:=some 96) (v:=?_) (a':=?_) #[true,false,true,true,true,false,false,true,false,true,false,false,false,false] rfl rfl (any_of HT_.out (by kernel_rfl)) (fun _ _ _ h => h) (Or.inl ⟨by rfl,?_⟩) ?_ ?_
                       rotate_left
                       ·intro w'
                        go_simp
                        with_reducible rfl
                       rotate_left
                       ·simp only [Act.put,List.setIfInBounds_toArray,List.set_cons_zero,List.set_cons_succ,i64_w,i32_w]
                        rfl
                       refine take_ (i:=1) (N:=some 88) (v:=?_) (a':=?_) #[true,true,true,true,true,false,false,true,false,true,false,false,false,false] rfl rfl (take_ofW HT_.out HW_.out (by kernel_rfl)) (fun _ _ _ h => h) (Or.inl ⟨by rfl,?_⟩) hHeld ?_ ?_
                       rotate_left
                       ·rintro w' ⟨s0,s1,s2,s3,s4,s5,s6,s7,s8,s9,s10,s11⟩
                        go_simp
                        with_reducible rfl
                       rotate_left
                       ·simp only [Act.put,List.setIfInBounds_toArray,List.set_cons_zero,List.set_cons_succ,i64_w,i32_w]
                        rfl
                       refine pure_ (i:=5) (N:=some 92) (v:=?_) (a':=?_) #[true,true,true,true,true,true,false,true,false,true,false,false,false,false] rfl rfl (any_of HT_.out (by kernel_rfl)) (fun _ _ _ h => h) (Or.inl ⟨by rfl,?_⟩) ?_ ?_
                       rotate_left
                       ·intro w'
                        go_simp
                        with_reducible rfl
                       rotate_left
                       ·simp only [Act.put,List.setIfInBounds_toArray,List.set_cons_zero,List.set_cons_succ,i64_w,i32_w]
                        rfl
                       refine take_ (i:=6) (N:=some 93) (v:=?_) (a':=?_) #[true,true,true,true,true,true,true,true,false,true,false,false,false,false] rfl rfl (take_ofW HT_.out HW_.out (by kernel_rfl)) (fun _ _ _ h => h) (Or.inl ⟨by rfl,?_⟩) hHeld ?_ ?_
                       rotate_left
                       ·rintro w' ⟨s0,s1,s2,s3,s4,s5,s6,s7,s8,s9,s10,s11⟩
                        go_simp
                        with_reducible rfl
                       rotate_left
                       ·simp only [Act.put,List.setIfInBounds_toArray,List.set_cons_zero,List.set_cons_succ,i64_w,i32_w]
                        rfl
                       refine take_ (i:=8) (N:=some 95) (v:=?_) (a':=?_) #[true,true,true,true,true,true,true,true,true,true,false,false,false,false] rfl rfl (take_ofW HT_.out HW_.out (by kernel_rfl)) (fun _ _ _ h => h) (Or.inl ⟨by rfl,?_⟩) hHeld ?_ ?_
                       rotate_left
                       ·rintro w' ⟨s0,s1,s2,s3,s4,s5,s6,s7,s8,s9,s10,s11⟩
                        go_simp
                        with_reducible rfl
                       rotate_left
                       ·simp only [Act.put,List.setIfInBounds_toArray,List.set_cons_zero,List.set_cons_succ,i64_w,i32_w]
                        rfl
                       refine pure_ (i:=10) (N:=some 97) (v:=?_) (a':=?_) #[true,true,true,true,true,true,true,true,true,true,true,false,false,false] rfl rfl (any_of HT_.out (by kernel_rfl)) (fun _ _ _ h => h) (Or.inl ⟨by rfl,?_⟩) ?_ ?_
                       rotate_left
                       ·intro w'
                        go_simp
                        with_reducible rfl
                       rotate_left
                       ·simp only [Act.put,List.setIfInBounds_toArray,List.set_cons_zero,List.set_cons_succ,i64_w,i32_w]
                        rfl
                       refine take_ (i:=11) (N:=some 98) (v:=?_) (a':=?_) #[true,true,true,true,true,true,true,true,true,true,true,true,false,false] rfl rfl (take_ofW HT_.out HW_.out (by kernel_rfl)) (fun _ _ _ h => h) (Or.inl ⟨by rfl,?_⟩) hHeld ?_ ?_
                       rotate_left
                       ·rintro w' ⟨s0,s1,s2,s3,s4,s5,s6,s7,s8,s9,s10,s11⟩
                        go_simp
                        with_reducible rfl
                       rotate_left
                       ·simp only [Act.put,List.setIfInBounds_toArray,List.set_cons_zero,List.set_cons_succ,i64_w,i32_w]
                        rfl
                       refine one_ (i:=12) (N:=some 99) #[true,true,true,true,true,true,true,true,true,true,true,true,true,false] rfl rfl (one_of HT_.out (by kernel_rfl)) (by decide) (fun K hK => ?_)
                       refine goes_ Tryd.func48 (by kernel_rfl) rfl #[.agg #[.int .i64 ((rd_T24 l0_3 (ji42)).f0),.int .i64 ((rd_T24 l0_3 (ji42)).f1),.string ((rd_T24 l0_3 (ji42)).f2),.slice A148_3 ((rd_T24 l0_3 (ji42)).f3).length c148_3],.agg #[.int .i64 ((rd_T24 l0_3 x4_5).f0),.int .i64 ((rd_T24 l0_3 x4_5).f1),.string ((rd_T24 l0_3 x4_5).f2),.slice A149_3 ((rd_T24 l0_3 x4_5).f3).length c149_3]] (by rfl) rfl rfl (by (try simp only [List.map_toArray,List.map_cons,List.map_nil]);first|done|(simp only [hji42];rfl)|rfl|(simp only [List.length_drop,List.length_take];rfl)|(simp only [gt_iff_lt,Int.ofNat_lt];rfl)) ?_
                       with_reducible refine (spinneyref01_Compare.calls k5 ((rd_T24 l0_3 (ji42)).f0) ((rd_T24 l0_3 (ji42)).f1) ((rd_T24 l0_3 (ji42)).f2) _ _ ((rd_T24 l0_3 (ji42)).f3) ((rd_T24 l0_3 x4_5).f0) ((rd_T24 l0_3 x4_5).f1) ((rd_T24 l0_3 x4_5).f2) _ _ ((rd_T24 l0_3 x4_5).f3) t150 _ ?side1 ?side2 ?side3 ?side4 A46.out).mono ?_
                       (case side1 => repeat (first|exact (Kd.C_below HR148_3.out HB.out)|(with_reducible refine Kd.C_alloc ?_ _)|(with_reducible refine Kd.C_drewN ?_ _)|(with_reducible refine Kd.C_drew ?_)))
                       (case side2 => exact HC148_3.out)
                       (case side3 => repeat (first|exact (Kd.C_below HR149_3.out HB.out)|(with_reducible refine Kd.C_alloc ?_ _)|(with_reducible refine Kd.C_drewN ?_ _)|(with_reducible refine Kd.C_drew ?_)))
                       (case side4 => exact HC149_3.out)
                       rintro e w50 ⟨rfl,hb⟩
                       refine ⟨_,rfl,?_⟩
                       replace BK145:=ca_b BK145 hb;replace HB:=ca_h HB hb
                       (try clear hb)
                       (try clear hb2)
                       (try clear hk)
                       (try clear hi)
                       refine hK.out _ _ ⟨(blk_cell BK145.out 0).trans rfl,(blk_cell BK145.out 1).trans rfl,(blk_cell BK145.out 2).trans rfl,(blk_cell BK145.out 3).trans rfl,((HB.out.cell (World.block_lt_of_cell? w _ hw148_0)).trans hw148_0),((HB.out.cell (World.block_lt_of_cell? w _ hw148_1)).trans hw148_1),((HB.out.cell (World.block_lt_of_cell? w _ hw148_2)).trans hw148_2),((HB.out.cell (World.block_lt_of_cell? w _ hw148_3)).trans hw148_3),((HB.out.cell (World.block_lt_of_cell? w _ hw149_0)).trans hw149_0),((HB.out.cell (World.block_lt_of_cell? w _ hw149_1)).trans hw149_1),((HB.out.cell (World.block_lt_of_cell? w _ hw149_2)).trans hw149_2),((HB.out.cell (World.block_lt_of_cell? w _ hw149_3)).trans hw149_3)⟩ (fun hHeld => ?_)
                       clear hK K
                       refine norm_ (a':=?_) ?_ ?_
                       rotate_left
                       ·show Act.put _ (some 99) _=_
                        simp only [Act.put,List.setIfInBounds_toArray,List.set_cons_zero,List.set_cons_succ,i64_w,i32_w]
                        rfl
                       refine pure_ (i:=13) (N:=some 100) (v:=?_) (a':=?_) #[true,true,true,true,true,true,true,true,true,true,true,true,true,true] rfl rfl (any_of HT_.out (by kernel_rfl)) (fun _ _ _ h => h) (Or.inl ⟨by rfl,?_⟩) ?_ ?_
                       rotate_left
                       ·intro w'
                        go_simp
                        with_reducible rfl
                       rotate_left
                       ·simp only [Act.put,List.setIfInBounds_toArray,List.set_cons_zero,List.set_cons_succ,i64_w,i32_w]
                        rfl
                       refine done_ (done_of HT_.out (by kernel_rfl)) ?_
                       try go_wp2
                       go_ret
                       exact ⟨by first|rfl|(simp [errW_none,errW_some] <;> rfl)|(simp only [← hji42];first|rfl|(simp [errW_none,errW_some] <;> rfl))|(simp [*,errW_none,errW_some] <;> rfl),by repeat (first|(with_reducible first|exact HB.out|apply below_alloc|apply pw_below_drewN|apply below_drew1|refine below_set ?_ GE145.out)|exact HB.out)⟩
                      ·rw [if_neg c47] at H
                       have c47b0:decide (0≤t150)=false:=decide_eq_false c47
                       clear c47
                       have H':=Aside0.mk H
                       clear H
                       have hcz51_0:wr.cell? ⟨gb145,0,none⟩=some (.int .i64 a0_0):=(blk_cell BK145.out 0).trans rfl;have hcz51_1:wr.cell? ⟨gb145,1,none⟩=some (.int .i64 a0_1):=(blk_cell BK145.out 1).trans rfl;have hcz51_2:wr.cell? ⟨gb145,2,none⟩=some (.string a0_2):=(blk_cell BK145.out 2).trans rfl;have hcz51_3:wr.cell? ⟨gb145,3,none⟩=some (.slice A0_3 l0_3.length c0_3):=(blk_cell BK145.out 3).trans rfl;have hfz51_0:=blk_frozen BK145.out 0;have hfz51_1:=blk_frozen BK145.out 1;have hfz51_2:=blk_frozen BK145.out 2;have hfz51_3:=blk_frozen BK145.out 3
                       try go_wp2
                       replace BK145:=Aside0.mk (blk_drew BK145.out);replace HB:=Aside0.mk (below_drew1 HB.out)
                       have p148:0≤((ji42):Int):=of_decide_eq_true (by first|(with_reducible assumption)|assumption)
                       have q148:(ji42) < (l0_3.length:Int):=of_decide_eq_true (by first|(with_reducible assumption)|assumption)
                       obtain ⟨ad148,A148_3,c148_3,e148,hx148_0,hx148_1,hx148_2,hx148_3,hl148_3,hi148_3⟩:=at_T24 HR0_3.out (ji42) p148 q148
                       have hw148_3:=hx148_3
                       have hw148_2:=hx148_2
                       have hw148_1:=hx148_1
                       have hw148_0:=hx148_0
                       cases e148
                       replace hx148_0:=(HB.out.cell (World.block_lt_of_cell? w _ hx148_0)).trans hx148_0
                       replace hx148_1:=(HB.out.cell (World.block_lt_of_cell? w _ hx148_1)).trans hx148_1
                       replace hx148_2:=(HB.out.cell (World.block_lt_of_cell? w _ hx148_2)).trans hx148_2
                       replace hx148_3:=(HB.out.cell (World.block_lt_of_cell? w _ hx148_3)).trans hx148_3
                       have HR148_3:=Aside0.mk hi148_3
                       have HC148_3:=Aside0.mk hl148_3
                       clear hi148_3 hl148_3
                       replace p148:=eq_true p148
                       replace q148:=eq_true q148
                       have p149:0≤(x4_5:Int):=of_decide_eq_true (by first|(with_reducible assumption)|assumption)
                       have q149:x4_5 < (l0_3.length:Int):=of_decide_eq_true (by first|(with_reducible assumption)|assumption)
                       obtain ⟨ad149,A149_3,c149_3,e149,hx149_0,hx149_1,hx149_2,hx149_3,hl149_3,hi149_3⟩:=at_T24 HR0_3.out x4_5 p149 q149
                       have hw149_3:=hx149_3
                       have hw149_2:=hx149_2
                       have hw149_1:=hx149_1
                       have hw149_0:=hx149_0
                       obtain rfl:ad148=ad149:=(by injection e149)
                       replace hx149_0:=(HB.out.cell (World.block_lt_of_cell? w _ hx149_0)).trans hx149_0
                       replace hx149_1:=(HB.out.cell (World.block_lt_of_cell? w _ hx149_1)).trans hx149_1
                       replace hx149_2:=(HB.out.cell (World.block_lt_of_cell? w _ hx149_2)).trans hx149_2
                       replace hx149_3:=(HB.out.cell (World.block_lt_of_cell? w _ hx149_3)).trans hx149_3
                       have HR149_3:=Aside0.mk hi149_3
                       have HC149_3:=Aside0.mk hl149_3
                       clear hi149_3 hl149_3
                       replace p149:=eq_true p149
                       replace q149:=eq_true q149
                       refine start_ (n:=14) (S:=fun w' => w'.cell? ⟨gb145,0,none⟩=some (.int .i64 a0_0)∧w'.cell? ⟨gb145,1,none⟩=some (.int .i64 a0_1)∧w'.cell? ⟨gb145,2,none⟩=some (.string a0_2)∧w'.cell? ⟨gb145,3,none⟩=some (.slice (some ad148) l0_3.length c0_3)∧w'.cell? (ad148.add (((ji42)).toNat * 4))=some (.int .i64 ((rd_T24 l0_3 (ji42)).f0))∧w'.cell? ⟨(ad148.add (((ji42)).toNat * 4)).block,(ad148.add (((ji42)).toNat * 4)).off+1,none⟩=some (.int .i64 ((rd_T24 l0_3 (ji42)).f1))∧w'.cell? ⟨(ad148.add (((ji42)).toNat * 4)).block,(ad148.add (((ji42)).toNat * 4)).off+2,none⟩=some (.string ((rd_T24 l0_3 (ji42)).f2))∧w'.cell? ⟨(ad148.add (((ji42)).toNat * 4)).block,(ad148.add (((ji42)).toNat * 4)).off+3,none⟩=some (.slice A148_3 ((rd_T24 l0_3 (ji42)).f3).length c148_3)∧w'.cell? (ad148.add ((x4_5).toNat * 4))=some (.int .i64 ((rd_T24 l0_3 x4_5).f0))∧w'.cell? ⟨(ad148.add ((x4_5).toNat * 4)).block,(ad148.add ((x4_5).toNat * 4)).off+1,none⟩=some (.int .i64 ((rd_T24 l0_3 x4_5).f1))∧w'.cell? ⟨(ad148.add ((x4_5).toNat * 4)).block,(ad148.add ((x4_5).toNat * 4)).off+2,none⟩=some (.string ((rd_T24 l0_3 x4_5).f2))∧w'.cell? ⟨(ad148.add ((x4_5).toNat * 4)).block,(ad148.add ((x4_5).toNat * 4)).off+3,none⟩=some (.slice A149_3 ((rd_T24 l0_3 x4_5).f3).length c149_3)) (ds:=[]) #[false,false,false,false,false,false,false,false,false,false,false,false,false,false] (by kernel_rfl) rfl rfl ⟨(blk_cell BK145.out 0).trans rfl,(blk_cell BK145.out 1).trans rfl,(blk_cell BK145.out 2).trans rfl,(blk_cell BK145.out 3).trans rfl,((HB.out.cell (World.block_lt_of_cell? w _ hw148_0)).trans hw148_0),((HB.out.cell (World.block_lt_of_cell? w _ hw148_1)).trans hw148_1),((HB.out.cell (World.block_lt_of_cell? w _ hw148_2)).trans hw148_2),((HB.out.cell (World.block_lt_of_cell? w _ hw148_3)).trans hw148_3),((HB.out.cell (World.block_lt_of_cell? w _ hw149_0)).trans hw149_0),((HB.out.cell (World.block_lt_of_cell? w _ hw149_1)).trans hw149_1),((HB.out.cell (World.block_lt_of_cell? w _ hw149_2)).trans hw149_2),((HB.out.cell (World.block_lt_of_cell? w _ hw149_3)).trans hw149_3)⟩ (fun hHeld => ?_);refine with_tabW spinneyref01_own.tab18 spinneyref01_own.bits18 (fun HT_ HW_ => ?_)
                       generalize wr.drew=w52 at BK145 HB HR148_3 HR149_3 hx148_0 hx148_1 hx148_2 hx148_3 hx149_0 hx149_1 hx149_2 hx149_3 hHeld ⊢
                       refine pure_ (i:=0) (N:=some 87) (v:=?_) (a':=?_) #[true,false,false,false,false,false,false,false,false,false,false,false,false,false] rfl rfl (any_of HT_.out (by kernel_rfl)) (fun _ _ _ h => h) (Or.inl ⟨by rfl,?_⟩) ?_ ?_
                       rotate_left
                       ·intro w'
                        go_simp
                        with_reducible rfl
                       rotate_left
                       ·simp only [Act.put,List.setIfInBounds_toArray,List.set_cons_zero,List.set_cons_succ,i64_w,i32_w]
                        rfl
                       refine pure_ (i:=2) (N:=some 89) (v:=?_) (a':=?_) #[true,false,true,false,false,false,false,false,false,false,false,false,false,false] rfl rfl (any_of HT_.out (by kernel_rfl)) (fun _ _ _ h => h) (Or.inl ⟨by rfl,?_⟩) ?_ ?_
                       rotate_left
                       ·intro w'
                        go_simp
                        with_reducible rfl
                       rotate_left
                       ·simp only [Act.put,List.setIfInBounds_toArray,List.set_cons_zero,List.set_cons_succ,i64_w,i32_w]
                        rfl
                       refine pure_ (i:=3) (N:=some 90) (v:=?_) (a':=?_) #[true,false,true,true,false,false,false,false,false,false,false,false,false,false] rfl rfl (any_of HT_.out (by kernel_rfl)) (fun _ _ _ h => h) (Or.inl ⟨by rfl,?_⟩) ?_ ?_
                       rotate_left
                       ·intro w'
                        go_simp
                        with_reducible rfl
                       rotate_left
                       ·simp only [Act.put,List.setIfInBounds_toArray,List.set_cons_zero,List.set_cons_succ,i64_w,i32_w]
                        rfl
                       refine pure_ (i:=4) (N:=some 91) (v:=?_) (a':=?_) #[true,false,true,true,true,false,false,false,false,false,false,false,false,false] rfl rfl (any_of HT_.out (by kernel_rfl)) (fun _ _ _ h => h) (Or.inl ⟨by rfl,?_⟩) ?_ ?_
                       rotate_left
                       ·intro w'
                        go_simp
                        with_reducible rfl
                       rotate_left
                       ·simp only [Act.put,List.setIfInBounds_toArray,List.set_cons_zero,List.set_cons_succ,i64_w,i32_w]
                        rfl
                       refine pure_ (i:=7) (N:=some 94) (v:=?_) (a':=?_) #[true,false,true,true,true,false,false,true,false,false,false,false,false,false] rfl rfl (any_of HT_.out (by kernel_rfl)) (fun _ _ _ h => h) (Or.inl ⟨by rfl,?_⟩) ?_ ?_
                       rotate_left
                       ·intro w'
                        go_simp
                        with_reducible rfl
                       rotate_left
                       ·simp only [Act.put,List.setIfInBounds_toArray,List.set_cons_zero,List.set_cons_succ,i64_w,i32_w]
                        rfl
                       refine pure_ (i:=9) (N:=some 96) (v:=?_) (a':=?_) #[true,false,true,true,true,false,false,true,false,true,false,false,false,false] rfl rfl (any_of HT_.out (by kernel_rfl)) (fun _ _ _ h => h) (Or.inl ⟨by rfl,?_⟩) ?_ ?_
                       rotate_left
                       ·intro w'
                        go_simp
                        with_reducible rfl
                       rotate_left
                       ·simp only [Act.put,List.setIfInBounds_toArray,List.set_cons_zero,List.set_cons_succ,i64_w,i32_w]
                        rfl
                       refine take_ (i:=1) (N:=some 88) (v:=?_) (a':=?_) #[true,true,true,true,true,false,false,true,false,true,false,false,false,false] rfl rfl (take_ofW HT_.out HW_.out (by kernel_rfl)) (fun _ _ _ h => h) (Or.inl ⟨by rfl,?_⟩) hHeld ?_ ?_
                       rotate_left
                       ·rintro w' ⟨s0,s1,s2,s3,s4,s5,s6,s7,s8,s9,s10,s11⟩
                        go_simp
                        with_reducible rfl
                       rotate_left
                       ·simp only [Act.put,List.setIfInBounds_toArray,List.set_cons_zero,List.set_cons_succ,i64_w,i32_w]
                        rfl
                       refine pure_ (i:=5) (N:=some 92) (v:=?_) (a':=?_) #[true,true,true,true,true,true,false,true,false,true,false,false,false,false] rfl rfl (any_of HT_.out (by kernel_rfl)) (fun _ _ _ h => h) (Or.inl ⟨by rfl,?_⟩) ?_ ?_
                       rotate_left
                       ·intro w'
                        go_simp
                        with_reducible rfl
                       rotate_left
                       ·simp only [Act.put,List.setIfInBounds_toArray,List.set_cons_zero,List.set_cons_succ,i64_w,i32_w]
                        rfl
                       refine take_ (i:=6) (N:=some 93) (v:=?_) (a':=?_) #[true,true,true,true,true,true,true,true,false,true,false,false,false,false] rfl rfl (take_ofW HT_.out HW_.out (by kernel_rfl)) (fun _ _ _ h => h) (Or.inl ⟨by rfl,?_⟩) hHeld ?_ ?_
                       rotate_left
                       ·rintro w' ⟨s0,s1,s2,s3,s4,s5,s6,s7,s8,s9,s10,s11⟩
                        go_simp
                        with_reducible rfl
                       rotate_left
                       ·simp only [Act.put,List.setIfInBounds_toArray,List.set_cons_zero,List.set_cons_succ,i64_w,i32_w]
                        rfl
                       refine take_ (i:=8) (N:=some 95) (v:=?_) (a':=?_) #[true,true,true,true,true,true,true,true,true,true,false,false,false,false] rfl rfl (take_ofW HT_.out HW_.out (by kernel_rfl)) (fun _ _ _ h => h) (Or.inl ⟨by rfl,?_⟩) hHeld ?_ ?_
                       rotate_left
                       ·rintro w' ⟨s0,s1,s2,s3,s4,s5,s6,s7,s8,s9,s10,s11⟩
                        go_simp
                        with_reducible rfl
                       rotate_left
                       ·simp only [Act.put,List.setIfInBounds_toArray,List.set_cons_zero,List.set_cons_succ,i64_w,i32_w]
                        rfl
                       refine pure_ (i:=10) (N:=some 97) (v:=?_) (a':=?_) #[true,true,true,true,true,true,true,true,true,true,true,false,false,false] rfl rfl (any_of HT_.out (by kernel_rfl)) (fun _ _ _ h => h) (Or.inl ⟨by rfl,?_⟩) ?_ ?_
                       rotate_left
                       ·intro w'
                        go_simp
                        with_reducible rfl
                       rotate_left
                       ·simp only [Act.put,List.setIfInBounds_toArray,List.set_cons_zero,List.set_cons_succ,i64_w,i32_w]
                        rfl
                       refine take_ (i:=11) (N:=some 98) (v:=?_) (a':=?_) #[true,true,true,true,true,true,true,true,true,true,true,true,false,false] rfl rfl (take_ofW HT_.out HW_.out (by kernel_rfl)) (fun _ _ _ h => h) (Or.inl ⟨by rfl,?_⟩) hHeld ?_ ?_
                       rotate_left
                       ·rintro w' ⟨s0,s1,s2,s3,s4,s5,s6,s7,s8,s9,s10,s11⟩
                        go_simp
                        with_reducible rfl
                       rotate_left
                       ·simp only [Act.put,List.setIfInBounds_toArray,List.set_cons_zero,List.set_cons_succ,i64_w,i32_w]
                        rfl
                       refine one_ (i:=12) (N:=some 99) #[true,true,true,true,true,true,true,true,true,true,true,true,true,false] rfl rfl (one_of HT_.out (by kernel_rfl)) (by decide) (fun K hK => ?_)
                       refine goes_ Tryd.func48 (by kernel_rfl) rfl #[.agg #[.int .i64 ((rd_T24 l0_3 (ji42)).f0),.int .i64 ((rd_T24 l0_3 (ji42)).f1),.string ((rd_T24 l0_3 (ji42)).f2),.slice A148_3 ((rd_T24 l0_3 (ji42)).f3).length c148_3],.agg #[.int .i64 ((rd_T24 l0_3 x4_5).f0),.int .i64 ((rd_T24 l0_3 x4_5).f1),.string ((rd_T24 l0_3 x4_5).f2),.slice A149_3 ((rd_T24 l0_3 x4_5).f3).length c149_3]] (by rfl) rfl rfl (by (try simp only [List.map_toArray,List.map_cons,List.map_nil]);first|done|(simp only [hji42];rfl)|rfl|(simp only [List.length_drop,List.length_take];rfl)|(simp only [gt_iff_lt,Int.ofNat_lt];rfl)) ?_
                       with_reducible refine (spinneyref01_Compare.calls k5 ((rd_T24 l0_3 (ji42)).f0) ((rd_T24 l0_3 (ji42)).f1) ((rd_T24 l0_3 (ji42)).f2) _ _ ((rd_T24 l0_3 (ji42)).f3) ((rd_T24 l0_3 x4_5).f0) ((rd_T24 l0_3 x4_5).f1) ((rd_T24 l0_3 x4_5).f2) _ _ ((rd_T24 l0_3 x4_5).f3) t150 _ ?side1 ?side2 ?side3 ?side4 A46.out).mono ?_
                       (case side1 => repeat (first|exact (Kd.C_below HR148_3.out HB.out)|(with_reducible refine Kd.C_alloc ?_ _)|(with_reducible refine Kd.C_drewN ?_ _)|(with_reducible refine Kd.C_drew ?_)))
                       (case side2 => exact HC148_3.out)
                       (case side3 => repeat (first|exact (Kd.C_below HR149_3.out HB.out)|(with_reducible refine Kd.C_alloc ?_ _)|(with_reducible refine Kd.C_drewN ?_ _)|(with_reducible refine Kd.C_drew ?_)))
                       (case side4 => exact HC149_3.out)
                       rintro e w53 ⟨rfl,hb⟩
                       refine ⟨_,rfl,?_⟩
                       replace BK145:=ca_b BK145 hb;replace HB:=ca_h HB hb
                       (try clear hb)
                       (try clear hb2)
                       (try clear hk)
                       (try clear hi)
                       refine hK.out _ _ ⟨(blk_cell BK145.out 0).trans rfl,(blk_cell BK145.out 1).trans rfl,(blk_cell BK145.out 2).trans rfl,(blk_cell BK145.out 3).trans rfl,((HB.out.cell (World.block_lt_of_cell? w _ hw148_0)).trans hw148_0),((HB.out.cell (World.block_lt_of_cell? w _ hw148_1)).trans hw148_1),((HB.out.cell (World.block_lt_of_cell? w _ hw148_2)).trans hw148_2),((HB.out.cell (World.block_lt_of_cell? w _ hw148_3)).trans hw148_3),((HB.out.cell (World.block_lt_of_cell? w _ hw149_0)).trans hw149_0),((HB.out.cell (World.block_lt_of_cell? w _ hw149_1)).trans hw149_1),((HB.out.cell (World.block_lt_of_cell? w _ hw149_2)).trans hw149_2),((HB.out.cell (World.block_lt_of_cell? w _ hw149_3)).trans hw149_3)⟩ (fun hHeld => ?_)
                       clear hK K
                       refine norm_ (a':=?_) ?_ ?_
                       rotate_left
                       ·show Act.put _ (some 99) _=_
                        simp only [Act.put,List.setIfInBounds_toArray,List.set_cons_zero,List.set_cons_succ,i64_w,i32_w]
                        rfl
                       refine pure_ (i:=13) (N:=some 100) (v:=?_) (a':=?_) #[true,true,true,true,true,true,true,true,true,true,true,true,true,true] rfl rfl (any_of HT_.out (by kernel_rfl)) (fun _ _ _ h => h) (Or.inl ⟨by rfl,?_⟩) ?_ ?_
                       rotate_left
                       ·intro w'
                        go_simp
                        with_reducible rfl
                       rotate_left
                       ·simp only [Act.put,List.setIfInBounds_toArray,List.set_cons_zero,List.set_cons_succ,i64_w,i32_w]
                        rfl
                       refine done_ (done_of HT_.out (by kernel_rfl)) ?_
                       try go_wp2
                       go_roundg k5
                       case measure => have:=HJ1.out;have:=HJ7.out;have:=HJ23.out;have:=HJ32.out;have:=HK5.out;omega
                       case rel => exact ⟨(wrap64 (x4_5+x3_32)),(by first|rfl|(simp;done)|(simp [*];done)),H',⟨by have:=HJ1.out;have:=HJ7.out;have:=HJ23.out;have:=HJ32.out;have:=HK5.out;omega⟩,⟨by (with_reducible repeat (first|refine blk_drewN ?_ _|refine blk_drew ?_|refine blk_alloc ?_ _));exact BK145.out⟩,⟨by repeat (first|(with_reducible first|exact HB.out|apply below_alloc|apply pw_below_drewN|apply below_drew1|refine below_set ?_ GE145.out)|exact HB.out)⟩⟩
                     ·rw [if_neg c45] at H
                      exact absurd H (by simp)
                    ·rw [if_neg c44] at H
                     exact absurd H (by simp)
                   ·rw [if_neg c43] at H
                    exact absurd H (by simp)
                  ·rw [if_neg c41] at H
                   have c41b0:decide (x4_5 < (l0_3.length:Int))=false:=decide_eq_false c41
                   clear c41
                   obtain rfl:=Option.some.inj H
                   have hcz54_0:wr.cell? ⟨gb145,0,none⟩=some (.int .i64 a0_0):=(blk_cell BK145.out 0).trans rfl;have hcz54_1:wr.cell? ⟨gb145,1,none⟩=some (.int .i64 a0_1):=(blk_cell BK145.out 1).trans rfl;have hcz54_2:wr.cell? ⟨gb145,2,none⟩=some (.string a0_2):=(blk_cell BK145.out 2).trans rfl;have hcz54_3:wr.cell? ⟨gb145,3,none⟩=some (.slice A0_3 l0_3.length c0_3):=(blk_cell BK145.out 3).trans rfl;have hfz54_0:=blk_frozen BK145.out 0;have hfz54_1:=blk_frozen BK145.out 1;have hfz54_2:=blk_frozen BK145.out 2;have hfz54_3:=blk_frozen BK145.out 3
                   go_wp2
                   go_ret
                   exact ⟨by first|rfl|(simp [errW_none,errW_some] <;> rfl)|(simp [*,errW_none,errW_some] <;> rfl),by repeat (first|(with_reducible first|exact HB.out|apply below_alloc|apply pw_below_drewN|apply below_drew1|refine below_set ?_ GE145.out)|exact HB.out)⟩
              ·rw [if_neg c37] at H
               have c37b0:(((l0_3.length:Int) % x3_32) == 0)=false:=beq_eq_false_iff_ne.mpr c37
               have c37b1:(((l0_3.length:Int) % x3_32) != 0)=true:=bne_iff_ne.mpr c37
               obtain rfl:=Option.some.inj H
               have hcz55_0:wc.cell? ⟨gb145,0,none⟩=some (.int .i64 a0_0):=(blk_cell BK145.out 0).trans rfl;have hcz55_1:wc.cell? ⟨gb145,1,none⟩=some (.int .i64 a0_1):=(blk_cell BK145.out 1).trans rfl;have hcz55_2:wc.cell? ⟨gb145,2,none⟩=some (.string a0_2):=(blk_cell BK145.out 2).trans rfl;have hcz55_3:wc.cell? ⟨gb145,3,none⟩=some (.slice A0_3 l0_3.length c0_3):=(blk_cell BK145.out 3).trans rfl;have hfz55_0:=blk_frozen BK145.out 0;have hfz55_1:=blk_frozen BK145.out 1;have hfz55_2:=blk_frozen BK145.out 2;have hfz55_3:=blk_frozen BK145.out 3
               go_wp2
               go_ret
               exact ⟨by first|rfl|(simp [errW_none,errW_some] <;> rfl)|(simp [*,errW_none,errW_some] <;> rfl),by repeat (first|(with_reducible first|exact HB.out|apply below_alloc|apply pw_below_drewN|apply below_drew1|refine below_set ?_ GE145.out)|exact HB.out)⟩

end Go.Proofs.YtgmmoagclkmeaaaDoor.XH
