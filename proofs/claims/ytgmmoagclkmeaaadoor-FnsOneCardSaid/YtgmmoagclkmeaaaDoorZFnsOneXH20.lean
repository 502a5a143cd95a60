-- cut down by bundle.py (the session's own program) from the texts YtgmmoagclkmeaaaDoorXH20, to what this claim names
import Derived.Test.YtgmmoagclkmeaaaDoorZFnsOneXH0
-- laid by xprint.py (the session's own program) out of the translation; Lean checks it
namespace Go.Proofs.YtgmmoagclkmeaaaDoor.XH
open Go.RowKit Go.Proofs.YtgmmoagclkmeaaaDoorW.PrintWords Go.Proofs.YtgmmoagclkmeaaaDoorW.PrintLast Go.Proofs.YtgmmoagclkmeaaaDoorW.PrintMore
attribute [local go_sem] max2_int min2_int max_two min_two max_three min_three max_four min_four   -- for this text's walks alone
set_option linter.unusedVariables false
set_option linter.unusedSimpArgs false

mutual
def spinneyplain_Value.j0:Nat→Bool→Int→Int→ByteArray→List (S24)→Int→Int→ByteArray→List (S24)→Option (Bool)
 | 0,_,_,_,_,_,_,_,_,_ => none
 | k+1,x33,x407000,x407001,x407002,x407003,x408000,x408001,x408002,x408003 => if x33=true then (some false) else (spinneyplain_Value.l0 k (x407003.length:Int) 0 x407000 x407001 x407002 x407003 x408000 x408001 x408002 x408003)
def spinneyplain_Value.l0:Nat→Int→Int→Int→Int→ByteArray→List (S24)→Int→Int→ByteArray→List (S24)→Option (Bool)
 | 0,_,_,_,_,_,_,_,_,_,_ => none
 | k+1,x36,x37,x407000,x407001,x407002,x407003,x408000,x408001,x408002,x408003 => if x37 < x36 then (if 0≤x37 then (if x37 < (x407003.length:Int) then (if x37 < (x408003.length:Int) then ((spinneyplain_Value.f k ((rd_T24 x407003 x37).f0) ((rd_T24 x407003 x37).f1) ((rd_T24 x407003 x37).f2) ((rd_T24 x407003 x37).f3) ((rd_T24 x408003 x37).f0) ((rd_T24 x408003 x37).f1) ((rd_T24 x408003 x37).f2) ((rd_T24 x408003 x37).f3)).bind fun t410 => (if t410=true then (spinneyplain_Value.l0 k x36 (wrap64 (x37+1)) x407000 x407001 x407002 x407003 x408000 x408001 x408002 x408003) else (some false))) else (none)) else (none)) else (none)) else (some true)
def spinneyplain_Value.f:Nat→Int→Int→ByteArray→List (S24)→Int→Int→ByteArray→List (S24)→Option (Bool)
 | 0,_,_,_,_,_,_,_,_ => none
 | k+1,a0_0,a0_1,a0_2,l0_3,a1_0,a1_1,a1_2,l1_3 => if a0_0=a1_0 then (if a0_1=a1_1 then (if a0_2.toList=a1_2.toList then (spinneyplain_Value.j0 k ((l0_3.length:Int) != (l1_3.length:Int)) a0_0 a0_1 a0_2 l0_3 a1_0 a1_1 a1_2 l1_3) else (spinneyplain_Value.j0 k true a0_0 a0_1 a0_2 l0_3 a1_0 a1_1 a1_2 l1_3)) else (spinneyplain_Value.j0 k true a0_0 a0_1 a0_2 l0_3 a1_0 a1_1 a1_2 l1_3)) else (spinneyplain_Value.j0 k true a0_0 a0_1 a0_2 l0_3 a1_0 a1_1 a1_2 l1_3)
end
def spinneyplain_Value.T6:Bool × List (List Nat × List Nat):=(true,[([],[]),([0],[0]),([],[]),([1,2],[1,2]),([3],[3]),([],[]),([5],[5]),([],[]),([6,7],[6,7]),([8],[8]),([4,9],[4,9]),([10],[10])])
def spinneyplain_Value.B6:List Nat:=[0,1,0,7,15,0,32,0,224,480,1023,2047]
theorem spinneyplain_Value.tab6:rtab .any (opsOf Tryd.f13 6)=spinneyplain_Value.T6:=by kernel_rfl
theorem spinneyplain_Value.bits6:waitsOk spinneyplain_Value.T6.2 spinneyplain_Value.B6=true:=by kernel_rfl
set_option maxHeartbeats 8000000 in
set_option maxRecDepth 100000 in
theorem spinneyplain_Value.calls (k:Nat):∀ (a0_0:Int) (a0_1:Int) (a0_2:ByteArray) (A0_3:Option Addr) (c0_3:Nat) (l0_3:List (S24)) (a1_0:Int) (a1_1:Int) (a1_2:ByteArray) (A1_3:Option Addr) (c1_3:Nat) (l1_3:List (S24)) (r:Bool) (w:World) (hr0_3:Kd.C k24 w A0_3 l0_3.length l0_3) (hc0_3:l0_3.length≤c0_3) (hr1_3:Kd.C k24 w A1_3 l1_3.length l1_3) (hc1_3:l1_3.length≤c1_3) (h:spinneyplain_Value.f k a0_0 a0_1 a0_2 l0_3 a1_0 a1_1 a1_2 l1_3=some r),
  Calls Tryd.prog 13 #[.agg #[.int .i64 a0_0,.int .i64 a0_1,.string a0_2,.slice A0_3 l0_3.length c0_3],.agg #[.int .i64 a1_0,.int .i64 a1_1,.string a1_2,.slice A1_3 l1_3.length c1_3]] w fun e w' => e=.returned (.bool r)∧Below w.heap.size w w':=by
 induction k using Nat.strongRecOn with
 | _ k ih =>
 intro a0_0 a0_1 a0_2 A0_3 c0_3 l0_3 a1_0 a1_1 a1_2 A1_3 c1_3 l1_3 r w hr0_3 hc0_3 hr1_3 hc1_3 h
 cases k with
 | zero => exact absurd h (by simp [spinneyplain_Value.f])
 | succ k =>
 simp only [spinneyplain_Value.f] at h
 have hu24:=Tryd.underlying24
 have HR0_3:=Aside0.mk hr0_3
 have HC0_3:=Aside0.mk hc0_3
 clear hr0_3 hc0_3
 have HR1_3:=Aside0.mk hr1_3
 have HC1_3:=Aside0.mk hc1_3
 clear hr1_3 hc1_3
 have HB:=Aside0.mk (Below.refl w.heap.size w)
 have H:(if a0_0=a1_0 then (if a0_1=a1_1 then (if a0_2.toList=a1_2.toList then (spinneyplain_Value.j0 k ((l0_3.length:Int) != (l1_3.length:Int)) a0_0 a0_1 a0_2 l0_3 a1_0 a1_1 a1_2 l1_3) else (spinneyplain_Value.j0 k true a0_0 a0_1 a0_2 l0_3 a1_0 a1_1 a1_2 l1_3)) else (spinneyplain_Value.j0 k true a0_0 a0_1 a0_2 l0_3 a1_0 a1_1 a1_2 l1_3)) else (spinneyplain_Value.j0 k true a0_0 a0_1 a0_2 l0_3 a1_0 a1_1 a1_2 l1_3))=some r:=h
 clear h
 have HC3:=Aside0.mk H
 clear H
 go_enter Tryd.func13,Tryd.ntmps13
 go_upto_region 1 with (first|((with_reducible refine gate_dst (N:=2) rfl ?_);(try (refine gate_guard (by rfl) ?_;dsimp only));refine box_event ?hg (N:=2) ?hd (cs:=#[.int .i64 a0_0,.int .i64 a0_1,.string a0_2,.slice A0_3 l0_3.length c0_3]) (t:=24) ?hr ?_;(case hd => rfl);(case hg => rfl);(case hr => first|(go_simp;done)|(go_simp;rfl));intro gb406 hg w4 hbox hb;have BK406:=Aside0.mk (hbox);have GW406:=Aside0.mk ((by rw [hg];exact (below_size (by repeat (first|(with_reducible first|exact HB.out|apply below_alloc|apply pw_below_drewN|apply below_drew1)|exact HB.out))):w.heap.size≤gb406));have GE406:=Aside0.mk ((by rw [hg];exact (below_size (by repeat (first|(with_reducible first|exact HB.out|apply below_alloc|apply pw_below_drewN|apply below_drew1)|exact HB.out))):w.heap.size≤gb406));replace HB:=Aside0.mk (below_step (by repeat (first|(with_reducible first|exact HB.out|apply below_alloc|apply pw_below_drewN|apply below_drew1)|exact HB.out)) hb);clear hb hbox hg)|((with_reducible refine gate_dst (N:=3) rfl ?_);(try (refine gate_guard (by rfl) ?_;dsimp only));refine box_event ?hg (N:=3) ?hd (cs:=#[.int .i64 a1_0,.int .i64 a1_1,.string a1_2,.slice A1_3 l1_3.length c1_3]) (t:=24) ?hr ?_;(case hd => rfl);(case hg => rfl);(case hr => first|(go_simp;done)|(go_simp;rfl));intro gb407 hg w5 hbox hb;have BK407:=Aside0.mk (hbox);have GW407:=Aside0.mk ((by rw [hg];exact (below_size (by repeat (first|(with_reducible first|exact HB.out|apply below_alloc|apply pw_below_drewN|apply below_drew1|refine below_set ?_ GE406.out)|exact HB.out))):w.heap.size≤gb407));have GE407:=Aside0.mk ((by rw [hg];exact (below_size (by repeat (first|(with_reducible first|exact HB.out|apply below_alloc|apply pw_below_drewN|apply below_drew1|refine below_set ?_ GE406.out)|exact HB.out))):w.heap.size≤gb407));have NB406_407:=bx_n (up_b BK406) hg;have NB407_406:=bx_m (up_b BK406) hg;replace BK406:=ca_b BK406 hb;replace HB:=Aside0.mk (below_step (by repeat (first|(with_reducible first|exact HB.out|apply below_alloc|apply pw_below_drewN|apply below_drew1|refine below_set ?_ GE406.out)|exact HB.out)) hb);clear hb hbox hg))
 (try simp only [Act.put,List.setIfInBounds_toArray,List.set_cons_zero,List.set_cons_succ])
 go_cut [33] (fun v33 wc => ∃ (kq:Nat) (x33_2:Bool),v33=.bool x33_2∧Aside0 (spinneyplain_Value.j0 kq x33_2 a0_0 a0_1 a0_2 l0_3 a1_0 a1_1 a1_2 l1_3=some r)∧Aside0 (kq≤k)∧Aside0 (wc.heap[gb406]? = some (.cells #[.int .i64 a0_0,.int .i64 a0_1,.string a0_2,(.slice A0_3 l0_3.length c0_3)] 24 (0,0)))∧Aside0 (wc.heap[gb407]? = some (.cells #[.int .i64 a1_0,.int .i64 a1_1,.string a1_2,(.slice A1_3 l1_3.length c1_3)] 24 (0,0)))∧Aside0 (Below w.heap.size w wc))
 case first =>
  have H:=HC3.out
  clear HC3
  by_cases c6:a0_0=a1_0
  ·rw [if_pos c6] at H
   have c6b0:(a0_0 == a1_0)=true:=beq_iff_eq.mpr c6
   have c6b1:(a0_0 != a1_0)=false:=bne_eq_false_iff_eq.mpr c6
   clear c6
   (first|rw [c6b0]|(simp only [i64_w,i32_w];rw [c6b0])|skip)
   by_cases c7:a0_1=a1_1
   ·rw [if_pos c7] at H
    have c7b0:(a0_1 == a1_1)=true:=beq_iff_eq.mpr c7
    have c7b1:(a0_1 != a1_1)=false:=bne_eq_false_iff_eq.mpr c7
    clear c7
    by_cases c8:a0_2.toList=a1_2.toList
    ·rw [if_pos c8] at H
     have c8b0:(a0_2.toList == a1_2.toList)=true:=beq_iff_eq.mpr c8
     have c8b1:(a0_2.toList != a1_2.toList)=false:=bne_eq_false_iff_eq.mpr c8
     clear c8
     have H':=Aside0.mk H
     clear H
     have hnb9:=NB406_407.out
     have hnc9:=NB407_406.out
     obtain ⟨hcz10_0,hcz10_1,hcz10_2,hcz10_3,hfz10_0,hfz10_1,hfz10_2,hfz10_3⟩:=bk4 BK406;obtain ⟨hcz11_0,hcz11_1,hcz11_2,hcz11_3,hfz11_0,hfz11_1,hfz11_2,hfz11_3⟩:=bk4 BK407
     go_wp2
     go_meet
     case rel => exact ⟨_,(((l0_3.length:Int) != (l1_3.length:Int))),(by first|rfl|(simp;done)|(simp [*];done)),H',⟨by first|omega|exact Nat.le_refl _⟩,⟨by (with_reducible repeat (first|refine blk_drewN ?_ _|refine blk_drew ?_|refine blk_alloc ?_ _));exact BK406.out⟩,⟨by (with_reducible repeat (first|refine blk_drewN ?_ _|refine blk_drew ?_|refine blk_alloc ?_ _));exact BK407.out⟩,⟨by repeat (first|(with_reducible first|exact HB.out|apply below_alloc|apply pw_below_drewN|apply below_drew1|refine below_set ?_ GE406.out|refine below_set ?_ GE407.out)|exact HB.out)⟩⟩
    ·rw [if_neg c8] at H
     have c8b0:(a0_2.toList == a1_2.toList)=false:=beq_eq_false_iff_ne.mpr c8
     have c8b1:(a0_2.toList != a1_2.toList)=true:=bne_iff_ne.mpr c8
     have H':=Aside0.mk H
     clear H
     have hnb12:=NB406_407.out
     have hnc12:=NB407_406.out
     obtain ⟨hcz13_0,hcz13_1,hcz13_2,hcz13_3,hfz13_0,hfz13_1,hfz13_2,hfz13_3⟩:=bk4 BK406;obtain ⟨hcz14_0,hcz14_1,hcz14_2,hcz14_3,hfz14_0,hfz14_1,hfz14_2,hfz14_3⟩:=bk4 BK407
     go_wp2
     go_meet
     case rel => exact ⟨_,(true),(by first|rfl|(simp;done)|(simp [*];done)),H',⟨by first|omega|exact Nat.le_refl _⟩,⟨by (with_reducible repeat (first|refine blk_drewN ?_ _|refine blk_drew ?_|refine blk_alloc ?_ _));exact BK406.out⟩,⟨by (with_reducible repeat (first|refine blk_drewN ?_ _|refine blk_drew ?_|refine blk_alloc ?_ _));exact BK407.out⟩,⟨by repeat (first|(with_reducible first|exact HB.out|apply below_alloc|apply pw_below_drewN|apply below_drew1|refine below_set ?_ GE406.out|refine below_set ?_ GE407.out)|exact HB.out)⟩⟩
   ·rw [if_neg c7] at H
    have c7b0:(a0_1 == a1_1)=false:=beq_eq_false_iff_ne.mpr c7
    have c7b1:(a0_1 != a1_1)=true:=bne_iff_ne.mpr c7
    have H':=Aside0.mk H
    clear H
    have hnb15:=NB406_407.out
    have hnc15:=NB407_406.out
    obtain ⟨hcz16_0,hcz16_1,hcz16_2,hcz16_3,hfz16_0,hfz16_1,hfz16_2,hfz16_3⟩:=bk4 BK406;obtain ⟨hcz17_0,hcz17_1,hcz17_2,hcz17_3,hfz17_0,hfz17_1,hfz17_2,hfz17_3⟩:=bk4 BK407
    go_wp2
    go_meet
    case rel => exact ⟨_,(true),(by first|rfl|(simp;done)|(simp [*];done)),H',⟨by first|omega|exact Nat.le_refl _⟩,⟨by (with_reducible repeat (first|refine blk_drewN ?_ _|refine blk_drew ?_|refine blk_alloc ?_ _));exact BK406.out⟩,⟨by (with_reducible repeat (first|refine blk_drewN ?_ _|refine blk_drew ?_|refine blk_alloc ?_ _));exact BK407.out⟩,⟨by repeat (first|(with_reducible first|exact HB.out|apply below_alloc|apply pw_below_drewN|apply below_drew1|refine below_set ?_ GE406.out|refine below_set ?_ GE407.out)|exact HB.out)⟩⟩
  ·rw [if_neg c6] at H
   have c6b0:(a0_0 == a1_0)=false:=beq_eq_false_iff_ne.mpr c6
   have c6b1:(a0_0 != a1_0)=true:=bne_iff_ne.mpr c6
   (first|rw [c6b0]|(simp only [i64_w,i32_w];rw [c6b0])|skip)
   have H':=Aside0.mk H
   clear H
   have hnb18:=NB406_407.out
   have hnc18:=NB407_406.out
   obtain ⟨hcz19_0,hcz19_1,hcz19_2,hcz19_3,hfz19_0,hfz19_1,hfz19_2,hfz19_3⟩:=bk4 BK406;obtain ⟨hcz20_0,hcz20_1,hcz20_2,hcz20_3,hfz20_0,hfz20_1,hfz20_2,hfz20_3⟩:=bk4 BK407
   go_wp2
   go_meet
   case rel => exact ⟨_,(true),(by first|rfl|(simp;done)|(simp [*];done)),H',⟨by first|omega|exact Nat.le_refl _⟩,⟨by (with_reducible repeat (first|refine blk_drewN ?_ _|refine blk_drew ?_|refine blk_alloc ?_ _));exact BK406.out⟩,⟨by (with_reducible repeat (first|refine blk_drewN ?_ _|refine blk_drew ?_|refine blk_alloc ?_ _));exact BK407.out⟩,⟨by repeat (first|(with_reducible first|exact HB.out|apply below_alloc|apply pw_below_drewN|apply below_drew1|refine below_set ?_ GE406.out|refine below_set ?_ GE407.out)|exact HB.out)⟩⟩
 case rest =>
  clear HC3
  try clear c1
  try clear p2
  try clear c6
  try clear c6b0
  try clear c6b1
  try clear c7
  try clear c7b0
  try clear c7b1
  try clear c8
  try clear c8b0
  try clear c8b1
  try clear c9
  try clear c12
  try clear c13
  try clear c15
  try clear c18
  try clear hcz10_0
  try clear hcz10_1
  try clear hcz10_2
  try clear hcz10_3
  try clear hcz11_0
  try clear hcz11_1
  try clear hcz11_2
  try clear hcz11_3
  try clear hcz13_0
  try clear hcz13_1
  try clear hcz13_2
  try clear hcz13_3
  try clear hcz14_0
  try clear hcz14_1
  try clear hcz14_2
  try clear hcz14_3
  try clear hcz16_0
  try clear hcz16_1
  try clear hcz16_2
  try clear hcz16_3
  try clear hcz17_0
  try clear hcz17_1
  try clear hcz17_2
  try clear hcz17_3
  try clear hcz19_0
  try clear hcz19_1
  try clear hcz19_2
  try clear hcz19_3
  try clear hcz20_0
  try clear hcz20_1
  try clear hcz20_2
  try clear hcz20_3
  try clear hfz10_0
  try clear hfz10_1
  try clear hfz10_2
  try clear hfz10_3
  try clear hfz11_0
  try clear hfz11_1
  try clear hfz11_2
  try clear hfz11_3
  try clear hfz13_0
  try clear hfz13_1
  try clear hfz13_2
  try clear hfz13_3
  try clear hfz14_0
  try clear hfz14_1
  try clear hfz14_2
  try clear hfz14_3
  try clear hfz16_0
  try clear hfz16_1
  try clear hfz16_2
  try clear hfz16_3
  try clear hfz17_0
  try clear hfz17_1
  try clear hfz17_2
  try clear hfz17_3
  try clear hfz19_0
  try clear hfz19_1
  try clear hfz19_2
  try clear hfz19_3
  try clear hfz20_0
  try clear hfz20_1
  try clear hfz20_2
  try clear hfz20_3
  obtain ⟨kq,x33_2,rfl,HA,HJ2,BK406,BK407,HB⟩:=hcut
  cases kq with
  | zero => exact absurd HA.out (by simp [spinneyplain_Value.j0])
  | succ kj2 =>
   have H:=HA.out
   clear HA
   simp only [spinneyplain_Value.j0] at H
   by_cases c21:x33_2=true
   ·subst c21
    have H1:(some false)=some r:=by rw [if_pos rfl] at H;exact H
    clear H
    have H:=H1
    clear H1
    obtain rfl:=Option.some.inj H
    go_wp2
    go_ret
    exact ⟨by first|rfl|(simp [errW_none,errW_some] <;> rfl)|(simp [*,errW_none,errW_some] <;> rfl),by repeat (first|(with_reducible first|exact HB.out|apply below_alloc|apply pw_below_drewN|apply below_drew1|refine below_set ?_ GE406.out|refine below_set ?_ GE407.out)|exact HB.out)⟩
   ·replace c21:=Bool.eq_false_iff.mpr c21
    subst c21
    have H1:(spinneyplain_Value.l0 kj2 (l0_3.length:Int) 0 a0_0 a0_1 a0_2 l0_3 a1_0 a1_1 a1_2 l1_3)=some r:=by rw [if_neg (show ¬ (false=true) by decide)] at H;exact H
    clear H
    have H:=H1
    clear H1
    have H':=Aside0.mk H
    clear H
    have hnb22:=NB406_407.out
    have hnc22:=NB407_406.out
    have hcz23_0:wc.cell? ⟨gb406,0,none⟩=some (.int .i64 a0_0):=(blk_cell BK406.out 0).trans rfl;have hcz23_1:wc.cell? ⟨gb406,1,none⟩=some (.int .i64 a0_1):=(blk_cell BK406.out 1).trans rfl;have hcz23_2:wc.cell? ⟨gb406,2,none⟩=some (.string a0_2):=(blk_cell BK406.out 2).trans rfl;have hcz23_3:wc.cell? ⟨gb406,3,none⟩=some (.slice A0_3 l0_3.length c0_3):=(blk_cell BK406.out 3).trans rfl;have hfz23_0:=blk_frozen BK406.out 0;have hfz23_1:=blk_frozen BK406.out 1;have hfz23_2:=blk_frozen BK406.out 2;have hfz23_3:=blk_frozen BK406.out 3
    go_wp2
    go_loopg [37] kj2 (fun kq v37 w' => ∃ (x37_2:Int),v37=.int .i64 x37_2∧Aside0 (spinneyplain_Value.l0 kq (l0_3.length:Int) x37_2 a0_0 a0_1 a0_2 l0_3 a1_0 a1_1 a1_2 l1_3=some r)∧Aside0 (kq≤kj2)∧Aside0 (w'.heap[gb406]? = some (.cells #[.int .i64 a0_0,.int .i64 a0_1,.string a0_2,(.slice A0_3 l0_3.length c0_3)] 24 (0,0)))∧Aside0 (w'.heap[gb407]? = some (.cells #[.int .i64 a1_0,.int .i64 a1_1,.string a1_2,(.slice A1_3 l1_3.length c1_3)] 24 (0,0)))∧Aside0 (Below w.heap.size w w'))
    case atStart => exact ⟨(0),(by first|rfl|(simp;done)|(simp [*];done)),H',⟨Nat.le_refl _⟩,⟨by (with_reducible repeat (first|refine blk_drewN ?_ _|refine blk_drew ?_|refine blk_alloc ?_ _));exact BK406.out⟩,⟨by (with_reducible repeat (first|refine blk_drewN ?_ _|refine blk_drew ?_|refine blk_alloc ?_ _));exact BK407.out⟩,⟨by repeat (first|(with_reducible first|exact HB.out|apply below_alloc|apply pw_below_drewN|apply below_drew1|refine below_set ?_ GE406.out|refine below_set ?_ GE407.out)|exact HB.out)⟩⟩
    case round =>
     clear H'
     try clear c1
     try clear c2
     try clear p2
     try clear c6
     try clear c6b0
     try clear c6b1
     try clear c7
     try clear c7b0
     try clear c7b1
     try clear c8
     try clear c8b0
     try clear c8b1
     try clear c9
     try clear c12
     try clear c13
     try clear c15
     try clear c18
     try clear c21
     try clear c22
     try clear hcz10_0
     try clear hcz10_1
     try clear hcz10_2
     try clear hcz10_3
     try clear hcz11_0
     try clear hcz11_1
     try clear hcz11_2
     try clear hcz11_3
     try clear hcz13_0
     try clear hcz13_1
     try clear hcz13_2
     try clear hcz13_3
     try clear hcz14_0
     try clear hcz14_1
     try clear hcz14_2
     try clear hcz14_3
     try clear hcz16_0
     try clear hcz16_1
     try clear hcz16_2
     try clear hcz16_3
     try clear hcz17_0
     try clear hcz17_1
     try clear hcz17_2
     try clear hcz17_3
     try clear hcz19_0
     try clear hcz19_1
     try clear hcz19_2
     try clear hcz19_3
     try clear hcz20_0
     try clear hcz20_1
     try clear hcz20_2
     try clear hcz20_3
     try clear hcz23_0
     try clear hcz23_1
     try clear hcz23_2
     try clear hcz23_3
     try clear hfz10_0
     try clear hfz10_1
     try clear hfz10_2
     try clear hfz10_3
     try clear hfz11_0
     try clear hfz11_1
     try clear hfz11_2
     try clear hfz11_3
     try clear hfz13_0
     try clear hfz13_1
     try clear hfz13_2
     try clear hfz13_3
     try clear hfz14_0
     try clear hfz14_1
     try clear hfz14_2
     try clear hfz14_3
     try clear hfz16_0
     try clear hfz16_1
     try clear hfz16_2
     try clear hfz16_3
     try clear hfz17_0
     try clear hfz17_1
     try clear hfz17_2
     try clear hfz17_3
     try clear hfz19_0
     try clear hfz19_1
     try clear hfz19_2
     try clear hfz19_3
     try clear hfz20_0
     try clear hfz20_1
     try clear hfz20_2
     try clear hfz20_3
     try clear hfz23_0
     try clear hfz23_1
     try clear hfz23_2
     try clear hfz23_3
     try clear p2
     obtain ⟨x37_2,rfl,HA,HK2,BK406,BK407,HB⟩:=hrel
     cases gk with
     | zero => exact absurd HA.out (by simp [spinneyplain_Value.l0])
     | succ k2 =>
      have H:=HA.out
      clear HA
      simp only [spinneyplain_Value.l0] at H
      by_cases c24:x37_2 < (l0_3.length:Int)
      ·rw [if_pos c24] at H
       have c24b0:decide (x37_2 < (l0_3.length:Int))=true:=decide_eq_true c24
       clear c24
       by_cases c25:0≤x37_2
       ·rw [if_pos c25] at H
        have c25b0:decide (0≤x37_2)=true:=decide_eq_true c25
        clear c25
        by_cases c26:x37_2 < (l0_3.length:Int)
        ·rw [if_pos c26] at H
         have c26b0:decide (x37_2 < (l0_3.length:Int))=true:=decide_eq_true c26
         clear c26
         by_cases c27:x37_2 < (l1_3.length:Int)
         ·rw [if_pos c27] at H
          have c27b0:decide (x37_2 < (l1_3.length:Int))=true:=decide_eq_true c27
          clear c27
          replace H:=Option.bind_eq_some_iff.mp H
          obtain ⟨t410,A280,H⟩:=H
          replace H:(if t410=true then (spinneyplain_Value.l0 k2 (l0_3.length:Int) (wrap64 (x37_2+1)) a0_0 a0_1 a0_2 l0_3 a1_0 a1_1 a1_2 l1_3) else (some false))=some r:=H
          have A28:=Aside0.mk A280
          clear A280
          by_cases c29:t410=true
          ·subst c29
           have H1:(spinneyplain_Value.l0 k2 (l0_3.length:Int) (wrap64 (x37_2+1)) a0_0 a0_1 a0_2 l0_3 a1_0 a1_1 a1_2 l1_3)=some r:=by rw [if_pos rfl] at H;exact H
           clear H
           have H:=H1
           clear H1
           have H':=Aside0.mk H
           clear H
           try go_wp2
           replace BK406:=Aside0.mk (blk_drew BK406.out);replace BK407:=Aside0.mk (blk_drew BK407.out);replace HB:=Aside0.mk (below_drew1 HB.out)
           have p408:0≤(x37_2:Int):=of_decide_eq_true (by first|(with_reducible assumption)|assumption)
           have q408:x37_2 < (l0_3.length:Int):=of_decide_eq_true (by first|(with_reducible assumption)|assumption)
           obtain ⟨ad408,A408_3,c408_3,e408,hx408_0,hx408_1,hx408_2,hx408_3,hl408_3,hi408_3⟩:=at_T24 HR0_3.out x37_2 p408 q408
           have hw408_3:=hx408_3
           have hw408_2:=hx408_2
           have hw408_1:=hx408_1
           have hw408_0:=hx408_0
           cases e408
           replace hx408_0:=(HB.out.cell (World.block_lt_of_cell? w _ hx408_0)).trans hx408_0
           replace hx408_1:=(HB.out.cell (World.block_lt_of_cell? w _ hx408_1)).trans hx408_1
           replace hx408_2:=(HB.out.cell (World.block_lt_of_cell? w _ hx408_2)).trans hx408_2
           replace hx408_3:=(HB.out.cell (World.block_lt_of_cell? w _ hx408_3)).trans hx408_3
           have HR408_3:=Aside0.mk hi408_3
           have HC408_3:=Aside0.mk hl408_3
           clear hi408_3 hl408_3
           replace p408:=eq_true p408
           replace q408:=eq_true q408
           have p409:0≤(x37_2:Int):=of_decide_eq_true (by first|(with_reducible assumption)|assumption)
           have q409:x37_2 < (l1_3.length:Int):=of_decide_eq_true (by first|(with_reducible assumption)|assumption)
           obtain ⟨ad409,A409_3,c409_3,e409,hx409_0,hx409_1,hx409_2,hx409_3,hl409_3,hi409_3⟩:=at_T24 HR1_3.out x37_2 p409 q409
           have hw409_3:=hx409_3
           have hw409_2:=hx409_2
           have hw409_1:=hx409_1
           have hw409_0:=hx409_0
           cases e409
           replace hx409_0:=(HB.out.cell (World.block_lt_of_cell? w _ hx409_0)).trans hx409_0
           replace hx409_1:=(HB.out.cell (World.block_lt_of_cell? w _ hx409_1)).trans hx409_1
           replace hx409_2:=(HB.out.cell (World.block_lt_of_cell? w _ hx409_2)).trans hx409_2
           replace hx409_3:=(HB.out.cell (World.block_lt_of_cell? w _ hx409_3)).trans hx409_3
           have HR409_3:=Aside0.mk hi409_3
           have HC409_3:=Aside0.mk hl409_3
           clear hi409_3 hl409_3
           replace p409:=eq_true p409
           replace q409:=eq_true q409
           refine start_ (n:=12) (S:=fun w' => w'.cell? ⟨gb406,0,none⟩=some (.int .i64 a0_0)∧w'.cell? ⟨gb406,1,none⟩=some (.int .i64 a0_1)∧w'.cell? ⟨gb406,2,none⟩=some (.string a0_2)∧w'.cell? ⟨gb406,3,none⟩=some (.slice (some ad408) l0_3.length c0_3)∧w'.cell? ⟨gb407,0,none⟩=some (.int .i64 a1_0)∧w'.cell? ⟨gb407,1,none⟩=some (.int .i64 a1_1)∧w'.cell? ⟨gb407,2,none⟩=some (.string a1_2)∧w'.cell? ⟨gb407,3,none⟩=some (.slice (some ad409) l1_3.length c1_3)∧w'.cell? (ad408.add ((x37_2).toNat * 4))=some (.int .i64 ((rd_T24 l0_3 x37_2).f0))∧w'.cell? ⟨(ad408.add ((x37_2).toNat * 4)).block,(ad408.add ((x37_2).toNat * 4)).off+1,none⟩=some (.int .i64 ((rd_T24 l0_3 x37_2).f1))∧w'.cell? ⟨(ad408.add ((x37_2).toNat * 4)).block,(ad408.add ((x37_2).toNat * 4)).off+2,none⟩=some (.string ((rd_T24 l0_3 x37_2).f2))∧w'.cell? ⟨(ad408.add ((x37_2).toNat * 4)).block,(ad408.add ((x37_2).toNat * 4)).off+3,none⟩=some (.slice A408_3 ((rd_T24 l0_3 x37_2).f3).length c408_3)∧w'.cell? (ad409.add ((x37_2).toNat * 4))=some (.int .i64 ((rd_T24 l1_3 x37_2).f0))∧w'.cell? ⟨(ad409.add ((x37_2).toNat * 4)).block,(ad409.add ((x37_2).toNat * 4)).off+1,none⟩=some (.int .i64 ((rd_T24 l1_3 x37_2).f1))∧w'.cell? ⟨(ad409.add ((x37_2).toNat * 4)).block,(ad409.add ((x37_2).toNat * 4)).off+2,none⟩=some (.string ((rd_T24 l1_3 x37_2).f2))∧w'.cell? ⟨(ad409.add ((x37_2).toNat * 4)).block,(ad409.add ((x37_2).toNat * 4)).off+3,none⟩=some (.slice A409_3 ((rd_T24 l1_3 x37_2).f3).length c409_3)) (ds:=[]) #[false,false,false,false,false,false,false,false,false,false,false,false] (by kernel_rfl) rfl rfl ⟨(blk_cell BK406.out 0).trans rfl,(blk_cell BK406.out 1).trans rfl,(blk_cell BK406.out 2).trans rfl,(blk_cell BK406.out 3).trans rfl,(blk_cell BK407.out 0).trans rfl,(blk_cell BK407.out 1).trans rfl,(blk_cell BK407.out 2).trans rfl,(blk_cell BK407.out 3).trans rfl,((HB.out.cell (World.block_lt_of_cell? w _ hw408_0)).trans hw408_0),((HB.out.cell (World.block_lt_of_cell? w _ hw408_1)).trans hw408_1),((HB.out.cell (World.block_lt_of_cell? w _ hw408_2)).trans hw408_2),((HB.out.cell (World.block_lt_of_cell? w _ hw408_3)).trans hw408_3),((HB.out.cell (World.block_lt_of_cell? w _ hw409_0)).trans hw409_0),((HB.out.cell (World.block_lt_of_cell? w _ hw409_1)).trans hw409_1),((HB.out.cell (World.block_lt_of_cell? w _ hw409_2)).trans hw409_2),((HB.out.cell (World.block_lt_of_cell? w _ hw409_3)).trans hw409_3)⟩ (fun hHeld => ?_);refine with_tabW spinneyplain_Value.tab6 spinneyplain_Value.bits6 (fun HT_ HW_ => ?_)
           generalize wr.drew=w30 at BK406 BK407 HB HR408_3 HR409_3 hx408_0 hx408_1 hx408_2 hx408_3 hx409_0 hx409_1 hx409_2 hx409_3 hHeld ⊢
           refine pure_ (i:=0) (N:=some 40) (v:=?_) (a':=?_) #[true,false,false,false,false,false,false,false,false,false,false,false] rfl rfl (any_of HT_.out (by kernel_rfl)) (fun _ _ _ h => h) (Or.inl ⟨by rfl,?_⟩) ?_ ?_
           rotate_left
           ·intro w'
            go_simp
            with_reducible rfl
           rotate_left
           ·simp only [Act.put,List.setIfInBounds_toArray,List.set_cons_zero,List.set_cons_succ,i64_w,i32_w]
            rfl
           refine pure_ (i:=2) (N:=some 42) (v:=?_) (a':=?_) #[true,false,true,false,false,false,false,false,false,false,false,false] rfl rfl (any_of HT_.out (by kernel_rfl)) (fun _ _ _ h => h) (Or.inl ⟨by rfl,?_⟩) ?_ ?_
           rotate_left
           ·intro w'
            go_simp
            with_reducible rfl
           rotate_left
           ·simp only [Act.put,List.setIfInBounds_toArray,List.set_cons_zero,List.set_cons_succ,i64_w,i32_w]
            rfl
           refine pure_ (i:=5) (N:=some 45) (v:=?_) (a':=?_) #[true,false,true,false,false,true,false,false,false,false,false,false] rfl rfl (any_of HT_.out (by kernel_rfl)) (fun _ _ _ h => h) (Or.inl ⟨by rfl,?_⟩) ?_ ?_
           rotate_left
           ·intro w'
            go_simp
            with_reducible rfl
           rotate_left
           ·simp only [Act.put,List.setIfInBounds_toArray,List.set_cons_zero,List.set_cons_succ,i64_w,i32_w]
            rfl
           refine pure_ (i:=7) (N:=some 47) (v:=?_) (a':=?_) #[true,false,true,false,false,true,false,true,false,false,false,false] rfl rfl (any_of HT_.out (by kernel_rfl)) (fun _ _ _ h => h) (Or.inl ⟨by rfl,?_⟩) ?_ ?_
           rotate_left
           ·intro w'
            go_simp
            with_reducible rfl
           rotate_left
           ·simp only [Act.put,List.setIfInBounds_toArray,List.set_cons_zero,List.set_cons_succ,i64_w,i32_w]
            rfl
           refine take_ (i:=1) (N:=some 41) (v:=?_) (a':=?_) #[true,true,true,false,false,true,false,true,false,false,false,false] rfl rfl (take_ofW HT_.out HW_.out (by kernel_rfl)) (fun _ _ _ h => h) (Or.inl ⟨by rfl,?_⟩) hHeld ?_ ?_
           rotate_left
           ·rintro w' ⟨s0,s1,s2,s3,s4,s5,s6,s7,s8,s9,s10,s11,s12,s13,s14,s15⟩
            go_simp
            with_reducible rfl
           rotate_left
           ·simp only [Act.put,List.setIfInBounds_toArray,List.set_cons_zero,List.set_cons_succ,i64_w,i32_w]
            rfl
           refine pure_ (i:=3) (N:=some 43) (v:=?_) (a':=?_) #[true,true,true,true,false,true,false,true,false,false,false,false] rfl rfl (any_of HT_.out (by kernel_rfl)) (fun _ _ _ h => h) (Or.inl ⟨by rfl,?_⟩) ?_ ?_
           rotate_left
           ·intro w'
            go_simp
            with_reducible rfl
           rotate_left
           ·simp only [Act.put,List.setIfInBounds_toArray,List.set_cons_zero,List.set_cons_succ,i64_w,i32_w]
            rfl
           refine take_ (i:=4) (N:=some 44) (v:=?_) (a':=?_) #[true,true,true,true,true,true,false,true,false,false,false,false] rfl rfl (take_ofW HT_.out HW_.out (by kernel_rfl)) (fun _ _ _ h => h) (Or.inl ⟨by rfl,?_⟩) hHeld ?_ ?_
           rotate_left
           ·rintro w' ⟨s0,s1,s2,s3,s4,s5,s6,s7,s8,s9,s10,s11,s12,s13,s14,s15⟩
            go_simp
            with_reducible rfl
           rotate_left
           ·simp only [Act.put,List.setIfInBounds_toArray,List.set_cons_zero,List.set_cons_succ,i64_w,i32_w]
            rfl
           refine take_ (i:=6) (N:=some 46) (v:=?_) (a':=?_) #[true,true,true,true,true,true,true,true,false,false,false,false] rfl rfl (take_ofW HT_.out HW_.out (by kernel_rfl)) (fun _ _ _ h => h) (Or.inl ⟨by rfl,?_⟩) hHeld ?_ ?_
           rotate_left
           ·rintro w' ⟨s0,s1,s2,s3,s4,s5,s6,s7,s8,s9,s10,s11,s12,s13,s14,s15⟩
            go_simp
            with_reducible rfl
           rotate_left
           ·simp only [Act.put,List.setIfInBounds_toArray,List.set_cons_zero,List.set_cons_succ,i64_w,i32_w]
            rfl
           refine pure_ (i:=8) (N:=some 48) (v:=?_) (a':=?_) #[true,true,true,true,true,true,true,true,true,false,false,false] rfl rfl (any_of HT_.out (by kernel_rfl)) (fun _ _ _ h => h) (Or.inl ⟨by rfl,?_⟩) ?_ ?_
           rotate_left
           ·intro w'
            go_simp
            with_reducible rfl
           rotate_left
           ·simp only [Act.put,List.setIfInBounds_toArray,List.set_cons_zero,List.set_cons_succ,i64_w,i32_w]
            rfl
           refine take_ (i:=9) (N:=some 49) (v:=?_) (a':=?_) #[true,true,true,true,true,true,true,true,true,true,false,false] rfl rfl (take_ofW HT_.out HW_.out (by kernel_rfl)) (fun _ _ _ h => h) (Or.inl ⟨by rfl,?_⟩) hHeld ?_ ?_
           rotate_left
           ·rintro w' ⟨s0,s1,s2,s3,s4,s5,s6,s7,s8,s9,s10,s11,s12,s13,s14,s15⟩
            go_simp
            with_reducible rfl
           rotate_left
           ·simp only [Act.put,List.setIfInBounds_toArray,List.set_cons_zero,List.set_cons_succ,i64_w,i32_w]
            rfl
           refine one_ (i:=10) (N:=some 50) #[true,true,true,true,true,true,true,true,true,true,true,false] rfl rfl (one_of HT_.out (by kernel_rfl)) (by decide) (fun K hK => ?_)
           refine goes_ Tryd.func13 (by kernel_rfl) rfl #[.agg #[.int .i64 ((rd_T24 l0_3 x37_2).f0),.int .i64 ((rd_T24 l0_3 x37_2).f1),.string ((rd_T24 l0_3 x37_2).f2),.slice A408_3 ((rd_T24 l0_3 x37_2).f3).length c408_3],.agg #[.int .i64 ((rd_T24 l1_3 x37_2).f0),.int .i64 ((rd_T24 l1_3 x37_2).f1),.string ((rd_T24 l1_3 x37_2).f2),.slice A409_3 ((rd_T24 l1_3 x37_2).f3).length c409_3]] (by rfl) rfl rfl (by (try simp only [List.map_toArray,List.map_cons,List.map_nil]);first|done|rfl|(simp only [List.length_drop,List.length_take];rfl)|(simp only [gt_iff_lt,Int.ofNat_lt];rfl)) ?_
           with_reducible refine (ih k2 (by have:=HJ2.out;have:=HK2.out;omega) ((rd_T24 l0_3 x37_2).f0) ((rd_T24 l0_3 x37_2).f1) ((rd_T24 l0_3 x37_2).f2) _ _ ((rd_T24 l0_3 x37_2).f3) ((rd_T24 l1_3 x37_2).f0) ((rd_T24 l1_3 x37_2).f1) ((rd_T24 l1_3 x37_2).f2) _ _ ((rd_T24 l1_3 x37_2).f3) true _ ?side1 ?side2 ?side3 ?side4 A28.out).mono ?_
           (case side1 => repeat (first|exact (Kd.C_below HR408_3.out HB.out)|(with_reducible refine Kd.C_alloc ?_ _)|(with_reducible refine Kd.C_drewN ?_ _)|(with_reducible refine Kd.C_drew ?_)))
           (case side2 => exact HC408_3.out)
           (case side3 => repeat (first|exact (Kd.C_below HR409_3.out HB.out)|(with_reducible refine Kd.C_alloc ?_ _)|(with_reducible refine Kd.C_drewN ?_ _)|(with_reducible refine Kd.C_drew ?_)))
           (case side4 => exact HC409_3.out)
           rintro e w31 ⟨rfl,hb⟩
           refine ⟨_,rfl,?_⟩
           replace BK406:=ca_b BK406 hb;replace BK407:=ca_b BK407 hb;replace HB:=ca_h HB hb
           (try clear hb)
           (try clear hb2)
           (try clear hk)
           (try clear hi)
           refine hK.out _ _ ⟨(blk_cell BK406.out 0).trans rfl,(blk_cell BK406.out 1).trans rfl,(blk_cell BK406.out 2).trans rfl,(blk_cell BK406.out 3).trans rfl,(blk_cell BK407.out 0).trans rfl,(blk_cell BK407.out 1).trans rfl,(blk_cell BK407.out 2).trans rfl,(blk_cell BK407.out 3).trans rfl,((HB.out.cell (World.block_lt_of_cell? w _ hw408_0)).trans hw408_0),((HB.out.cell (World.block_lt_of_cell? w _ hw408_1)).trans hw408_1),((HB.out.cell (World.block_lt_of_cell? w _ hw408_2)).trans hw408_2),((HB.out.cell (World.block_lt_of_cell? w _ hw408_3)).trans hw408_3),((HB.out.cell (World.block_lt_of_cell? w _ hw409_0)).trans hw409_0),((HB.out.cell (World.block_lt_of_cell? w _ hw409_1)).trans hw409_1),((HB.out.cell (World.block_lt_of_cell? w _ hw409_2)).trans hw409_2),((HB.out.cell (World.block_lt_of_cell? w _ hw409_3)).trans hw409_3)⟩ (fun hHeld => ?_)
           clear hK K
           refine norm_ (a':=?_) ?_ ?_
           rotate_left
           ·show Act.put _ (some 50) _=_
            simp only [Act.put,List.setIfInBounds_toArray,List.set_cons_zero,List.set_cons_succ,i64_w,i32_w]
            rfl
           refine pure_ (i:=11) (N:=some 51) (v:=?_) (a':=?_) #[true,true,true,true,true,true,true,true,true,true,true,true] rfl rfl (any_of HT_.out (by kernel_rfl)) (fun _ _ _ h => h) (Or.inl ⟨by rfl,?_⟩) ?_ ?_
           rotate_left
           ·intro w'
            go_simp
            with_reducible rfl
           rotate_left
           ·simp only [Act.put,List.setIfInBounds_toArray,List.set_cons_zero,List.set_cons_succ,i64_w,i32_w]
            rfl
           refine done_ (done_of HT_.out (by kernel_rfl)) ?_
           try go_wp2
           go_roundg k2
           case measure => have:=HJ2.out;have:=HK2.out;omega
           case rel => exact ⟨(wrap64 (x37_2+1)),(by first|rfl|(simp;done)|(simp [*];done)),H',⟨by have:=HJ2.out;have:=HK2.out;omega⟩,⟨by (with_reducible repeat (first|refine blk_drewN ?_ _|refine blk_drew ?_|refine blk_alloc ?_ _));exact BK406.out⟩,⟨by (with_reducible repeat (first|refine blk_drewN ?_ _|refine blk_drew ?_|refine blk_alloc ?_ _));exact BK407.out⟩,⟨by repeat (first|(with_reducible first|exact HB.out|apply below_alloc|apply pw_below_drewN|apply below_drew1|refine below_set ?_ GE406.out|refine below_set ?_ GE407.out)|exact HB.out)⟩⟩
          ·replace c29:=Bool.eq_false_iff.mpr c29
           subst c29
           have H1:(some false)=some r:=by rw [if_neg (show ¬ (false=true) by decide)] at H;exact H
           clear H
           have H:=H1
           clear H1
           obtain rfl:=Option.some.inj H
           try go_wp2
           replace BK406:=Aside0.mk (blk_drew BK406.out);replace BK407:=Aside0.mk (blk_drew BK407.out);replace HB:=Aside0.mk (below_drew1 HB.out)
           have p408:0≤(x37_2:Int):=of_decide_eq_true (by first|(with_reducible assumption)|assumption)
           have q408:x37_2 < (l0_3.length:Int):=of_decide_eq_true (by first|(with_reducible assumption)|assumption)
           obtain ⟨ad408,A408_3,c408_3,e408,hx408_0,hx408_1,hx408_2,hx408_3,hl408_3,hi408_3⟩:=at_T24 HR0_3.out x37_2 p408 q408
           have hw408_3:=hx408_3
           have hw408_2:=hx408_2
           have hw408_1:=hx408_1
           have hw408_0:=hx408_0
           cases e408
           replace hx408_0:=(HB.out.cell (World.block_lt_of_cell? w _ hx408_0)).trans hx408_0
           replace hx408_1:=(HB.out.cell (World.block_lt_of_cell? w _ hx408_1)).trans hx408_1
           replace hx408_2:=(HB.out.cell (World.block_lt_of_cell? w _ hx408_2)).trans hx408_2
           replace hx408_3:=(HB.out.cell (World.block_lt_of_cell? w _ hx408_3)).trans hx408_3
           have HR408_3:=Aside0.mk hi408_3
           have HC408_3:=Aside0.mk hl408_3
           clear hi408_3 hl408_3
           replace p408:=eq_true p408
           replace q408:=eq_true q408
           have p409:0≤(x37_2:Int):=of_decide_eq_true (by first|(with_reducible assumption)|assumption)
           have q409:x37_2 < (l1_3.length:Int):=of_decide_eq_true (by first|(with_reducible assumption)|assumption)
           obtain ⟨ad409,A409_3,c409_3,e409,hx409_0,hx409_1,hx409_2,hx409_3,hl409_3,hi409_3⟩:=at_T24 HR1_3.out x37_2 p409 q409
           have hw409_3:=hx409_3
           have hw409_2:=hx409_2
           have hw409_1:=hx409_1
           have hw409_0:=hx409_0
           cases e409
           replace hx409_0:=(HB.out.cell (World.block_lt_of_cell? w _ hx409_0)).trans hx409_0
           replace hx409_1:=(HB.out.cell (World.block_lt_of_cell? w _ hx409_1)).trans hx409_1
           replace hx409_2:=(HB.out.cell (World.block_lt_of_cell? w _ hx409_2)).trans hx409_2
           replace hx409_3:=(HB.out.cell (World.block_lt_of_cell? w _ hx409_3)).trans hx409_3
           have HR409_3:=Aside0.mk hi409_3
           have HC409_3:=Aside0.mk hl409_3
           clear hi409_3 hl409_3
           replace p409:=eq_true p409
           replace q409:=eq_true q409
           refine start_ (n:=12) (S:=fun w' => w'.cell? ⟨gb406,0,none⟩=some (.int .i64 a0_0)∧w'.cell? ⟨gb406,1,none⟩=some (.int .i64 a0_1)∧w'.cell? ⟨gb406,2,none⟩=some (.string a0_2)∧w'.cell? ⟨gb406,3,none⟩=some (.slice (some ad408) l0_3.length c0_3)∧w'.cell? ⟨gb407,0,none⟩=some (.int .i64 a1_0)∧w'.cell? ⟨gb407,1,none⟩=some (.int .i64 a1_1)∧w'.cell? ⟨gb407,2,none⟩=some (.string a1_2)∧w'.cell? ⟨gb407,3,none⟩=some (.slice (some ad409) l1_3.length c1_3)∧w'.cell? (ad408.add ((x37_2).toNat * 4))=some (.int .i64 ((rd_T24 l0_3 x37_2).f0))∧w'.cell? ⟨(ad408.add ((x37_2).toNat * 4)).block,(ad408.add ((x37_2).toNat * 4)).off+1,none⟩=some (.int .i64 ((rd_T24 l0_3 x37_2).f1))∧w'.cell? ⟨(ad408.add ((x37_2).toNat * 4)).block,(ad408.add ((x37_2).toNat * 4)).off+2,none⟩=some (.string ((rd_T24 l0_3 x37_2).f2))∧w'.cell? ⟨(ad408.add ((x37_2).toNat * 4)).block,(ad408.add ((x37_2).toNat * 4)).off+3,none⟩=some (.slice A408_3 ((rd_T24 l0_3 x37_2).f3).length c408_3)∧w'.cell? (ad409.add ((x37_2).toNat * 4))=some (.int .i64 ((rd_T24 l1_3 x37_2).f0))∧w'.cell? ⟨(ad409.add ((x37_2).toNat * 4)).block,(ad409.add ((x37_2).toNat * 4)).off+1,none⟩=some (.int .i64 ((rd_T24 l1_3 x37_2).f1))∧w'.cell? ⟨(ad409.add ((x37_2).toNat * 4)).block,(ad409.add ((x37_2).toNat * 4)).off+2,none⟩=some (.string ((rd_T24 l1_3 x37_2).f2))∧w'.cell? ⟨(ad409.add ((x37_2).toNat * 4)).block,(ad409.add ((x37_2).toNat * 4)).off+3,none⟩=some (.slice A409_3 ((rd_T24 l1_3 x37_2).f3).length c409_3)) (ds:=[]) #[false,false,false,false,false,false,false,false,false,false,false,false] (by kernel_rfl) rfl rfl ⟨(blk_cell BK406.out 0).trans rfl,(blk_cell BK406.out 1).trans rfl,(blk_cell BK406.out 2).trans rfl,(blk_cell BK406.out 3).trans rfl,(blk_cell BK407.out 0).trans rfl,(blk_cell BK407.out 1).trans rfl,(blk_cell BK407.out 2).trans rfl,(blk_cell BK407.out 3).trans rfl,((HB.out.cell (World.block_lt_of_cell? w _ hw408_0)).trans hw408_0),((HB.out.cell (World.block_lt_of_cell? w _ hw408_1)).trans hw408_1),((HB.out.cell (World.block_lt_of_cell? w _ hw408_2)).trans hw408_2),((HB.out.cell (World.block_lt_of_cell? w _ hw408_3)).trans hw408_3),((HB.out.cell (World.block_lt_of_cell? w _ hw409_0)).trans hw409_0),((HB.out.cell (World.block_lt_of_cell? w _ hw409_1)).trans hw409_1),((HB.out.cell (World.block_lt_of_cell? w _ hw409_2)).trans hw409_2),((HB.out.cell (World.block_lt_of_cell? w _ hw409_3)).trans hw409_3)⟩ (fun hHeld => ?_);refine with_tabW spinneyplain_Value.tab6 spinneyplain_Value.bits6 (fun HT_ HW_ => ?_)
           generalize wr.drew=w32 at BK406 BK407 HB HR408_3 HR409_3 hx408_0 hx408_1 hx408_2 hx408_3 hx409_0 hx409_1 hx409_2 hx409_3 hHeld ⊢
           refine pure_ (i:=0) (N:=some 40) (v:=?_) (a':=?_) #[true,false,false,false,false,false,false,false,false,false,false,false] rfl rfl (any_of HT_.out (by kernel_rfl)) (fun _ _ _ h => h) (Or.inl ⟨by rfl,?_⟩) ?_ ?_
           rotate_left
           ·intro w'
            go_simp
            with_reducible rfl
           rotate_left
           ·simp only [Act.put,List.setIfInBounds_toArray,List.set_cons_zero,List.set_cons_succ,i64_w,i32_w]
            rfl
           refine pure_ (i:=2) (N:=some 42) (v:=?_) (a':=?_) #[true,false,true,false,false,false,false,false,false,false,false,false] rfl rfl (any_of HT_.out (by kernel_rfl)) (fun _ _ _ h => h) (Or.inl ⟨by rfl,?_⟩) ?_ ?_
           rotate_left
           ·intro w'
            go_simp
            with_reducible rfl
           rotate_left
           ·simp only [Act.put,List.setIfInBounds_toArray,List.set_cons_zero,List.set_cons_succ,i64_w,i32_w]
            rfl
           refine pure_ (i:=5) (N:=some 45) (v:=?_) (a':=?_) #[true,false,true,false,false,true,false,false,false,false,false,false] rfl rfl (any_of HT_.out (by kernel_rfl)) (fun _ _ _ h => h) (Or.inl ⟨by rfl,?_⟩) ?_ ?_
           rotate_left
           ·intro w'
            go_simp
            with_reducible rfl
           rotate_left
           ·simp only [Act.put,List.setIfInBounds_toArray,List.set_cons_zero,List.set_cons_succ,i64_w,i32_w]
            rfl
           refine pure_ (i:=7) (N:=some 47) (v:=?_) (a':=?_) #[true,false,true,false,false,true,false,true,false,false,false,false] rfl rfl (any_of HT_.out (by kernel_rfl)) (fun _ _ _ h => h) (Or.inl ⟨by rfl,?_⟩) ?_ ?_
           rotate_left
           ·intro w'
            go_simp
            with_reducible rfl
           rotate_left
           ·simp only [Act.put,List.setIfInBounds_toArray,List.set_cons_zero,List.set_cons_succ,i64_w,i32_w]
            rfl
           refine take_ (i:=1) (N:=some 41) (v:=?_) (a':=?_) #[true,true,true,false,false,true,false,true,false,false,false,false] rfl rfl (take_ofW HT_.out HW_.out (by kernel_rfl)) (fun _ _ _ h => h) (Or.inl ⟨by rfl,?_⟩) hHeld ?_ ?_
           rotate_left
           ·rintro w' ⟨s0,s1,s2,s3,s4,s5,s6,s7,s8,s9,s10,s11,s12,s13,s14,s15⟩
            go_simp
            with_reducible rfl
           rotate_left
           ·simp only [Act.put,List.setIfInBounds_toArray,List.set_cons_zero,List.set_cons_succ,i64_w,i32_w]
            rfl
           refine pure_ (i:=3) (N:=some 43) (v:=?_) (a':=?_) #[true,true,true,true,false,true,false,true,false,false,false,false] rfl rfl (any_of HT_.out (by kernel_rfl)) (fun _ _ _ h => h) (Or.inl ⟨by rfl,?_⟩) ?_ ?_
           rotate_left
           ·intro w'
            go_simp
            with_reducible rfl
           rotate_left
           ·simp only [Act.put,List.setIfInBounds_toArray,List.set_cons_zero,List.set_cons_succ,i64_w,i32_w]
            rfl
           refine take_ (i:=4) (N:=some 44) (v:=?_) (a':=?_) #[true,true,true,true,true,true,false,true,false,false,false,false] rfl rfl (take_ofW HT_.out HW_.out (by kernel_rfl)) (fun _ _ _ h => h) (Or.inl ⟨by rfl,?_⟩) hHeld ?_ ?_
           rotate_left
           ·rintro w' ⟨s0,s1,s2,s3,s4,s5,s6,s7,s8,s9,s10,s11,s12,s13,s14,s15⟩
            go_simp
            with_reducible rfl
           rotate_left
           ·simp only [Act.put,List.setIfInBounds_toArray,List.set_cons_zero,List.set_cons_succ,i64_w,i32_w]
            rfl
           refine take_ (i:=6) (N:=some 46) (v:=?_) (a':=?_) #[true,true,true,true,true,true,true,true,false,false,false,false] rfl rfl (take_ofW HT_.out HW_.out (by kernel_rfl)) (fun _ _ _ h => h) (Or.inl ⟨by rfl,?_⟩) hHeld ?_ ?_
           rotate_left
           ·rintro w' ⟨s0,s1,s2,s3,s4,s5,s6,s7,s8,s9,s10,s11,s12,s13,s14,s15⟩
            go_simp
            with_reducible rfl
           rotate_left
           ·simp only [Act.put,List.setIfInBounds_toArray,List.set_cons_zero,List.set_cons_succ,i64_w,i32_w]
            rfl
           refine pure_ (i:=8) (N:=some 48) (v:=?_) (a':=?_) #[true,true,true,true,true,true,true,true,true,false,false,false] rfl rfl (any_of HT_.out (by kernel_rfl)) (fun _ _ _ h => h) (Or.inl ⟨by rfl,?_⟩) ?_ ?_
           rotate_left
           ·intro w'
            go_simp
            with_reducible rfl
           rotate_left
           ·simp only [Act.put,List.setIfInBounds_toArray,List.set_cons_zero,List.set_cons_succ,i64_w,i32_w]
            rfl
           refine take_ (i:=9) (N:=some 49) (v:=?_) (a':=?_) #[true,true,true,true,true,true,true,true,true,true,false,false] rfl rfl (take_ofW HT_.out HW_.out (by kernel_rfl)) (fun _ _ _ h => h) (Or.inl ⟨by rfl,?_⟩) hHeld ?_ ?_
           rotate_left
           ·rintro w' ⟨s0,s1,s2,s3,s4,s5,s6,s7,s8,s9,s10,s11,s12,s13,s14,s15⟩
            go_simp
            with_reducible rfl
           rotate_left
           ·simp only [Act.put,List.setIfInBounds_toArray,List.set_cons_zero,List.set_cons_succ,i64_w,i32_w]
            rfl
           refine one_ (i:=10) (N:=some 50) #[true,true,true,true,true,true,true,true,true,true,true,false] rfl rfl (one_of HT_.out (by kernel_rfl)) (by decide) (fun K hK => ?_)
           refine goes_ Tryd.func13 (by kernel_rfl) rfl #[.agg #[.int .i64 ((rd_T24 l0_3 x37_2).f0),.int .i64 ((rd_T24 l0_3 x37_2).f1),.string ((rd_T24 l0_3 x37_2).f2),.slice A408_3 ((rd_T24 l0_3 x37_2).f3).length c408_3],.agg #[.int .i64 ((rd_T24 l1_3 x37_2).f0),.int .i64 ((rd_T24 l1_3 x37_2).f1),.string ((rd_T24 l1_3 x37_2).f2),.slice A409_3 ((rd_T24 l1_3 x37_2).f3).length c409_3]] (by rfl) rfl rfl (by (try simp only [List.map_toArray,List.map_cons,List.map_nil]);first|done|rfl|(simp only [List.length_drop,List.length_take];rfl)|(simp only [gt_iff_lt,Int.ofNat_lt];rfl)) ?_
           with_reducible refine (ih k2 (by have:=HJ2.out;have:=HK2.out;omega) ((rd_T24 l0_3 x37_2).f0) ((rd_T24 l0_3 x37_2).f1) ((rd_T24 l0_3 x37_2).f2) _ _ ((rd_T24 l0_3 x37_2).f3) ((rd_T24 l1_3 x37_2).f0) ((rd_T24 l1_3 x37_2).f1) ((rd_T24 l1_3 x37_2).f2) _ _ ((rd_T24 l1_3 x37_2).f3) false _ ?side1 ?side2 ?side3 ?side4 A28.out).mono ?_
           (case side1 => repeat (first|exact (Kd.C_below HR408_3.out HB.out)|(with_reducible refine Kd.C_alloc ?_ _)|(with_reducible refine Kd.C_drewN ?_ _)|(with_reducible refine Kd.C_drew ?_)))
           (case side2 => exact HC408_3.out)
           (case side3 => repeat (first|exact (Kd.C_below HR409_3.out HB.out)|(with_reducible refine Kd.C_alloc ?_ _)|(with_reducible refine Kd.C_drewN ?_ _)|(with_reducible refine Kd.C_drew ?_)))
           (case side4 => exact HC409_3.out)
           rintro e w33 ⟨rfl,hb⟩
           refine ⟨_,rfl,?_⟩
           replace BK406:=ca_b BK406 hb;replace BK407:=ca_b BK407 hb;replace HB:=ca_h HB hb
           (try clear hb)
           (try clear hb2)
           (try clear hk)
           (try clear hi)
           refine hK.out _ _ ⟨(blk_cell BK406.out 0).trans rfl,(blk_cell BK406.out 1).trans rfl,(blk_cell BK406.out 2).trans rfl,(blk_cell BK406.out 3).trans rfl,(blk_cell BK407.out 0).trans rfl,(blk_cell BK407.out 1).trans rfl,(blk_cell BK407.out 2).trans rfl,(blk_cell BK407.out 3).trans rfl,((HB.out.cell (World.block_lt_of_cell? w _ hw408_0)).trans hw408_0),((HB.out.cell (World.block_lt_of_cell? w _ hw408_1)).trans hw408_1),((HB.out.cell (World.block_lt_of_cell? w _ hw408_2)).trans hw408_2),((HB.out.cell (World.block_lt_of_cell? w _ hw408_3)).trans hw408_3),((HB.out.cell (World.block_lt_of_cell? w _ hw409_0)).trans hw409_0),((HB.out.cell (World.block_lt_of_cell? w _ hw409_1)).trans hw409_1),((HB.out.cell (World.block_lt_of_cell? w _ hw409_2)).trans hw409_2),((HB.out.cell (World.block_lt_of_cell? w _ hw409_3)).trans hw409_3)⟩ (fun hHeld => ?_)
           clear hK K
           refine norm_ (a':=?_) ?_ ?_
           rotate_left
           ·show Act.put _ (some 50) _=_
            simp only [Act.put,List.setIfInBounds_toArray,List.set_cons_zero,List.set_cons_succ,i64_w,i32_w]
            rfl
           refine pure_ (i:=11) (N:=some 51) (v:=?_) (a':=?_) #[true,true,true,true,true,true,true,true,true,true,true,true] rfl rfl (any_of HT_.out (by kernel_rfl)) (fun _ _ _ h => h) (Or.inl ⟨by rfl,?_⟩) ?_ ?_
           rotate_left
           ·intro w'
            go_simp
            with_reducible rfl
           rotate_left
           ·simp only [Act.put,List.setIfInBounds_toArray,List.set_cons_zero,List.set_cons_succ,i64_w,i32_w]
            rfl
           refine done_ (done_of HT_.out (by kernel_rfl)) ?_
           try go_wp2
           go_ret
           exact ⟨by first|rfl|(simp [errW_none,errW_some] <;> rfl)|(simp [*,errW_none,errW_some] <;> rfl),by repeat (first|(with_reducible first|exact HB.out|apply below_alloc|apply pw_below_drewN|apply below_drew1|refine below_set ?_ GE406.out|refine below_set ?_ GE407.out)|exact HB.out)⟩
         ·rw [if_neg c27] at H
          exact absurd H (by simp)
        ·rw [if_neg c26] at H
         exact absurd H (by simp)
       ·rw [if_neg c25] at H
        exact absurd H (by simp)
      ·rw [if_neg c24] at H
       have c24b0:decide (x37_2 < (l0_3.length:Int))=false:=decide_eq_false c24
       clear c24
       obtain rfl:=Option.some.inj H
       go_wp2
       go_ret
       exact ⟨by first|rfl|(simp [errW_none,errW_some] <;> rfl)|(simp [*,errW_none,errW_some] <;> rfl),by repeat (first|(with_reducible first|exact HB.out|apply below_alloc|apply pw_below_drewN|apply below_drew1|refine below_set ?_ GE406.out|refine below_set ?_ GE407.out)|exact HB.out)⟩

end Go.Proofs.YtgmmoagclkmeaaaDoor.XH
