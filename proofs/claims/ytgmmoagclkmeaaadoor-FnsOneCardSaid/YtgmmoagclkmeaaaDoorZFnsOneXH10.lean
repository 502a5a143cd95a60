-- cut down by bundle.py (the session's own program) from the texts YtgmmoagclkmeaaaDoorXH10, to what this claim names
import Derived.Test.YtgmmoagclkmeaaaDoorZFnsOneXH0
import Derived.Test.YtgmmoagclkmeaaaDoorZFnsOneXH4
import Derived.Test.YtgmmoagclkmeaaaDoorZFnsOneXH9
-- laid by xprint.py (the session's own program) out of the translation; Lean checks it
namespace Go.Proofs.YtgmmoagclkmeaaaDoor.XH
open Go.RowKit Go.Proofs.YtgmmoagclkmeaaaDoorW.PrintWords Go.Proofs.YtgmmoagclkmeaaaDoorW.PrintLast Go.Proofs.YtgmmoagclkmeaaaDoorW.PrintMore
attribute [local go_sem] max2_int min2_int max_two min_two max_three min_three max_four min_four   -- for this text's walks alone
set_option linter.unusedVariables false
set_option linter.unusedSimpArgs false

mutual
def spinneyref01_fits.j0:Nat→Int→Int→Bool→Int→Int→ByteArray→List (S24)→Option (Int)
 | 0,_,_,_,_,_,_,_ => none
 | k+1,x1,x2,x29,x152000,x152001,x152002,x152003 => if x29=true then (some (-1)) else (spinneyref01_fits.l0 k x1 x2 1 x152003 (x152003.length:Int) 0 x152000 x152001 x152002 x152003)
def spinneyref01_fits.l0:Nat→Int→Int→Int→List (S24)→Int→Int→Int→Int→ByteArray→List (S24)→Option (Int)
 | 0,_,_,_,_,_,_,_,_,_,_ => none
 | k+1,x1,x2,x7,x31,x32,x33,x152000,x152001,x152002,x152003 => if x33 < x32 then (if 0≤x33 then (if x33 < (x31.length:Int) then ((spinneyref01_fits.f k ((rd_T24 x31 x33).f0) ((rd_T24 x31 x33).f1) ((rd_T24 x31 x33).f2) ((rd_T24 x31 x33).f3) (wrap64 (x1 - 1)) (wrap64 (x2 - x7))).bind fun t154 => (if t154 < 0 then (some (-1)) else (spinneyref01_fits.l0 k x1 x2 (wrap64 (x7+t154)) x31 x32 (wrap64 (x33+1)) x152000 x152001 x152002 x152003))) else (none)) else (none)) else ((spinneyref01_own.f k x152000 x152001 x152002 x152003).bind fun t155 => (if t155=true then (some x7) else (some (-1))))
def spinneyref01_fits.f:Nat→Int→Int→ByteArray→List (S24)→Int→Int→Option (Int)
 | 0,_,_,_,_,_,_ => none
 | k+1,a0_0,a0_1,a0_2,l0_3,a1,a2 => if a2 < 1 then (spinneyref01_fits.j0 k a1 a2 true a0_0 a0_1 a0_2 l0_3) else (if (l0_3.length:Int) > 0 then (if a1=0 then (spinneyref01_fits.j0 k a1 a2 true a0_0 a0_1 a0_2 l0_3) else (spinneyref01_fits.j0 k a1 a2 (decide ((l0_3.length:Int) > a2)) a0_0 a0_1 a0_2 l0_3)) else (spinneyref01_fits.j0 k a1 a2 (decide ((l0_3.length:Int) > a2)) a0_0 a0_1 a0_2 l0_3))
end
set_option maxHeartbeats 8000000 in
set_option maxRecDepth 100000 in
theorem spinneyref01_fits.calls (k:Nat):∀ (a0_0:Int) (a0_1:Int) (a0_2:ByteArray) (A0_3:Option Addr) (c0_3:Nat) (l0_3:List (S24)) (a1:Int) (a2:Int) (r:Int) (w:World) (hr0_3:Kd.C k24 w A0_3 l0_3.length l0_3) (hc0_3:l0_3.length≤c0_3) (h:spinneyref01_fits.f k a0_0 a0_1 a0_2 l0_3 a1 a2=some r),
  Calls Tryd.prog 41 #[.agg #[.int .i64 a0_0,.int .i64 a0_1,.string a0_2,.slice A0_3 l0_3.length c0_3],.int .i64 a1,.int .i64 a2] w fun e w' => e=.returned (.int .i64 r)∧Below w.heap.size w w':=by
 induction k using Nat.strongRecOn with
 | _ k ih =>
 intro a0_0 a0_1 a0_2 A0_3 c0_3 l0_3 a1 a2 r w hr0_3 hc0_3 h
 cases k with
 | zero => exact absurd h (by simp [spinneyref01_fits.f])
 | succ k =>
 simp only [spinneyref01_fits.f] at h
 have hu24:=Tryd.underlying24
 have HR0_3:=Aside0.mk hr0_3
 have HC0_3:=Aside0.mk hc0_3
 clear hr0_3 hc0_3
 have HB:=Aside0.mk (Below.refl w.heap.size w)
 have H:(if a2 < 1 then (spinneyref01_fits.j0 k a1 a2 true a0_0 a0_1 a0_2 l0_3) else (if (l0_3.length:Int) > 0 then (if a1=0 then (spinneyref01_fits.j0 k a1 a2 true a0_0 a0_1 a0_2 l0_3) else (spinneyref01_fits.j0 k a1 a2 (decide ((l0_3.length:Int) > a2)) a0_0 a0_1 a0_2 l0_3)) else (spinneyref01_fits.j0 k a1 a2 (decide ((l0_3.length:Int) > a2)) a0_0 a0_1 a0_2 l0_3)))=some r:=h
 clear h
 have HC4:=Aside0.mk H
 clear H
 go_enter Tryd.func41,Tryd.ntmps41
 go_upto_region 1 with (first|((with_reducible refine gate_dst (N:=3) rfl ?_);(try (refine gate_guard (by rfl) ?_;dsimp only));refine box_event ?hg (N:=3) ?hd (cs:=#[.int .i64 a0_0,.int .i64 a0_1,.string a0_2,.slice A0_3 l0_3.length c0_3]) (t:=24) ?hr ?_;(case hd => rfl);(case hg => rfl);(case hr => first|(go_simp;done)|(go_simp;rfl));intro gb151 hg w5 hbox hb;have BK151:=Aside0.mk (hbox);have GW151:=Aside0.mk ((by rw [hg];exact (below_size (by repeat (first|(with_reducible first|exact HB.out|apply below_alloc|apply pw_below_drewN|apply below_drew1)|exact HB.out))):w.heap.size≤gb151));have GE151:=Aside0.mk ((by rw [hg];exact (below_size (by repeat (first|(with_reducible first|exact HB.out|apply below_alloc|apply pw_below_drewN|apply below_drew1)|exact HB.out))):w.heap.size≤gb151));replace HB:=Aside0.mk (below_step (by repeat (first|(with_reducible first|exact HB.out|apply below_alloc|apply pw_below_drewN|apply below_drew1)|exact HB.out)) hb);clear hb hbox hg))
 (try simp only [Act.put,List.setIfInBounds_toArray,List.set_cons_zero,List.set_cons_succ])
 go_cut [29] (fun v29 wc => ∃ (kq:Nat) (x29_3:Bool),v29=.bool x29_3∧Aside0 (spinneyref01_fits.j0 kq a1 a2 x29_3 a0_0 a0_1 a0_2 l0_3=some r)∧Aside0 (kq≤k)∧Aside0 (wc.heap[gb151]? = some (.cells #[.int .i64 a0_0,.int .i64 a0_1,.string a0_2,(.slice A0_3 l0_3.length c0_3)] 24 (0,0)))∧Aside0 (Below w.heap.size w wc))
 case first =>
  have H:=HC4.out
  clear HC4
  by_cases c6:a2 < 1
  ·rw [if_pos c6] at H
   have c6b0:decide (a2 < 1)=true:=decide_eq_true c6
   clear c6
   (first|rw [c6b0]|(simp only [i64_w,i32_w];rw [c6b0])|skip)
   have H':=Aside0.mk H
   clear H
   go_wp2
   go_meet
   case rel => exact ⟨_,(true),(by first|rfl|(simp;done)|(simp [*];done)),H',⟨by first|omega|exact Nat.le_refl _⟩,⟨by (with_reducible repeat (first|refine blk_drewN ?_ _|refine blk_drew ?_|refine blk_alloc ?_ _));exact BK151.out⟩,⟨by repeat (first|(with_reducible first|exact HB.out|apply below_alloc|apply pw_below_drewN|apply below_drew1|refine below_set ?_ GE151.out)|exact HB.out)⟩⟩
  ·rw [if_neg c6] at H
   have c6b0:decide (a2 < 1)=false:=decide_eq_false c6
   clear c6
   (first|rw [c6b0]|(simp only [i64_w,i32_w];rw [c6b0])|skip)
   by_cases c7:(l0_3.length:Int) > 0
   ·rw [if_pos c7] at H
    have c7b0:decide (0 < (l0_3.length:Int))=true:=decide_eq_true c7
    have c7b1:decide (0 < l0_3.length)=true:=decide_eq_true (by omega)
    clear c7
    by_cases c8:a1=0
    ·rw [if_pos c8] at H
     have c8b0:(a1 == 0)=true:=beq_iff_eq.mpr c8
     have c8b1:(a1 != 0)=false:=bne_eq_false_iff_eq.mpr c8
     clear c8
     have H':=Aside0.mk H
     clear H
     obtain ⟨hcz9_0,hcz9_1,hcz9_2,hcz9_3,hfz9_0,hfz9_1,hfz9_2,hfz9_3⟩:=bk4 BK151
     go_wp2
     go_meet
     case rel => exact ⟨_,(true),(by first|rfl|(simp;done)|(simp [*];done)),H',⟨by first|omega|exact Nat.le_refl _⟩,⟨by (with_reducible repeat (first|refine blk_drewN ?_ _|refine blk_drew ?_|refine blk_alloc ?_ _));exact BK151.out⟩,⟨by repeat (first|(with_reducible first|exact HB.out|apply below_alloc|apply pw_below_drewN|apply below_drew1|refine below_set ?_ GE151.out)|exact HB.out)⟩⟩
    ·rw [if_neg c8] at H
     have c8b0:(a1 == 0)=false:=beq_eq_false_iff_ne.mpr c8
     have c8b1:(a1 != 0)=true:=bne_iff_ne.mpr c8
     have H':=Aside0.mk H
     clear H
     obtain ⟨hcz10_0,hcz10_1,hcz10_2,hcz10_3,hfz10_0,hfz10_1,hfz10_2,hfz10_3⟩:=bk4 BK151
     go_wp2
     go_meet
     case rel => exact ⟨_,(decide ((l0_3.length:Int) > a2)),(by first|rfl|(simp;done)|(simp [*];done)),H',⟨by first|omega|exact Nat.le_refl _⟩,⟨by (with_reducible repeat (first|refine blk_drewN ?_ _|refine blk_drew ?_|refine blk_alloc ?_ _));exact BK151.out⟩,⟨by repeat (first|(with_reducible first|exact HB.out|apply below_alloc|apply pw_below_drewN|apply below_drew1|refine below_set ?_ GE151.out)|exact HB.out)⟩⟩
   ·rw [if_neg c7] at H
    have c7b0:decide (0 < (l0_3.length:Int))=false:=decide_eq_false c7
    have c7b1:decide (0 < l0_3.length)=false:=decide_eq_false (by omega)
    clear c7
    have H':=Aside0.mk H
    clear H
    obtain ⟨hcz11_0,hcz11_1,hcz11_2,hcz11_3,hfz11_0,hfz11_1,hfz11_2,hfz11_3⟩:=bk4 BK151
    go_wp2
    go_meet
    case rel => exact ⟨_,(decide ((l0_3.length:Int) > a2)),(by first|rfl|(simp;done)|(simp [*];done)),H',⟨by first|omega|exact Nat.le_refl _⟩,⟨by (with_reducible repeat (first|refine blk_drewN ?_ _|refine blk_drew ?_|refine blk_alloc ?_ _));exact BK151.out⟩,⟨by repeat (first|(with_reducible first|exact HB.out|apply below_alloc|apply pw_below_drewN|apply below_drew1|refine below_set ?_ GE151.out)|exact HB.out)⟩⟩
 case rest =>
  clear HC4
  try clear p2
  try clear c4
  try clear c6
  try clear c6b0
  try clear c7
  try clear c7b0
  try clear c7b1
  try clear c8
  try clear c8b0
  try clear c8b1
  try clear hcz10_0
  try clear hcz10_1
  try clear hcz10_2
  try clear hcz10_3
  try clear hcz11_0
  try clear hcz11_1
  try clear hcz11_2
  try clear hcz11_3
  try clear hcz9_0
  try clear hcz9_1
  try clear hcz9_2
  try clear hcz9_3
  try clear hfz10_0
  try clear hfz10_1
  try clear hfz10_2
  try clear hfz10_3
  try clear hfz11_0
  try clear hfz11_1
  try clear hfz11_2
  try clear hfz11_3
  try clear hfz9_0
  try clear hfz9_1
  try clear hfz9_2
  try clear hfz9_3
  obtain ⟨kq,x29_3,rfl,HA,HJ3,BK151,HB⟩:=hcut
  cases kq with
  | zero => exact absurd HA.out (by simp [spinneyref01_fits.j0])
  | succ kj3 =>
   have H:=HA.out
   clear HA
   simp only [spinneyref01_fits.j0] at H
   by_cases c12:x29_3=true
   ·subst c12
    have H1:(some (-1))=some r:=by rw [if_pos rfl] at H;exact H
    clear H
    have H:=H1
    clear H1
    obtain rfl:=Option.some.inj H
    go_wp2
    go_ret
    exact ⟨by first|rfl|(simp [errW_none,errW_some] <;> rfl)|(simp [*,errW_none,errW_some] <;> rfl),by repeat (first|(with_reducible first|exact HB.out|apply below_alloc|apply pw_below_drewN|apply below_drew1|refine below_set ?_ GE151.out)|exact HB.out)⟩
   ·replace c12:=Bool.eq_false_iff.mpr c12
    subst c12
    have H1:(spinneyref01_fits.l0 kj3 a1 a2 1 l0_3 (l0_3.length:Int) 0 a0_0 a0_1 a0_2 l0_3)=some r:=by rw [if_neg (show ¬ (false=true) by decide)] at H;exact H
    clear H
    have H:=H1
    clear H1
    have H':=Aside0.mk H
    clear H
    have hcz13_0:wc.cell? ⟨gb151,0,none⟩=some (.int .i64 a0_0):=(blk_cell BK151.out 0).trans rfl;have hcz13_1:wc.cell? ⟨gb151,1,none⟩=some (.int .i64 a0_1):=(blk_cell BK151.out 1).trans rfl;have hcz13_2:wc.cell? ⟨gb151,2,none⟩=some (.string a0_2):=(blk_cell BK151.out 2).trans rfl;have hcz13_3:wc.cell? ⟨gb151,3,none⟩=some (.slice A0_3 l0_3.length c0_3):=(blk_cell BK151.out 3).trans rfl;have hfz13_0:=blk_frozen BK151.out 0;have hfz13_1:=blk_frozen BK151.out 1;have hfz13_2:=blk_frozen BK151.out 2;have hfz13_3:=blk_frozen BK151.out 3
    go_wp2
    go_loopg [7,33] kj3 (fun kq v7 v33 w' => ∃ (x7_2:Int) (x33_2:Int),v7=.int .i64 x7_2∧v33=.int .i64 x33_2∧Aside0 (spinneyref01_fits.l0 kq a1 a2 x7_2 l0_3 (l0_3.length:Int) x33_2 a0_0 a0_1 a0_2 l0_3=some r)∧Aside0 (kq≤kj3)∧Aside0 (w'.heap[gb151]? = some (.cells #[.int .i64 a0_0,.int .i64 a0_1,.string a0_2,(.slice A0_3 l0_3.length c0_3)] 24 (0,0)))∧Aside0 (Below w.heap.size w w'))
    case atStart => exact ⟨(1),(0),(by first|rfl|(simp;done)|(simp [*];done)),(by first|rfl|(simp;done)|(simp [*];done)),H',⟨Nat.le_refl _⟩,⟨by (with_reducible repeat (first|refine blk_drewN ?_ _|refine blk_drew ?_|refine blk_alloc ?_ _));exact BK151.out⟩,⟨by repeat (first|(with_reducible first|exact HB.out|apply below_alloc|apply pw_below_drewN|apply below_drew1|refine below_set ?_ GE151.out)|exact HB.out)⟩⟩
    case round =>
     clear H'
     try clear c1
     try clear p2
     try clear c4
     try clear c6
     try clear c6b0
     try clear c7
     try clear c7b0
     try clear c7b1
     try clear c8
     try clear c8b0
     try clear c8b1
     try clear c12
     try clear hcz10_0
     try clear hcz10_1
     try clear hcz10_2
     try clear hcz10_3
     try clear hcz11_0
     try clear hcz11_1
     try clear hcz11_2
     try clear hcz11_3
     try clear hcz13_0
     try clear hcz13_1
     try clear hcz13_2
     try clear hcz13_3
     try clear hcz9_0
     try clear hcz9_1
     try clear hcz9_2
     try clear hcz9_3
     try clear hfz10_0
     try clear hfz10_1
     try clear hfz10_2
     try clear hfz10_3
     try clear hfz11_0
     try clear hfz11_1
     try clear hfz11_2
     try clear hfz11_3
     try clear hfz13_0
     try clear hfz13_1
     try clear hfz13_2
     try clear hfz13_3
     try clear hfz9_0
     try clear hfz9_1
     try clear hfz9_2
     try clear hfz9_3
     try clear p2
     obtain ⟨x7_2,x33_2,rfl,rfl,HA,HK2,BK151,HB⟩:=hrel
     cases gk with
     | zero => exact absurd HA.out (by simp [spinneyref01_fits.l0])
     | succ k2 =>
      have H:=HA.out
      clear HA
      simp only [spinneyref01_fits.l0] at H
      by_cases c14:x33_2 < (l0_3.length:Int)
      ·rw [if_pos c14] at H
       have c14b0:decide (x33_2 < (l0_3.length:Int))=true:=decide_eq_true c14
       clear c14
       by_cases c15:0≤x33_2
       ·rw [if_pos c15] at H
        have c15b0:decide (0≤x33_2)=true:=decide_eq_true c15
        clear c15
        by_cases c16:x33_2 < (l0_3.length:Int)
        ·rw [if_pos c16] at H
         have c16b0:decide (x33_2 < (l0_3.length:Int))=true:=decide_eq_true c16
         clear c16
         replace H:=Option.bind_eq_some_iff.mp H
         obtain ⟨t154,A170,H⟩:=H
         replace H:(if t154 < 0 then (some (-1)) else (spinneyref01_fits.l0 k2 a1 a2 (wrap64 (x7_2+t154)) l0_3 (l0_3.length:Int) (wrap64 (x33_2+1)) a0_0 a0_1 a0_2 l0_3))=some r:=H
         have A17:=Aside0.mk A170
         clear A170
         by_cases c18:t154 < 0
         ·rw [if_pos c18] at H
          have c18b0:decide (t154 < 0)=true:=decide_eq_true c18
          clear c18
          obtain rfl:=Option.some.inj H
          have p152:0≤(x33_2:Int):=of_decide_eq_true (by first|(with_reducible assumption)|assumption)
          have q152:x33_2 < (l0_3.length:Int):=of_decide_eq_true (by first|(with_reducible assumption)|assumption)
          obtain ⟨ad152,A152_3,c152_3,e152,hx152_0,hx152_1,hx152_2,hx152_3,hl152_3,hi152_3⟩:=at_T24 HR0_3.out x33_2 p152 q152
          cases e152
          replace hx152_0:=(HB.out.cell (World.block_lt_of_cell? w _ hx152_0)).trans hx152_0
          replace hx152_1:=(HB.out.cell (World.block_lt_of_cell? w _ hx152_1)).trans hx152_1
          replace hx152_2:=(HB.out.cell (World.block_lt_of_cell? w _ hx152_2)).trans hx152_2
          replace hx152_3:=(HB.out.cell (World.block_lt_of_cell? w _ hx152_3)).trans hx152_3
          have HR152_3:=Aside0.mk hi152_3
          have HC152_3:=Aside0.mk hl152_3
          clear hi152_3 hl152_3
          replace p152:=eq_true p152
          replace q152:=eq_true q152
          go_wp2_with (first|((with_reducible refine gate_dst (N:=9) rfl ?_);(try (refine gate_guard (by rfl) ?_;dsimp only));refine box_event ?hg (N:=9) ?hd (cs:=#[.int .i64 0,.int .i64 0,.string (⟨#[]⟩:ByteArray),.slice none 0 0]) (t:=24) ?hr ?_;(case hd => rfl);(case hg => rfl);(case hr => first|(go_simp;done)|(go_simp;rfl));intro gb153 hg w19 hbox hb;have BK153:=Aside0.mk (hbox);have GW153:=bx_g (up_h HB) hg;have GE153:=bx_g (up_h HB) hg;have NB151_153:=bx_n (up_b BK151) hg;have NB153_151:=bx_m (up_b BK151) hg;replace BK151:=ca_b BK151 hb;replace HB:=ca_h HB hb;clear hb hbox hg;have hnb20:=NB153_151.out;have hnc20:=NB151_153.out;obtain ⟨hcz21_0,hcz21_1,hcz21_2,hcz21_3,hfz21_0,hfz21_1,hfz21_2,hfz21_3⟩:=bk4 BK153)|((with_reducible refine gate_callee (f:=41) rfl ?_);refine goesL_ (some 43) rfl rfl Tryd.func41 (by kernel_rfl) rfl #[.agg #[.int .i64 ((rd_T24 l0_3 x33_2).f0),.int .i64 ((rd_T24 l0_3 x33_2).f1),.string ((rd_T24 l0_3 x33_2).f2),.slice A152_3 ((rd_T24 l0_3 x33_2).f3).length c152_3],.int .i64 (wrap64 (a1 - 1)),.int .i64 (wrap64 (a2 - x7_2))] rfl (by (try simp only [List.map_toArray,List.map_cons,List.map_nil]);first|done|rfl|(simp only [List.length_drop,List.length_take];rfl)|(simp only [gt_iff_lt,Int.ofNat_lt];rfl)) ?_;(with_reducible refine (ih k2 (by have:=HJ3.out;have:=HK2.out;omega) ((rd_T24 l0_3 x33_2).f0) ((rd_T24 l0_3 x33_2).f1) ((rd_T24 l0_3 x33_2).f2) _ _ ((rd_T24 l0_3 x33_2).f3) (wrap64 (a1 - 1)) (wrap64 (a2 - x7_2)) t154 _ ?side1 ?side2 A17.out).mono ?_);(case side1 => exact Kd.C_below HR152_3.out (sb_h HB GE153));(case side2 => exact HC152_3.out);rintro e w22 ⟨rfl,hb⟩;refine ⟨_,rfl,?_⟩;replace BK151:=cs_b BK151 NB151_153 hb;replace BK153:=Aside0.mk (blk_below (g:=gb153) (o:=.cells #[.int .i64 ((rd_T24 l0_3 x33_2).f0),.int .i64 ((rd_T24 l0_3 x33_2).f1),.string ((rd_T24 l0_3 x33_2).f2),.slice A152_3 ((rd_T24 l0_3 x33_2).f3).length c152_3] 24 (0,0)) (pu4 BK153) hb);replace HB:=cs_h HB GE153 hb;(try clear hb);(try clear hb2);(try clear hk);(try clear hi)))
          go_ret
          exact ⟨by first|rfl|(simp [errW_none,errW_some] <;> rfl)|(simp [*,errW_none,errW_some] <;> rfl),by repeat (first|(with_reducible first|exact HB.out|apply below_alloc|apply pw_below_drewN|apply below_drew1|refine below_set ?_ GE151.out|refine below_set ?_ GE153.out)|exact HB.out)⟩
         ·rw [if_neg c18] at H
          have c18b0:decide (t154 < 0)=false:=decide_eq_false c18
          clear c18
          have H':=Aside0.mk H
          clear H
          have p152:0≤(x33_2:Int):=of_decide_eq_true (by first|(with_reducible assumption)|assumption)
          have q152:x33_2 < (l0_3.length:Int):=of_decide_eq_true (by first|(with_reducible assumption)|assumption)
          obtain ⟨ad152,A152_3,c152_3,e152,hx152_0,hx152_1,hx152_2,hx152_3,hl152_3,hi152_3⟩:=at_T24 HR0_3.out x33_2 p152 q152
          cases e152
          replace hx152_0:=(HB.out.cell (World.block_lt_of_cell? w _ hx152_0)).trans hx152_0
          replace hx152_1:=(HB.out.cell (World.block_lt_of_cell? w _ hx152_1)).trans hx152_1
          replace hx152_2:=(HB.out.cell (World.block_lt_of_cell? w _ hx152_2)).trans hx152_2
          replace hx152_3:=(HB.out.cell (World.block_lt_of_cell? w _ hx152_3)).trans hx152_3
          have HR152_3:=Aside0.mk hi152_3
          have HC152_3:=Aside0.mk hl152_3
          clear hi152_3 hl152_3
          replace p152:=eq_true p152
          replace q152:=eq_true q152
          go_wp2_with (first|((with_reducible refine gate_dst (N:=9) rfl ?_);(try (refine gate_guard (by rfl) ?_;dsimp only));refine box_event ?hg (N:=9) ?hd (cs:=#[.int .i64 0,.int .i64 0,.string (⟨#[]⟩:ByteArray),.slice none 0 0]) (t:=24) ?hr ?_;(case hd => rfl);(case hg => rfl);(case hr => first|(go_simp;done)|(go_simp;rfl));intro gb153 hg w23 hbox hb;have BK153:=Aside0.mk (hbox);have GW153:=bx_g (up_h HB) hg;have GE153:=bx_g (up_h HB) hg;have NB151_153:=bx_n (up_b BK151) hg;have NB153_151:=bx_m (up_b BK151) hg;replace BK151:=ca_b BK151 hb;replace HB:=ca_h HB hb;clear hb hbox hg;have hnb24:=NB153_151.out;have hnc24:=NB151_153.out;obtain ⟨hcz25_0,hcz25_1,hcz25_2,hcz25_3,hfz25_0,hfz25_1,hfz25_2,hfz25_3⟩:=bk4 BK153)|((with_reducible refine gate_callee (f:=41) rfl ?_);refine goesL_ (some 43) rfl rfl Tryd.func41 (by kernel_rfl) rfl #[.agg #[.int .i64 ((rd_T24 l0_3 x33_2).f0),.int .i64 ((rd_T24 l0_3 x33_2).f1),.string ((rd_T24 l0_3 x33_2).f2),.slice A152_3 ((rd_T24 l0_3 x33_2).f3).length c152_3],.int .i64 (wrap64 (a1 - 1)),.int .i64 (wrap64 (a2 - x7_2))] rfl (by (try simp only [List.map_toArray,List.map_cons,List.map_nil]);first|done|rfl|(simp only [List.length_drop,List.length_take];rfl)|(simp only [gt_iff_lt,Int.ofNat_lt];rfl)) ?_;(with_reducible refine (ih k2 (by have:=HJ3.out;have:=HK2.out;omega) ((rd_T24 l0_3 x33_2).f0) ((rd_T24 l0_3 x33_2).f1) ((rd_T24 l0_3 x33_2).f2) _ _ ((rd_T24 l0_3 x33_2).f3) (wrap64 (a1 - 1)) (wrap64 (a2 - x7_2)) t154 _ ?side1 ?side2 A17.out).mono ?_);(case side1 => exact Kd.C_below HR152_3.out (sb_h HB GE153));(case side2 => exact HC152_3.out);rintro e w26 ⟨rfl,hb⟩;refine ⟨_,rfl,?_⟩;replace BK151:=cs_b BK151 NB151_153 hb;replace BK153:=Aside0.mk (blk_below (g:=gb153) (o:=.cells #[.int .i64 ((rd_T24 l0_3 x33_2).f0),.int .i64 ((rd_T24 l0_3 x33_2).f1),.string ((rd_T24 l0_3 x33_2).f2),.slice A152_3 ((rd_T24 l0_3 x33_2).f3).length c152_3] 24 (0,0)) (pu4 BK153) hb);replace HB:=cs_h HB GE153 hb;(try clear hb);(try clear hb2);(try clear hk);(try clear hi)))
          go_roundg k2
          case measure => have:=HJ3.out;have:=HK2.out;omega
          case rel => exact ⟨(wrap64 (x7_2+t154)),(wrap64 (x33_2+1)),(by first|rfl|(simp;done)|(simp [*];done)),(by first|rfl|(simp;done)|(simp [*];done)),H',⟨by have:=HJ3.out;have:=HK2.out;omega⟩,⟨by (with_reducible repeat (first|refine blk_drewN ?_ _|refine blk_drew ?_|refine blk_alloc ?_ _));exact BK151.out⟩,⟨by repeat (first|(with_reducible first|exact HB.out|apply below_alloc|apply pw_below_drewN|apply below_drew1|refine below_set ?_ GE151.out|refine below_set ?_ GE153.out)|exact HB.out)⟩⟩
        ·rw [if_neg c16] at H
         exact absurd H (by simp)
       ·rw [if_neg c15] at H
        exact absurd H (by simp)
      ·rw [if_neg c14] at H
       have c14b0:decide (x33_2 < (l0_3.length:Int))=false:=decide_eq_false c14
       clear c14
       replace H:=Option.bind_eq_some_iff.mp H
       obtain ⟨t155,A270,H⟩:=H
       replace H:(if t155=true then (some x7_2) else (some (-1)))=some r:=H
       have A27:=Aside0.mk A270
       clear A270
       by_cases c28:t155=true
       ·subst c28
        have H1:(some x7_2)=some r:=by rw [if_pos rfl] at H;exact H
        clear H
        have H:=H1
        clear H1
        obtain rfl:=Option.some.inj H
        have hcz29_0:wr.cell? ⟨gb151,0,none⟩=some (.int .i64 a0_0):=(blk_cell BK151.out 0).trans rfl;have hcz29_1:wr.cell? ⟨gb151,1,none⟩=some (.int .i64 a0_1):=(blk_cell BK151.out 1).trans rfl;have hcz29_2:wr.cell? ⟨gb151,2,none⟩=some (.string a0_2):=(blk_cell BK151.out 2).trans rfl;have hcz29_3:wr.cell? ⟨gb151,3,none⟩=some (.slice A0_3 l0_3.length c0_3):=(blk_cell BK151.out 3).trans rfl;have hfz29_0:=blk_frozen BK151.out 0;have hfz29_1:=blk_frozen BK151.out 1;have hfz29_2:=blk_frozen BK151.out 2;have hfz29_3:=blk_frozen BK151.out 3
        go_wp2_with (first|((with_reducible refine gate_callee (f:=64) rfl ?_);refine goesL_ (some 51) rfl rfl Tryd.func64 (by kernel_rfl) rfl #[.agg #[.int .i64 a0_0,.int .i64 a0_1,.string a0_2,.slice A0_3 l0_3.length c0_3]] rfl (by (try simp only [List.map_toArray,List.map_cons,List.map_nil]);first|done|rfl|(simp only [List.length_drop,List.length_take];rfl)|(simp only [gt_iff_lt,Int.ofNat_lt];rfl)) ?_;(with_reducible refine (spinneyref01_own.calls k2 a0_0 a0_1 a0_2 _ _ l0_3 true _ ?side1 ?side2 A27.out).mono ?_);(case side1 => repeat (first|exact (Kd.C_below HR0_3.out HB.out)|(with_reducible refine Kd.C_alloc ?_ _)|(with_reducible refine Kd.C_drewN ?_ _)|(with_reducible refine Kd.C_drew ?_)));(case side2 => exact HC0_3.out);rintro e w30 ⟨rfl,hb⟩;refine ⟨_,rfl,?_⟩;replace BK151:=ca_b BK151 hb;replace HB:=ca_h HB hb;(try clear hb);(try clear hb2);(try clear hk);(try clear hi)))
        go_ret
        exact ⟨by first|rfl|(simp [errW_none,errW_some] <;> rfl)|(simp [*,errW_none,errW_some] <;> rfl),by repeat (first|(with_reducible first|exact HB.out|apply below_alloc|apply pw_below_drewN|apply below_drew1|refine below_set ?_ GE151.out)|exact HB.out)⟩
       ·replace c28:=Bool.eq_false_iff.mpr c28
        subst c28
        have H1:(some (-1))=some r:=by rw [if_neg (show ¬ (false=true) by decide)] at H;exact H
        clear H
        have H:=H1
        clear H1
        obtain rfl:=Option.some.inj H
        have hcz31_0:wr.cell? ⟨gb151,0,none⟩=some (.int .i64 a0_0):=(blk_cell BK151.out 0).trans rfl;have hcz31_1:wr.cell? ⟨gb151,1,none⟩=some (.int .i64 a0_1):=(blk_cell BK151.out 1).trans rfl;have hcz31_2:wr.cell? ⟨gb151,2,none⟩=some (.string a0_2):=(blk_cell BK151.out 2).trans rfl;have hcz31_3:wr.cell? ⟨gb151,3,none⟩=some (.slice A0_3 l0_3.length c0_3):=(blk_cell BK151.out 3).trans rfl;have hfz31_0:=blk_frozen BK151.out 0;have hfz31_1:=blk_frozen BK151.out 1;have hfz31_2:=blk_frozen BK151.out 2;have hfz31_3:=blk_frozen BK151.out 3
        go_wp2_with (first|((with_reducible refine gate_callee (f:=64) rfl ?_);refine goesL_ (some 51) rfl rfl Tryd.func64 (by kernel_rfl) rfl #[.agg #[.int .i64 a0_0,.int .i64 a0_1,.string a0_2,.slice A0_3 l0_3.length c0_3]] rfl (by (try simp only [List.map_toArray,List.map_cons,List.map_nil]);first|done|rfl|(simp only [List.length_drop,List.length_take];rfl)|(simp only [gt_iff_lt,Int.ofNat_lt];rfl)) ?_;(with_reducible refine (spinneyref01_own.calls k2 a0_0 a0_1 a0_2 _ _ l0_3 false _ ?side1 ?side2 A27.out).mono ?_);(case side1 => repeat (first|exact (Kd.C_below HR0_3.out HB.out)|(with_reducible refine Kd.C_alloc ?_ _)|(with_reducible refine Kd.C_drewN ?_ _)|(with_reducible refine Kd.C_drew ?_)));(case side2 => exact HC0_3.out);rintro e w32 ⟨rfl,hb⟩;refine ⟨_,rfl,?_⟩;replace BK151:=ca_b BK151 hb;replace HB:=ca_h HB hb;(try clear hb);(try clear hb2);(try clear hk);(try clear hi)))
        go_ret
        exact ⟨by first|rfl|(simp [errW_none,errW_some] <;> rfl)|(simp [*,errW_none,errW_some] <;> rfl),by repeat (first|(with_reducible first|exact HB.out|apply below_alloc|apply pw_below_drewN|apply below_drew1|refine below_set ?_ GE151.out)|exact HB.out)⟩

def spinneyref01_Right.f (k:Nat) (a0_0:Int) (a0_1:Int) (a0_2:ByteArray) (l0_3:List (S24)):Option (Bool):=(spinneyref01_fits.f k a0_0 a0_1 a0_2 l0_3 16 1024).bind fun t157 => (some (decide (t157 ≥ 0)))
set_option maxHeartbeats 8000000 in
set_option maxRecDepth 100000 in
theorem spinneyref01_Right.calls (k:Nat) (a0_0:Int) (a0_1:Int) (a0_2:ByteArray) (A0_3:Option Addr) (c0_3:Nat) (l0_3:List (S24)) (r:Bool) (w:World) (hr0_3:Kd.C k24 w A0_3 l0_3.length l0_3) (hc0_3:l0_3.length≤c0_3) (h:spinneyref01_Right.f k a0_0 a0_1 a0_2 l0_3=some r) :
  Calls Tryd.prog 22 #[.agg #[.int .i64 a0_0,.int .i64 a0_1,.string a0_2,.slice A0_3 l0_3.length c0_3]] w fun e w' => e=.returned (.bool r)∧Below w.heap.size w w':=by
 have hu24:=Tryd.underlying24
 have HR0_3:=Aside0.mk hr0_3
 have HC0_3:=Aside0.mk hc0_3
 clear hr0_3 hc0_3
 have HB:=Aside0.mk (Below.refl w.heap.size w)
 have H:((spinneyref01_fits.f k a0_0 a0_1 a0_2 l0_3 16 1024).bind fun t157 => (some (decide (t157 ≥ 0))))=some r:=h
 clear h
 replace H:=Option.bind_eq_some_iff.mp H
 obtain ⟨t157,A20,H⟩:=H
 replace H:(some (decide (t157 ≥ 0)))=some r:=H
 have A2:=Aside0.mk A20
 clear A20
 obtain rfl:=Option.some.inj H
 go_enter Tryd.func22,Tryd.ntmps22
 go_wp2_with (first|((with_reducible refine gate_dst (N:=1) rfl ?_);refine box_event ?hg (N:=1) ?hd (cs:=#[.int .i64 a0_0,.int .i64 a0_1,.string a0_2,.slice A0_3 l0_3.length c0_3]) (t:=24) ?hr ?_;(case hd => rfl);(case hg => rfl);(case hr => first|(go_simp;done)|(go_simp;rfl));intro gb156 hg w3 hbox hb;have BK156:=Aside0.mk (hbox);have GW156:=bx_g (up_h HB) hg;have GE156:=bx_g (up_h HB) hg;replace HB:=ca_h HB hb;clear hb hbox hg;obtain ⟨hcz4_0,hcz4_1,hcz4_2,hcz4_3,hfz4_0,hfz4_1,hfz4_2,hfz4_3⟩:=bk4 BK156)|((with_reducible refine gate_callee (f:=41) rfl ?_);refine goesL_ (some 4) rfl rfl Tryd.func41 (by kernel_rfl) rfl #[.agg #[.int .i64 a0_0,.int .i64 a0_1,.string a0_2,.slice A0_3 l0_3.length c0_3],.int .i64 16,.int .i64 1024] rfl (by (try simp only [List.map_toArray,List.map_cons,List.map_nil]);first|done|rfl|(simp only [List.length_drop,List.length_take];rfl)|(simp only [gt_iff_lt,Int.ofNat_lt];rfl)) ?_;(with_reducible refine (spinneyref01_fits.calls k a0_0 a0_1 a0_2 _ _ l0_3 16 1024 t157 _ ?side1 ?side2 A2.out).mono ?_);(case side1 => repeat (first|exact (Kd.C_below HR0_3.out HB.out)|(with_reducible refine Kd.C_alloc ?_ _)|(with_reducible refine Kd.C_drewN ?_ _)|(with_reducible refine Kd.C_drew ?_)));(case side2 => exact HC0_3.out);rintro e w5 ⟨rfl,hb⟩;refine ⟨_,rfl,?_⟩;replace BK156:=ca_b BK156 hb;replace HB:=ca_h HB hb;(try clear hb);(try clear hb2);(try clear hk);(try clear hi)))
 go_ret
 exact ⟨by first|rfl|(simp [errW_none,errW_some] <;> rfl)|(simp [*,errW_none,errW_some] <;> rfl),by repeat (first|(with_reducible first|exact HB.out|apply below_alloc|apply pw_below_drewN|apply below_drew1|refine below_set ?_ GE156.out)|exact HB.out)⟩

def fns_add.f (a0_0:Int) (a0_1:Int) (a0_2:ByteArray) (l0_3:List (S24)) (a1_0:Int) (a1_1:Int) (a1_2:ByteArray) (l1_3:List (S24)):Option (Int × Int × ByteArray × (List (S24))):=(fns_isInt.f a0_0 a0_1 a0_2 l0_3).bind fun t166 => (if t166=true then ((fns_isInt.f a1_0 a1_1 a1_2 l1_3).bind fun t167 => (if t167=true then (some (a0_0,wrap64 (a0_1+a1_1),a0_2,l0_3)) else (some (a0_0,a0_1,a0_2,l0_3)))) else (some (a0_0,a0_1,a0_2,l0_3)))
set_option maxHeartbeats 8000000 in
set_option maxRecDepth 100000 in
theorem fns_add.calls (a0_0:Int) (a0_1:Int) (a0_2:ByteArray) (P0_3_:Nat→Prop) (A0_3:Option Addr) (c0_3:Nat) (l0_3:List (S24)) (a1_0:Int) (a1_1:Int) (a1_2:ByteArray) (A1_3:Option Addr) (c1_3:Nat) (l1_3:List (S24)) (r1:Int) (r2:Int) (r3:ByteArray) (r4:List (S24)) (w:World) (hs0_3:Kd.V k24 24 w w.heap.size (fun k_ => P0_3_ k_) (.slice A0_3 l0_3.length c0_3) l0_3) (hr1_3:Kd.C k24 w A1_3 l1_3.length l1_3) (hc1_3:l1_3.length≤c1_3) (h:fns_add.f a0_0 a0_1 a0_2 l0_3 a1_0 a1_1 a1_2 l1_3=some (r1,r2,r3,r4)) :
  Calls Tryd.prog 42 #[.agg #[.int .i64 a0_0,.int .i64 a0_1,.string a0_2,.slice A0_3 l0_3.length c0_3],.agg #[.int .i64 a1_0,.int .i64 a1_1,.string a1_2,.slice A1_3 l1_3.length c1_3]] w fun e w' => ∃ v3_:Value,e=.returned (.agg #[.int .i64 r1,.int .i64 r2,.string r3,v3_])∧Kd.V k24 24 w' w.heap.size (fun k_ => (P0_3_ k_ ∨ w.heap.size≤k_)) v3_ r4∧Below w.heap.size w w':=by
 have hu24:=Tryd.underlying24
 have HO0_3:=Aside0.mk (show Kd.V k24 24 w w.heap.size (fun k_ => (P0_3_ k_ ∨ w.heap.size≤k_)) (.slice A0_3 l0_3.length c0_3) l0_3 from Kd.V_mono hs0_3 (fun k_ hk => .inl hk))
 have HR1_3:=Aside0.mk hr1_3
 have HC1_3:=Aside0.mk hc1_3
 clear hr1_3 hc1_3
 have HB:=Aside0.mk (Below.refl w.heap.size w)
 have H:((fns_isInt.f a0_0 a0_1 a0_2 l0_3).bind fun t166 => (if t166=true then ((fns_isInt.f a1_0 a1_1 a1_2 l1_3).bind fun t167 => (if t167=true then (some (a0_0,wrap64 (a0_1+a1_1),a0_2,l0_3)) else (some (a0_0,a0_1,a0_2,l0_3)))) else (some (a0_0,a0_1,a0_2,l0_3))))=some (r1,r2,r3,r4):=h
 clear h
 replace H:=Option.bind_eq_some_iff.mp H
 obtain ⟨t166,A30,H⟩:=H
 replace H:(if t166=true then ((fns_isInt.f a1_0 a1_1 a1_2 l1_3).bind fun t167 => (if t167=true then (some (a0_0,wrap64 (a0_1+a1_1),a0_2,l0_3)) else (some (a0_0,a0_1,a0_2,l0_3)))) else (some (a0_0,a0_1,a0_2,l0_3)))=some (r1,r2,r3,r4):=H
 have A3:=Aside0.mk A30
 clear A30
 by_cases c4:t166=true
 ·subst c4
  have H1:((fns_isInt.f a1_0 a1_1 a1_2 l1_3).bind fun t167 => (if t167=true then (some (a0_0,wrap64 (a0_1+a1_1),a0_2,l0_3)) else (some (a0_0,a0_1,a0_2,l0_3))))=some (r1,r2,r3,r4):=by rw [if_pos rfl] at H;exact H
  clear H
  have H:=H1
  clear H1
  replace H:=Option.bind_eq_some_iff.mp H
  obtain ⟨t167,A50,H⟩:=H
  replace H:(if t167=true then (some (a0_0,wrap64 (a0_1+a1_1),a0_2,l0_3)) else (some (a0_0,a0_1,a0_2,l0_3)))=some (r1,r2,r3,r4):=H
  have A5:=Aside0.mk A50
  clear A50
  by_cases c6:t167=true
  ·subst c6
   have H1:(some (a0_0,wrap64 (a0_1+a1_1),a0_2,l0_3))=some (r1,r2,r3,r4):=by rw [if_pos rfl] at H;exact H
   clear H
   have H:=H1
   clear H1
   simp only [Option.some.injEq,Prod.mk.injEq] at H
   obtain ⟨rfl,rfl,rfl,rfl⟩:=H
   go_enter Tryd.func42,Tryd.ntmps42
   go_wp2_with (first|((with_reducible refine gate_dst (N:=2) rfl ?_);refine box_event ?hg (N:=2) ?hd (cs:=#[.int .i64 a0_0,.int .i64 a0_1,.string a0_2,.slice A0_3 l0_3.length c0_3]) (t:=24) ?hr ?_;(case hd => rfl);(case hg => rfl);(case hr => first|(go_simp;done)|(go_simp;rfl));intro gb163 hg w7 hbox hb;have BK163:=Aside0.mk (hbox);have GW163:=bx_g (up_h HB) hg;have GE163:=bx_g (up_h HB) hg;replace HO0_3:=bx_v HO0_3 hg hb;replace HB:=ca_h HB hb;clear hb hbox hg)|((with_reducible refine gate_dst (N:=3) rfl ?_);refine box_event ?hg (N:=3) ?hd (cs:=#[.int .i64 a1_0,.int .i64 a1_1,.string a1_2,.slice A1_3 l1_3.length c1_3]) (t:=24) ?hr ?_;(case hd => rfl);(case hg => rfl);(case hr => first|(go_simp;done)|(go_simp;rfl));intro gb164 hg w8 hbox hb;have BK164:=Aside0.mk (hbox);have GW164:=bx_g (up_h HB) hg;have GE164:=bx_g (up_h HB) hg;have NB163_164:=bx_n (up_b BK163) hg;have NB164_163:=bx_m (up_b BK163) hg;replace HO0_3:=bx_v HO0_3 hg hb;replace BK163:=ca_b BK163 hb;replace HB:=ca_h HB hb;clear hb hbox hg)|((with_reducible refine gate_dst (N:=4) rfl ?_);refine box_event ?hg (N:=4) ?hd (cs:=#[.int .i64 0,.int .i64 0,.string (⟨#[]⟩:ByteArray),.slice none 0 0]) (t:=24) ?hr ?_;(case hd => rfl);(case hg => rfl);(case hr => first|(go_simp;done)|(go_simp;rfl));intro gb165 hg w9 hbox hb;have BK165:=Aside0.mk (hbox);have GW165:=bx_g (up_h HB) hg;have GE165:=bx_g (up_h HB) hg;have NB163_165:=bx_n (up_b BK163) hg;have NB165_163:=bx_m (up_b BK163) hg;have NB164_165:=bx_n (up_b BK164) hg;have NB165_164:=bx_m (up_b BK164) hg;replace HO0_3:=bx_v HO0_3 hg hb;replace BK163:=ca_b BK163 hb;replace BK164:=ca_b BK164 hb;replace HB:=ca_h HB hb;clear hb hbox hg;have hnb10:=NB163_164.out;have hnc10:=NB164_163.out;have hnb11:=NB163_165.out;have hnc11:=NB165_163.out;obtain ⟨hcz12_0,hcz12_1,hcz12_2,hcz12_3,hfz12_0,hfz12_1,hfz12_2,hfz12_3⟩:=bk4 BK163)|((with_reducible refine gate_callee (f:=35) rfl ?_);refine goesL_ (some 6) rfl rfl Tryd.func35 (by kernel_rfl) rfl #[.agg #[.int .i64 a0_0,.int .i64 a0_1,.string a0_2,.slice A0_3 l0_3.length c0_3]] rfl (by (try simp only [List.map_toArray,List.map_cons,List.map_nil]);first|done|rfl|(simp only [List.length_drop,List.length_take];rfl)|(simp only [gt_iff_lt,Int.ofNat_lt];rfl)) ?_;(with_reducible refine (fns_isInt.calls a0_0 a0_1 a0_2 _ _ l0_3 true _ ?side1 ?side2 A3.out).mono ?_);(case side1 => repeat (first|exact (Kd.V_reads' HO0_3.out).2.2|(with_reducible refine Kd.C_alloc ?_ _)|(with_reducible refine Kd.C_drewN ?_ _)|(with_reducible refine Kd.C_drew ?_)));(case side2 => exact (Kd.V_reads' HO0_3.out).2.1);rintro e w13 ⟨rfl,hb⟩;refine ⟨_,rfl,?_⟩;replace HO0_3:=ca_v HO0_3 hb;replace BK163:=ca_b BK163 hb;replace BK164:=ca_b BK164 hb;replace BK165:=ca_b BK165 hb;replace HB:=ca_h HB hb;(try clear hb);(try clear hb2);(try clear hk);(try clear hi);have hnb14:=NB164_165.out;have hnc14:=NB165_164.out;obtain ⟨hcz15_0,hcz15_1,hcz15_2,hcz15_3,hfz15_0,hfz15_1,hfz15_2,hfz15_3⟩:=bk4 BK164)|(go_at_call 35;(with_reducible refine (fns_isInt.calls a1_0 a1_1 a1_2 _ _ l1_3 true _ ?side1 ?side2 A5.out).mono ?_);(case side1 => repeat (first|exact (Kd.C_below HR1_3.out HB.out)|(with_reducible refine Kd.C_alloc ?_ _)|(with_reducible refine Kd.C_drewN ?_ _)|(with_reducible refine Kd.C_drew ?_)));(case side2 => exact HC1_3.out);rintro e w16 ⟨rfl,hb⟩;replace HO0_3:=ca_v HO0_3 hb;replace BK163:=ca_b BK163 hb;replace BK164:=ca_b BK164 hb;replace BK165:=ca_b BK165 hb;replace HB:=ca_h HB hb;(try clear hb);(try clear hb2);(try clear hk);(try clear hi);obtain ⟨hcz17_0,hcz17_1,hcz17_2,hcz17_3,hfz17_0,hfz17_1,hfz17_2,hfz17_3⟩:=bk4 BK163;obtain ⟨hcz18_0,hcz18_1,hcz18_2,hcz18_3,hfz18_0,hfz18_1,hfz18_2,hfz18_3⟩:=bk4 BK164;obtain ⟨hcz19_0,hcz19_1,hcz19_2,hcz19_3,hfz19_0,hfz19_1,hfz19_2,hfz19_3⟩:=bk4 BK165))
   refine bodyPost_ret (results_cell_row rfl _ _ gb165 24 #[.int .i64 a0_0,.int .i64 (wrap64 (a0_1+a1_1)),.string a0_2,.slice A0_3 l0_3.length c0_3] (0,0) _ rfl (by (with_reducible repeat (first|refine blk_drewN ?_ _|refine blk_drew ?_|refine blk_alloc ?_ _));refine blk_put (cs:=#[.int .i64 a0_0,.int .i64 (wrap64 (a0_1+a1_1)),.string a0_2,.slice none 0 0]) ?_ 3 _ rfl;(with_reducible repeat (first|refine blk_drewN ?_ _|refine blk_drew ?_|refine blk_alloc ?_ _));refine blk_put (cs:=#[.int .i64 a0_0,.int .i64 (wrap64 (a0_1+a1_1)),.string (⟨#[]⟩:ByteArray),.slice none 0 0]) ?_ 2 _ rfl;(with_reducible repeat (first|refine blk_drewN ?_ _|refine blk_drew ?_|refine blk_alloc ?_ _));refine blk_put (cs:=#[.int .i64 a0_0,.int .i64 0,.string (⟨#[]⟩:ByteArray),.slice none 0 0]) ?_ 1 _ rfl;(with_reducible repeat (first|refine blk_drewN ?_ _|refine blk_drew ?_|refine blk_alloc ?_ _));refine blk_put (cs:=#[.int .i64 0,.int .i64 0,.string (⟨#[]⟩:ByteArray),.slice none 0 0]) ?_ 0 _ rfl;(with_reducible repeat (first|refine blk_drewN ?_ _|refine blk_drew ?_|refine blk_alloc ?_ _));refine blk_far ?_ NB165_163.out _;(with_reducible repeat (first|refine blk_drewN ?_ _|refine blk_drew ?_|refine blk_alloc ?_ _));exact BK165.out) Tryd.underlying24 rfl (by kernel_rfl)) rfl ?_
   exact ⟨_,by first|rfl|(simp [errW_none,errW_some] <;> rfl)|(simp [*,errW_none,errW_some] <;> rfl),by (with_reducible repeat (first|apply Kd.V_alloc|apply Kd.V_drewN|apply Kd.V_drew));exact Kd.V_mono (Kd.V_far (p:=⟨gb165,3,none⟩) (Kd.V_far (p:=⟨gb165,2,none⟩) (Kd.V_far (p:=⟨gb165,1,none⟩) (Kd.V_far (p:=⟨gb165,0,none⟩) (Kd.V_far (p:=⟨gb163,1,none⟩) (Kd.V_mono (Kd.V_mono HO0_3.out (fun k_ hk => (⟨hk,hk.1.1.2⟩:_∧k_≠gb163))) (fun k_ hk => (⟨hk,hk.1.2⟩:_∧k_≠gb165))) (fun _ hk => hk.1.2) (.int .i64 (wrap64 (a0_1+a1_1)))) (fun _ hk => hk.2) (.int .i64 a0_0)) (fun _ hk => hk.2) (.int .i64 (wrap64 (a0_1+a1_1)))) (fun _ hk => hk.2) (.string a0_2)) (fun _ hk => hk.2) (.slice A0_3 l0_3.length c0_3)) (fun _ hk => hk.1.1.1.1.1),by repeat (first|(with_reducible first|exact HB.out|apply below_alloc|apply pw_below_drewN|apply below_drew1|refine below_set ?_ GE163.out|refine below_set ?_ GE164.out|refine below_set ?_ GE165.out)|exact HB.out)⟩
  ·replace c6:=Bool.eq_false_iff.mpr c6
   subst c6
   have H1:(some (a0_0,a0_1,a0_2,l0_3))=some (r1,r2,r3,r4):=by rw [if_neg (show ¬ (false=true) by decide)] at H;exact H
   clear H
   have H:=H1
   clear H1
   simp only [Option.some.injEq,Prod.mk.injEq] at H
   obtain ⟨rfl,rfl,rfl,rfl⟩:=H
   go_enter Tryd.func42,Tryd.ntmps42
   go_wp2_with (first|((with_reducible refine gate_dst (N:=2) rfl ?_);refine box_event ?hg (N:=2) ?hd (cs:=#[.int .i64 a0_0,.int .i64 a0_1,.string a0_2,.slice A0_3 l0_3.length c0_3]) (t:=24) ?hr ?_;(case hd => rfl);(case hg => rfl);(case hr => first|(go_simp;done)|(go_simp;rfl));intro gb163 hg w20 hbox hb;have BK163:=Aside0.mk (hbox);have GW163:=bx_g (up_h HB) hg;have GE163:=bx_g (up_h HB) hg;replace HO0_3:=bx_v HO0_3 hg hb;replace HB:=ca_h HB hb;clear hb hbox hg)|((with_reducible refine gate_dst (N:=3) rfl ?_);refine box_event ?hg (N:=3) ?hd (cs:=#[.int .i64 a1_0,.int .i64 a1_1,.string a1_2,.slice A1_3 l1_3.length c1_3]) (t:=24) ?hr ?_;(case hd => rfl);(case hg => rfl);(case hr => first|(go_simp;done)|(go_simp;rfl));intro gb164 hg w21 hbox hb;have BK164:=Aside0.mk (hbox);have GW164:=bx_g (up_h HB) hg;have GE164:=bx_g (up_h HB) hg;have NB163_164:=bx_n (up_b BK163) hg;have NB164_163:=bx_m (up_b BK163) hg;replace HO0_3:=bx_v HO0_3 hg hb;replace BK163:=ca_b BK163 hb;replace HB:=ca_h HB hb;clear hb hbox hg)|((with_reducible refine gate_dst (N:=4) rfl ?_);refine box_event ?hg (N:=4) ?hd (cs:=#[.int .i64 0,.int .i64 0,.string (⟨#[]⟩:ByteArray),.slice none 0 0]) (t:=24) ?hr ?_;(case hd => rfl);(case hg => rfl);(case hr => first|(go_simp;done)|(go_simp;rfl));intro gb165 hg w22 hbox hb;have BK165:=Aside0.mk (hbox);have GW165:=bx_g (up_h HB) hg;have GE165:=bx_g (up_h HB) hg;have NB163_165:=bx_n (up_b BK163) hg;have NB165_163:=bx_m (up_b BK163) hg;have NB164_165:=bx_n (up_b BK164) hg;have NB165_164:=bx_m (up_b BK164) hg;replace HO0_3:=bx_v HO0_3 hg hb;replace BK163:=ca_b BK163 hb;replace BK164:=ca_b BK164 hb;replace HB:=ca_h HB hb;clear hb hbox hg;have hnb23:=NB163_164.out;have hnc23:=NB164_163.out;have hnb24:=NB163_165.out;have hnc24:=NB165_163.out;obtain ⟨hcz25_0,hcz25_1,hcz25_2,hcz25_3,hfz25_0,hfz25_1,hfz25_2,hfz25_3⟩:=bk4 BK163)|((with_reducible refine gate_callee (f:=35) rfl ?_);refine goesL_ (some 6) rfl rfl Tryd.func35 (by kernel_rfl) rfl #[.agg #[.int .i64 a0_0,.int .i64 a0_1,.string a0_2,.slice A0_3 l0_3.length c0_3]] rfl (by (try simp only [List.map_toArray,List.map_cons,List.map_nil]);first|done|rfl|(simp only [List.length_drop,List.length_take];rfl)|(simp only [gt_iff_lt,Int.ofNat_lt];rfl)) ?_;(with_reducible refine (fns_isInt.calls a0_0 a0_1 a0_2 _ _ l0_3 true _ ?side1 ?side2 A3.out).mono ?_);(case side1 => repeat (first|exact (Kd.V_reads' HO0_3.out).2.2|(with_reducible refine Kd.C_alloc ?_ _)|(with_reducible refine Kd.C_drewN ?_ _)|(with_reducible refine Kd.C_drew ?_)));(case side2 => exact (Kd.V_reads' HO0_3.out).2.1);rintro e w26 ⟨rfl,hb⟩;refine ⟨_,rfl,?_⟩;replace HO0_3:=ca_v HO0_3 hb;replace BK163:=ca_b BK163 hb;replace BK164:=ca_b BK164 hb;replace BK165:=ca_b BK165 hb;replace HB:=ca_h HB hb;(try clear hb);(try clear hb2);(try clear hk);(try clear hi);have hnb27:=NB164_165.out;have hnc27:=NB165_164.out;obtain ⟨hcz28_0,hcz28_1,hcz28_2,hcz28_3,hfz28_0,hfz28_1,hfz28_2,hfz28_3⟩:=bk4 BK164)|(go_at_call 35;(with_reducible refine (fns_isInt.calls a1_0 a1_1 a1_2 _ _ l1_3 false _ ?side1 ?side2 A5.out).mono ?_);(case side1 => repeat (first|exact (Kd.C_below HR1_3.out HB.out)|(with_reducible refine Kd.C_alloc ?_ _)|(with_reducible refine Kd.C_drewN ?_ _)|(with_reducible refine Kd.C_drew ?_)));(case side2 => exact HC1_3.out);rintro e w29 ⟨rfl,hb⟩;replace HO0_3:=ca_v HO0_3 hb;replace BK163:=ca_b BK163 hb;replace BK164:=ca_b BK164 hb;replace BK165:=ca_b BK165 hb;replace HB:=ca_h HB hb;(try clear hb);(try clear hb2);(try clear hk);(try clear hi);obtain ⟨hcz30_0,hcz30_1,hcz30_2,hcz30_3,hfz30_0,hfz30_1,hfz30_2,hfz30_3⟩:=bk4 BK163;obtain ⟨hcz31_0,hcz31_1,hcz31_2,hcz31_3,hfz31_0,hfz31_1,hfz31_2,hfz31_3⟩:=bk4 BK165))
   refine bodyPost_ret (results_cell_row rfl _ _ gb165 24 #[.int .i64 a0_0,.int .i64 a0_1,.string a0_2,.slice A0_3 l0_3.length c0_3] (0,0) _ rfl (pu4 BK165) Tryd.underlying24 rfl (by kernel_rfl)) rfl ?_
   exact ⟨_,by first|rfl|(simp [errW_none,errW_some] <;> rfl)|(simp [*,errW_none,errW_some] <;> rfl),by (with_reducible repeat (first|apply Kd.V_alloc|apply Kd.V_drewN|apply Kd.V_drew));exact Kd.V_mono (fa4_v HO0_3 (fun _ hk => hk.2)) (fun _ hk => hk.1.1.1.1),by repeat (first|(with_reducible first|exact HB.out|apply below_alloc|apply pw_below_drewN|apply below_drew1|refine below_set ?_ GE163.out|refine below_set ?_ GE164.out|refine below_set ?_ GE165.out)|exact HB.out)⟩
 ·replace c4:=Bool.eq_false_iff.mpr c4
  subst c4
  have H1:(some (a0_0,a0_1,a0_2,l0_3))=some (r1,r2,r3,r4):=by rw [if_neg (show ¬ (false=true) by decide)] at H;exact H
  clear H
  have H:=H1
  clear H1
  simp only [Option.some.injEq,Prod.mk.injEq] at H
  obtain ⟨rfl,rfl,rfl,rfl⟩:=H
  go_enter Tryd.func42,Tryd.ntmps42
  go_wp2_with (first|((with_reducible refine gate_dst (N:=2) rfl ?_);refine box_event ?hg (N:=2) ?hd (cs:=#[.int .i64 a0_0,.int .i64 a0_1,.string a0_2,.slice A0_3 l0_3.length c0_3]) (t:=24) ?hr ?_;(case hd => rfl);(case hg => rfl);(case hr => first|(go_simp;done)|(go_simp;rfl));intro gb163 hg w32 hbox hb;have BK163:=Aside0.mk (hbox);have GW163:=bx_g (up_h HB) hg;have GE163:=bx_g (up_h HB) hg;replace HO0_3:=bx_v HO0_3 hg hb;replace HB:=ca_h HB hb;clear hb hbox hg)|((with_reducible refine gate_dst (N:=3) rfl ?_);refine box_event ?hg (N:=3) ?hd (cs:=#[.int .i64 a1_0,.int .i64 a1_1,.string a1_2,.slice A1_3 l1_3.length c1_3]) (t:=24) ?hr ?_;(case hd => rfl);(case hg => rfl);(case hr => first|(go_simp;done)|(go_simp;rfl));intro gb164 hg w33 hbox hb;have BK164:=Aside0.mk (hbox);have GW164:=bx_g (up_h HB) hg;have GE164:=bx_g (up_h HB) hg;have NB163_164:=bx_n (up_b BK163) hg;have NB164_163:=bx_m (up_b BK163) hg;replace HO0_3:=bx_v HO0_3 hg hb;replace BK163:=ca_b BK163 hb;replace HB:=ca_h HB hb;clear hb hbox hg)|((with_reducible refine gate_dst (N:=4) rfl ?_);refine box_event ?hg (N:=4) ?hd (cs:=#[.int .i64 0,.int .i64 0,.string (⟨#[]⟩:ByteArray),.slice none 0 0]) (t:=24) ?hr ?_;(case hd => rfl);(case hg => rfl);(case hr => first|(go_simp;done)|(go_simp;rfl));intro gb165 hg w34 hbox hb;have BK165:=Aside0.mk (hbox);have GW165:=bx_g (up_h HB) hg;have GE165:=bx_g (up_h HB) hg;have NB163_165:=bx_n (up_b BK163) hg;have NB165_163:=bx_m (up_b BK163) hg;have NB164_165:=bx_n (up_b BK164) hg;have NB165_164:=bx_m (up_b BK164) hg;replace HO0_3:=bx_v HO0_3 hg hb;replace BK163:=ca_b BK163 hb;replace BK164:=ca_b BK164 hb;replace HB:=ca_h HB hb;clear hb hbox hg;have hnb35:=NB163_164.out;have hnc35:=NB164_163.out;have hnb36:=NB163_165.out;have hnc36:=NB165_163.out;obtain ⟨hcz37_0,hcz37_1,hcz37_2,hcz37_3,hfz37_0,hfz37_1,hfz37_2,hfz37_3⟩:=bk4 BK163)|((with_reducible refine gate_callee (f:=35) rfl ?_);refine goesL_ (some 6) rfl rfl Tryd.func35 (by kernel_rfl) rfl #[.agg #[.int .i64 a0_0,.int .i64 a0_1,.string a0_2,.slice A0_3 l0_3.length c0_3]] rfl (by (try simp only [List.map_toArray,List.map_cons,List.map_nil]);first|done|rfl|(simp only [List.length_drop,List.length_take];rfl)|(simp only [gt_iff_lt,Int.ofNat_lt];rfl)) ?_;(with_reducible refine (fns_isInt.calls a0_0 a0_1 a0_2 _ _ l0_3 false _ ?side1 ?side2 A3.out).mono ?_);(case side1 => repeat (first|exact (Kd.V_reads' HO0_3.out).2.2|(with_reducible refine Kd.C_alloc ?_ _)|(with_reducible refine Kd.C_drewN ?_ _)|(with_reducible refine Kd.C_drew ?_)));(case side2 => exact (Kd.V_reads' HO0_3.out).2.1);rintro e w38 ⟨rfl,hb⟩;refine ⟨_,rfl,?_⟩;replace HO0_3:=ca_v HO0_3 hb;replace BK163:=ca_b BK163 hb;replace BK164:=ca_b BK164 hb;replace BK165:=ca_b BK165 hb;replace HB:=ca_h HB hb;(try clear hb);(try clear hb2);(try clear hk);(try clear hi);obtain ⟨hcz39_0,hcz39_1,hcz39_2,hcz39_3,hfz39_0,hfz39_1,hfz39_2,hfz39_3⟩:=bk4 BK163;have hnb40:=NB165_164.out;have hnc40:=NB164_165.out;obtain ⟨hcz41_0,hcz41_1,hcz41_2,hcz41_3,hfz41_0,hfz41_1,hfz41_2,hfz41_3⟩:=bk4 BK165))
  refine bodyPost_ret (results_cell_row rfl _ _ gb165 24 #[.int .i64 a0_0,.int .i64 a0_1,.string a0_2,.slice A0_3 l0_3.length c0_3] (0,0) _ rfl (pu4 BK165) Tryd.underlying24 rfl (by kernel_rfl)) rfl ?_
  exact ⟨_,by first|rfl|(simp [errW_none,errW_some] <;> rfl)|(simp [*,errW_none,errW_some] <;> rfl),by (with_reducible repeat (first|apply Kd.V_alloc|apply Kd.V_drewN|apply Kd.V_drew));exact Kd.V_mono (fa4_v HO0_3 (fun _ hk => hk.2)) (fun _ hk => hk.1.1.1.1),by repeat (first|(with_reducible first|exact HB.out|apply below_alloc|apply pw_below_drewN|apply below_drew1|refine below_set ?_ GE163.out|refine below_set ?_ GE164.out|refine below_set ?_ GE165.out)|exact HB.out)⟩

def fns_right.f (k:Nat) (a0_0:Int) (a0_1:Int) (a0_2:ByteArray) (l0_3:List (S24)) (a1_0:Int) (a1_1:Int) (a1_2:ByteArray) (l1_3:List (S24)):Option (Int × Int × ByteArray × (List (S24))):=(value_Check.f k a0_0 a0_1 a0_2 l0_3).bind fun t171 => (if t171=0 then (some (a0_0,a0_1,a0_2,l0_3)) else (some (a1_0,a1_1,a1_2,l1_3)))
theorem fns_right.mono:∀ a0 a1 a2 a3 a4 a5 a6 a7 k,LeO (fns_right.f k a0 a1 a2 a3 a4 a5 a6 a7) (fns_right.f (k+1) a0 a1 a2 a3 a4 a5 a6 a7):=by
 intro a0 a1 a2 a3 a4 a5 a6 a7 k
 unfold fns_right.f
 repeat' first
   | (with_reducible exact value_Check.mono _ _ _ _ _)
   | (with_reducible exact LeO.refl _)
   | (with_reducible exact LeO.none _)
   | (with_reducible refine LeO.ite ?_ ?_)
   | (with_reducible refine LeO.bind ?_ (fun _ => ?_))
   | exact value_Check.mono _ _ _ _ _
   | exact LeO.none _
   | refine LeO.ite ?_ ?_
   | refine LeO.bind ?_ (fun _ => ?_)
set_option maxHeartbeats 8000000 in
set_option maxRecDepth 100000 in
theorem fns_right.calls (k:Nat) (a0_0:Int) (a0_1:Int) (a0_2:ByteArray) (P0_3_:Nat→Prop) (A0_3:Option Addr) (c0_3:Nat) (l0_3:List (S24)) (a1_0:Int) (a1_1:Int) (a1_2:ByteArray) (P1_3_:Nat→Prop) (A1_3:Option Addr) (c1_3:Nat) (l1_3:List (S24)) (r1:Int) (r2:Int) (r3:ByteArray) (r4:List (S24)) (w:World) (hL:LaidW w) (hs0_3:Kd.V k24 24 w w.heap.size (fun k_ => P0_3_ k_) (.slice A0_3 l0_3.length c0_3) l0_3) (hs1_3:Kd.V k24 24 w w.heap.size (fun k_ => P1_3_ k_) (.slice A1_3 l1_3.length c1_3) l1_3) (h:fns_right.f k a0_0 a0_1 a0_2 l0_3 a1_0 a1_1 a1_2 l1_3=some (r1,r2,r3,r4)) :
  Calls Tryd.prog 58 #[.agg #[.int .i64 a0_0,.int .i64 a0_1,.string a0_2,.slice A0_3 l0_3.length c0_3],.agg #[.int .i64 a1_0,.int .i64 a1_1,.string a1_2,.slice A1_3 l1_3.length c1_3]] w fun e w' => ∃ v3_:Value,e=.returned (.agg #[.int .i64 r1,.int .i64 r2,.string r3,v3_])∧Kd.V k24 24 w' w.heap.size (fun k_ => ((P0_3_ k_ ∨ P1_3_ k_) ∨ w.heap.size≤k_)) v3_ r4∧Below w.heap.size w w':=by
 have hu24:=Tryd.underlying24
 have HO0_3:=Aside0.mk (show Kd.V k24 24 w w.heap.size (fun k_ => ((P0_3_ k_ ∨ P1_3_ k_) ∨ w.heap.size≤k_)) (.slice A0_3 l0_3.length c0_3) l0_3 from Kd.V_mono hs0_3 (fun k_ hk => .inl (.inl hk)))
 have HO1_3:=Aside0.mk (show Kd.V k24 24 w w.heap.size (fun k_ => ((P0_3_ k_ ∨ P1_3_ k_) ∨ w.heap.size≤k_)) (.slice A1_3 l1_3.length c1_3) l1_3 from Kd.V_mono hs1_3 (fun k_ hk => .inl (.inr hk)))
 have HLT:=Aside0.mk hL
 clear hL
 have HB:=Aside0.mk (Below.refl w.heap.size w)
 have H:((value_Check.f k a0_0 a0_1 a0_2 l0_3).bind fun t171 => (if t171=0 then (some (a0_0,a0_1,a0_2,l0_3)) else (some (a1_0,a1_1,a1_2,l1_3))))=some (r1,r2,r3,r4):=h
 clear h
 replace H:=Option.bind_eq_some_iff.mp H
 obtain ⟨t171,A30,H⟩:=H
 replace H:(if t171=0 then (some (a0_0,a0_1,a0_2,l0_3)) else (some (a1_0,a1_1,a1_2,l1_3)))=some (r1,r2,r3,r4):=H
 have A3:=Aside0.mk A30
 clear A30
 by_cases c4:t171=0
 ·rw [if_pos c4] at H
  have c4b0:(t171 == 0)=true:=beq_iff_eq.mpr c4
  have c4b1:(t171 != 0)=false:=bne_eq_false_iff_eq.mpr c4
  clear c4
  simp only [Option.some.injEq,Prod.mk.injEq] at H
  obtain ⟨rfl,rfl,rfl,rfl⟩:=H
  go_enter Tryd.func58,Tryd.ntmps58
  go_wp2_with (first|((with_reducible refine gate_dst (N:=2) rfl ?_);refine box_event ?hg (N:=2) ?hd (cs:=#[.int .i64 a0_0,.int .i64 a0_1,.string a0_2,.slice A0_3 l0_3.length c0_3]) (t:=24) ?hr ?_;(case hd => rfl);(case hg => rfl);(case hr => first|(go_simp;done)|(go_simp;rfl));intro gb168 hg w5 hbox hb;have BK168:=Aside0.mk (hbox);have GW168:=bx_g (up_h HB) hg;have GE168:=bx_g (up_h HB) hg;replace HO0_3:=bx_v HO0_3 hg hb;replace HO1_3:=bx_v HO1_3 hg hb;replace HB:=ca_h HB hb;clear hb hbox hg)|((with_reducible refine gate_dst (N:=3) rfl ?_);refine box_event ?hg (N:=3) ?hd (cs:=#[.int .i64 a1_0,.int .i64 a1_1,.string a1_2,.slice A1_3 l1_3.length c1_3]) (t:=24) ?hr ?_;(case hd => rfl);(case hg => rfl);(case hr => first|(go_simp;done)|(go_simp;rfl));intro gb169 hg w6 hbox hb;have BK169:=Aside0.mk (hbox);have GW169:=bx_g (up_h HB) hg;have GE169:=bx_g (up_h HB) hg;have NB168_169:=bx_n (up_b BK168) hg;have NB169_168:=bx_m (up_b BK168) hg;replace HO0_3:=bx_v HO0_3 hg hb;replace HO1_3:=bx_v HO1_3 hg hb;replace BK168:=ca_b BK168 hb;replace HB:=ca_h HB hb;clear hb hbox hg)|((with_reducible refine gate_dst (N:=4) rfl ?_);refine box_event ?hg (N:=4) ?hd (cs:=#[.int .i64 0,.int .i64 0,.string (⟨#[]⟩:ByteArray),.slice none 0 0]) (t:=24) ?hr ?_;(case hd => rfl);(case hg => rfl);(case hr => first|(go_simp;done)|(go_simp;rfl));intro gb170 hg w7 hbox hb;have BK170:=Aside0.mk (hbox);have GW170:=bx_g (up_h HB) hg;have GE170:=bx_g (up_h HB) hg;have NB168_170:=bx_n (up_b BK168) hg;have NB170_168:=bx_m (up_b BK168) hg;have NB169_170:=bx_n (up_b BK169) hg;have NB170_169:=bx_m (up_b BK169) hg;replace HO0_3:=bx_v HO0_3 hg hb;replace HO1_3:=bx_v HO1_3 hg hb;replace BK168:=ca_b BK168 hb;replace BK169:=ca_b BK169 hb;replace HB:=ca_h HB hb;clear hb hbox hg;have hnb8:=NB168_169.out;have hnc8:=NB169_168.out;have hnb9:=NB168_170.out;have hnc9:=NB170_168.out;obtain ⟨hcz10_0,hcz10_1,hcz10_2,hcz10_3,hfz10_0,hfz10_1,hfz10_2,hfz10_3⟩:=bk4 BK168)|((with_reducible refine gate_callee (f:=15) rfl ?_);refine goesL_ (some 6) rfl rfl Tryd.func15 (by kernel_rfl) rfl #[.agg #[.int .i64 a0_0,.int .i64 a0_1,.string a0_2,.slice A0_3 l0_3.length c0_3]] rfl (by (try simp only [List.map_toArray,List.map_cons,List.map_nil]);first|done|rfl|(simp only [List.length_drop,List.length_take];rfl)|(simp only [gt_iff_lt,Int.ofNat_lt];rfl)) ?_;(with_reducible refine (value_Check.calls k a0_0 a0_1 a0_2 _ _ l0_3 t171 _ ?side1 ?side2 ?side3 A3.out).mono ?_);(case side1 => exact LaidW.below HLT.out (up_h HB));(case side2 => repeat (first|exact (Kd.V_reads' HO0_3.out).2.2|(with_reducible refine Kd.C_alloc ?_ _)|(with_reducible refine Kd.C_drewN ?_ _)|(with_reducible refine Kd.C_drew ?_)));(case side3 => exact (Kd.V_reads' HO0_3.out).2.1);rintro e w11 ⟨rfl,hb⟩;refine ⟨_,rfl,?_⟩;replace HO0_3:=ca_v HO0_3 hb;replace HO1_3:=ca_v HO1_3 hb;replace BK168:=ca_b BK168 hb;replace BK169:=ca_b BK169 hb;replace BK170:=ca_b BK170 hb;replace HB:=ca_h HB hb;(try clear hb);(try clear hb2);(try clear hk);(try clear hi);obtain ⟨hcz12_0,hcz12_1,hcz12_2,hcz12_3,hfz12_0,hfz12_1,hfz12_2,hfz12_3⟩:=bk4 BK168;have hnb13:=NB170_169.out;have hnc13:=NB169_170.out;obtain ⟨hcz14_0,hcz14_1,hcz14_2,hcz14_3,hfz14_0,hfz14_1,hfz14_2,hfz14_3⟩:=bk4 BK170))
  refine bodyPost_ret (results_cell_row rfl _ _ gb170 24 #[.int .i64 a0_0,.int .i64 a0_1,.string a0_2,.slice A0_3 l0_3.length c0_3] (0,0) _ rfl (pu4 BK170) Tryd.underlying24 rfl (by kernel_rfl)) rfl ?_
  exact ⟨_,by first|rfl|(simp [errW_none,errW_some] <;> rfl)|(simp [*,errW_none,errW_some] <;> rfl),by (with_reducible repeat (first|apply Kd.V_alloc|apply Kd.V_drewN|apply Kd.V_drew));exact Kd.V_mono (fa4_v HO0_3 (fun _ hk => hk.2)) (fun _ hk => hk.1.1.1.1),by repeat (first|(with_reducible first|exact HB.out|apply below_alloc|apply pw_below_drewN|apply below_drew1|refine below_set ?_ GE168.out|refine below_set ?_ GE169.out|refine below_set ?_ GE170.out)|exact HB.out)⟩
 ·rw [if_neg c4] at H
  have c4b0:(t171 == 0)=false:=beq_eq_false_iff_ne.mpr c4
  have c4b1:(t171 != 0)=true:=bne_iff_ne.mpr c4
  simp only [Option.some.injEq,Prod.mk.injEq] at H
  obtain ⟨rfl,rfl,rfl,rfl⟩:=H
  go_enter Tryd.func58,Tryd.ntmps58
  go_wp2_with (first|((with_reducible refine gate_dst (N:=2) rfl ?_);refine box_event ?hg (N:=2) ?hd (cs:=#[.int .i64 a0_0,.int .i64 a0_1,.string a0_2,.slice A0_3 l0_3.length c0_3]) (t:=24) ?hr ?_;(case hd => rfl);(case hg => rfl);(case hr => first|(go_simp;done)|(go_simp;rfl));intro gb168 hg w15 hbox hb;have BK168:=Aside0.mk (hbox);have GW168:=bx_g (up_h HB) hg;have GE168:=bx_g (up_h HB) hg;replace HO0_3:=bx_v HO0_3 hg hb;replace HO1_3:=bx_v HO1_3 hg hb;replace HB:=ca_h HB hb;clear hb hbox hg)|((with_reducible refine gate_dst (N:=3) rfl ?_);refine box_event ?hg (N:=3) ?hd (cs:=#[.int .i64 a1_0,.int .i64 a1_1,.string a1_2,.slice A1_3 l1_3.length c1_3]) (t:=24) ?hr ?_;(case hd => rfl);(case hg => rfl);(case hr => first|(go_simp;done)|(go_simp;rfl));intro gb169 hg w16 hbox hb;have BK169:=Aside0.mk (hbox);have GW169:=bx_g (up_h HB) hg;have GE169:=bx_g (up_h HB) hg;have NB168_169:=bx_n (up_b BK168) hg;have NB169_168:=bx_m (up_b BK168) hg;replace HO0_3:=bx_v HO0_3 hg hb;replace HO1_3:=bx_v HO1_3 hg hb;replace BK168:=ca_b BK168 hb;replace HB:=ca_h HB hb;clear hb hbox hg)|((with_reducible refine gate_dst (N:=4) rfl ?_);refine box_event ?hg (N:=4) ?hd (cs:=#[.int .i64 0,.int .i64 0,.string (⟨#[]⟩:ByteArray),.slice none 0 0]) (t:=24) ?hr ?_;(case hd => rfl);(case hg => rfl);(case hr => first|(go_simp;done)|(go_simp;rfl));intro gb170 hg w17 hbox hb;have BK170:=Aside0.mk (hbox);have GW170:=bx_g (up_h HB) hg;have GE170:=bx_g (up_h HB) hg;have NB168_170:=bx_n (up_b BK168) hg;have NB170_168:=bx_m (up_b BK168) hg;have NB169_170:=bx_n (up_b BK169) hg;have NB170_169:=bx_m (up_b BK169) hg;replace HO0_3:=bx_v HO0_3 hg hb;replace HO1_3:=bx_v HO1_3 hg hb;replace BK168:=ca_b BK168 hb;replace BK169:=ca_b BK169 hb;replace HB:=ca_h HB hb;clear hb hbox hg;have hnb18:=NB168_169.out;have hnc18:=NB169_168.out;have hnb19:=NB168_170.out;have hnc19:=NB170_168.out;obtain ⟨hcz20_0,hcz20_1,hcz20_2,hcz20_3,hfz20_0,hfz20_1,hfz20_2,hfz20_3⟩:=bk4 BK168)|((with_reducible refine gate_callee (f:=15) rfl ?_);refine goesL_ (some 6) rfl rfl Tryd.func15 (by kernel_rfl) rfl #[.agg #[.int .i64 a0_0,.int .i64 a0_1,.string a0_2,.slice A0_3 l0_3.length c0_3]] rfl (by (try simp only [List.map_toArray,List.map_cons,List.map_nil]);first|done|rfl|(simp only [List.length_drop,List.length_take];rfl)|(simp only [gt_iff_lt,Int.ofNat_lt];rfl)) ?_;(with_reducible refine (value_Check.calls k a0_0 a0_1 a0_2 _ _ l0_3 t171 _ ?side1 ?side2 ?side3 A3.out).mono ?_);(case side1 => exact LaidW.below HLT.out (up_h HB));(case side2 => repeat (first|exact (Kd.V_reads' HO0_3.out).2.2|(with_reducible refine Kd.C_alloc ?_ _)|(with_reducible refine Kd.C_drewN ?_ _)|(with_reducible refine Kd.C_drew ?_)));(case side3 => exact (Kd.V_reads' HO0_3.out).2.1);rintro e w21 ⟨rfl,hb⟩;refine ⟨_,rfl,?_⟩;replace HO0_3:=ca_v HO0_3 hb;replace HO1_3:=ca_v HO1_3 hb;replace BK168:=ca_b BK168 hb;replace BK169:=ca_b BK169 hb;replace BK170:=ca_b BK170 hb;replace HB:=ca_h HB hb;(try clear hb);(try clear hb2);(try clear hk);(try clear hi);have hnb22:=NB169_170.out;have hnc22:=NB170_169.out;obtain ⟨hcz23_0,hcz23_1,hcz23_2,hcz23_3,hfz23_0,hfz23_1,hfz23_2,hfz23_3⟩:=bk4 BK169;obtain ⟨hcz24_0,hcz24_1,hcz24_2,hcz24_3,hfz24_0,hfz24_1,hfz24_2,hfz24_3⟩:=bk4 BK170))
  refine bodyPost_ret (results_cell_row rfl _ _ gb170 24 #[.int .i64 a1_0,.int .i64 a1_1,.string a1_2,.slice A1_3 l1_3.length c1_3] (0,0) _ rfl (pu4 BK170) Tryd.underlying24 rfl (by kernel_rfl)) rfl ?_
  exact ⟨_,by first|rfl|(simp [errW_none,errW_some] <;> rfl)|(simp [*,errW_none,errW_some] <;> rfl),by (with_reducible repeat (first|apply Kd.V_alloc|apply Kd.V_drewN|apply Kd.V_drew));exact Kd.V_mono (fa4_v HO1_3 (fun _ hk => hk.2)) (fun _ hk => hk.1.1.1.1),by repeat (first|(with_reducible first|exact HB.out|apply below_alloc|apply pw_below_drewN|apply below_drew1|refine below_set ?_ GE168.out|refine below_set ?_ GE169.out|refine below_set ?_ GE170.out)|exact HB.out)⟩

end Go.Proofs.YtgmmoagclkmeaaaDoor.XH
