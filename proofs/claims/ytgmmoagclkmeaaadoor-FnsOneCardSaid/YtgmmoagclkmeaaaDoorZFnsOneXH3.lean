-- cut down by bundle.py (the session's own program) from the texts YtgmmoagclkmeaaaDoorXH3, to what this claim names
import Derived.Test.YtgmmoagclkmeaaaDoorZFnsOneXH0
import Derived.Test.YtgmmoagclkmeaaaDoorZFnsOneXH2
-- laid by xprint.py (the session's own program) out of the translation; Lean checks it
namespace Go.Proofs.YtgmmoagclkmeaaaDoor.XH
open Go.RowKit Go.Proofs.YtgmmoagclkmeaaaDoorW.PrintWords Go.Proofs.YtgmmoagclkmeaaaDoorW.PrintLast Go.Proofs.YtgmmoagclkmeaaaDoorW.PrintMore
attribute [local go_sem] max2_int min2_int max_two min_two max_three min_three max_four min_four   -- for this text's walks alone
set_option linter.unusedVariables false
set_option linter.unusedSimpArgs false

mutual
def value_form.j0:Nat→Int→Int→Int→ByteArray→List (S24)→Option (Bool)
 | 0,_,_,_,_,_ => none
 | k+1,x3,x108000,x108001,x108002,x108003 => value_form.l0 k x3 x3 x108000 x108001 x108002 x108003
def value_form.l0:Nat→Int→Int→Int→Int→ByteArray→List (S24)→Option (Bool)
 | 0,_,_,_,_,_,_ => none
 | k+1,x3,x4,x108000,x108001,x108002,x108003 => if x4 < (x108003.length:Int) then (if 0≤(wrap64 (x4 - x3)) then (if (wrap64 (x4 - x3)) < (x108003.length:Int) then (if 0≤x4 then ((value_Compare.f ((rd_T24 x108003 (wrap64 (x4 - x3))).f0) ((rd_T24 x108003 (wrap64 (x4 - x3))).f1) ((rd_T24 x108003 (wrap64 (x4 - x3))).f2) ((rd_T24 x108003 (wrap64 (x4 - x3))).f3) ((rd_T24 x108003 x4).f0) ((rd_T24 x108003 x4).f1) ((rd_T24 x108003 x4).f2) ((rd_T24 x108003 x4).f3)).bind fun t110 => (if t110 ≥ 0 then (some false) else (value_form.l0 k x3 (wrap64 (x4+x3)) x108000 x108001 x108002 x108003))) else (none)) else (none)) else (none)) else (some true)
end
def value_form.f (k:Nat) (a0_0:Int) (a0_1:Int) (a0_2:ByteArray) (l0_3:List (S24)):Option (Bool):=if a0_0=4 then (some true) else (if a0_0=6 then (if ((l0_3.length:Int) % 2)=1 then (some false) else (value_form.j0 k 2 a0_0 a0_1 a0_2 l0_3)) else (if a0_0=5 then (value_form.j0 k 1 a0_0 a0_1 a0_2 l0_3) else (some ((l0_3.length:Int) == 0))))
theorem value_form.mono_l:∀ k,(∀ y0 y1 y2 y3 y4,LeO (value_form.j0 k y0 y1 y2 y3 y4) (value_form.j0 (k+1) y0 y1 y2 y3 y4))∧(∀ y0 y1 y2 y3 y4 y5,LeO (value_form.l0 k y0 y1 y2 y3 y4 y5) (value_form.l0 (k+1) y0 y1 y2 y3 y4 y5))
 | 0 => ⟨fun _ _ _ _ _ r h => by simp [value_form.j0] at h,fun _ _ _ _ _ _ r h => by simp [value_form.l0] at h⟩
 | k+1 => by
  obtain ⟨ih0,ih1⟩:=value_form.mono_l k
  refine ⟨?_,?_⟩
  ·intro y0 y1 y2 y3 y4
   unfold value_form.j0
   repeat' first
   | (with_reducible exact ih0 _ _ _ _ _)
   | (with_reducible exact ih1 _ _ _ _ _ _)
   | (with_reducible exact LeO.refl _)
   | (with_reducible exact LeO.none _)
   | (with_reducible refine LeO.ite ?_ ?_)
   | (with_reducible refine LeO.bind ?_ (fun _ => ?_))
   | exact ih0 _ _ _ _ _
   | exact ih1 _ _ _ _ _ _
   | exact LeO.none _
   | refine LeO.ite ?_ ?_
   | refine LeO.bind ?_ (fun _ => ?_)
  ·intro y0 y1 y2 y3 y4 y5
   unfold value_form.l0
   repeat' first
   | (with_reducible exact ih0 _ _ _ _ _)
   | (with_reducible exact ih1 _ _ _ _ _ _)
   | (with_reducible exact LeO.refl _)
   | (with_reducible exact LeO.none _)
   | (with_reducible refine LeO.ite ?_ ?_)
   | (with_reducible refine LeO.bind ?_ (fun _ => ?_))
   | exact ih0 _ _ _ _ _
   | exact ih1 _ _ _ _ _ _
   | exact LeO.none _
   | refine LeO.ite ?_ ?_
   | refine LeO.bind ?_ (fun _ => ?_)
theorem value_form.mono:∀ a0 a1 a2 a3 k,LeO (value_form.f k a0 a1 a2 a3) (value_form.f (k+1) a0 a1 a2 a3):=by
 intro a0 a1 a2 a3 k
 obtain ⟨ih0,ih1⟩:=value_form.mono_l k
 unfold value_form.f
 repeat' first
   | (with_reducible exact ih0 _ _ _ _ _)
   | (with_reducible exact ih1 _ _ _ _ _ _)
   | (with_reducible exact LeO.refl _)
   | (with_reducible exact LeO.none _)
   | (with_reducible refine LeO.ite ?_ ?_)
   | (with_reducible refine LeO.bind ?_ (fun _ => ?_))
   | exact ih0 _ _ _ _ _
   | exact ih1 _ _ _ _ _ _
   | exact LeO.none _
   | refine LeO.ite ?_ ?_
   | refine LeO.bind ?_ (fun _ => ?_)
def value_form.T14:Bool × List (List Nat × List Nat):=(true,[([],[]),([0],[0]),([],[]),([],[]),([2,3],[2,3]),([1,4],[1,4]),([5],[5]),([],[]),([7],[7]),([],[]),([8,9],[8,9]),([10],[10]),([6,11],[6,11]),([12],[12])])
def value_form.B14:List Nat:=[0,1,0,0,12,31,63,0,128,0,896,1920,4095,8191]
theorem value_form.tab14:rtab .any (opsOf Tryd.f72 14)=value_form.T14:=by kernel_rfl
theorem value_form.bits14:waitsOk value_form.T14.2 value_form.B14=true:=by kernel_rfl
set_option maxHeartbeats 8000000 in
set_option maxRecDepth 100000 in
theorem value_form.calls (k:Nat) (a0_0:Int) (a0_1:Int) (a0_2:ByteArray) (A0_3:Option Addr) (c0_3:Nat) (l0_3:List (S24)) (r:Bool) (w:World) (hr0_3:Kd.C k24 w A0_3 l0_3.length l0_3) (hc0_3:l0_3.length≤c0_3) (h:value_form.f k a0_0 a0_1 a0_2 l0_3=some r) :
  Calls Tryd.prog 72 #[.agg #[.int .i64 a0_0,.int .i64 a0_1,.string a0_2,.slice A0_3 l0_3.length c0_3]] w fun e w' => e=.returned (.bool r)∧Below w.heap.size w w':=by
 have hu24:=Tryd.underlying24
 have HR0_3:=Aside0.mk hr0_3
 have HC0_3:=Aside0.mk hc0_3
 clear hr0_3 hc0_3
 have HB:=Aside0.mk (Below.refl w.heap.size w)
 have H:(if a0_0=4 then (some true) else (if a0_0=6 then (if ((l0_3.length:Int) % 2)=1 then (some false) else (value_form.j0 k 2 a0_0 a0_1 a0_2 l0_3)) else (if a0_0=5 then (value_form.j0 k 1 a0_0 a0_1 a0_2 l0_3) else (some ((l0_3.length:Int) == 0)))))=some r:=h
 clear h
 have HC2:=Aside0.mk H
 clear H
 go_enter Tryd.func72,Tryd.ntmps72
 go_upto_block 0 with (first|((with_reducible refine gate_dst (N:=1) rfl ?_);refine box_event ?hg (N:=1) ?hd (cs:=#[.int .i64 a0_0,.int .i64 a0_1,.string a0_2,.slice A0_3 l0_3.length c0_3]) (t:=24) ?hr ?_;(case hd => rfl);(case hg => rfl);(case hr => first|(go_simp;done)|(go_simp;rfl));intro gb107 hg w3 hbox hb;have BK107:=Aside0.mk (hbox);have GW107:=Aside0.mk ((by rw [hg];exact (below_size (by repeat (first|(with_reducible first|exact HB.out|apply below_alloc|apply pw_below_drewN|apply below_drew1)|exact HB.out))):w.heap.size≤gb107));have GE107:=Aside0.mk ((by rw [hg];exact (below_size (by repeat (first|(with_reducible first|exact HB.out|apply below_alloc|apply pw_below_drewN|apply below_drew1)|exact HB.out))):w.heap.size≤gb107));replace HB:=Aside0.mk (below_step (by repeat (first|(with_reducible first|exact HB.out|apply below_alloc|apply pw_below_drewN|apply below_drew1)|exact HB.out)) hb);clear hb hbox hg;obtain ⟨hcz4_0,hcz4_1,hcz4_2,hcz4_3,hfz4_0,hfz4_1,hfz4_2,hfz4_3⟩:=bk4 BK107))
 (try simp only [Act.put,List.setIfInBounds_toArray,List.set_cons_zero,List.set_cons_succ])
 go_cut [3] (fun v3 wc => ∃ (kq:Nat) (x3_1:Int),v3=.int .i64 x3_1∧Aside0 (value_form.j0 kq x3_1 a0_0 a0_1 a0_2 l0_3=some r)∧Aside0 (kq≤k)∧Aside0 (wc.heap[gb107]? = some (.cells #[.int .i64 a0_0,.int .i64 a0_1,.string a0_2,(.slice A0_3 l0_3.length c0_3)] 24 (0,0)))∧Aside0 (Below w.heap.size w wc))
 case first =>
  have H:=HC2.out
  clear HC2
  by_cases c5:a0_0=4
  ·rw [if_pos c5] at H
   have c5b0:(a0_0 == 4)=true:=beq_iff_eq.mpr c5
   have c5b1:(a0_0 != 4)=false:=bne_eq_false_iff_eq.mpr c5
   clear c5
   (first|rw [c5b0]|(simp only [i64_w,i32_w];rw [c5b0])|skip)
   obtain rfl:=Option.some.inj H
   go_wp2
   go_ret
   exact ⟨by first|rfl|(simp [errW_none,errW_some] <;> rfl)|(simp [*,errW_none,errW_some] <;> rfl),by repeat (first|(with_reducible first|exact HB.out|apply below_alloc|apply pw_below_drewN|apply below_drew1|refine below_set ?_ GE107.out)|exact HB.out)⟩
  ·rw [if_neg c5] at H
   have c5b0:(a0_0 == 4)=false:=beq_eq_false_iff_ne.mpr c5
   have c5b1:(a0_0 != 4)=true:=bne_iff_ne.mpr c5
   (first|rw [c5b0]|(simp only [i64_w,i32_w];rw [c5b0])|skip)
   by_cases c6:a0_0=6
   ·rw [if_pos c6] at H
    have c6b0:(a0_0 == 6)=true:=beq_iff_eq.mpr c6
    have c6b1:(a0_0 != 6)=false:=bne_eq_false_iff_eq.mpr c6
    clear c6
    by_cases c7:((l0_3.length:Int) % 2)=1
    ·rw [if_pos c7] at H
     have c7b0:(((l0_3.length:Int) % 2) == 1)=true:=beq_iff_eq.mpr c7
     have c7b1:(((l0_3.length:Int) % 2) != 1)=false:=bne_eq_false_iff_eq.mpr c7
     clear c7
     obtain rfl:=Option.some.inj H
     obtain ⟨hcz8_0,hcz8_1,hcz8_2,hcz8_3,hfz8_0,hfz8_1,hfz8_2,hfz8_3⟩:=bk4 BK107
     go_wp2
     go_ret
     exact ⟨by first|rfl|(simp [errW_none,errW_some] <;> rfl)|(simp [*,errW_none,errW_some] <;> rfl),by repeat (first|(with_reducible first|exact HB.out|apply below_alloc|apply pw_below_drewN|apply below_drew1|refine below_set ?_ GE107.out)|exact HB.out)⟩
    ·rw [if_neg c7] at H
     have c7b0:(((l0_3.length:Int) % 2) == 1)=false:=beq_eq_false_iff_ne.mpr c7
     have c7b1:(((l0_3.length:Int) % 2) != 1)=true:=bne_iff_ne.mpr c7
     have H':=Aside0.mk H
     clear H
     obtain ⟨hcz9_0,hcz9_1,hcz9_2,hcz9_3,hfz9_0,hfz9_1,hfz9_2,hfz9_3⟩:=bk4 BK107
     go_wp2
     go_meet
     case rel => exact ⟨_,(2),(by first|rfl|(simp;done)|(simp [*];done)),H',⟨by first|omega|exact Nat.le_refl _⟩,⟨by (with_reducible repeat (first|refine blk_drewN ?_ _|refine blk_drew ?_|refine blk_alloc ?_ _));exact BK107.out⟩,⟨by repeat (first|(with_reducible first|exact HB.out|apply below_alloc|apply pw_below_drewN|apply below_drew1|refine below_set ?_ GE107.out)|exact HB.out)⟩⟩
   ·rw [if_neg c6] at H
    have c6b0:(a0_0 == 6)=false:=beq_eq_false_iff_ne.mpr c6
    have c6b1:(a0_0 != 6)=true:=bne_iff_ne.mpr c6
    by_cases c10:a0_0=5
    ·rw [if_pos c10] at H
     have c10b0:(a0_0 == 5)=true:=beq_iff_eq.mpr c10
     have c10b1:(a0_0 != 5)=false:=bne_eq_false_iff_eq.mpr c10
     clear c10
     have H':=Aside0.mk H
     clear H
     go_wp2
     go_meet
     case rel => exact ⟨_,(1),(by first|rfl|(simp;done)|(simp [*];done)),H',⟨by first|omega|exact Nat.le_refl _⟩,⟨by (with_reducible repeat (first|refine blk_drewN ?_ _|refine blk_drew ?_|refine blk_alloc ?_ _));exact BK107.out⟩,⟨by repeat (first|(with_reducible first|exact HB.out|apply below_alloc|apply pw_below_drewN|apply below_drew1|refine below_set ?_ GE107.out)|exact HB.out)⟩⟩
    ·rw [if_neg c10] at H
     have c10b0:(a0_0 == 5)=false:=beq_eq_false_iff_ne.mpr c10
     have c10b1:(a0_0 != 5)=true:=bne_iff_ne.mpr c10
     obtain rfl:=Option.some.inj H
     obtain ⟨hcz11_0,hcz11_1,hcz11_2,hcz11_3,hfz11_0,hfz11_1,hfz11_2,hfz11_3⟩:=bk4 BK107
     go_wp2
     go_ret
     exact ⟨by first|rfl|(simp [errW_none,errW_some] <;> rfl)|(simp [*,errW_none,errW_some] <;> rfl),by repeat (first|(with_reducible first|exact HB.out|apply below_alloc|apply pw_below_drewN|apply below_drew1|refine below_set ?_ GE107.out)|exact HB.out)⟩
 case rest =>
  clear HC2
  try clear c1
  try clear p2
  try clear c5
  try clear c5b0
  try clear c5b1
  try clear c6
  try clear c6b0
  try clear c6b1
  try clear c7
  try clear c7b0
  try clear c7b1
  try clear c10
  try clear c10b0
  try clear c10b1
  try clear hcz11_0
  try clear hcz11_1
  try clear hcz11_2
  try clear hcz11_3
  try clear hcz4_0
  try clear hcz4_1
  try clear hcz4_2
  try clear hcz4_3
  try clear hcz8_0
  try clear hcz8_1
  try clear hcz8_2
  try clear hcz8_3
  try clear hcz9_0
  try clear hcz9_1
  try clear hcz9_2
  try clear hcz9_3
  try clear hfz11_0
  try clear hfz11_1
  try clear hfz11_2
  try clear hfz11_3
  try clear hfz4_0
  try clear hfz4_1
  try clear hfz4_2
  try clear hfz4_3
  try clear hfz8_0
  try clear hfz8_1
  try clear hfz8_2
  try clear hfz8_3
  try clear hfz9_0
  try clear hfz9_1
  try clear hfz9_2
  try clear hfz9_3
  obtain ⟨kq,x3_1,rfl,HA,HJ1,BK107,HB⟩:=hcut
  cases kq with
  | zero => exact absurd HA.out (by simp [value_form.j0])
  | succ kj1 =>
   have H:=HA.out
   clear HA
   simp only [value_form.j0] at H
   have H':=Aside0.mk H
   clear H
   go_wp2
   go_loopg [4] kj1 (fun kq v4 w' => ∃ (x4_2:Int),v4=.int .i64 x4_2∧Aside0 (value_form.l0 kq x3_1 x4_2 a0_0 a0_1 a0_2 l0_3=some r)∧Aside0 (kq≤kj1)∧Aside0 (w'.heap[gb107]? = some (.cells #[.int .i64 a0_0,.int .i64 a0_1,.string a0_2,(.slice A0_3 l0_3.length c0_3)] 24 (0,0)))∧Aside0 (Below w.heap.size w w'))
   case atStart => exact ⟨(x3_1),(by first|rfl|(simp;done)|(simp [*];done)),H',⟨Nat.le_refl _⟩,⟨by (with_reducible repeat (first|refine blk_drewN ?_ _|refine blk_drew ?_|refine blk_alloc ?_ _));exact BK107.out⟩,⟨by repeat (first|(with_reducible first|exact HB.out|apply below_alloc|apply pw_below_drewN|apply below_drew1|refine below_set ?_ GE107.out)|exact HB.out)⟩⟩
   case round =>
    clear H'
    try clear c1
    try clear p2
    try clear c5
    try clear c5b0
    try clear c5b1
    try clear c6
    try clear c6b0
    try clear c6b1
    try clear c7
    try clear c7b0
    try clear c7b1
    try clear c10
    try clear c10b0
    try clear c10b1
    try clear hcz11_0
    try clear hcz11_1
    try clear hcz11_2
    try clear hcz11_3
    try clear hcz4_0
    try clear hcz4_1
    try clear hcz4_2
    try clear hcz4_3
    try clear hcz8_0
    try clear hcz8_1
    try clear hcz8_2
    try clear hcz8_3
    try clear hcz9_0
    try clear hcz9_1
    try clear hcz9_2
    try clear hcz9_3
    try clear hfz11_0
    try clear hfz11_1
    try clear hfz11_2
    try clear hfz11_3
    try clear hfz4_0
    try clear hfz4_1
    try clear hfz4_2
    try clear hfz4_3
    try clear hfz8_0
    try clear hfz8_1
    try clear hfz8_2
    try clear hfz8_3
    try clear hfz9_0
    try clear hfz9_1
    try clear hfz9_2
    try clear hfz9_3
    try clear p2
    obtain ⟨x4_2,rfl,HA,HK2,BK107,HB⟩:=hrel
    cases gk with
    | zero => exact absurd HA.out (by simp [value_form.l0])
    | succ k2 =>
     have H:=HA.out
     clear HA
     simp only [value_form.l0] at H
     by_cases c12:x4_2 < (l0_3.length:Int)
     ·rw [if_pos c12] at H
      have c12b0:decide (x4_2 < (l0_3.length:Int))=true:=decide_eq_true c12
      clear c12
      obtain ⟨ji13,hji13⟩:∃ j_:Int,(wrap64 (x4_2 - x3_1))=j_:=⟨_,rfl⟩
      replace H:(if 0≤(ji13) then (if (ji13) < (l0_3.length:Int) then (if 0≤x4_2 then ((value_Compare.f ((rd_T24 l0_3 (ji13)).f0) ((rd_T24 l0_3 (ji13)).f1) ((rd_T24 l0_3 (ji13)).f2) ((rd_T24 l0_3 (ji13)).f3) ((rd_T24 l0_3 x4_2).f0) ((rd_T24 l0_3 x4_2).f1) ((rd_T24 l0_3 x4_2).f2) ((rd_T24 l0_3 x4_2).f3)).bind fun t110 => (if t110 ≥ 0 then (some false) else (value_form.l0 k2 x3_1 (wrap64 (x4_2+x3_1)) a0_0 a0_1 a0_2 l0_3))) else (none)) else (none)) else (none))=some r:=by first|(rw [hji13] at H;exact H)|(simp only [hji13] at H ⊢;exact H)
      have hji13w:(IntKind.i64.wrap (x4_2 - x3_1))=ji13:=(i64_w _).trans hji13
      by_cases c14:0≤(ji13)
      ·rw [if_pos c14] at H
       have c14b0:decide (0≤(ji13))=true:=decide_eq_true c14
       clear c14
       by_cases c15:(ji13) < (l0_3.length:Int)
       ·rw [if_pos c15] at H
        have c15b0:decide ((ji13) < (l0_3.length:Int))=true:=decide_eq_true c15
        clear c15
        by_cases c16:0≤x4_2
        ·rw [if_pos c16] at H
         have c16b0:decide (0≤x4_2)=true:=decide_eq_true c16
         clear c16
         replace H:=Option.bind_eq_some_iff.mp H
         obtain ⟨t110,A170,H⟩:=H
         replace H:(if t110 ≥ 0 then (some false) else (value_form.l0 k2 x3_1 (wrap64 (x4_2+x3_1)) a0_0 a0_1 a0_2 l0_3))=some r:=H
         have A17:=Aside0.mk A170
         clear A170
         by_cases c18:t110 ≥ 0
         ·rw [if_pos c18] at H
          have c18b0:decide (0≤t110)=true:=decide_eq_true c18
          clear c18
          obtain rfl:=Option.some.inj H
          have hcz19_0:wr.cell? ⟨gb107,0,none⟩=some (.int .i64 a0_0):=(blk_cell BK107.out 0).trans rfl;have hcz19_1:wr.cell? ⟨gb107,1,none⟩=some (.int .i64 a0_1):=(blk_cell BK107.out 1).trans rfl;have hcz19_2:wr.cell? ⟨gb107,2,none⟩=some (.string a0_2):=(blk_cell BK107.out 2).trans rfl;have hcz19_3:wr.cell? ⟨gb107,3,none⟩=some (.slice A0_3 l0_3.length c0_3):=(blk_cell BK107.out 3).trans rfl;have hfz19_0:=blk_frozen BK107.out 0;have hfz19_1:=blk_frozen BK107.out 1;have hfz19_2:=blk_frozen BK107.out 2;have hfz19_3:=blk_frozen BK107.out 3
          try go_wp2
          replace BK107:=Aside0.mk (blk_drew BK107.out);replace HB:=Aside0.mk (below_drew1 HB.out)
          have p108:0≤((ji13):Int):=of_decide_eq_true (by first|(with_reducible assumption)|assumption)
          have q108:(ji13) < (l0_3.length:Int):=of_decide_eq_true (by first|(with_reducible assumption)|assumption)
          obtain ⟨ad108,A108_3,c108_3,e108,hx108_0,hx108_1,hx108_2,hx108_3,hl108_3,hi108_3⟩:=at_T24 HR0_3.out (ji13) p108 q108
          have hw108_3:=hx108_3
          have hw108_2:=hx108_2
          have hw108_1:=hx108_1
          have hw108_0:=hx108_0
          cases e108
          replace hx108_0:=(HB.out.cell (World.block_lt_of_cell? w _ hx108_0)).trans hx108_0
          replace hx108_1:=(HB.out.cell (World.block_lt_of_cell? w _ hx108_1)).trans hx108_1
          replace hx108_2:=(HB.out.cell (World.block_lt_of_cell? w _ hx108_2)).trans hx108_2
          replace hx108_3:=(HB.out.cell (World.block_lt_of_cell? w _ hx108_3)).trans hx108_3
          have HR108_3:=Aside0.mk hi108_3
          have HC108_3:=Aside0.mk hl108_3
          clear hi108_3 hl108_3
          replace p108:=eq_true p108
          replace q108:=eq_true q108
          have p109:0≤(x4_2:Int):=of_decide_eq_true (by first|(with_reducible assumption)|assumption)
          have q109:x4_2 < (l0_3.length:Int):=of_decide_eq_true (by first|(with_reducible assumption)|assumption)
          obtain ⟨ad109,A109_3,c109_3,e109,hx109_0,hx109_1,hx109_2,hx109_3,hl109_3,hi109_3⟩:=at_T24 HR0_3.out x4_2 p109 q109
          have hw109_3:=hx109_3
          have hw109_2:=hx109_2
          have hw109_1:=hx109_1
          have hw109_0:=hx109_0
          obtain rfl:ad108=ad109:=(by injection e109)
          replace hx109_0:=(HB.out.cell (World.block_lt_of_cell? w _ hx109_0)).trans hx109_0
          replace hx109_1:=(HB.out.cell (World.block_lt_of_cell? w _ hx109_1)).trans hx109_1
          replace hx109_2:=(HB.out.cell (World.block_lt_of_cell? w _ hx109_2)).trans hx109_2
          replace hx109_3:=(HB.out.cell (World.block_lt_of_cell? w _ hx109_3)).trans hx109_3
          have HR109_3:=Aside0.mk hi109_3
          have HC109_3:=Aside0.mk hl109_3
          clear hi109_3 hl109_3
          replace p109:=eq_true p109
          replace q109:=eq_true q109
          refine start_ (n:=14) (S:=fun w' => w'.cell? ⟨gb107,0,none⟩=some (.int .i64 a0_0)∧w'.cell? ⟨gb107,1,none⟩=some (.int .i64 a0_1)∧w'.cell? ⟨gb107,2,none⟩=some (.string a0_2)∧w'.cell? ⟨gb107,3,none⟩=some (.slice (some ad108) l0_3.length c0_3)∧w'.cell? (ad108.add (((ji13)).toNat * 4))=some (.int .i64 ((rd_T24 l0_3 (ji13)).f0))∧w'.cell? ⟨(ad108.add (((ji13)).toNat * 4)).block,(ad108.add (((ji13)).toNat * 4)).off+1,none⟩=some (.int .i64 ((rd_T24 l0_3 (ji13)).f1))∧w'.cell? ⟨(ad108.add (((ji13)).toNat * 4)).block,(ad108.add (((ji13)).toNat * 4)).off+2,none⟩=some (.string ((rd_T24 l0_3 (ji13)).f2))∧w'.cell? ⟨(ad108.add (((ji13)).toNat * 4)).block,(ad108.add (((ji13)).toNat * 4)).off+3,none⟩=some (.slice A108_3 ((rd_T24 l0_3 (ji13)).f3).length c108_3)∧w'.cell? (ad108.add ((x4_2).toNat * 4))=some (.int .i64 ((rd_T24 l0_3 x4_2).f0))∧w'.cell? ⟨(ad108.add ((x4_2).toNat * 4)).block,(ad108.add ((x4_2).toNat * 4)).off+1,none⟩=some (.int .i64 ((rd_T24 l0_3 x4_2).f1))∧w'.cell? ⟨(ad108.add ((x4_2).toNat * 4)).block,(ad108.add ((x4_2).toNat * 4)).off+2,none⟩=some (.string ((rd_T24 l0_3 x4_2).f2))∧w'.cell? ⟨(ad108.add ((x4_2).toNat * 4)).block,(ad108.add ((x4_2).toNat * 4)).off+3,none⟩=some (.slice A109_3 ((rd_T24 l0_3 x4_2).f3).length c109_3)) (ds:=[]) #[false,false,false,false,false,false,false,false,false,false,false,false,false,false] (by kernel_rfl) rfl rfl ⟨(blk_cell BK107.out 0).trans rfl,(blk_cell BK107.out 1).trans rfl,(blk_cell BK107.out 2).trans rfl,(blk_cell BK107.out 3).trans rfl,((HB.out.cell (World.block_lt_of_cell? w _ hw108_0)).trans hw108_0),((HB.out.cell (World.block_lt_of_cell? w _ hw108_1)).trans hw108_1),((HB.out.cell (World.block_lt_of_cell? w _ hw108_2)).trans hw108_2),((HB.out.cell (World.block_lt_of_cell? w _ hw108_3)).trans hw108_3),((HB.out.cell (World.block_lt_of_cell? w _ hw109_0)).trans hw109_0),((HB.out.cell (World.block_lt_of_cell? w _ hw109_1)).trans hw109_1),((HB.out.cell (World.block_lt_of_cell? w _ hw109_2)).trans hw109_2),((HB.out.cell (World.block_lt_of_cell? w _ hw109_3)).trans hw109_3)⟩ (fun hHeld => ?_);refine with_tabW value_form.tab14 value_form.bits14 (fun HT_ HW_ => ?_)
          generalize wr.drew=w20 at BK107 HB HR108_3 HR109_3 hx108_0 hx108_1 hx108_2 hx108_3 hx109_0 hx109_1 hx109_2 hx109_3 hHeld ⊢
          refine pure_ (i:=0) (N:=some 31) (v:=?_) (a':=?_) #[true,false,false,false,false,false,false,false,false,false,false,false,false,false] rfl rfl (any_of HT_.out (by kernel_rfl)) (fun _ _ _ h => h) (Or.inl ⟨by rfl,?_⟩) ?_ ?_
          rotate_left
          ·intro w'
           go_simp
           with_reducible rfl
          rotate_left
          ·simp only [Act.put,List.setIfInBounds_toArray,List.set_cons_zero,List.set_cons_succ,i64_w,i32_w]
           rfl
          refine pure_ (i:=2) (N:=some 33) (v:=?_) (a':=?_) #[true,false,true,false,false,false,false,false,false,false,false,false,false,false] rfl rfl (any_of HT_.out (by kernel_rfl)) (fun _ _ _ h => h) (Or.inl ⟨by rfl,?_⟩) ?_ ?_
          rotate_left
          ·intro w'
           go_simp
           with_reducible rfl
          rotate_left
          ·simp only [Act.put,List.setIfInBounds_toArray,List.set_cons_zero,List.set_cons_succ,i64_w,i32_w]
           rfl
          refine pure_ (i:=3) (N:=some 34) (v:=?_) (a':=?_) #[true,false,true,true,false,false,false,false,false,false,false,false,false,false] rfl rfl (any_of HT_.out (by kernel_rfl)) (fun _ _ _ h => h) (Or.inl ⟨by rfl,?_⟩) ?_ ?_
          rotate_left
          ·intro w'
           go_simp
           with_reducible rfl
          rotate_left
          ·simp only [Act.put,List.setIfInBounds_toArray,List.set_cons_zero,List.set_cons_succ,i64_w,i32_w]
           rfl
          refine pure_ (i:=4) (N:=some 35) (v:=?_) (a':=?_) #[true,false,true,true,true,false,false,false,false,false,false,false,false,false] rfl rfl (any_of HT_.out (by kernel_rfl)) (fun _ _ _ h => h) (Or.inl ⟨by rfl,?_⟩) ?_ ?_
          rotate_left
          ·intro w'
           go_simp
           with_reducible rfl
          rotate_left
          ·simp only [Act.put,List.setIfInBounds_toArray,List.set_cons_zero,List.set_cons_succ,i64_w,i32_w]
           rfl
          refine pure_ (i:=7) (N:=some 38) (v:=?_) (a':=?_) #[true,false,true,true,true,false,false,true,false,false,false,false,false,false] rfl rfl (any_of HT_.out (by kernel_rfl)) (fun _ _ _ h => h) (Or.inl ⟨by rfl,?_⟩) ?_ ?_
          rotate_left
          ·intro w'
           go_simp
           with_reducible rfl
          rotate_left
          ·simp only [Act.put,List.setIfInBounds_toArray,List.set_cons_zero,List.set_cons_succ,i64_w,i32_w]
           rfl
          refine pure_ (i:=9) (N:=some 40) (v:=?_) (a':=?_) #[true,false,true,true,true,false,false,true,false,true,false,false,false,false] rfl rfl (any_of HT_.out (by kernel_rfl)) (fun _ _ _ h => h) (Or.inl ⟨by rfl,?_⟩) ?_ ?_
          rotate_left
          ·intro w'
           go_simp
           with_reducible rfl
          rotate_left
          ·simp only [Act.put,List.setIfInBounds_toArray,List.set_cons_zero,List.set_cons_succ,i64_w,i32_w]
           rfl
          refine take_ (i:=1) (N:=some 32) (v:=?_) (a':=?_) #[true,true,true,true,true,false,false,true,false,true,false,false,false,false] rfl rfl (take_ofW HT_.out HW_.out (by kernel_rfl)) (fun _ _ _ h => h) (Or.inl ⟨by rfl,?_⟩) hHeld ?_ ?_
          rotate_left
          ·rintro w' ⟨s0,s1,s2,s3,s4,s5,s6,s7,s8,s9,s10,s11⟩
           go_simp
           with_reducible rfl
          rotate_left
          ·simp only [Act.put,List.setIfInBounds_toArray,List.set_cons_zero,List.set_cons_succ,i64_w,i32_w]
           rfl
          refine pure_ (i:=5) (N:=some 36) (v:=?_) (a':=?_) #[true,true,true,true,true,true,false,true,false,true,false,false,false,false] rfl rfl (any_of HT_.out (by kernel_rfl)) (fun _ _ _ h => h) (Or.inl ⟨by rfl,?_⟩) ?_ ?_
          rotate_left
          ·intro w'
           go_simp
           with_reducible rfl
          rotate_left
          ·simp only [Act.put,List.setIfInBounds_toArray,List.set_cons_zero,List.set_cons_succ,i64_w,i32_w]
           rfl
          refine take_ (i:=6) (N:=some 37) (v:=?_) (a':=?_) #[true,true,true,true,true,true,true,true,false,true,false,false,false,false] rfl rfl (take_ofW HT_.out HW_.out (by kernel_rfl)) (fun _ _ _ h => h) (Or.inl ⟨by rfl,?_⟩) hHeld ?_ ?_
          rotate_left
          ·rintro w' ⟨s0,s1,s2,s3,s4,s5,s6,s7,s8,s9,s10,s11⟩
           go_simp
           with_reducible rfl
          rotate_left
          ·simp only [Act.put,List.setIfInBounds_toArray,List.set_cons_zero,List.set_cons_succ,i64_w,i32_w]
           rfl
          refine take_ (i:=8) (N:=some 39) (v:=?_) (a':=?_) #[true,true,true,true,true,true,true,true,true,true,false,false,false,false] rfl rfl (take_ofW HT_.out HW_.out (by kernel_rfl)) (fun _ _ _ h => h) (Or.inl ⟨by rfl,?_⟩) hHeld ?_ ?_
          rotate_left
          ·rintro w' ⟨s0,s1,s2,s3,s4,s5,s6,s7,s8,s9,s10,s11⟩
           go_simp
           with_reducible rfl
          rotate_left
          ·simp only [Act.put,List.setIfInBounds_toArray,List.set_cons_zero,List.set_cons_succ,i64_w,i32_w]
           rfl
          refine pure_ (i:=10) (N:=some 41) (v:=?_) (a':=?_) #[true,true,true,true,true,true,true,true,true,true,true,false,false,false] rfl rfl (any_of HT_.out (by kernel_rfl)) (fun _ _ _ h => h) (Or.inl ⟨by rfl,?_⟩) ?_ ?_
          rotate_left
          ·intro w'
           go_simp
           with_reducible rfl
          rotate_left
          ·simp only [Act.put,List.setIfInBounds_toArray,List.set_cons_zero,List.set_cons_succ,i64_w,i32_w]
           rfl
          refine take_ (i:=11) (N:=some 42) (v:=?_) (a':=?_) #[true,true,true,true,true,true,true,true,true,true,true,true,false,false] rfl rfl (take_ofW HT_.out HW_.out (by kernel_rfl)) (fun _ _ _ h => h) (Or.inl ⟨by rfl,?_⟩) hHeld ?_ ?_
          rotate_left
          ·rintro w' ⟨s0,s1,s2,s3,s4,s5,s6,s7,s8,s9,s10,s11⟩
           go_simp
           with_reducible rfl
          rotate_left
          ·simp only [Act.put,List.setIfInBounds_toArray,List.set_cons_zero,List.set_cons_succ,i64_w,i32_w]
           rfl
          refine one_ (i:=12) (N:=some 43) #[true,true,true,true,true,true,true,true,true,true,true,true,true,false] rfl rfl (one_of HT_.out (by kernel_rfl)) (by decide) (fun K hK => ?_)
          refine goes_ Tryd.func43 (by kernel_rfl) rfl #[.agg #[.int .i64 ((rd_T24 l0_3 (ji13)).f0),.int .i64 ((rd_T24 l0_3 (ji13)).f1),.string ((rd_T24 l0_3 (ji13)).f2),.slice A108_3 ((rd_T24 l0_3 (ji13)).f3).length c108_3],.agg #[.int .i64 ((rd_T24 l0_3 x4_2).f0),.int .i64 ((rd_T24 l0_3 x4_2).f1),.string ((rd_T24 l0_3 x4_2).f2),.slice A109_3 ((rd_T24 l0_3 x4_2).f3).length c109_3]] (by rfl) rfl rfl (by (try simp only [List.map_toArray,List.map_cons,List.map_nil]);first|done|(simp only [hji13];rfl)|rfl|(simp only [List.length_drop,List.length_take];rfl)|(simp only [gt_iff_lt,Int.ofNat_lt];rfl)) ?_
          with_reducible refine (value_Compare.calls ((rd_T24 l0_3 (ji13)).f0) ((rd_T24 l0_3 (ji13)).f1) ((rd_T24 l0_3 (ji13)).f2) _ _ ((rd_T24 l0_3 (ji13)).f3) ((rd_T24 l0_3 x4_2).f0) ((rd_T24 l0_3 x4_2).f1) ((rd_T24 l0_3 x4_2).f2) _ _ ((rd_T24 l0_3 x4_2).f3) t110 _ ?side1 ?side2 ?side3 ?side4 A17.out).mono ?_
          (case side1 => repeat (first|exact (Kd.C_below HR108_3.out HB.out)|(with_reducible refine Kd.C_alloc ?_ _)|(with_reducible refine Kd.C_drewN ?_ _)|(with_reducible refine Kd.C_drew ?_)))
          (case side2 => exact HC108_3.out)
          (case side3 => repeat (first|exact (Kd.C_below HR109_3.out HB.out)|(with_reducible refine Kd.C_alloc ?_ _)|(with_reducible refine Kd.C_drewN ?_ _)|(with_reducible refine Kd.C_drew ?_)))
          (case side4 => exact HC109_3.out)
          rintro e w21 ⟨rfl,hb⟩
          refine ⟨_,rfl,?_⟩
          replace BK107:=ca_b BK107 hb;replace HB:=ca_h HB hb
          (try clear hb)
          (try clear hb2)
          (try clear hk)
          (try clear hi)
          refine hK.out _ _ ⟨(blk_cell BK107.out 0).trans rfl,(blk_cell BK107.out 1).trans rfl,(blk_cell BK107.out 2).trans rfl,(blk_cell BK107.out 3).trans rfl,((HB.out.cell (World.block_lt_of_cell? w _ hw108_0)).trans hw108_0),((HB.out.cell (World.block_lt_of_cell? w _ hw108_1)).trans hw108_1),((HB.out.cell (World.block_lt_of_cell? w _ hw108_2)).trans hw108_2),((HB.out.cell (World.block_lt_of_cell? w _ hw108_3)).trans hw108_3),((HB.out.cell (World.block_lt_of_cell? w _ hw109_0)).trans hw109_0),((HB.out.cell (World.block_lt_of_cell? w _ hw109_1)).trans hw109_1),((HB.out.cell (World.block_lt_of_cell? w _ hw109_2)).trans hw109_2),((HB.out.cell (World.block_lt_of_cell? w _ hw109_3)).trans hw109_3)⟩ (fun hHeld => ?_)
          clear hK K
          refine norm_ (a':=?_) ?_ ?_
          rotate_left
          ·show Act.put _ (some 43) _=_
           simp only [Act.put,List.setIfInBounds_toArray,List.set_cons_zero,List.set_cons_succ,i64_w,i32_w]
           rfl
          refine pure_ (i:=13) (N:=some 44) (v:=?_) (a':=?_) #[true,true,true,true,true,true,true,true,true,true,true,true,true,true] rfl rfl (any_of HT_.out (by kernel_rfl)) (fun _ _ _ h => h) (Or.inl ⟨by rfl,?_⟩) ?_ ?_
          rotate_left
          ·intro w'
           go_simp
           with_reducible rfl
          rotate_left
          ·simp only [Act.put,List.setIfInBounds_toArray,List.set_cons_zero,List.set_cons_succ,i64_w,i32_w]
           rfl
          refine done_ (done_of HT_.out (by kernel_rfl)) ?_
          try go_wp2
          go_ret
          exact ⟨by first|rfl|(simp [errW_none,errW_some] <;> rfl)|(simp only [← hji13];first|rfl|(simp [errW_none,errW_some] <;> rfl))|(simp [*,errW_none,errW_some] <;> rfl),by repeat (first|(with_reducible first|exact HB.out|apply below_alloc|apply pw_below_drewN|apply below_drew1|refine below_set ?_ GE107.out)|exact HB.out)⟩
         ·rw [if_neg c18] at H
          have c18b0:decide (0≤t110)=false:=decide_eq_false c18
          clear c18
          have H':=Aside0.mk H
          clear H
          have hcz22_0:wr.cell? ⟨gb107,0,none⟩=some (.int .i64 a0_0):=(blk_cell BK107.out 0).trans rfl;have hcz22_1:wr.cell? ⟨gb107,1,none⟩=some (.int .i64 a0_1):=(blk_cell BK107.out 1).trans rfl;have hcz22_2:wr.cell? ⟨gb107,2,none⟩=some (.string a0_2):=(blk_cell BK107.out 2).trans rfl;have hcz22_3:wr.cell? ⟨gb107,3,none⟩=some (.slice A0_3 l0_3.length c0_3):=(blk_cell BK107.out 3).trans rfl;have hfz22_0:=blk_frozen BK107.out 0;have hfz22_1:=blk_frozen BK107.out 1;have hfz22_2:=blk_frozen BK107.out 2;have hfz22_3:=blk_frozen BK107.out 3
          try go_wp2
          replace BK107:=Aside0.mk (blk_drew BK107.out);replace HB:=Aside0.mk (below_drew1 HB.out)
          have p108:0≤((ji13):Int):=of_decide_eq_true (by first|(with_reducible assumption)|assumption)
          have q108:(ji13) < (l0_3.length:Int):=of_decide_eq_true (by first|(with_reducible assumption)|assumption)
          obtain ⟨ad108,A108_3,c108_3,e108,hx108_0,hx108_1,hx108_2,hx108_3,hl108_3,hi108_3⟩:=at_T24 HR0_3.out (ji13) p108 q108
          have hw108_3:=hx108_3
          have hw108_2:=hx108_2
          have hw108_1:=hx108_1
          have hw108_0:=hx108_0
          cases e108
          replace hx108_0:=(HB.out.cell (World.block_lt_of_cell? w _ hx108_0)).trans hx108_0
          replace hx108_1:=(HB.out.cell (World.block_lt_of_cell? w _ hx108_1)).trans hx108_1
          replace hx108_2:=(HB.out.cell (World.block_lt_of_cell? w _ hx108_2)).trans hx108_2
          replace hx108_3:=(HB.out.cell (World.block_lt_of_cell? w _ hx108_3)).trans hx108_3
          have HR108_3:=Aside0.mk hi108_3
          have HC108_3:=Aside0.mk hl108_3
          clear hi108_3 hl108_3
          replace p108:=eq_true p108
          replace q108:=eq_true q108
          have p109:0≤(x4_2:Int):=of_decide_eq_true (by first|(with_reducible assumption)|assumption)
          have q109:x4_2 < (l0_3.length:Int):=of_decide_eq_true (by first|(with_reducible assumption)|assumption)
          obtain ⟨ad109,A109_3,c109_3,e109,hx109_0,hx109_1,hx109_2,hx109_3,hl109_3,hi109_3⟩:=at_T24 HR0_3.out x4_2 p109 q109
          have hw109_3:=hx109_3
          have hw109_2:=hx109_2
          have hw109_1:=hx109_1
          have hw109_0:=hx109_0
          obtain rfl:ad108=ad109:=(by injection e109)
          replace hx109_0:=(HB.out.cell (World.block_lt_of_cell? w _ hx109_0)).trans hx109_0
          replace hx109_1:=(HB.out.cell (World.block_lt_of_cell? w _ hx109_1)).trans hx109_1
          replace hx109_2:=(HB.out.cell (World.block_lt_of_cell? w _ hx109_2)).trans hx109_2
          replace hx109_3:=(HB.out.cell (World.block_lt_of_cell? w _ hx109_3)).trans hx109_3
          have HR109_3:=Aside0.mk hi109_3
          have HC109_3:=Aside0.mk hl109_3
          clear hi109_3 hl109_3
          replace p109:=eq_true p109
          replace q109:=eq_true q109
          refine start_ (n:=14) (S:=fun w' => w'.cell? ⟨gb107,0,none⟩=some (.int .i64 a0_0)∧w'.cell? ⟨gb107,1,none⟩=some (.int .i64 a0_1)∧w'.cell? ⟨gb107,2,none⟩=some (.string a0_2)∧w'.cell? ⟨gb107,3,none⟩=some (.slice (some ad108) l0_3.length c0_3)∧w'.cell? (ad108.add (((ji13)).toNat * 4))=some (.int .i64 ((rd_T24 l0_3 (ji13)).f0))∧w'.cell? ⟨(ad108.add (((ji13)).toNat * 4)).block,(ad108.add (((ji13)).toNat * 4)).off+1,none⟩=some (.int .i64 ((rd_T24 l0_3 (ji13)).f1))∧w'.cell? ⟨(ad108.add (((ji13)).toNat * 4)).block,(ad108.add (((ji13)).toNat * 4)).off+2,none⟩=some (.string ((rd_T24 l0_3 (ji13)).f2))∧w'.cell? ⟨(ad108.add (((ji13)).toNat * 4)).block,(ad108.add (((ji13)).toNat * 4)).off+3,none⟩=some (.slice A108_3 ((rd_T24 l0_3 (ji13)).f3).length c108_3)∧w'.cell? (ad108.add ((x4_2).toNat * 4))=some (.int .i64 ((rd_T24 l0_3 x4_2).f0))∧w'.cell? ⟨(ad108.add ((x4_2).toNat * 4)).block,(ad108.add ((x4_2).toNat * 4)).off+1,none⟩=some (.int .i64 ((rd_T24 l0_3 x4_2).f1))∧w'.cell? ⟨(ad108.add ((x4_2).toNat * 4)).block,(ad108.add ((x4_2).toNat * 4)).off+2,none⟩=some (.string ((rd_T24 l0_3 x4_2).f2))∧w'.cell? ⟨(ad108.add ((x4_2).toNat * 4)).block,(ad108.add ((x4_2).toNat * 4)).off+3,none⟩=some (.slice A109_3 ((rd_T24 l0_3 x4_2).f3).length c109_3)) (ds:=[]) #[false,false,false,false,false,false,false,false,false,false,false,false,false,false] (by kernel_rfl) rfl rfl ⟨(blk_cell BK107.out 0).trans rfl,(blk_cell BK107.out 1).trans rfl,(blk_cell BK107.out 2).trans rfl,(blk_cell BK107.out 3).trans rfl,((HB.out.cell (World.block_lt_of_cell? w _ hw108_0)).trans hw108_0),((HB.out.cell (World.block_lt_of_cell? w _ hw108_1)).trans hw108_1),((HB.out.cell (World.block_lt_of_cell? w _ hw108_2)).trans hw108_2),((HB.out.cell (World.block_lt_of_cell? w _ hw108_3)).trans hw108_3),((HB.out.cell (World.block_lt_of_cell? w _ hw109_0)).trans hw109_0),((HB.out.cell (World.block_lt_of_cell? w _ hw109_1)).trans hw109_1),((HB.out.cell (World.block_lt_of_cell? w _ hw109_2)).trans hw109_2),((HB.out.cell (World.block_lt_of_cell? w _ hw109_3)).trans hw109_3)⟩ (fun hHeld => ?_);refine with_tabW value_form.tab14 value_form.bits14 (fun HT_ HW_ => ?_)
          generalize wr.drew=w23 at BK107 HB HR108_3 HR109_3 hx108_0 hx108_1 hx108_2 hx108_3 hx109_0 hx109_1 hx109_2 hx109_3 hHeld ⊢
          refine pure_ (i:=0) (N:=some 31) (v:=?_) (a':=?_) #[true,false,false,false,false,false,false,false,false,false,false,false,false,false] rfl rfl (any_of HT_.out (by kernel_rfl)) (fun _ _ _ h => h) (Or.inl ⟨by rfl,?_⟩) ?_ ?_
          rotate_left
          ·intro w'
           go_simp
           with_reducible rfl
          rotate_left
          ·simp only [Act.put,List.setIfInBounds_toArray,List.set_cons_zero,List.set_cons_succ,i64_w,i32_w]
           rfl
          refine pure_ (i:=2) (N:=some 33) (v:=?_) (a':=?_) #[true,false,true,false,false,false,false,false,false,false,false,false,false,false] rfl rfl (any_of HT_.out (by kernel_rfl)) (fun _ _ _ h => h) (Or.inl ⟨by rfl,?_⟩) ?_ ?_
          rotate_left
          ·intro w'
           go_simp
           with_reducible rfl
          rotate_left
          ·simp only [Act.put,List.setIfInBounds_toArray,List.set_cons_zero,List.set_cons_succ,i64_w,i32_w]
           rfl
          refine pure_ (i:=3) (N:=some 34) (v:=?_) (a':=?_) #[true,false,true,true,false,false,false,false,false,false,false,false,false,false] rfl rfl (any_of HT_.out (by kernel_rfl)) (fun _ _ _ h => h) (Or.inl ⟨by rfl,?_⟩) ?_ ?_
          rotate_left
          ·intro w'
           go_simp
           with_reducible rfl
          rotate_left
          ·simp only [Act.put,List.setIfInBounds_toArray,List.set_cons_zero,List.set_cons_succ,i64_w,i32_w]
           rfl
          refine pure_ (i:=4) (N:=some 35) (v:=?_) (a':=?_) #[true,false,true,true,true,false,false,false,false,false,false,false,false,false] rfl rfl (any_of HT_.out (by kernel_rfl)) (fun _ _ _ h => h) (Or.inl ⟨by rfl,?_⟩) ?_ ?_
          rotate_left
          ·intro w'
           go_simp
           with_reducible rfl
          rotate_left
          ·simp only [Act.put,List.setIfInBounds_toArray,List.set_cons_zero,List.set_cons_succ,i64_w,i32_w]
           rfl
          refine pure_ (i:=7) (N:=some 38) (v:=?_) (a':=?_) #[true,false,true,true,true,false,false,true,false,false,false,false,false,false] rfl rfl (any_of HT_.out (by kernel_rfl)) (fun _ _ _ h => h) (Or.inl ⟨by rfl,?_⟩) ?_ ?_
          rotate_left
          ·intro w'
           go_simp
           with_reducible rfl
          rotate_left
          ·simp only [Act.put,List.setIfInBounds_toArray,List.set_cons_zero,List.set_cons_succ,i64_w,i32_w]
           rfl
          refine pure_ (i:=9) (N:=some 40) (v:=?_) (a':=?_) #[true,false,true,true,true,false,false,true,false,true,false,false,false,false] rfl rfl (any_of HT_.out (by kernel_rfl)) (fun _ _ _ h => h) (Or.inl ⟨by rfl,?_⟩) ?_ ?_
          rotate_left
          ·intro w'
           go_simp
           with_reducible rfl
          rotate_left
          ·simp only [Act.put,List.setIfInBounds_toArray,List.set_cons_zero,List.set_cons_succ,i64_w,i32_w]
           rfl
          refine take_ (i:=1) (N:=some 32) (v:=?_) (a':=?_) #[true,true,true,true,true,false,false,true,false,true,false,false,false,false] rfl rfl (take_ofW HT_.out HW_.out (by kernel_rfl)) (fun _ _ _ h => h) (Or.inl ⟨by rfl,?_⟩) hHeld ?_ ?_
          rotate_left
          ·rintro w' ⟨s0,s1,s2,s3,s4,s5,s6,s7,s8,s9,s10,s11⟩
           go_simp
           with_reducible rfl
          rotate_left
          ·simp only [Act.put,List.setIfInBounds_toArray,List.set_cons_zero,List.set_cons_succ,i64_w,i32_w]
           rfl
          refine pure_ (i:=5) (N:=some 36) (v:=?_) (a':=?_) #[true,true,true,true,true,true,false,true,false,true,false,false,false,false] rfl rfl (any_of HT_.out (by kernel_rfl)) (fun _ _ _ h => h) (Or.inl ⟨by rfl,?_⟩) ?_ ?_
          rotate_left
          ·intro w'
           go_simp
           with_reducible rfl
          rotate_left
          ·simp only [Act.put,List.setIfInBounds_toArray,List.set_cons_zero,List.set_cons_succ,i64_w,i32_w]
           rfl
          refine take_ (i:=6) (N:=some 37) (v:=?_) (a':=?_) #[true,true,true,true,true,true,true,true,false,true,false,false,false,false] rfl rfl (take_ofW HT_.out HW_.out (by kernel_rfl)) (fun _ _ _ h => h) (Or.inl ⟨by rfl,?_⟩) hHeld ?_ ?_
          rotate_left
          ·rintro w' ⟨s0,s1,s2,s3,s4,s5,s6,s7,s8,s9,s10,s11⟩
           go_simp
           with_reducible rfl
          rotate_left
          ·simp only [Act.put,List.setIfInBounds_toArray,List.set_cons_zero,List.set_cons_succ,i64_w,i32_w]
           rfl
          refine take_ (i:=8) (N:=some 39) (v:=?_) (a':=?_) #[true,true,true,true,true,true,true,true,true,true,false,false,false,false] rfl rfl (take_ofW HT_.out HW_.out (by kernel_rfl)) (fun _ _ _ h => h) (Or.inl ⟨by rfl,?_⟩) hHeld ?_ ?_
          rotate_left
          ·rintro w' ⟨s0,s1,s2,s3,s4,s5,s6,s7,s8,s9,s10,s11⟩
           go_simp
           with_reducible rfl
          rotate_left
          ·simp only [Act.put,List.setIfInBounds_toArray,List.set_cons_zero,List.set_cons_succ,i64_w,i32_w]
           rfl
          refine pure_ (i:=10) (N:=some 41) (v:=?_) (a':=?_) #[true,true,true,true,true,true,true,true,true,true,true,false,false,false] rfl rfl (any_of HT_.out (by kernel_rfl)) (fun _ _ _ h => h) (Or.inl ⟨by rfl,?_⟩) ?_ ?_
          rotate_left
          ·intro w'
           go_simp
           with_reducible rfl
          rotate_left
          ·simp only [Act.put,List.setIfInBounds_toArray,List.set_cons_zero,List.set_cons_succ,i64_w,i32_w]
           rfl
          refine take_ (i:=11) (N:=some 42) (v:=?_) (a':=?_) #[true,true,true,true,true,true,true,true,true,true,true,true,false,false] rfl rfl (take_ofW HT_.out HW_.out (by kernel_rfl)) (fun _ _ _ h => h) (Or.inl ⟨by rfl,?_⟩) hHeld ?_ ?_
          rotate_left
          ·rintro w' ⟨s0,s1,s2,s3,s4,s5,s6,s7,s8,s9,s10,s11⟩
           go_simp
           with_reducible rfl
          rotate_left
          ·simp only [Act.put,List.setIfInBounds_toArray,List.set_cons_zero,List.set_cons_succ,i64_w,i32_w]
           rfl
          refine one_ (i:=12) (N:=some 43) #[true,true,true,true,true,true,true,true,true,true,true,true,true,false] rfl rfl (one_of HT_.out (by kernel_rfl)) (by decide) (fun K hK => ?_)
          refine goes_ Tryd.func43 (by kernel_rfl) rfl #[.agg #[.int .i64 ((rd_T24 l0_3 (ji13)).f0),.int .i64 ((rd_T24 l0_3 (ji13)).f1),.string ((rd_T24 l0_3 (ji13)).f2),.slice A108_3 ((rd_T24 l0_3 (ji13)).f3).length c108_3],.agg #[.int .i64 ((rd_T24 l0_3 x4_2).f0),.int .i64 ((rd_T24 l0_3 x4_2).f1),.string ((rd_T24 l0_3 x4_2).f2),.slice A109_3 ((rd_T24 l0_3 x4_2).f3).length c109_3]] (by rfl) rfl rfl (by (try simp only [List.map_toArray,List.map_cons,List.map_nil]);first|done|(simp only [hji13];rfl)|rfl|(simp only [List.length_drop,List.length_take];rfl)|(simp only [gt_iff_lt,Int.ofNat_lt];rfl)) ?_
          with_reducible refine (value_Compare.calls ((rd_T24 l0_3 (ji13)).f0) ((rd_T24 l0_3 (ji13)).f1) ((rd_T24 l0_3 (ji13)).f2) _ _ ((rd_T24 l0_3 (ji13)).f3) ((rd_T24 l0_3 x4_2).f0) ((rd_T24 l0_3 x4_2).f1) ((rd_T24 l0_3 x4_2).f2) _ _ ((rd_T24 l0_3 x4_2).f3) t110 _ ?side1 ?side2 ?side3 ?side4 A17.out).mono ?_
          (case side1 => repeat (first|exact (Kd.C_below HR108_3.out HB.out)|(with_reducible refine Kd.C_alloc ?_ _)|(with_reducible refine Kd.C_drewN ?_ _)|(with_reducible refine Kd.C_drew ?_)))
          (case side2 => exact HC108_3.out)
          (case side3 => repeat (first|exact (Kd.C_below HR109_3.out HB.out)|(with_reducible refine Kd.C_alloc ?_ _)|(with_reducible refine Kd.C_drewN ?_ _)|(with_reducible refine Kd.C_drew ?_)))
          (case side4 => exact HC109_3.out)
          rintro e w24 ⟨rfl,hb⟩
          refine ⟨_,rfl,?_⟩
          replace BK107:=ca_b BK107 hb;replace HB:=ca_h HB hb
          (try clear hb)
          (try clear hb2)
          (try clear hk)
          (try clear hi)
          refine hK.out _ _ ⟨(blk_cell BK107.out 0).trans rfl,(blk_cell BK107.out 1).trans rfl,(blk_cell BK107.out 2).trans rfl,(blk_cell BK107.out 3).trans rfl,((HB.out.cell (World.block_lt_of_cell? w _ hw108_0)).trans hw108_0),((HB.out.cell (World.block_lt_of_cell? w _ hw108_1)).trans hw108_1),((HB.out.cell (World.block_lt_of_cell? w _ hw108_2)).trans hw108_2),((HB.out.cell (World.block_lt_of_cell? w _ hw108_3)).trans hw108_3),((HB.out.cell (World.block_lt_of_cell? w _ hw109_0)).trans hw109_0),((HB.out.cell (World.block_lt_of_cell? w _ hw109_1)).trans hw109_1),((HB.out.cell (World.block_lt_of_cell? w _ hw109_2)).trans hw109_2),((HB.out.cell (World.block_lt_of_cell? w _ hw109_3)).trans hw109_3)⟩ (fun hHeld => ?_)
          clear hK K
          refine norm_ (a':=?_) ?_ ?_
          rotate_left
          ·show Act.put _ (some 43) _=_
           simp only [Act.put,List.setIfInBounds_toArray,List.set_cons_zero,List.set_cons_succ,i64_w,i32_w]
           rfl
          refine pure_ (i:=13) (N:=some 44) (v:=?_) (a':=?_) #[true,true,true,true,true,true,true,true,true,true,true,true,true,true] rfl rfl (any_of HT_.out (by kernel_rfl)) (fun _ _ _ h => h) (Or.inl ⟨by rfl,?_⟩) ?_ ?_
          rotate_left
          ·intro w'
           go_simp
           with_reducible rfl
          rotate_left
          ·simp only [Act.put,List.setIfInBounds_toArray,List.set_cons_zero,List.set_cons_succ,i64_w,i32_w]
           rfl
          refine done_ (done_of HT_.out (by kernel_rfl)) ?_
          try go_wp2
          go_roundg k2
          case measure => have:=HJ1.out;have:=HK2.out;omega
          case rel => exact ⟨(wrap64 (x4_2+x3_1)),(by first|rfl|(simp;done)|(simp [*];done)),H',⟨by have:=HJ1.out;have:=HK2.out;omega⟩,⟨by (with_reducible repeat (first|refine blk_drewN ?_ _|refine blk_drew ?_|refine blk_alloc ?_ _));exact BK107.out⟩,⟨by repeat (first|(with_reducible first|exact HB.out|apply below_alloc|apply pw_below_drewN|apply below_drew1|refine below_set ?_ GE107.out)|exact HB.out)⟩⟩
        ·rw [if_neg c16] at H
         exact absurd H (by simp)
       ·rw [if_neg c15] at H
        exact absurd H (by simp)
      ·rw [if_neg c14] at H
       exact absurd H (by simp)
     ·rw [if_neg c12] at H
      have c12b0:decide (x4_2 < (l0_3.length:Int))=false:=decide_eq_false c12
      clear c12
      obtain rfl:=Option.some.inj H
      have hcz25_0:wr.cell? ⟨gb107,0,none⟩=some (.int .i64 a0_0):=(blk_cell BK107.out 0).trans rfl;have hcz25_1:wr.cell? ⟨gb107,1,none⟩=some (.int .i64 a0_1):=(blk_cell BK107.out 1).trans rfl;have hcz25_2:wr.cell? ⟨gb107,2,none⟩=some (.string a0_2):=(blk_cell BK107.out 2).trans rfl;have hcz25_3:wr.cell? ⟨gb107,3,none⟩=some (.slice A0_3 l0_3.length c0_3):=(blk_cell BK107.out 3).trans rfl;have hfz25_0:=blk_frozen BK107.out 0;have hfz25_1:=blk_frozen BK107.out 1;have hfz25_2:=blk_frozen BK107.out 2;have hfz25_3:=blk_frozen BK107.out 3
      go_wp2
      go_ret
      exact ⟨by first|rfl|(simp [errW_none,errW_some] <;> rfl)|(simp [*,errW_none,errW_some] <;> rfl),by repeat (first|(with_reducible first|exact HB.out|apply below_alloc|apply pw_below_drewN|apply below_drew1|refine below_set ?_ GE107.out)|exact HB.out)⟩

end Go.Proofs.YtgmmoagclkmeaaaDoor.XH
