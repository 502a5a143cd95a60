-- cut down by bundle.py (the session's own program) from the texts YtgmmoagclkmeaaaDoorXH23, to what this claim names
import Derived.Test.YtgmmoagclkmeaaaDoorZFnsOneXH0
import Derived.Test.YtgmmoagclkmeaaaDoorZFnsOneXH4
import Derived.Test.YtgmmoagclkmeaaaDoorZFnsOneXH10
import Derived.Test.YtgmmoagclkmeaaaDoorZFnsOneXH15
import Derived.Test.YtgmmoagclkmeaaaDoorZFnsOneXH16
import Derived.Test.YtgmmoagclkmeaaaDoorZFnsOneXH20
import Derived.Test.YtgmmoagclkmeaaaDoorZFnsOneXH22
-- laid by xprint.py (the session's own program) out of the translation; Lean checks it
namespace Go.Proofs.YtgmmoagclkmeaaaDoor.XH
open Go.RowKit Go.Proofs.YtgmmoagclkmeaaaDoorW.PrintWords Go.Proofs.YtgmmoagclkmeaaaDoorW.PrintLast Go.Proofs.YtgmmoagclkmeaaaDoorW.PrintMore
attribute [local go_sem] max2_int min2_int max_two min_two max_three min_three max_four min_four   -- for this text's walks alone
set_option linter.unusedVariables false
set_option linter.unusedSimpArgs false

mutual
def spinneyref05_Times.j0:Nat→Int→Int→Bool→Int→Int→ByteArray→List (S24)→Option (Int × Int × ByteArray × (List (S24)) × Int)
 | 0,_,_,_,_,_,_,_ => none
 | k+1,x0,x1,x18,x517000,x517001,x517002,x517003 => if x18=true then (some (0,0,(⟨#[]⟩:ByteArray),([]:List (S24)),1)) else ((spinneyref01_Right.f k x517000 x517001 x517002 x517003).bind fun t519 => (if t519=true then (spinneyref05_Times.l0 k x0 x1 0 x517000 x517001 x517002 x517003) else (some (0,0,(⟨#[]⟩:ByteArray),([]:List (S24)),3))))
def spinneyref05_Times.l0:Nat→Int→Int→Int→Int→Int→ByteArray→List (S24)→Option (Int × Int × ByteArray × (List (S24)) × Int)
 | 0,_,_,_,_,_,_,_ => none
 | k+1,x0,x1,x8,x517000,x517001,x517002,x517003 => if x8 < x1 then ((spinneyref05_Done.f k x0 x517000 x517001 x517002 x517003).bind fun bt520 => (spinneyref05_Times.l0 k x0 x1 (wrap64 (x8+1)) bt520.1 bt520.2.1 bt520.2.2.1 bt520.2.2.2)) else (some (x517000,x517001,x517002,x517003,0))
end
def spinneyref05_Times.f (k:Nat) (a0:Int) (a1:Int) (a2_0:Int) (a2_1:Int) (a2_2:ByteArray) (l2_3:List (S24)):Option (Int × Int × ByteArray × (List (S24)) × Int):=(spinneyref05_Kind.f a0).bind fun t518 => (if t518=true then (if a1 < 0 then (spinneyref05_Times.j0 k a0 a1 true a2_0 a2_1 a2_2 l2_3) else (spinneyref05_Times.j0 k a0 a1 (decide (a1 > 65536)) a2_0 a2_1 a2_2 l2_3)) else (some (0,0,(⟨#[]⟩:ByteArray),([]:List (S24)),4)))
set_option maxHeartbeats 8000000 in
set_option maxRecDepth 100000 in
theorem spinneyref05_Times.calls (k:Nat) (a0:Int) (a1:Int) (a2_0:Int) (a2_1:Int) (a2_2:ByteArray) (P2_3_:Nat→Prop) (A2_3:Option Addr) (c2_3:Nat) (l2_3:List (S24)) (r1:Int) (r2:Int) (r3:ByteArray) (r4:List (S24)) (r5:Int) (w:World) (hs2_3:Kd.V k24 24 w w.heap.size (fun k_ => P2_3_ k_) (.slice A2_3 l2_3.length c2_3) l2_3) (h:spinneyref05_Times.f k a0 a1 a2_0 a2_1 a2_2 l2_3=some (r1,r2,r3,r4,r5)) :
  Calls Tryd.prog 18 #[.int .i64 a0,.int .i64 a1,.agg #[.int .i64 a2_0,.int .i64 a2_1,.string a2_2,.slice A2_3 l2_3.length c2_3]] w fun e w' => ∃ v3_:Value,e=.returned (.tuple #[.agg #[.int .i64 r1,.int .i64 r2,.string r3,v3_],.int .i64 r5])∧Kd.V k24 24 w' w.heap.size (fun k_ => (P2_3_ k_ ∨ w.heap.size≤k_)) v3_ r4∧Below w.heap.size w w':=by
 have hu24:=Tryd.underlying24
 have HO2_3:=Aside0.mk (show Kd.V k24 24 w w.heap.size (fun k_ => (P2_3_ k_ ∨ w.heap.size≤k_)) (.slice A2_3 l2_3.length c2_3) l2_3 from Kd.V_mono hs2_3 (fun k_ hk => .inl hk))
 have HB:=Aside0.mk (Below.refl w.heap.size w)
 have H:((spinneyref05_Kind.f a0).bind fun t518 => (if t518=true then (if a1 < 0 then (spinneyref05_Times.j0 k a0 a1 true a2_0 a2_1 a2_2 l2_3) else (spinneyref05_Times.j0 k a0 a1 (decide (a1 > 65536)) a2_0 a2_1 a2_2 l2_3)) else (some (0,0,(⟨#[]⟩:ByteArray),([]:List (S24)),4))))=some (r1,r2,r3,r4,r5):=h
 clear h
 replace H:=Option.bind_eq_some_iff.mp H
 obtain ⟨t518,A40,H⟩:=H
 replace H:(if t518=true then (if a1 < 0 then (spinneyref05_Times.j0 k a0 a1 true a2_0 a2_1 a2_2 l2_3) else (spinneyref05_Times.j0 k a0 a1 (decide (a1 > 65536)) a2_0 a2_1 a2_2 l2_3)) else (some (0,0,(⟨#[]⟩:ByteArray),([]:List (S24)),4)))=some (r1,r2,r3,r4,r5):=H
 have A4:=Aside0.mk A40
 clear A40
 by_cases c5:t518=true
 ·subst c5
  have H1:(if a1 < 0 then (spinneyref05_Times.j0 k a0 a1 true a2_0 a2_1 a2_2 l2_3) else (spinneyref05_Times.j0 k a0 a1 (decide (a1 > 65536)) a2_0 a2_1 a2_2 l2_3))=some (r1,r2,r3,r4,r5):=by rw [if_pos rfl] at H;exact H
  clear H
  have H:=H1
  clear H1
  have HC6:=Aside0.mk H
  clear H
  go_enter Tryd.func18,Tryd.ntmps18
  go_upto_region 3 with (first|((with_reducible refine gate_dst (N:=5) rfl ?_);refine box_event ?hg (N:=5) ?hd (cs:=#[.int .i64 a2_0,.int .i64 a2_1,.string a2_2,.slice A2_3 l2_3.length c2_3]) (t:=24) ?hr ?_;(case hd => rfl);(case hg => rfl);(case hr => first|(go_simp;done)|(go_simp;rfl));intro gb516 hg w7 hbox hb;have BK516:=Aside0.mk (hbox);have GW516:=Aside0.mk ((by rw [hg];exact (below_size (by repeat (first|(with_reducible first|exact HB.out|apply below_alloc|apply pw_below_drewN|apply below_drew1)|exact HB.out))):w.heap.size≤gb516));have GE516:=Aside0.mk ((by rw [hg];exact (below_size (by repeat (first|(with_reducible first|exact HB.out|apply below_alloc|apply pw_below_drewN|apply below_drew1)|exact HB.out))):w.heap.size≤gb516));replace HO2_3:=bx_v HO2_3 hg hb;replace HB:=Aside0.mk (below_step (by repeat (first|(with_reducible first|exact HB.out|apply below_alloc|apply pw_below_drewN|apply below_drew1)|exact HB.out)) hb);clear hb hbox hg)|((with_reducible refine gate_dst (N:=6) rfl ?_);refine box_event ?hg (N:=6) ?hd (cs:=#[.int .i64 0,.int .i64 0,.string (⟨#[]⟩:ByteArray),.slice none 0 0]) (t:=24) ?hr ?_;(case hd => rfl);(case hg => rfl);(case hr => first|(go_simp;done)|(go_simp;rfl));intro gb517 hg w8 hbox hb;have BK517:=Aside0.mk (hbox);have GW517:=Aside0.mk ((by rw [hg];exact (below_size (by repeat (first|(with_reducible first|exact HB.out|apply below_alloc|apply pw_below_drewN|apply below_drew1|refine below_set ?_ GE516.out)|exact HB.out))):w.heap.size≤gb517));have GE517:=Aside0.mk ((by rw [hg];exact (below_size (by repeat (first|(with_reducible first|exact HB.out|apply below_alloc|apply pw_below_drewN|apply below_drew1|refine below_set ?_ GE516.out)|exact HB.out))):w.heap.size≤gb517));have NB516_517:=bx_n (up_b BK516) hg;have NB517_516:=bx_m (up_b BK516) hg;replace HO2_3:=bx_v HO2_3 hg hb;replace BK516:=ca_b BK516 hb;replace HB:=Aside0.mk (below_step (by repeat (first|(with_reducible first|exact HB.out|apply below_alloc|apply pw_below_drewN|apply below_drew1|refine below_set ?_ GE516.out)|exact HB.out)) hb);clear hb hbox hg)|((with_reducible refine gate_callee (f:=21) rfl ?_);refine goesL_ (some 10) rfl rfl Tryd.func21 (by kernel_rfl) rfl #[.int .i64 a0] rfl (by (try simp only [List.map_toArray,List.map_cons,List.map_nil]);first|done|rfl|(simp only [List.length_drop,List.length_take];rfl)|(simp only [gt_iff_lt,Int.ofNat_lt];rfl)) ?_;(with_reducible refine (spinneyref05_Kind.calls a0 true _ A4.out).mono ?_);rintro e w' ⟨rfl,⟨nd,rfl⟩⟩;refine ⟨_,rfl,?_⟩))
  (try simp only [Act.put,List.setIfInBounds_toArray,List.set_cons_zero,List.set_cons_succ])
  go_cut [18] (fun v18 wc => ∃ (kq:Nat) (x18_5:Bool),v18=.bool x18_5∧Aside0 (spinneyref05_Times.j0 kq a0 a1 x18_5 a2_0 a2_1 a2_2 l2_3=some (r1,r2,r3,r4,r5))∧Aside0 (kq≤k)∧Aside0 (Kd.V k24 24 wc w.heap.size (fun k_ => (P2_3_ k_ ∨ w.heap.size≤k_)∧k_≠gb516∧k_≠gb517) (.slice A2_3 l2_3.length c2_3) l2_3)∧Aside0 (wc.heap[gb516]? = some (.cells #[.int .i64 a2_0,.int .i64 a2_1,.string a2_2,(.slice A2_3 l2_3.length c2_3)] 24 (0,0)))∧Aside0 (wc.heap[gb517]? = some (.cells #[.int .i64 0,.int .i64 0,.string (⟨#[]⟩:ByteArray),(.slice none 0 0)] 24 (0,0)))∧Aside0 (Below w.heap.size w wc))
  case first =>
   have H:=HC6.out
   clear HC6
   by_cases c9:a1 < 0
   ·rw [if_pos c9] at H
    have c9b0:decide (a1 < 0)=true:=decide_eq_true c9
    clear c9
    (first|rw [c9b0]|(simp only [i64_w,i32_w];rw [c9b0])|skip)
    have H':=Aside0.mk H
    clear H
    go_wp2
    go_meet
    case rel => exact ⟨_,(true),(by first|rfl|(simp;done)|(simp [*];done)),H',⟨by first|omega|exact Nat.le_refl _⟩,⟨by (with_reducible repeat (first|apply Kd.V_alloc|apply Kd.V_drewN|apply Kd.V_drew));exact Kd.V_mono HO2_3.out (fun _ hk => ⟨hk.1.1,⟨hk.1.2,hk.2⟩⟩)⟩,⟨by (with_reducible repeat (first|refine blk_drewN ?_ _|refine blk_drew ?_|refine blk_alloc ?_ _));exact BK516.out⟩,⟨by (with_reducible repeat (first|refine blk_drewN ?_ _|refine blk_drew ?_|refine blk_alloc ?_ _));exact BK517.out⟩,⟨by repeat (first|(with_reducible first|exact HB.out|apply below_alloc|apply pw_below_drewN|apply below_drew1|refine below_set ?_ GE516.out|refine below_set ?_ GE517.out)|exact HB.out)⟩⟩
   ·rw [if_neg c9] at H
    have c9b0:decide (a1 < 0)=false:=decide_eq_false c9
    clear c9
    (first|rw [c9b0]|(simp only [i64_w,i32_w];rw [c9b0])|skip)
    have H':=Aside0.mk H
    clear H
    go_wp2
    go_meet
    case rel => exact ⟨_,(decide (a1 > 65536)),(by first|rfl|(simp;done)|(simp [*];done)),H',⟨by first|omega|exact Nat.le_refl _⟩,⟨by (with_reducible repeat (first|apply Kd.V_alloc|apply Kd.V_drewN|apply Kd.V_drew));exact Kd.V_mono HO2_3.out (fun _ hk => ⟨hk.1.1,⟨hk.1.2,hk.2⟩⟩)⟩,⟨by (with_reducible repeat (first|refine blk_drewN ?_ _|refine blk_drew ?_|refine blk_alloc ?_ _));exact BK516.out⟩,⟨by (with_reducible repeat (first|refine blk_drewN ?_ _|refine blk_drew ?_|refine blk_alloc ?_ _));exact BK517.out⟩,⟨by repeat (first|(with_reducible first|exact HB.out|apply below_alloc|apply pw_below_drewN|apply below_drew1|refine below_set ?_ GE516.out|refine below_set ?_ GE517.out)|exact HB.out)⟩⟩
  case rest =>
   clear HC6
   try clear c1
   try clear c2
   try clear p2
   try clear c5
   try clear c9
   try clear c9b0
   obtain ⟨kq,x18_5,rfl,HA,HJ5,HO_517003,BK516,BK517,HB⟩:=hcut
   cases kq with
   | zero => exact absurd HA.out (by simp [spinneyref05_Times.j0])
   | succ kj5 =>
    have H:=HA.out
    clear HA
    simp only [spinneyref05_Times.j0] at H
    by_cases c10:x18_5=true
    ·subst c10
     have H1:(some (0,0,(⟨#[]⟩:ByteArray),([]:List (S24)),1))=some (r1,r2,r3,r4,r5):=by rw [if_pos rfl] at H;exact H
     clear H
     have H:=H1
     clear H1
     simp only [Option.some.injEq,Prod.mk.injEq] at H
     obtain ⟨rfl,rfl,rfl,rfl,rfl⟩:=H
     have hnb11:=NB517_516.out
     have hnc11:=NB516_517.out
     have hcz12_0:wc.cell? ⟨gb517,0,none⟩=some (.int .i64 0):=(blk_cell BK517.out 0).trans rfl;have hcz12_1:wc.cell? ⟨gb517,1,none⟩=some (.int .i64 0):=(blk_cell BK517.out 1).trans rfl;have hcz12_2:wc.cell? ⟨gb517,2,none⟩=some (.string (⟨#[]⟩:ByteArray)):=(blk_cell BK517.out 2).trans rfl;have hcz12_3:wc.cell? ⟨gb517,3,none⟩=some (.slice none 0 0):=(blk_cell BK517.out 3).trans rfl;have hfz12_0:=blk_frozen BK517.out 0;have hfz12_1:=blk_frozen BK517.out 1;have hfz12_2:=blk_frozen BK517.out 2;have hfz12_3:=blk_frozen BK517.out 3
     go_wp2
     refine bodyPost_ret (results_ct rfl _ _ gb517 24 #[.int .i64 0,.int .i64 0,.string (⟨#[]⟩:ByteArray),.slice none 0 0] (0,0) _ rfl (pu4 BK517) Tryd.underlying24 rfl (by kernel_rfl)) rfl ?_
     exact ⟨_,by first|rfl|(simp [errW_none,errW_some] <;> rfl)|(simp [*,errW_none,errW_some] <;> rfl),Kd.V_nil _ _ _ _ _,by repeat (first|(with_reducible first|exact HB.out|apply below_alloc|apply pw_below_drewN|apply below_drew1|refine below_set ?_ GE516.out|refine below_set ?_ GE517.out)|exact HB.out)⟩
    ·replace c10:=Bool.eq_false_iff.mpr c10
     subst c10
     have H1:((spinneyref01_Right.f kj5 a2_0 a2_1 a2_2 l2_3).bind fun t519 => (if t519=true then (spinneyref05_Times.l0 kj5 a0 a1 0 a2_0 a2_1 a2_2 l2_3) else (some (0,0,(⟨#[]⟩:ByteArray),([]:List (S24)),3))))=some (r1,r2,r3,r4,r5):=by rw [if_neg (show ¬ (false=true) by decide)] at H;exact H
     clear H
     have H:=H1
     clear H1
     replace H:=Option.bind_eq_some_iff.mp H
     obtain ⟨t519,A130,H⟩:=H
     replace H:(if t519=true then (spinneyref05_Times.l0 kj5 a0 a1 0 a2_0 a2_1 a2_2 l2_3) else (some (0,0,(⟨#[]⟩:ByteArray),([]:List (S24)),3)))=some (r1,r2,r3,r4,r5):=H
     have A13:=Aside0.mk A130
     clear A130
     by_cases c14:t519=true
     ·subst c14
      have H1:(spinneyref05_Times.l0 kj5 a0 a1 0 a2_0 a2_1 a2_2 l2_3)=some (r1,r2,r3,r4,r5):=by rw [if_pos rfl] at H;exact H
      clear H
      have H:=H1
      clear H1
      have H':=Aside0.mk H
      clear H
      have hnb15:=NB516_517.out
      have hnc15:=NB517_516.out
      have hcz16_0:wc.cell? ⟨gb516,0,none⟩=some (.int .i64 a2_0):=(blk_cell BK516.out 0).trans rfl;have hcz16_1:wc.cell? ⟨gb516,1,none⟩=some (.int .i64 a2_1):=(blk_cell BK516.out 1).trans rfl;have hcz16_2:wc.cell? ⟨gb516,2,none⟩=some (.string a2_2):=(blk_cell BK516.out 2).trans rfl;have hcz16_3:wc.cell? ⟨gb516,3,none⟩=some (.slice A2_3 l2_3.length c2_3):=(blk_cell BK516.out 3).trans rfl;have hfz16_0:=blk_frozen BK516.out 0;have hfz16_1:=blk_frozen BK516.out 1;have hfz16_2:=blk_frozen BK516.out 2;have hfz16_3:=blk_frozen BK516.out 3
      go_wp2_with (first|((with_reducible refine gate_callee (f:=22) rfl ?_);refine goesL_ (some 21) rfl rfl Tryd.func22 (by kernel_rfl) rfl #[.agg #[.int .i64 a2_0,.int .i64 a2_1,.string a2_2,.slice A2_3 l2_3.length c2_3]] rfl (by (try simp only [List.map_toArray,List.map_cons,List.map_nil]);first|done|rfl|(simp only [List.length_drop,List.length_take];rfl)|(simp only [gt_iff_lt,Int.ofNat_lt];rfl)) ?_;(with_reducible refine (spinneyref01_Right.calls kj5 a2_0 a2_1 a2_2 _ _ l2_3 true _ ?side1 ?side2 A13.out).mono ?_);(case side1 => repeat (first|exact (Kd.V_reads' HO_517003.out).2.2|(with_reducible refine Kd.C_alloc ?_ _)|(with_reducible refine Kd.C_drewN ?_ _)|(with_reducible refine Kd.C_drew ?_)));(case side2 => exact (Kd.V_reads' HO_517003.out).2.1);rintro e w17 ⟨rfl,hb⟩;refine ⟨_,rfl,?_⟩;replace HO_517003:=ca_v HO_517003 hb;replace BK516:=ca_b BK516 hb;replace BK517:=ca_b BK517 hb;replace HB:=ca_h HB hb;(try clear hb);(try clear hb2);(try clear hk);(try clear hi)))
      go_loopg [8] kj5 (fun kq v8 w' => ∃ (x8_2:Int) (x517000_2:Int) (x517001_2:Int) (x517002_2:ByteArray) (x517003_2:List (S24)) (u517003:Value),v8=.int .i64 x8_2∧Aside0 (spinneyref05_Times.l0 kq a0 a1 x8_2 x517000_2 x517001_2 x517002_2 x517003_2=some (r1,r2,r3,r4,r5))∧Aside0 (kq≤kj5)∧Aside0 (Kd.V k24 24 w' w.heap.size (fun k_ => (P2_3_ k_ ∨ w.heap.size≤k_)∧k_≠gb516∧k_≠gb517) u517003 x517003_2)∧Aside0 (w'.heap[gb516]? = some (.cells #[.int .i64 x517000_2,.int .i64 x517001_2,.string x517002_2,u517003] 24 (0,0)))∧Aside0 (w'.heap[gb517]? = some (.cells #[.int .i64 0,.int .i64 0,.string (⟨#[]⟩:ByteArray),(.slice none 0 0)] 24 (0,0)))∧Aside0 (Below w.heap.size w w'))
      case atStart => exact ⟨(0),(a2_0),(a2_1),(a2_2),(l2_3),(.slice A2_3 l2_3.length c2_3),(by first|rfl|(simp;done)|(simp [*];done)),H',⟨Nat.le_refl _⟩,⟨up_v HO_517003⟩,⟨by (with_reducible repeat (first|refine blk_drewN ?_ _|refine blk_drew ?_|refine blk_alloc ?_ _));exact BK516.out⟩,⟨by (with_reducible repeat (first|refine blk_drewN ?_ _|refine blk_drew ?_|refine blk_alloc ?_ _));exact BK517.out⟩,⟨by repeat (first|(with_reducible first|exact HB.out|apply below_alloc|apply pw_below_drewN|apply below_drew1|refine below_set ?_ GE516.out|refine below_set ?_ GE517.out)|exact HB.out)⟩⟩
      case round =>
       clear H'
       try clear c1
       try clear c2
       try clear p2
       try clear c5
       try clear c9
       try clear c9b0
       try clear c10
       try clear c11
       try clear c14
       try clear c15
       try clear hcz12_0
       try clear hcz12_1
       try clear hcz12_2
       try clear hcz12_3
       try clear hcz16_0
       try clear hcz16_1
       try clear hcz16_2
       try clear hcz16_3
       try clear hfz12_0
       try clear hfz12_1
       try clear hfz12_2
       try clear hfz12_3
       try clear hfz16_0
       try clear hfz16_1
       try clear hfz16_2
       try clear hfz16_3
       try clear p2
       obtain ⟨x8_2,x517000_2,x517001_2,x517002_2,x517003_2,u517003,rfl,HA,HK2,HO_517003,BK516,BK517,HB⟩:=hrel
       cases gk with
       | zero => exact absurd HA.out (by simp [spinneyref05_Times.l0])
       | succ k2 =>
        have H:=HA.out
        clear HA
        simp only [spinneyref05_Times.l0] at H
        by_cases c18:x8_2 < a1
        ·rw [if_pos c18] at H
         have c18b0:decide (x8_2 < a1)=true:=decide_eq_true c18
         clear c18
         replace H:=Option.bind_eq_some_iff.mp H
         obtain ⟨⟨t520,t521,t522,t523⟩,A190,H⟩:=H
         replace H:(spinneyref05_Times.l0 k2 a0 a1 (wrap64 (x8_2+1)) t520 t521 t522 t523)=some (r1,r2,r3,r4,r5):=H
         have A19:=Aside0.mk A190
         clear A190
         have H':=Aside0.mk H
         clear H
         have hnb20:=NB516_517.out
         have hnc20:=NB517_516.out
         have hcz21_0:wr.cell? ⟨gb516,0,none⟩=some (.int .i64 x517000_2):=(blk_cell BK516.out 0).trans rfl;have hcz21_1:wr.cell? ⟨gb516,1,none⟩=some (.int .i64 x517001_2):=(blk_cell BK516.out 1).trans rfl;have hcz21_2:wr.cell? ⟨gb516,2,none⟩=some (.string x517002_2):=(blk_cell BK516.out 2).trans rfl;have hcz21_3:wr.cell? ⟨gb516,3,none⟩=some (u517003):=(blk_cell BK516.out 3).trans rfl;have hfz21_0:=blk_frozen BK516.out 0;have hfz21_1:=blk_frozen BK516.out 1;have hfz21_2:=blk_frozen BK516.out 2;have hfz21_3:=blk_frozen BK516.out 3
         obtain ⟨Ao22,co22,eo22⟩:=Kd.V_slice HO_517003.out
         subst eo22
         go_wp2_with (first|((with_reducible refine gate_callee (f:=31) rfl ?_);refine goesL_ (some 31) rfl rfl Tryd.func31 (by kernel_rfl) rfl #[.int .i64 a0,.agg #[.int .i64 x517000_2,.int .i64 x517001_2,.string x517002_2,.slice Ao22 x517003_2.length co22]] rfl (by (try simp only [List.map_toArray,List.map_cons,List.map_nil]);first|done|rfl|(simp only [List.length_drop,List.length_take];rfl)|(simp only [gt_iff_lt,Int.ofNat_lt];rfl)) ?_;(with_reducible refine (spinneyref05_Done.calls k2 a0 x517000_2 x517001_2 x517002_2 (fun k_ => ((P2_3_ k_ ∨ w.heap.size≤k_)∧(k_≠gb516∧k_≠gb517))) _ _ x517003_2 t520 t521 t522 t523 _ ?side1 A19.out).mono ?_);(case side1 => first|exact HO_517003.out|exact Kd.V_mono HO_517003.out (fun _ hk_ => by simp only [and_assoc] at hk_ ⊢;exact hk_));rintro e w23 ⟨v524,rfl,ho0,hb⟩;refine ⟨_,rfl,?_⟩;have HO525:=Aside0.mk (Kd.V_lower (Kd.V_mono (ok':=fun k_ => (P2_3_ k_ ∨ w.heap.size≤k_)∧k_≠gb516∧k_≠gb517) ho0 (fun k_ hk_ => ⟨Or.elim hk_ (fun hs_ => hs_.1) (fun hn_ => (.inr (Nat.le_trans (below_size (up_h HB)) hn_))),Or.elim hk_ (fun hs_ => hs_.2.1) (fun hn_ => (Kd.freshB (up_b BK516) k_ hn_)),Or.elim hk_ (fun hs_ => hs_.2.2) (fun hn_ => (Kd.freshB (up_b BK517) k_ hn_))⟩)) (below_size (up_h HB)));replace HO_517003:=ca_v HO_517003 hb;replace BK516:=ca_b BK516 hb;replace BK517:=ca_b BK517 hb;replace HB:=ca_h HB hb;(try clear hb);(try clear hb2);(try clear hk);(try clear hi);(try clear ho0);obtain ⟨hcz24_0,hcz24_1,hcz24_2,hcz24_3,hfz24_0,hfz24_1,hfz24_2,hfz24_3⟩:=bk4 BK516;obtain ⟨Ao25,co25,eo25⟩:=Kd.V_slice HO525.out;subst eo25))
         go_roundg k2
         case measure => have:=HJ5.out;have:=HK2.out;omega
         case rel => exact ⟨(wrap64 (x8_2+1)),(t520),(t521),(t522),(t523),(.slice Ao25 t523.length co25),(by first|rfl|(simp;done)|(simp [*];done)),H',⟨by have:=HJ5.out;have:=HK2.out;omega⟩,⟨by (with_reducible repeat (first|apply Kd.V_alloc|apply Kd.V_drewN|apply Kd.V_drew));exact Kd.V_mono (fa4_v HO525 (fun _ hk => hk.2.1)) (fun _ hk => ⟨hk.1.1,⟨hk.1.2.1,hk.1.2.2⟩⟩)⟩,⟨pu4 BK516⟩,⟨sb_b BK517 NB517_516⟩,⟨by repeat (first|(with_reducible first|exact HB.out|apply below_alloc|apply pw_below_drewN|apply below_drew1|refine below_set ?_ GE516.out|refine below_set ?_ GE517.out)|exact HB.out)⟩⟩
        ·rw [if_neg c18] at H
         have c18b0:decide (x8_2 < a1)=false:=decide_eq_false c18
         clear c18
         simp only [Option.some.injEq,Prod.mk.injEq] at H
         obtain ⟨rfl,rfl,rfl,rfl,rfl⟩:=H
         have hnb26:=NB516_517.out
         have hnc26:=NB517_516.out
         have hcz27_0:wr.cell? ⟨gb516,0,none⟩=some (.int .i64 x517000_2):=(blk_cell BK516.out 0).trans rfl;have hcz27_1:wr.cell? ⟨gb516,1,none⟩=some (.int .i64 x517001_2):=(blk_cell BK516.out 1).trans rfl;have hcz27_2:wr.cell? ⟨gb516,2,none⟩=some (.string x517002_2):=(blk_cell BK516.out 2).trans rfl;have hcz27_3:wr.cell? ⟨gb516,3,none⟩=some (u517003):=(blk_cell BK516.out 3).trans rfl;have hfz27_0:=blk_frozen BK516.out 0;have hfz27_1:=blk_frozen BK516.out 1;have hfz27_2:=blk_frozen BK516.out 2;have hfz27_3:=blk_frozen BK516.out 3;have hcz28_0:wr.cell? ⟨gb517,0,none⟩=some (.int .i64 0):=(blk_cell BK517.out 0).trans rfl;have hcz28_1:wr.cell? ⟨gb517,1,none⟩=some (.int .i64 0):=(blk_cell BK517.out 1).trans rfl;have hcz28_2:wr.cell? ⟨gb517,2,none⟩=some (.string (⟨#[]⟩:ByteArray)):=(blk_cell BK517.out 2).trans rfl;have hcz28_3:wr.cell? ⟨gb517,3,none⟩=some (.slice none 0 0):=(blk_cell BK517.out 3).trans rfl;have hfz28_0:=blk_frozen BK517.out 0;have hfz28_1:=blk_frozen BK517.out 1;have hfz28_2:=blk_frozen BK517.out 2;have hfz28_3:=blk_frozen BK517.out 3
         obtain ⟨Ao29,co29,eo29⟩:=Kd.V_slice HO_517003.out
         subst eo29
         go_wp2
         refine bodyPost_ret (results_ct rfl _ _ gb517 24 #[.int .i64 x517000_2,.int .i64 x517001_2,.string x517002_2,.slice Ao29 x517003_2.length co29] (0,0) _ rfl (pu4 BK517) Tryd.underlying24 rfl (by kernel_rfl)) rfl ?_
         exact ⟨_,by first|rfl|(simp [errW_none,errW_some] <;> rfl)|(simp [*,errW_none,errW_some] <;> rfl),by (with_reducible repeat (first|apply Kd.V_alloc|apply Kd.V_drewN|apply Kd.V_drew));exact Kd.V_mono (fa4_v HO_517003 (fun _ hk => hk.2.2)) (fun _ hk => hk.1.1),by repeat (first|(with_reducible first|exact HB.out|apply below_alloc|apply pw_below_drewN|apply below_drew1|refine below_set ?_ GE516.out|refine below_set ?_ GE517.out)|exact HB.out)⟩
     ·replace c14:=Bool.eq_false_iff.mpr c14
      subst c14
      have H1:(some (0,0,(⟨#[]⟩:ByteArray),([]:List (S24)),3))=some (r1,r2,r3,r4,r5):=by rw [if_neg (show ¬ (false=true) by decide)] at H;exact H
      clear H
      have H:=H1
      clear H1
      simp only [Option.some.injEq,Prod.mk.injEq] at H
      obtain ⟨rfl,rfl,rfl,rfl,rfl⟩:=H
      have hnb30:=NB516_517.out
      have hnc30:=NB517_516.out
      have hcz31_0:wc.cell? ⟨gb516,0,none⟩=some (.int .i64 a2_0):=(blk_cell BK516.out 0).trans rfl;have hcz31_1:wc.cell? ⟨gb516,1,none⟩=some (.int .i64 a2_1):=(blk_cell BK516.out 1).trans rfl;have hcz31_2:wc.cell? ⟨gb516,2,none⟩=some (.string a2_2):=(blk_cell BK516.out 2).trans rfl;have hcz31_3:wc.cell? ⟨gb516,3,none⟩=some (.slice A2_3 l2_3.length c2_3):=(blk_cell BK516.out 3).trans rfl;have hfz31_0:=blk_frozen BK516.out 0;have hfz31_1:=blk_frozen BK516.out 1;have hfz31_2:=blk_frozen BK516.out 2;have hfz31_3:=blk_frozen BK516.out 3
      go_wp2_with (first|((with_reducible refine gate_callee (f:=22) rfl ?_);refine goesL_ (some 21) rfl rfl Tryd.func22 (by kernel_rfl) rfl #[.agg #[.int .i64 a2_0,.int .i64 a2_1,.string a2_2,.slice A2_3 l2_3.length c2_3]] rfl (by (try simp only [List.map_toArray,List.map_cons,List.map_nil]);first|done|rfl|(simp only [List.length_drop,List.length_take];rfl)|(simp only [gt_iff_lt,Int.ofNat_lt];rfl)) ?_;(with_reducible refine (spinneyref01_Right.calls kj5 a2_0 a2_1 a2_2 _ _ l2_3 false _ ?side1 ?side2 A13.out).mono ?_);(case side1 => repeat (first|exact (Kd.V_reads' HO_517003.out).2.2|(with_reducible refine Kd.C_alloc ?_ _)|(with_reducible refine Kd.C_drewN ?_ _)|(with_reducible refine Kd.C_drew ?_)));(case side2 => exact (Kd.V_reads' HO_517003.out).2.1);rintro e w32 ⟨rfl,hb⟩;refine ⟨_,rfl,?_⟩;replace HO_517003:=ca_v HO_517003 hb;replace BK516:=ca_b BK516 hb;replace BK517:=ca_b BK517 hb;replace HB:=ca_h HB hb;(try clear hb);(try clear hb2);(try clear hk);(try clear hi);obtain ⟨hcz33_0,hcz33_1,hcz33_2,hcz33_3,hfz33_0,hfz33_1,hfz33_2,hfz33_3⟩:=bk4 BK517))
      refine bodyPost_ret (results_ct rfl _ _ gb517 24 #[.int .i64 0,.int .i64 0,.string (⟨#[]⟩:ByteArray),.slice none 0 0] (0,0) _ rfl (pu4 BK517) Tryd.underlying24 rfl (by kernel_rfl)) rfl ?_
      exact ⟨_,by first|rfl|(simp [errW_none,errW_some] <;> rfl)|(simp [*,errW_none,errW_some] <;> rfl),Kd.V_nil _ _ _ _ _,by repeat (first|(with_reducible first|exact HB.out|apply below_alloc|apply pw_below_drewN|apply below_drew1|refine below_set ?_ GE516.out|refine below_set ?_ GE517.out)|exact HB.out)⟩
 ·replace c5:=Bool.eq_false_iff.mpr c5
  subst c5
  have H1:(some (0,0,(⟨#[]⟩:ByteArray),([]:List (S24)),4))=some (r1,r2,r3,r4,r5):=by rw [if_neg (show ¬ (false=true) by decide)] at H;exact H
  clear H
  have H:=H1
  clear H1
  simp only [Option.some.injEq,Prod.mk.injEq] at H
  obtain ⟨rfl,rfl,rfl,rfl,rfl⟩:=H
  go_enter Tryd.func18,Tryd.ntmps18
  go_wp2_with (first|((with_reducible refine gate_dst (N:=5) rfl ?_);refine box_event ?hg (N:=5) ?hd (cs:=#[.int .i64 a2_0,.int .i64 a2_1,.string a2_2,.slice A2_3 l2_3.length c2_3]) (t:=24) ?hr ?_;(case hd => rfl);(case hg => rfl);(case hr => first|(go_simp;done)|(go_simp;rfl));intro gb516 hg w34 hbox hb;have BK516:=Aside0.mk (hbox);have GW516:=bx_g (up_h HB) hg;have GE516:=bx_g (up_h HB) hg;replace HO2_3:=bx_v HO2_3 hg hb;replace HB:=ca_h HB hb;clear hb hbox hg)|((with_reducible refine gate_dst (N:=6) rfl ?_);refine box_event ?hg (N:=6) ?hd (cs:=#[.int .i64 0,.int .i64 0,.string (⟨#[]⟩:ByteArray),.slice none 0 0]) (t:=24) ?hr ?_;(case hd => rfl);(case hg => rfl);(case hr => first|(go_simp;done)|(go_simp;rfl));intro gb517 hg w35 hbox hb;have BK517:=Aside0.mk (hbox);have GW517:=bx_g (up_h HB) hg;have GE517:=bx_g (up_h HB) hg;have NB516_517:=bx_n (up_b BK516) hg;have NB517_516:=bx_m (up_b BK516) hg;replace HO2_3:=bx_v HO2_3 hg hb;replace BK516:=ca_b BK516 hb;replace HB:=ca_h HB hb;clear hb hbox hg)|((with_reducible refine gate_callee (f:=21) rfl ?_);refine goesL_ (some 10) rfl rfl Tryd.func21 (by kernel_rfl) rfl #[.int .i64 a0] rfl (by (try simp only [List.map_toArray,List.map_cons,List.map_nil]);first|done|rfl|(simp only [List.length_drop,List.length_take];rfl)|(simp only [gt_iff_lt,Int.ofNat_lt];rfl)) ?_;(with_reducible refine (spinneyref05_Kind.calls a0 false _ A4.out).mono ?_);rintro e w' ⟨rfl,⟨nd,rfl⟩⟩;refine ⟨_,rfl,?_⟩;(try (rw [drewN_self w35];generalize hq_:World.drewN w35 _=w35;have n0_:Aside0 (Kd.V k24 24 w35 w.heap.size (fun k_ => (P2_3_ k_ ∨ w.heap.size≤k_)∧k_≠gb516∧k_≠gb517) (.slice A2_3 l2_3.length c2_3) l2_3):=⟨by rw [← hq_];exact (by (with_reducible repeat (first|apply Kd.V_alloc|apply Kd.V_drewN|apply Kd.V_drew));exact Kd.V_mono HO2_3.out (fun _ hk => ⟨hk.1.1,⟨hk.1.2,hk.2⟩⟩))⟩;have n1_:Aside0 (w35.heap[gb516]? = some (.cells #[.int .i64 a2_0,.int .i64 a2_1,.string a2_2,.slice A2_3 l2_3.length c2_3] 24 (0,0))):=⟨by rw [← hq_];exact (up_b BK516)⟩;have n2_:Aside0 (w35.heap[gb517]? = some (.cells #[.int .i64 0,.int .i64 0,.string (⟨#[]⟩:ByteArray),.slice none 0 0] 24 (0,0))):=⟨by rw [← hq_];exact (up_b BK517)⟩;have n3_:Aside0 (Below w.heap.size w w35):=⟨by rw [← hq_];exact (up_h HB)⟩;clear HO2_3 BK516 BK517 HB hq_;have HO2_3:=n0_;have BK516:=n1_;have BK517:=n2_;have HB:=n3_;clear n0_ n1_ n2_ n3_));have hnb36:=NB517_516.out;have hnc36:=NB516_517.out;obtain ⟨hcz37_0,hcz37_1,hcz37_2,hcz37_3,hfz37_0,hfz37_1,hfz37_2,hfz37_3⟩:=bk4 BK517))
  refine bodyPost_ret (results_ct rfl _ _ gb517 24 #[.int .i64 0,.int .i64 0,.string (⟨#[]⟩:ByteArray),.slice none 0 0] (0,0) _ rfl (pu4 BK517) Tryd.underlying24 rfl (by kernel_rfl)) rfl ?_
  exact ⟨_,by first|rfl|(simp [errW_none,errW_some] <;> rfl)|(simp [*,errW_none,errW_some] <;> rfl),Kd.V_nil _ _ _ _ _,by repeat (first|(with_reducible first|exact HB.out|apply below_alloc|apply pw_below_drewN|apply below_drew1|refine below_set ?_ GE516.out|refine below_set ?_ GE517.out)|exact HB.out)⟩

def spinneylaw05_FnsOne.f (k:Nat) (a0:Int) (a1:Int) (a2_0:Int) (a2_1:Int) (a2_2:ByteArray) (l2_3:List (S24)):Option (Bool):=(fns_One.f k a0 a2_0 a2_1 a2_2 l2_3).bind fun bt527 => ((spinneyref05_One.f k a0 a2_0 a2_1 a2_2 l2_3).bind fun bt535 => ((fns_Times.f k a0 a1 a2_0 a2_1 a2_2 l2_3).bind fun bt543 => ((spinneyref05_Times.f k a0 a1 a2_0 a2_1 a2_2 l2_3).bind fun bt551 => ((spinneyplain_Value.f k bt527.1 bt527.2.1 bt527.2.2.1 bt527.2.2.2.1 bt535.1 bt535.2.1 bt535.2.2.1 bt535.2.2.2.1).bind fun t559 => (if t559=true then (if bt527.2.2.2.2=bt535.2.2.2.2 then ((spinneyplain_Value.f k bt543.1 bt543.2.1 bt543.2.2.1 bt543.2.2.2.1 bt551.1 bt551.2.1 bt551.2.2.1 bt551.2.2.2.1).bind fun t560 => (if t560=true then (if bt543.2.2.2.2=bt551.2.2.2.2 then ((spinneylaw05_speaks.f k).bind fun t561 => (some t561)) else (none)) else (none))) else (none)) else (none))))))
set_option maxHeartbeats 8000000 in
set_option maxRecDepth 100000 in
theorem spinneylaw05_FnsOne.calls (k:Nat) (a0:Int) (a1:Int) (a2_0:Int) (a2_1:Int) (a2_2:ByteArray) (A2_3:Option Addr) (c2_3:Nat) (l2_3:List (S24)) (r:Bool) (w:World) (hL:LaidW w) (hr2_3:Kd.C k24 w A2_3 l2_3.length l2_3) (hc2_3:l2_3.length≤c2_3) (h:spinneylaw05_FnsOne.f k a0 a1 a2_0 a2_1 a2_2 l2_3=some r) :
  Calls Tryd.prog 6 #[.int .i64 a0,.int .i64 a1,.agg #[.int .i64 a2_0,.int .i64 a2_1,.string a2_2,.slice A2_3 l2_3.length c2_3]] w fun e w' => e=.returned (.bool r)∧Below w.heap.size w w':=by
 have hu24:=Tryd.underlying24
 have HR2_3:=Aside0.mk hr2_3
 have HC2_3:=Aside0.mk hc2_3
 clear hr2_3 hc2_3
 have HLT:=Aside0.mk hL
 clear hL
 have HB:=Aside0.mk (Below.refl w.heap.size w)
 have H:((fns_One.f k a0 a2_0 a2_1 a2_2 l2_3).bind fun bt527 => ((spinneyref05_One.f k a0 a2_0 a2_1 a2_2 l2_3).bind fun bt535 => ((fns_Times.f k a0 a1 a2_0 a2_1 a2_2 l2_3).bind fun bt543 => ((spinneyref05_Times.f k a0 a1 a2_0 a2_1 a2_2 l2_3).bind fun bt551 => ((spinneyplain_Value.f k bt527.1 bt527.2.1 bt527.2.2.1 bt527.2.2.2.1 bt535.1 bt535.2.1 bt535.2.2.1 bt535.2.2.2.1).bind fun t559 => (if t559=true then (if bt527.2.2.2.2=bt535.2.2.2.2 then ((spinneyplain_Value.f k bt543.1 bt543.2.1 bt543.2.2.1 bt543.2.2.2.1 bt551.1 bt551.2.1 bt551.2.2.1 bt551.2.2.2.1).bind fun t560 => (if t560=true then (if bt543.2.2.2.2=bt551.2.2.2.2 then ((spinneylaw05_speaks.f k).bind fun t561 => (some t561)) else (none)) else (none))) else (none)) else (none)))))))=some r:=h
 clear h
 replace H:=Option.bind_eq_some_iff.mp H
 obtain ⟨⟨t527,t528,t529,t530,t533⟩,A40,H⟩:=H
 replace H:((spinneyref05_One.f k a0 a2_0 a2_1 a2_2 l2_3).bind fun bt535 => ((fns_Times.f k a0 a1 a2_0 a2_1 a2_2 l2_3).bind fun bt543 => ((spinneyref05_Times.f k a0 a1 a2_0 a2_1 a2_2 l2_3).bind fun bt551 => ((spinneyplain_Value.f k t527 t528 t529 t530 bt535.1 bt535.2.1 bt535.2.2.1 bt535.2.2.2.1).bind fun t559 => (if t559=true then (if t533=bt535.2.2.2.2 then ((spinneyplain_Value.f k bt543.1 bt543.2.1 bt543.2.2.1 bt543.2.2.2.1 bt551.1 bt551.2.1 bt551.2.2.1 bt551.2.2.2.1).bind fun t560 => (if t560=true then (if bt543.2.2.2.2=bt551.2.2.2.2 then ((spinneylaw05_speaks.f k).bind fun t561 => (some t561)) else (none)) else (none))) else (none)) else (none))))))=some r:=H
 have A4:=Aside0.mk A40
 clear A40
 replace H:=Option.bind_eq_some_iff.mp H
 obtain ⟨⟨t535,t536,t537,t538,t541⟩,A50,H⟩:=H
 replace H:((fns_Times.f k a0 a1 a2_0 a2_1 a2_2 l2_3).bind fun bt543 => ((spinneyref05_Times.f k a0 a1 a2_0 a2_1 a2_2 l2_3).bind fun bt551 => ((spinneyplain_Value.f k t527 t528 t529 t530 t535 t536 t537 t538).bind fun t559 => (if t559=true then (if t533=t541 then ((spinneyplain_Value.f k bt543.1 bt543.2.1 bt543.2.2.1 bt543.2.2.2.1 bt551.1 bt551.2.1 bt551.2.2.1 bt551.2.2.2.1).bind fun t560 => (if t560=true then (if bt543.2.2.2.2=bt551.2.2.2.2 then ((spinneylaw05_speaks.f k).bind fun t561 => (some t561)) else (none)) else (none))) else (none)) else (none)))))=some r:=H
 have A5:=Aside0.mk A50
 clear A50
 replace H:=Option.bind_eq_some_iff.mp H
 obtain ⟨⟨t543,t544,t545,t546,t549⟩,A60,H⟩:=H
 replace H:((spinneyref05_Times.f k a0 a1 a2_0 a2_1 a2_2 l2_3).bind fun bt551 => ((spinneyplain_Value.f k t527 t528 t529 t530 t535 t536 t537 t538).bind fun t559 => (if t559=true then (if t533=t541 then ((spinneyplain_Value.f k t543 t544 t545 t546 bt551.1 bt551.2.1 bt551.2.2.1 bt551.2.2.2.1).bind fun t560 => (if t560=true then (if t549=bt551.2.2.2.2 then ((spinneylaw05_speaks.f k).bind fun t561 => (some t561)) else (none)) else (none))) else (none)) else (none))))=some r:=H
 have A6:=Aside0.mk A60
 clear A60
 replace H:=Option.bind_eq_some_iff.mp H
 obtain ⟨⟨t551,t552,t553,t554,t557⟩,A70,H⟩:=H
 replace H:((spinneyplain_Value.f k t527 t528 t529 t530 t535 t536 t537 t538).bind fun t559 => (if t559=true then (if t533=t541 then ((spinneyplain_Value.f k t543 t544 t545 t546 t551 t552 t553 t554).bind fun t560 => (if t560=true then (if t549=t557 then ((spinneylaw05_speaks.f k).bind fun t561 => (some t561)) else (none)) else (none))) else (none)) else (none)))=some r:=H
 have A7:=Aside0.mk A70
 clear A70
 replace H:=Option.bind_eq_some_iff.mp H
 obtain ⟨t559,A80,H⟩:=H
 replace H:(if t559=true then (if t533=t541 then ((spinneyplain_Value.f k t543 t544 t545 t546 t551 t552 t553 t554).bind fun t560 => (if t560=true then (if t549=t557 then ((spinneylaw05_speaks.f k).bind fun t561 => (some t561)) else (none)) else (none))) else (none)) else (none))=some r:=H
 have A8:=Aside0.mk A80
 clear A80
 by_cases c9:t559=true
 ·subst c9
  have H1:(if t533=t541 then ((spinneyplain_Value.f k t543 t544 t545 t546 t551 t552 t553 t554).bind fun t560 => (if t560=true then (if t549=t557 then ((spinneylaw05_speaks.f k).bind fun t561 => (some t561)) else (none)) else (none))) else (none))=some r:=by rw [if_pos rfl] at H;exact H
  clear H
  have H:=H1
  clear H1
  by_cases c10:t533=t541
  ·rw [if_pos c10] at H
   have c10b0:(t533 == t541)=true:=beq_iff_eq.mpr c10
   have c10b1:(t533 != t541)=false:=bne_eq_false_iff_eq.mpr c10
   clear c10
   replace H:=Option.bind_eq_some_iff.mp H
   obtain ⟨t560,A110,H⟩:=H
   replace H:(if t560=true then (if t549=t557 then ((spinneylaw05_speaks.f k).bind fun t561 => (some t561)) else (none)) else (none))=some r:=H
   have A11:=Aside0.mk A110
   clear A110
   by_cases c12:t560=true
   ·subst c12
    have H1:(if t549=t557 then ((spinneylaw05_speaks.f k).bind fun t561 => (some t561)) else (none))=some r:=by rw [if_pos rfl] at H;exact H
    clear H
    have H:=H1
    clear H1
    by_cases c13:t549=t557
    ·rw [if_pos c13] at H
     have c13b0:(t549 == t557)=true:=beq_iff_eq.mpr c13
     have c13b1:(t549 != t557)=false:=bne_eq_false_iff_eq.mpr c13
     clear c13
     replace H:=Option.bind_eq_some_iff.mp H
     obtain ⟨t561,A140,H⟩:=H
     replace H:(some t561)=some r:=H
     have A14:=Aside0.mk A140
     clear A140
     obtain rfl:=Option.some.inj H
     go_enter Tryd.func6,Tryd.ntmps6
     go_wp2_with (first|((with_reducible refine gate_dst (N:=5) rfl ?_);refine box_event ?hg (N:=5) ?hd (cs:=#[.int .i64 a2_0,.int .i64 a2_1,.string a2_2,.slice A2_3 l2_3.length c2_3]) (t:=24) ?hr ?_;(case hd => rfl);(case hg => rfl);(case hr => first|(go_simp;done)|(go_simp;rfl));intro gb526 hg w15 hbox hb;have BK526:=Aside0.mk (hbox);have GW526:=bx_g (up_h HB) hg;have GE526:=bx_g (up_h HB) hg;replace HB:=ca_h HB hb;clear hb hbox hg;obtain ⟨hcz16_0,hcz16_1,hcz16_2,hcz16_3,hfz16_0,hfz16_1,hfz16_2,hfz16_3⟩:=bk4 BK526)|((with_reducible refine gate_callee (f:=14) rfl ?_);refine goesL_ (some 18) rfl rfl Tryd.func14 (by kernel_rfl) rfl #[.int .i64 a0,.agg #[.int .i64 a2_0,.int .i64 a2_1,.string a2_2,.slice A2_3 l2_3.length c2_3]] rfl (by (try simp only [List.map_toArray,List.map_cons,List.map_nil]);first|done|rfl|(simp only [List.length_drop,List.length_take];rfl)|(simp only [gt_iff_lt,Int.ofNat_lt];rfl)) ?_;(with_reducible refine (fns_One.calls k a0 a2_0 a2_1 a2_2 _ _ l2_3 t527 t528 t529 t530 t533 _ ?side1 ?side2 ?side3 A4.out).mono ?_);(case side1 => exact LaidW.below HLT.out (up_h HB));(case side2 => repeat (first|exact (Kd.C_below HR2_3.out HB.out)|(with_reducible refine Kd.C_alloc ?_ _)|(with_reducible refine Kd.C_drewN ?_ _)|(with_reducible refine Kd.C_drew ?_)));(case side3 => exact HC2_3.out);rintro e w17 ⟨v531,rfl,ho0,hb⟩;refine ⟨_,rfl,?_⟩;have HO532:=Aside0.mk (Kd.R_lower (Kd.R_newB ho0 (g:=gb526) (o:=.cells #[.int .i64 a2_0,.int .i64 a2_1,.string a2_2,.slice A2_3 l2_3.length c2_3] 24 (0,0)) (up_b BK526)) (below_size (up_h HB)));replace BK526:=ca_b BK526 hb;replace HB:=ca_h HB hb;(try clear hb);(try clear hb2);(try clear hk);(try clear hi);(try clear ho0))|((with_reducible refine gate_dst (N:=7) rfl ?_);refine box_event ?hg (N:=7) ?hd (cs:=#[.int .i64 0,.int .i64 0,.string (⟨#[]⟩:ByteArray),.slice none 0 0]) (t:=24) ?hr ?_;(case hd => rfl);(case hg => rfl);(case hr => first|(go_simp;done)|(go_simp;rfl));intro gb534 hg w18 hbox hb;have BK534:=Aside0.mk (hbox);have GW534:=bx_g (up_h HB) hg;have GE534:=bx_g (up_h HB) hg;have NB526_534:=bx_n (up_b BK526) hg;have NB534_526:=bx_m (up_b BK526) hg;replace HO532:=Aside0.mk (Kd.R_below (Kd.R_elderB (up_r HO532) gb534 (Nat.le_of_eq hg.symm)) hb);replace BK526:=ca_b BK526 hb;replace HB:=ca_h HB hb;clear hb hbox hg;have hnb19:=NB534_526.out;have hnc19:=NB526_534.out;obtain ⟨hcz20_0,hcz20_1,hcz20_2,hcz20_3,hfz20_0,hfz20_1,hfz20_2,hfz20_3⟩:=bk4 BK534;obtain ⟨Ao21,co21,eo21⟩:=Kd.R_slice HO532.out;subst eo21)|((with_reducible refine gate_store (t:=24) (p:=7) rfl ?_);refine store_event (t:=24) (p:=7) (v:=?vo_w22) (w1:=((((w18.setCell ⟨gb534,0,none⟩ (.int .i64 t527)).setCell ⟨gb534,1,none⟩ (.int .i64 t528)).setCell ⟨gb534,2,none⟩ (.string t529)).setCell ⟨gb534,3,none⟩ (.slice Ao21 t530.length co21))) ?hg ?ho ?hn ?hr ?_;(case ho => rfl);(case hg => rfl);(case hn => rfl);(case hr => first|(go_simp;done)|(go_simp;rfl));intro w22 hw;have n0_:Aside0 (Kd.R k24 24 w22 w.heap.size (fun k_ => k_≠gb526∧k_≠gb534) (.slice Ao21 t530.length co21) t530):=⟨(by rw [hw];exact (by (with_reducible repeat (first|apply Kd.R_alloc|apply Kd.R_drewN|apply Kd.R_drew));exact Kd.R_mono (fa4_r HO532 (fun _ hk => hk.2)) (fun _ hk => ⟨hk.1.1.2,hk.1.2⟩)))⟩;have n1_:Aside0 (w22.heap[gb526]? = some (.cells #[.int .i64 a2_0,.int .i64 a2_1,.string a2_2,.slice A2_3 l2_3.length c2_3] 24 (0,0))):=⟨(by rw [hw];exact (sb_b BK526 NB526_534))⟩;have n2_:Aside0 (w22.heap[gb534]? = some (.cells #[.int .i64 t527,.int .i64 t528,.string t529,.slice Ao21 t530.length co21] 24 (0,0))):=⟨(by rw [hw];exact (pu4 BK534))⟩;have n3_:Aside0 (Below w.heap.size w w22):=⟨(by rw [hw];exact (sb_h HB GE534))⟩;clear hw;clear HO532;clear BK526;clear BK534;clear HB;have HO532:=n0_;have BK526:=n1_;have BK534:=n2_;have HB:=n3_;clear n0_ n1_ n2_ n3_;obtain ⟨hcz23_0,hcz23_1,hcz23_2,hcz23_3,hfz23_0,hfz23_1,hfz23_2,hfz23_3⟩:=bk4 BK526)|((with_reducible refine gate_callee (f:=16) rfl ?_);refine goesL_ (some 24) rfl rfl Tryd.func16 (by kernel_rfl) rfl #[.int .i64 a0,.agg #[.int .i64 a2_0,.int .i64 a2_1,.string a2_2,.slice A2_3 l2_3.length c2_3]] rfl (by (try simp only [List.map_toArray,List.map_cons,List.map_nil]);first|done|rfl|(simp only [List.length_drop,List.length_take];rfl)|(simp only [gt_iff_lt,Int.ofNat_lt];rfl)) ?_;(with_reducible refine (spinneyref05_One.calls k a0 a2_0 a2_1 a2_2 (fun k_ => k_ < w.heap.size) _ _ l2_3 t535 t536 t537 t538 t541 _ ?side1 A5.out).mono ?_);(case side1 => exact Kd.V_mk HC2_3.out (Kd.F_below (Kd.C_F k24_heap HR2_3.out) (up_h HB)));rintro e w24 ⟨v539,rfl,ho0,hb⟩;refine ⟨_,rfl,?_⟩;have HO540:=Aside0.mk (Kd.V_lower (Kd.V_mono (ok':=fun k_ => some k_≠(.slice Ao21 t530.length co21:Value).ownBlock∧k_≠gb526∧k_≠gb534) ho0 (fun k_ hk_ => ⟨Or.elim hk_ (fun hs_ => fun e_ => Nat.not_le.2 hs_ (Kd.R_base HO532.out k_ e_.symm)) (fun hn_ => (Kd.fresh' (Kd.R_lt (up_r HO532)) k_ hn_)),Or.elim hk_ (fun hs_ => fun e_ => Nat.not_le.2 hs_ (by rw [e_];exact GW526.out)) (fun hn_ => (Kd.freshB (up_b BK526) k_ hn_)),Or.elim hk_ (fun hs_ => fun e_ => Nat.not_le.2 hs_ (by rw [e_];exact GW534.out)) (fun hn_ => (Kd.freshB (up_b BK534) k_ hn_))⟩)) (below_size (up_h HB)));replace HO532:=ca_r HO532 hb;replace BK526:=ca_b BK526 hb;replace BK534:=ca_b BK534 hb;replace HB:=ca_h HB hb;(try clear hb);(try clear hb2);(try clear hk);(try clear hi);(try clear ho0))|((with_reducible refine gate_dst (N:=9) rfl ?_);refine box_event ?hg (N:=9) ?hd (cs:=#[.int .i64 0,.int .i64 0,.string (⟨#[]⟩:ByteArray),.slice none 0 0]) (t:=24) ?hr ?_;(case hd => rfl);(case hg => rfl);(case hr => first|(go_simp;done)|(go_simp;rfl));intro gb542 hg w25 hbox hb;have BK542:=Aside0.mk (hbox);have GW542:=bx_g (up_h HB) hg;have GE542:=bx_g (up_h HB) hg;have NB526_542:=bx_n (up_b BK526) hg;have NB542_526:=bx_m (up_b BK526) hg;have NB534_542:=bx_n (up_b BK534) hg;have NB542_534:=bx_m (up_b BK534) hg;replace HO532:=Aside0.mk (Kd.R_below (Kd.R_elderB (up_r HO532) gb542 (Nat.le_of_eq hg.symm)) hb);replace HO540:=bx_v HO540 hg hb;replace BK526:=ca_b BK526 hb;replace BK534:=ca_b BK534 hb;replace HB:=ca_h HB hb;clear hb hbox hg;have hnb26:=NB542_526.out;have hnc26:=NB526_542.out;have hnb27:=NB542_534.out;have hnc27:=NB534_542.out;obtain ⟨hcz28_0,hcz28_1,hcz28_2,hcz28_3,hfz28_0,hfz28_1,hfz28_2,hfz28_3⟩:=bk4 BK542;obtain ⟨Ao29,co29,eo29⟩:=Kd.V_slice HO540.out;subst eo29;obtain ⟨hcz30_0,hcz30_1,hcz30_2,hcz30_3,hfz30_0,hfz30_1,hfz30_2,hfz30_3⟩:=bk4 BK526)|((with_reducible refine gate_callee (f:=17) rfl ?_);refine goesL_ (some 31) rfl rfl Tryd.func17 (by kernel_rfl) rfl #[.int .i64 a0,.int .i64 a1,.agg #[.int .i64 a2_0,.int .i64 a2_1,.string a2_2,.slice A2_3 l2_3.length c2_3]] rfl (by (try simp only [List.map_toArray,List.map_cons,List.map_nil]);first|done|rfl|(simp only [List.length_drop,List.length_take];rfl)|(simp only [gt_iff_lt,Int.ofNat_lt];rfl)) ?_;(with_reducible refine (fns_Times.calls k a0 a1 a2_0 a2_1 a2_2 _ _ l2_3 t543 t544 t545 t546 t549 _ ?side1 ?side2 ?side3 A6.out).mono ?_);(case side1 => exact LaidW.below HLT.out (sb_h HB GE542));(case side2 => exact Kd.C_below HR2_3.out (sb_h HB GE542));(case side3 => exact HC2_3.out);rintro e w31 ⟨v547,rfl,ho0,hb⟩;refine ⟨_,rfl,?_⟩;have HO548:=Aside0.mk (Kd.R_lower (Kd.R_newB (Kd.R_newB (Kd.R_newB (Kd.R_new' ho0 (Kd.R_lt (by (with_reducible repeat (first|apply Kd.R_alloc|apply Kd.R_drewN|apply Kd.R_drew));exact (Kd.R_mono (fa4_r HO532 (fun _ hk => hk.2)) (fun _ h_ => h_.1))))) (g:=gb526) (o:=.cells #[.int .i64 a2_0,.int .i64 a2_1,.string a2_2,.slice A2_3 l2_3.length c2_3] 24 (0,0)) (sb_b BK526 NB526_542)) (g:=gb534) (o:=.cells #[.int .i64 t527,.int .i64 t528,.string t529,.slice Ao21 t530.length co21] 24 (0,0)) (sb_b BK534 NB534_542)) (g:=gb542) (o:=.cells #[.int .i64 t535,.int .i64 t536,.string t537,.slice Ao29 t538.length co29] 24 (0,0)) (pu4 BK542)) (below_size (sb_h HB GE542)));replace HO532:=Aside0.mk (Kd.R_elder' (by (with_reducible repeat (first|apply Kd.R_alloc|apply Kd.R_drewN|apply Kd.R_drew));exact (Kd.R_mono (fa4_r HO532 (fun _ hk => hk.2)) (fun _ h_ => h_.1))) (Kd.R_base ho0) hb);replace HO540:=Aside0.mk (Kd.V_elder' (by (with_reducible repeat (first|apply Kd.V_alloc|apply Kd.V_drewN|apply Kd.V_drew));exact (Kd.V_mono (fa4_v HO540 (fun _ hk => hk.2)) (fun _ h_ => h_.1))) (Kd.R_base ho0) hb);replace BK526:=cs_b BK526 NB526_542 hb;replace BK534:=cs_b BK534 NB534_542 hb;replace BK542:=Aside0.mk (blk_below (g:=gb542) (o:=.cells #[.int .i64 t535,.int .i64 t536,.string t537,.slice Ao29 t538.length co29] 24 (0,0)) (pu4 BK542) hb);replace HB:=cs_h HB GE542 hb;(try clear hb);(try clear hb2);(try clear hk);(try clear hi);(try clear ho0))|((with_reducible refine gate_dst (N:=11) rfl ?_);refine box_event ?hg (N:=11) ?hd (cs:=#[.int .i64 0,.int .i64 0,.string (⟨#[]⟩:ByteArray),.slice none 0 0]) (t:=24) ?hr ?_;(case hd => rfl);(case hg => rfl);(case hr => first|(go_simp;done)|(go_simp;rfl));intro gb550 hg w32 hbox hb;have BK550:=Aside0.mk (hbox);have GW550:=bx_g (up_h HB) hg;have GE550:=bx_g (up_h HB) hg;have NB526_550:=bx_n (up_b BK526) hg;have NB550_526:=bx_m (up_b BK526) hg;have NB534_550:=bx_n (up_b BK534) hg;have NB550_534:=bx_m (up_b BK534) hg;have NB542_550:=bx_n (up_b BK542) hg;have NB550_542:=bx_m (up_b BK542) hg;replace HO532:=Aside0.mk (Kd.R_below (Kd.R_elderB (up_r HO532) gb550 (Nat.le_of_eq hg.symm)) hb);replace HO540:=bx_v HO540 hg hb;replace HO548:=Aside0.mk (Kd.R_below (Kd.R_elderB (up_r HO548) gb550 (Nat.le_of_eq hg.symm)) hb);replace BK526:=ca_b BK526 hb;replace BK534:=ca_b BK534 hb;replace BK542:=ca_b BK542 hb;replace HB:=ca_h HB hb;clear hb hbox hg;have hnb33:=NB550_526.out;have hnc33:=NB526_550.out;have hnb34:=NB550_534.out;have hnc34:=NB534_550.out;have hnb35:=NB550_542.out;have hnc35:=NB542_550.out;obtain ⟨hcz36_0,hcz36_1,hcz36_2,hcz36_3,hfz36_0,hfz36_1,hfz36_2,hfz36_3⟩:=bk4 BK550;obtain ⟨Ao37,co37,eo37⟩:=Kd.R_slice HO548.out;subst eo37)|((with_reducible refine gate_store (t:=24) (p:=11) rfl ?_);refine store_event (t:=24) (p:=11) (v:=?vo_w38) (w1:=((((w32.setCell ⟨gb550,0,none⟩ (.int .i64 t543)).setCell ⟨gb550,1,none⟩ (.int .i64 t544)).setCell ⟨gb550,2,none⟩ (.string t545)).setCell ⟨gb550,3,none⟩ (.slice Ao37 t546.length co37))) ?hg ?ho ?hn ?hr ?_;(case ho => rfl);(case hg => rfl);(case hn => rfl);(case hr => first|(go_simp;done)|(go_simp;rfl));intro w38 hw;have n0_:Aside0 (Kd.R k24 24 w38 w.heap.size (fun k_ => some k_≠(.slice Ao37 t546.length co37:Value).ownBlock∧k_≠gb526∧k_≠gb534∧k_≠gb542∧k_≠gb550) (.slice Ao21 t530.length co21) t530):=⟨(by rw [hw];exact (by (with_reducible repeat (first|apply Kd.R_alloc|apply Kd.R_drewN|apply Kd.R_drew));exact Kd.R_mono (fa4_r HO532 (fun _ hk => hk.2)) (fun _ hk => ⟨hk.1.1.2,⟨hk.1.1.1.1.1,⟨hk.1.1.1.1.2,⟨hk.1.1.1.2,hk.1.2⟩⟩⟩⟩)))⟩;have n1_:Aside0 (Kd.V k24 24 w38 w.heap.size (fun k_ => some k_≠(.slice Ao21 t530.length co21:Value).ownBlock∧some k_≠(.slice Ao37 t546.length co37:Value).ownBlock∧k_≠gb526∧k_≠gb534∧k_≠gb542∧k_≠gb550) (.slice Ao29 t538.length co29) t538):=⟨(by rw [hw];exact (by (with_reducible repeat (first|apply Kd.V_alloc|apply Kd.V_drewN|apply Kd.V_drew));exact Kd.V_mono (fa4_v HO540 (fun _ hk => hk.2)) (fun _ hk => ⟨hk.1.1.1.1.1,⟨hk.1.1.2,⟨hk.1.1.1.1.2.1,⟨hk.1.1.1.1.2.2,⟨hk.1.1.1.2,hk.1.2⟩⟩⟩⟩⟩)))⟩;have n2_:Aside0 (Kd.R k24 24 w38 w.heap.size (fun k_ => some k_≠(.slice Ao21 t530.length co21:Value).ownBlock∧k_≠gb526∧k_≠gb534∧k_≠gb542∧k_≠gb550) (.slice Ao37 t546.length co37) t546):=⟨(by rw [hw];exact (by (with_reducible repeat (first|apply Kd.R_alloc|apply Kd.R_drewN|apply Kd.R_drew));exact Kd.R_mono (fa4_r HO548 (fun _ hk => hk.2)) (fun _ hk => ⟨hk.1.1.1.1.1.2,⟨hk.1.1.1.1.2,⟨hk.1.1.1.2,⟨hk.1.1.2,hk.1.2⟩⟩⟩⟩)))⟩;have n3_:Aside0 (w38.heap[gb526]? = some (.cells #[.int .i64 a2_0,.int .i64 a2_1,.string a2_2,.slice A2_3 l2_3.length c2_3] 24 (0,0))):=⟨(by rw [hw];exact (sb_b BK526 NB526_550))⟩;have n4_:Aside0 (w38.heap[gb534]? = some (.cells #[.int .i64 t527,.int .i64 t528,.string t529,.slice Ao21 t530.length co21] 24 (0,0))):=⟨(by rw [hw];exact (sb_b BK534 NB534_550))⟩;have n5_:Aside0 (w38.heap[gb542]? = some (.cells #[.int .i64 t535,.int .i64 t536,.string t537,.slice Ao29 t538.length co29] 24 (0,0))):=⟨(by rw [hw];exact (sb_b BK542 NB542_550))⟩;have n6_:Aside0 (w38.heap[gb550]? = some (.cells #[.int .i64 t543,.int .i64 t544,.string t545,.slice Ao37 t546.length co37] 24 (0,0))):=⟨(by rw [hw];exact (pu4 BK550))⟩;have n7_:Aside0 (Below w.heap.size w w38):=⟨(by rw [hw];exact (sb_h HB GE550))⟩;clear hw;clear HO532;clear HO540;clear HO548;clear BK526;clear BK534;clear BK542;clear BK550;clear HB;have HO532:=n0_;have HO540:=n1_;have HO548:=n2_;have BK526:=n3_;have BK534:=n4_;have BK542:=n5_;have BK550:=n6_;have HB:=n7_;clear n0_ n1_ n2_ n3_ n4_ n5_ n6_ n7_;obtain ⟨hcz39_0,hcz39_1,hcz39_2,hcz39_3,hfz39_0,hfz39_1,hfz39_2,hfz39_3⟩:=bk4 BK526)|((with_reducible refine gate_callee (f:=18) rfl ?_);refine goesL_ (some 38) rfl rfl Tryd.func18 (by kernel_rfl) rfl #[.int .i64 a0,.int .i64 a1,.agg #[.int .i64 a2_0,.int .i64 a2_1,.string a2_2,.slice A2_3 l2_3.length c2_3]] rfl (by (try simp only [List.map_toArray,List.map_cons,List.map_nil]);first|done|rfl|(simp only [List.length_drop,List.length_take];rfl)|(simp only [gt_iff_lt,Int.ofNat_lt];rfl)) ?_;(with_reducible refine (spinneyref05_Times.calls k a0 a1 a2_0 a2_1 a2_2 (fun k_ => k_ < w.heap.size) _ _ l2_3 t551 t552 t553 t554 t557 _ ?side1 A7.out).mono ?_);(case side1 => exact Kd.V_mk HC2_3.out (Kd.F_below (Kd.C_F k24_heap HR2_3.out) (up_h HB)));rintro e w40 ⟨v555,rfl,ho0,hb⟩;refine ⟨_,rfl,?_⟩;have HO556:=Aside0.mk (Kd.V_lower (Kd.V_mono (ok':=fun k_ => some k_≠(.slice Ao21 t530.length co21:Value).ownBlock∧some k_≠(.slice Ao37 t546.length co37:Value).ownBlock∧k_≠gb526∧k_≠gb534∧k_≠gb542∧k_≠gb550) ho0 (fun k_ hk_ => ⟨Or.elim hk_ (fun hs_ => fun e_ => Nat.not_le.2 hs_ (Kd.R_base HO532.out k_ e_.symm)) (fun hn_ => (Kd.fresh' (Kd.R_lt (up_r HO532)) k_ hn_)),Or.elim hk_ (fun hs_ => fun e_ => Nat.not_le.2 hs_ (Kd.R_base HO548.out k_ e_.symm)) (fun hn_ => (Kd.fresh' (Kd.R_lt (up_r HO548)) k_ hn_)),Or.elim hk_ (fun hs_ => fun e_ => Nat.not_le.2 hs_ (by rw [e_];exact GW526.out)) (fun hn_ => (Kd.freshB (up_b BK526) k_ hn_)),Or.elim hk_ (fun hs_ => fun e_ => Nat.not_le.2 hs_ (by rw [e_];exact GW534.out)) (fun hn_ => (Kd.freshB (up_b BK534) k_ hn_)),Or.elim hk_ (fun hs_ => fun e_ => Nat.not_le.2 hs_ (by rw [e_];exact GW542.out)) (fun hn_ => (Kd.freshB (up_b BK542) k_ hn_)),Or.elim hk_ (fun hs_ => fun e_ => Nat.not_le.2 hs_ (by rw [e_];exact GW550.out)) (fun hn_ => (Kd.freshB (up_b BK550) k_ hn_))⟩)) (below_size (up_h HB)));replace HO532:=ca_r HO532 hb;replace HO540:=ca_v HO540 hb;replace HO548:=ca_r HO548 hb;replace BK526:=ca_b BK526 hb;replace BK534:=ca_b BK534 hb;replace BK542:=ca_b BK542 hb;replace BK550:=ca_b BK550 hb;replace HB:=ca_h HB hb;(try clear hb);(try clear hb2);(try clear hk);(try clear hi);(try clear ho0))|((with_reducible refine gate_dst (N:=13) rfl ?_);refine box_event ?hg (N:=13) ?hd (cs:=#[.int .i64 0,.int .i64 0,.string (⟨#[]⟩:ByteArray),.slice none 0 0]) (t:=24) ?hr ?_;(case hd => rfl);(case hg => rfl);(case hr => first|(go_simp;done)|(go_simp;rfl));intro gb558 hg w41 hbox hb;have BK558:=Aside0.mk (hbox);have GW558:=bx_g (up_h HB) hg;have GE558:=bx_g (up_h HB) hg;have NB526_558:=bx_n (up_b BK526) hg;have NB558_526:=bx_m (up_b BK526) hg;have NB534_558:=bx_n (up_b BK534) hg;have NB558_534:=bx_m (up_b BK534) hg;have NB542_558:=bx_n (up_b BK542) hg;have NB558_542:=bx_m (up_b BK542) hg;have NB550_558:=bx_n (up_b BK550) hg;have NB558_550:=bx_m (up_b BK550) hg;replace HO532:=Aside0.mk (Kd.R_below (Kd.R_elderB (up_r HO532) gb558 (Nat.le_of_eq hg.symm)) hb);replace HO540:=bx_v HO540 hg hb;replace HO548:=Aside0.mk (Kd.R_below (Kd.R_elderB (up_r HO548) gb558 (Nat.le_of_eq hg.symm)) hb);replace HO556:=bx_v HO556 hg hb;replace BK526:=ca_b BK526 hb;replace BK534:=ca_b BK534 hb;replace BK542:=ca_b BK542 hb;replace BK550:=ca_b BK550 hb;replace HB:=ca_h HB hb;clear hb hbox hg;have hnb42:=NB558_526.out;have hnc42:=NB526_558.out;have hnb43:=NB558_534.out;have hnc43:=NB534_558.out;have hnb44:=NB558_542.out;have hnc44:=NB542_558.out;have hnb45:=NB558_550.out;have hnc45:=NB550_558.out;obtain ⟨hcz46_0,hcz46_1,hcz46_2,hcz46_3,hfz46_0,hfz46_1,hfz46_2,hfz46_3⟩:=bk4 BK558;obtain ⟨Ao47,co47,eo47⟩:=Kd.V_slice HO556.out;subst eo47;obtain ⟨hcz48_0,hcz48_1,hcz48_2,hcz48_3,hfz48_0,hfz48_1,hfz48_2,hfz48_3⟩:=bk4 BK534;obtain ⟨hcz49_0,hcz49_1,hcz49_2,hcz49_3,hfz49_0,hfz49_1,hfz49_2,hfz49_3⟩:=bk4 BK542)|((with_reducible refine gate_callee (f:=13) rfl ?_);refine goesL_ (some 43) rfl rfl Tryd.func13 (by kernel_rfl) rfl #[.agg #[.int .i64 t527,.int .i64 t528,.string t529,.slice Ao21 t530.length co21],.agg #[.int .i64 t535,.int .i64 t536,.string t537,.slice Ao29 t538.length co29]] rfl (by (try simp only [List.map_toArray,List.map_cons,List.map_nil]);first|done|rfl|(simp only [List.length_drop,List.length_take];rfl)|(simp only [gt_iff_lt,Int.ofNat_lt];rfl)) ?_;(with_reducible refine (spinneyplain_Value.calls k t527 t528 t529 _ _ t530 t535 t536 t537 _ _ t538 true _ ?side1 ?side2 ?side3 ?side4 A8.out).mono ?_);(case side1 => refine (Kd.R_reads' (e:=24) (base:=w.heap.size) (ok:=fun k_ => ((some k_≠(.slice Ao37 t546.length co37:Value).ownBlock∧(k_≠gb526∧(k_≠gb534∧(k_≠gb542∧k_≠gb550))))∧k_≠gb558)) (n:=t530.length) (c:=co21) ?_).2.2;exact (by (with_reducible repeat (first|apply Kd.R_alloc|apply Kd.R_drewN|apply Kd.R_drew));exact (Kd.R_mono (fa4_r HO532 (fun _ hk => hk.2)) (fun _ h_ => h_.1))));(case side2 => exact (Kd.R_reads' HO532.out).2.1);(case side3 => refine (Kd.V_reads' (e:=24) (base:=w.heap.size) (ok:=fun k_ => ((some k_≠(.slice Ao21 t530.length co21:Value).ownBlock∧(some k_≠(.slice Ao37 t546.length co37:Value).ownBlock∧(k_≠gb526∧(k_≠gb534∧(k_≠gb542∧k_≠gb550)))))∧k_≠gb558)) (n:=t538.length) (c:=co29) ?_).2.2;exact (by (with_reducible repeat (first|apply Kd.V_alloc|apply Kd.V_drewN|apply Kd.V_drew));exact (Kd.V_mono (fa4_v HO540 (fun _ hk => hk.2)) (fun _ h_ => h_.1))));(case side4 => exact (Kd.V_reads' HO540.out).2.1);rintro e w50 ⟨rfl,hb⟩;refine ⟨_,rfl,?_⟩;replace HO532:=Aside0.mk (Kd.R_below (by (with_reducible repeat (first|apply Kd.R_alloc|apply Kd.R_drewN|apply Kd.R_drew));exact (Kd.R_mono (fa4_r HO532 (fun _ hk => hk.2)) (fun _ h_ => h_.1))) hb);replace HO540:=Aside0.mk (Kd.V_below (by (with_reducible repeat (first|apply Kd.V_alloc|apply Kd.V_drewN|apply Kd.V_drew));exact (Kd.V_mono (fa4_v HO540 (fun _ hk => hk.2)) (fun _ h_ => h_.1))) hb);replace HO548:=Aside0.mk (Kd.R_below (by (with_reducible repeat (first|apply Kd.R_alloc|apply Kd.R_drewN|apply Kd.R_drew));exact (Kd.R_mono (fa4_r HO548 (fun _ hk => hk.2)) (fun _ h_ => h_.1))) hb);replace HO556:=Aside0.mk (Kd.V_below (by (with_reducible repeat (first|apply Kd.V_alloc|apply Kd.V_drewN|apply Kd.V_drew));exact (Kd.V_mono (fa4_v HO556 (fun _ hk => hk.2)) (fun _ h_ => h_.1))) hb);replace BK526:=cs_b BK526 NB526_558 hb;replace BK534:=cs_b BK534 NB534_558 hb;replace BK542:=cs_b BK542 NB542_558 hb;replace BK550:=cs_b BK550 NB550_558 hb;replace BK558:=Aside0.mk (blk_below (g:=gb558) (o:=.cells #[.int .i64 t551,.int .i64 t552,.string t553,.slice Ao47 t554.length co47] 24 (0,0)) (pu4 BK558) hb);replace HB:=cs_h HB GE558 hb;(try clear hb);(try clear hb2);(try clear hk);(try clear hi);obtain ⟨hcz51_0,hcz51_1,hcz51_2,hcz51_3,hfz51_0,hfz51_1,hfz51_2,hfz51_3⟩:=bk4 BK550;obtain ⟨hcz52_0,hcz52_1,hcz52_2,hcz52_3,hfz52_0,hfz52_1,hfz52_2,hfz52_3⟩:=bk4 BK558)|(go_at_call 13;(with_reducible refine (spinneyplain_Value.calls k t543 t544 t545 _ _ t546 t551 t552 t553 _ _ t554 true _ ?side1 ?side2 ?side3 ?side4 A11.out).mono ?_);(case side1 => repeat (first|exact (Kd.R_reads' HO548.out).2.2|(with_reducible refine Kd.C_alloc ?_ _)|(with_reducible refine Kd.C_drewN ?_ _)|(with_reducible refine Kd.C_drew ?_)));(case side2 => exact (Kd.R_reads' HO548.out).2.1);(case side3 => repeat (first|exact (Kd.V_reads' HO556.out).2.2|(with_reducible refine Kd.C_alloc ?_ _)|(with_reducible refine Kd.C_drewN ?_ _)|(with_reducible refine Kd.C_drew ?_)));(case side4 => exact (Kd.V_reads' HO556.out).2.1);rintro e w53 ⟨rfl,hb⟩;replace HO532:=ca_r HO532 hb;replace HO540:=ca_v HO540 hb;replace HO548:=ca_r HO548 hb;replace HO556:=ca_v HO556 hb;replace BK526:=ca_b BK526 hb;replace BK534:=ca_b BK534 hb;replace BK542:=ca_b BK542 hb;replace BK550:=ca_b BK550 hb;replace BK558:=ca_b BK558 hb;replace HB:=ca_h HB hb;(try clear hb);(try clear hb2);(try clear hk);(try clear hi))|(go_at_call 10;(with_reducible refine (spinneylaw05_speaks.calls k  t561 _ ?side1 A14.out).mono ?_);(case side1 => exact LaidW.below HLT.out (up_h HB));rintro e w54 ⟨rfl,hb⟩;replace HO532:=ca_r HO532 hb;replace HO540:=ca_v HO540 hb;replace HO548:=ca_r HO548 hb;replace HO556:=ca_v HO556 hb;replace BK526:=ca_b BK526 hb;replace BK534:=ca_b BK534 hb;replace BK542:=ca_b BK542 hb;replace BK550:=ca_b BK550 hb;replace BK558:=ca_b BK558 hb;replace HB:=ca_h HB hb;(try clear hb);(try clear hb2);(try clear hk);(try clear hi)))
     go_ret
     exact ⟨by first|rfl|(simp [errW_none,errW_some] <;> rfl)|(simp [*,errW_none,errW_some] <;> rfl),by repeat (first|(with_reducible first|exact HB.out|apply below_alloc|apply pw_below_drewN|apply below_drew1|refine below_set ?_ GE526.out|refine below_set ?_ GE534.out|refine below_set ?_ GE542.out|refine below_set ?_ GE550.out|refine below_set ?_ GE558.out)|exact HB.out)⟩
    ·rw [if_neg c13] at H
     exact absurd H (by simp)
   ·replace c12:=Bool.eq_false_iff.mpr c12
    subst c12
    have H1:(none)=some r:=by rw [if_neg (show ¬ (false=true) by decide)] at H;exact H
    clear H
    have H:=H1
    clear H1
    exact absurd H (by simp)
  ·rw [if_neg c10] at H
   exact absurd H (by simp)
 ·replace c9:=Bool.eq_false_iff.mpr c9
  subst c9
  have H1:(none)=some r:=by rw [if_neg (show ¬ (false=true) by decide)] at H;exact H
  clear H
  have H:=H1
  clear H1
  exact absurd H (by simp)

end Go.Proofs.YtgmmoagclkmeaaaDoor.XH
