-- cut down by bundle.py (the session's own program) from the texts YtgmmoagclkmeaaaDoorXH22, to what this claim names
import Derived.Test.YtgmmoagclkmeaaaDoorZFnsOneXH0
import Derived.Test.YtgmmoagclkmeaaaDoorZFnsOneXH4
import Derived.Test.YtgmmoagclkmeaaaDoorZFnsOneXH10
import Derived.Test.YtgmmoagclkmeaaaDoorZFnsOneXH16
import Derived.Test.YtgmmoagclkmeaaaDoorZFnsOneXH21
-- laid by xprint.py (the session's own program) out of the translation; Lean checks it
namespace Go.Proofs.YtgmmoagclkmeaaaDoor.XH
open Go.RowKit Go.Proofs.YtgmmoagclkmeaaaDoorW.PrintWords Go.Proofs.YtgmmoagclkmeaaaDoorW.PrintLast Go.Proofs.YtgmmoagclkmeaaaDoorW.PrintMore
attribute [local go_sem] max2_int min2_int max_two min_two max_three min_three max_four min_four   -- for this text's walks alone
set_option linter.unusedVariables false
set_option linter.unusedSimpArgs false

mutual
def spinneyref05_Done.j0:Nat→Int→Bool→Bool→Int→Int→ByteArray→List (S24)→Option (Int × Int × ByteArray × (List (S24)))
 | 0,_,_,_,_,_,_,_ => none
 | k+1,x0,x5,x10,x463000,x463001,x463002,x463003 => if x10=true then ((spinneyref05_Int.f (wrap64 (x463001+1))).bind fun bt464 => (some (bt464.1,bt464.2.1,bt464.2.2.1,bt464.2.2.2))) else (if x0=2 then (spinneyref05_Done.j1 k x0 x5 x5 x463000 x463001 x463002 x463003) else (spinneyref05_Done.j1 k x0 x5 false x463000 x463001 x463002 x463003))
def spinneyref05_Done.j1:Nat→Int→Bool→Bool→Int→Int→ByteArray→List (S24)→Option (Int × Int × ByteArray × (List (S24)))
 | 0,_,_,_,_,_,_,_ => none
 | k+1,x0,x5,x20,x463000,x463001,x463002,x463003 => if x20=true then ((spinneyref05_Int.f (wrap64 (-x463001))).bind fun bt470 => (some (bt470.1,bt470.2.1,bt470.2.2.1,bt470.2.2.2))) else (if x0=3 then ((spinneyref05_size.f k x463000 x463001 x463002 x463003).bind fun t476 => ((spinneyref05_Int.f t476).bind fun bt477 => (some (bt477.1,bt477.2.1,bt477.2.2.1,bt477.2.2.2)))) else (if x0=4 then ((spinneyref05_first.f k x463000 x463001 x463002 x463003).bind fun bt483 => (some (bt483.1,bt483.2.1,bt483.2.2.1,bt483.2.2.2))) else (if x0=5 then ((some (([(⟨x463000,x463001,x463002,x463003⟩:S24)]:List (S24)):List (S24))).bind fun y489 => ((spinneyref01_Right.f k 4 0 (⟨#[]⟩:ByteArray) y489).bind fun t493 => (if t493=true then (some (4,0,(⟨#[]⟩:ByteArray),y489)) else (some (0,0,(⟨#[]⟩:ByteArray),([]:List (S24))))))) else (if x0=6 then ((spinneyref05_Int.f x463000).bind fun bt494 => (some (bt494.1,bt494.2.1,bt494.2.2.1,bt494.2.2.2))) else (if x0=7 then (if x5=true then ((spinneyref05_Int.f (wrap64 (Int.tdiv x463001 2))).bind fun bt500 => (some (bt500.1,bt500.2.1,bt500.2.2.1,bt500.2.2.2))) else (some (x463000,x463001,x463002,x463003))) else (some (x463000,x463001,x463002,x463003)))))))
end
def spinneyref05_Done.f (k:Nat) (a0:Int) (a1_0:Int) (a1_1:Int) (a1_2:ByteArray) (l1_3:List (S24)):Option (Int × Int × ByteArray × (List (S24))):=if a0=1 then (spinneyref05_Done.j0 k a0 (a1_0 == 2) (a1_0 == 2) a1_0 a1_1 a1_2 l1_3) else (spinneyref05_Done.j0 k a0 (a1_0 == 2) false a1_0 a1_1 a1_2 l1_3)
set_option maxHeartbeats 8000000 in
set_option maxRecDepth 100000 in
theorem spinneyref05_Done.calls (k:Nat) (a0:Int) (a1_0:Int) (a1_1:Int) (a1_2:ByteArray) (P1_3_:Nat→Prop) (A1_3:Option Addr) (c1_3:Nat) (l1_3:List (S24)) (r1:Int) (r2:Int) (r3:ByteArray) (r4:List (S24)) (w:World) (hs1_3:Kd.V k24 24 w w.heap.size (fun k_ => P1_3_ k_) (.slice A1_3 l1_3.length c1_3) l1_3) (h:spinneyref05_Done.f k a0 a1_0 a1_1 a1_2 l1_3=some (r1,r2,r3,r4)) :
  Calls Tryd.prog 31 #[.int .i64 a0,.agg #[.int .i64 a1_0,.int .i64 a1_1,.string a1_2,.slice A1_3 l1_3.length c1_3]] w fun e w' => ∃ v3_:Value,e=.returned (.agg #[.int .i64 r1,.int .i64 r2,.string r3,v3_])∧Kd.V k24 24 w' w.heap.size (fun k_ => (P1_3_ k_ ∨ w.heap.size≤k_)) v3_ r4∧Below w.heap.size w w':=by
 have hu24:=Tryd.underlying24
 have HO1_3:=Aside0.mk (show Kd.V k24 24 w w.heap.size (fun k_ => (P1_3_ k_ ∨ w.heap.size≤k_)) (.slice A1_3 l1_3.length c1_3) l1_3 from Kd.V_mono hs1_3 (fun k_ hk => .inl hk))
 have HB:=Aside0.mk (Below.refl w.heap.size w)
 have H:(if a0=1 then (spinneyref05_Done.j0 k a0 (a1_0 == 2) (a1_0 == 2) a1_0 a1_1 a1_2 l1_3) else (spinneyref05_Done.j0 k a0 (a1_0 == 2) false a1_0 a1_1 a1_2 l1_3))=some (r1,r2,r3,r4):=h
 clear h
 have HC3:=Aside0.mk H
 clear H
 go_enter Tryd.func31,Tryd.ntmps31
 go_upto_region 2 with (first|((with_reducible refine gate_dst (N:=3) rfl ?_);refine box_event ?hg (N:=3) ?hd (cs:=#[.int .i64 a1_0,.int .i64 a1_1,.string a1_2,.slice A1_3 l1_3.length c1_3]) (t:=24) ?hr ?_;(case hd => rfl);(case hg => rfl);(case hr => first|(go_simp;done)|(go_simp;rfl));intro gb462 hg w4 hbox hb;have BK462:=Aside0.mk (hbox);have GW462:=Aside0.mk ((by rw [hg];exact (below_size (by repeat (first|(with_reducible first|exact HB.out|apply below_alloc|apply pw_below_drewN|apply below_drew1)|exact HB.out))):w.heap.size≤gb462));have GE462:=Aside0.mk ((by rw [hg];exact (below_size (by repeat (first|(with_reducible first|exact HB.out|apply below_alloc|apply pw_below_drewN|apply below_drew1)|exact HB.out))):w.heap.size≤gb462));replace HO1_3:=bx_v HO1_3 hg hb;replace HB:=Aside0.mk (below_step (by repeat (first|(with_reducible first|exact HB.out|apply below_alloc|apply pw_below_drewN|apply below_drew1)|exact HB.out)) hb);clear hb hbox hg)|((with_reducible refine gate_dst (N:=4) rfl ?_);refine box_event ?hg (N:=4) ?hd (cs:=#[.int .i64 0,.int .i64 0,.string (⟨#[]⟩:ByteArray),.slice none 0 0]) (t:=24) ?hr ?_;(case hd => rfl);(case hg => rfl);(case hr => first|(go_simp;done)|(go_simp;rfl));intro gb463 hg w5 hbox hb;have BK463:=Aside0.mk (hbox);have GW463:=Aside0.mk ((by rw [hg];exact (below_size (by repeat (first|(with_reducible first|exact HB.out|apply below_alloc|apply pw_below_drewN|apply below_drew1|refine below_set ?_ GE462.out)|exact HB.out))):w.heap.size≤gb463));have GE463:=Aside0.mk ((by rw [hg];exact (below_size (by repeat (first|(with_reducible first|exact HB.out|apply below_alloc|apply pw_below_drewN|apply below_drew1|refine below_set ?_ GE462.out)|exact HB.out))):w.heap.size≤gb463));have NB462_463:=bx_n (up_b BK462) hg;have NB463_462:=bx_m (up_b BK462) hg;replace HO1_3:=bx_v HO1_3 hg hb;replace BK462:=ca_b BK462 hb;replace HB:=Aside0.mk (below_step (by repeat (first|(with_reducible first|exact HB.out|apply below_alloc|apply pw_below_drewN|apply below_drew1|refine below_set ?_ GE462.out)|exact HB.out)) hb);clear hb hbox hg;have hnb6:=NB462_463.out;have hnc6:=NB463_462.out;obtain ⟨hcz7_0,hcz7_1,hcz7_2,hcz7_3,hfz7_0,hfz7_1,hfz7_2,hfz7_3⟩:=bk4 BK462))
 (try simp only [Act.put,List.setIfInBounds_toArray,List.set_cons_zero,List.set_cons_succ])
 go_cut [10] (fun v10 wc => ∃ (kq:Nat) (x10_2:Bool),v10=.bool x10_2∧Aside0 (spinneyref05_Done.j0 kq a0 (a1_0 == 2) x10_2 a1_0 a1_1 a1_2 l1_3=some (r1,r2,r3,r4))∧Aside0 (kq≤k)∧Aside0 (Kd.V k24 24 wc w.heap.size (fun k_ => (P1_3_ k_ ∨ w.heap.size≤k_)∧k_≠gb462∧k_≠gb463) (.slice A1_3 l1_3.length c1_3) l1_3)∧Aside0 (wc.heap[gb462]? = some (.cells #[.int .i64 a1_0,.int .i64 a1_1,.string a1_2,(.slice A1_3 l1_3.length c1_3)] 24 (0,0)))∧Aside0 (wc.heap[gb463]? = some (.cells #[.int .i64 0,.int .i64 0,.string (⟨#[]⟩:ByteArray),(.slice none 0 0)] 24 (0,0)))∧Aside0 (Below w.heap.size w wc))
 case first =>
  have H:=HC3.out
  clear HC3
  by_cases c8:a0=1
  ·rw [if_pos c8] at H
   have c8b0:(a0 == 1)=true:=beq_iff_eq.mpr c8
   have c8b1:(a0 != 1)=false:=bne_eq_false_iff_eq.mpr c8
   clear c8
   (first|rw [c8b0]|(simp only [i64_w,i32_w];rw [c8b0])|skip)
   have H':=Aside0.mk H
   clear H
   go_wp2
   go_meet
   case rel => exact ⟨_,((a1_0 == 2)),(by first|rfl|(simp;done)|(simp [*];done)),H',⟨by first|omega|exact Nat.le_refl _⟩,⟨by (with_reducible repeat (first|apply Kd.V_alloc|apply Kd.V_drewN|apply Kd.V_drew));exact Kd.V_mono HO1_3.out (fun _ hk => ⟨hk.1.1,⟨hk.1.2,hk.2⟩⟩)⟩,⟨by (with_reducible repeat (first|refine blk_drewN ?_ _|refine blk_drew ?_|refine blk_alloc ?_ _));exact BK462.out⟩,⟨by (with_reducible repeat (first|refine blk_drewN ?_ _|refine blk_drew ?_|refine blk_alloc ?_ _));exact BK463.out⟩,⟨by repeat (first|(with_reducible first|exact HB.out|apply below_alloc|apply pw_below_drewN|apply below_drew1|refine below_set ?_ GE462.out|refine below_set ?_ GE463.out)|exact HB.out)⟩⟩
  ·rw [if_neg c8] at H
   have c8b0:(a0 == 1)=false:=beq_eq_false_iff_ne.mpr c8
   have c8b1:(a0 != 1)=true:=bne_iff_ne.mpr c8
   (first|rw [c8b0]|(simp only [i64_w,i32_w];rw [c8b0])|skip)
   have H':=Aside0.mk H
   clear H
   go_wp2
   go_meet
   case rel => exact ⟨_,(false),(by first|rfl|(simp;done)|(simp [*];done)),H',⟨by first|omega|exact Nat.le_refl _⟩,⟨by (with_reducible repeat (first|apply Kd.V_alloc|apply Kd.V_drewN|apply Kd.V_drew));exact Kd.V_mono HO1_3.out (fun _ hk => ⟨hk.1.1,⟨hk.1.2,hk.2⟩⟩)⟩,⟨by (with_reducible repeat (first|refine blk_drewN ?_ _|refine blk_drew ?_|refine blk_alloc ?_ _));exact BK462.out⟩,⟨by (with_reducible repeat (first|refine blk_drewN ?_ _|refine blk_drew ?_|refine blk_alloc ?_ _));exact BK463.out⟩,⟨by repeat (first|(with_reducible first|exact HB.out|apply below_alloc|apply pw_below_drewN|apply below_drew1|refine below_set ?_ GE462.out|refine below_set ?_ GE463.out)|exact HB.out)⟩⟩
 case rest =>
  clear HC3
  try clear c1
  try clear p2
  try clear c3
  try clear c6
  try clear c8
  try clear c8b0
  try clear c8b1
  try clear hcz7_0
  try clear hcz7_1
  try clear hcz7_2
  try clear hcz7_3
  try clear hfz7_0
  try clear hfz7_1
  try clear hfz7_2
  try clear hfz7_3
  obtain ⟨kq,x10_2,rfl,HA,HJ2,HO_463003,BK462,BK463,HB⟩:=hcut
  cases kq with
  | zero => exact absurd HA.out (by simp [spinneyref05_Done.j0])
  | succ kj2 =>
   have H:=HA.out
   clear HA
   simp only [spinneyref05_Done.j0] at H
   by_cases c9:x10_2=true
   ·subst c9
    have H1:((spinneyref05_Int.f (wrap64 (a1_1+1))).bind fun bt464 => (some (bt464.1,bt464.2.1,bt464.2.2.1,bt464.2.2.2)))=some (r1,r2,r3,r4):=by rw [if_pos rfl] at H;exact H
    clear H
    have H:=H1
    clear H1
    replace H:=Option.bind_eq_some_iff.mp H
    obtain ⟨⟨t464,t465,t466,t467⟩,A100,H⟩:=H
    replace H:(some (t464,t465,t466,t467))=some (r1,r2,r3,r4):=H
    have A10:=Aside0.mk A100
    clear A100
    simp only [Option.some.injEq,Prod.mk.injEq] at H
    obtain ⟨rfl,rfl,rfl,rfl⟩:=H
    have hnb11:=NB462_463.out
    have hnc11:=NB463_462.out
    have hcz12_0:wc.cell? ⟨gb462,0,none⟩=some (.int .i64 a1_0):=(blk_cell BK462.out 0).trans rfl;have hcz12_1:wc.cell? ⟨gb462,1,none⟩=some (.int .i64 a1_1):=(blk_cell BK462.out 1).trans rfl;have hcz12_2:wc.cell? ⟨gb462,2,none⟩=some (.string a1_2):=(blk_cell BK462.out 2).trans rfl;have hcz12_3:wc.cell? ⟨gb462,3,none⟩=some (.slice A1_3 l1_3.length c1_3):=(blk_cell BK462.out 3).trans rfl;have hfz12_0:=blk_frozen BK462.out 0;have hfz12_1:=blk_frozen BK462.out 1;have hfz12_2:=blk_frozen BK462.out 2;have hfz12_3:=blk_frozen BK462.out 3
    go_wp2_with (first|((with_reducible refine gate_callee (f:=50) rfl ?_);refine goesL_ (some 19) rfl rfl Tryd.func50 (by kernel_rfl) rfl #[.int .i64 (wrap64 (a1_1+1))] rfl (by (try simp only [List.map_toArray,List.map_cons,List.map_nil]);first|done|rfl|(simp only [List.length_drop,List.length_take];rfl)|(simp only [gt_iff_lt,Int.ofNat_lt];rfl)) ?_;(with_reducible refine (spinneyref05_Int.calls (wrap64 (a1_1+1)) t464 t465 t466 t467 _ A10.out).mono ?_);rintro e w13 ⟨v468,rfl,ho0,hb⟩;refine ⟨_,rfl,?_⟩;have HO469:=Aside0.mk (Kd.N_lower (Kd.N_mono (ok':=fun k_ => (P1_3_ k_ ∨ w.heap.size≤k_)∧k_≠gb462∧k_≠gb463) (Kd.R_N (Kd.R_bound ho0)) (fun k_ hk_ => ⟨(.inr (Nat.le_trans (below_size (up_h HB)) hk_.2.1)),(Kd.freshB (up_b BK462) k_ hk_.2.1),(Kd.freshB (up_b BK463) k_ hk_.2.1)⟩)) (below_size (up_h HB)));replace HO_463003:=Aside0.mk (Kd.V_elder' (up_v HO_463003) (by first|exact Kd.N_base ho0|exact Kd.N_base (Kd.R_N ho0)) hb);replace BK462:=ca_b BK462 hb;replace BK463:=ca_b BK463 hb;replace HB:=ca_h HB hb;(try clear hb);(try clear hb2);(try clear hk);(try clear hi);(try clear ho0);obtain ⟨hcz14_0,hcz14_1,hcz14_2,hcz14_3,hfz14_0,hfz14_1,hfz14_2,hfz14_3⟩:=bk4 BK463;obtain ⟨Ao15,co15,eo15⟩:=Kd.N_slice HO469.out;subst eo15))
    refine bodyPost_ret (results_cell_row rfl _ _ gb463 24 #[.int .i64 t464,.int .i64 t465,.string t466,.slice Ao15 t467.length co15] (0,0) _ rfl (pu4 BK463) Tryd.underlying24 rfl (by kernel_rfl)) rfl ?_
    exact ⟨_,by first|rfl|(simp [errW_none,errW_some] <;> rfl)|(simp [*,errW_none,errW_some] <;> rfl),Kd.N_V (by (with_reducible repeat (first|apply Kd.N_alloc|apply Kd.N_drewN|apply Kd.N_drew));exact Kd.N_mono (Kd.N_far (p:=⟨gb463,3,none⟩) (Kd.N_far (p:=⟨gb463,2,none⟩) (Kd.N_far (p:=⟨gb463,1,none⟩) (Kd.N_far (p:=⟨gb463,0,none⟩) (Kd.N_mono HO469.out (fun k_ hk => (⟨hk,hk.2.2⟩:_∧k_≠gb463))) (fun _ hk => hk.2) (.int .i64 t464)) (fun _ hk => hk.2) (.int .i64 t465)) (fun _ hk => hk.2) (.string t466)) (fun _ hk => hk.2) (.slice Ao15 t467.length co15)) (fun _ hk => hk.1.1)),by repeat (first|(with_reducible first|exact HB.out|apply below_alloc|apply pw_below_drewN|apply below_drew1|refine below_set ?_ GE462.out|refine below_set ?_ GE463.out)|exact HB.out)⟩
   ·replace c9:=Bool.eq_false_iff.mpr c9
    subst c9
    have H1:(if a0=2 then (spinneyref05_Done.j1 kj2 a0 (a1_0 == 2) (a1_0 == 2) a1_0 a1_1 a1_2 l1_3) else (spinneyref05_Done.j1 kj2 a0 (a1_0 == 2) false a1_0 a1_1 a1_2 l1_3))=some (r1,r2,r3,r4):=by rw [if_neg (show ¬ (false=true) by decide)] at H;exact H
    clear H
    have H:=H1
    clear H1
    have HC16:=Aside0.mk H
    clear H
    go_upto_region 4 with (fail)
    go_cut [20] (fun v20 wc => ∃ (kq:Nat) (x20_15:Bool),v20=.bool x20_15∧Aside0 (spinneyref05_Done.j1 kq a0 (a1_0 == 2) x20_15 a1_0 a1_1 a1_2 l1_3=some (r1,r2,r3,r4))∧Aside0 (kq≤kj2)∧Aside0 (Kd.V k24 24 wc w.heap.size (fun k_ => (P1_3_ k_ ∨ w.heap.size≤k_)∧k_≠gb462∧k_≠gb463) (.slice A1_3 l1_3.length c1_3) l1_3)∧Aside0 (wc.heap[gb462]? = some (.cells #[.int .i64 a1_0,.int .i64 a1_1,.string a1_2,(.slice A1_3 l1_3.length c1_3)] 24 (0,0)))∧Aside0 (wc.heap[gb463]? = some (.cells #[.int .i64 0,.int .i64 0,.string (⟨#[]⟩:ByteArray),(.slice none 0 0)] 24 (0,0)))∧Aside0 (Below w.heap.size w wc))
    case first =>
     have H:=HC16.out
     clear HC16
     by_cases c17:a0=2
     ·rw [if_pos c17] at H
      have c17b0:(a0 == 2)=true:=beq_iff_eq.mpr c17
      have c17b1:(a0 != 2)=false:=bne_eq_false_iff_eq.mpr c17
      clear c17
      (first|rw [c17b0]|(simp only [i64_w,i32_w];rw [c17b0])|skip)
      have H':=Aside0.mk H
      clear H
      go_wp2
      go_meet
      case rel => exact ⟨_,((a1_0 == 2)),(by first|rfl|(simp;done)|(simp [*];done)),H',⟨by have:=HJ2.out;first|omega|exact Nat.le_refl _⟩,⟨up_v HO_463003⟩,⟨by (with_reducible repeat (first|refine blk_drewN ?_ _|refine blk_drew ?_|refine blk_alloc ?_ _));exact BK462.out⟩,⟨by (with_reducible repeat (first|refine blk_drewN ?_ _|refine blk_drew ?_|refine blk_alloc ?_ _));exact BK463.out⟩,⟨by repeat (first|(with_reducible first|exact HB.out|apply below_alloc|apply pw_below_drewN|apply below_drew1|refine below_set ?_ GE462.out|refine below_set ?_ GE463.out)|exact HB.out)⟩⟩
     ·rw [if_neg c17] at H
      have c17b0:(a0 == 2)=false:=beq_eq_false_iff_ne.mpr c17
      have c17b1:(a0 != 2)=true:=bne_iff_ne.mpr c17
      (first|rw [c17b0]|(simp only [i64_w,i32_w];rw [c17b0])|skip)
      have H':=Aside0.mk H
      clear H
      go_wp2
      go_meet
      case rel => exact ⟨_,(false),(by first|rfl|(simp;done)|(simp [*];done)),H',⟨by have:=HJ2.out;first|omega|exact Nat.le_refl _⟩,⟨up_v HO_463003⟩,⟨by (with_reducible repeat (first|refine blk_drewN ?_ _|refine blk_drew ?_|refine blk_alloc ?_ _));exact BK462.out⟩,⟨by (with_reducible repeat (first|refine blk_drewN ?_ _|refine blk_drew ?_|refine blk_alloc ?_ _));exact BK463.out⟩,⟨by repeat (first|(with_reducible first|exact HB.out|apply below_alloc|apply pw_below_drewN|apply below_drew1|refine below_set ?_ GE462.out|refine below_set ?_ GE463.out)|exact HB.out)⟩⟩
    case rest =>
     clear HC16
     try clear c1
     try clear p2
     try clear c3
     try clear c5
     try clear c6
     try clear p6
     try clear c8
     try clear c8b0
     try clear c8b1
     try clear c9
     try clear c11
     try clear c17
     try clear c17b0
     try clear c17b1
     try clear hcz12_0
     try clear hcz12_1
     try clear hcz12_2
     try clear hcz12_3
     try clear hcz14_0
     try clear hcz14_1
     try clear hcz14_2
     try clear hcz14_3
     try clear hcz7_0
     try clear hcz7_1
     try clear hcz7_2
     try clear hcz7_3
     try clear hfz12_0
     try clear hfz12_1
     try clear hfz12_2
     try clear hfz12_3
     try clear hfz14_0
     try clear hfz14_1
     try clear hfz14_2
     try clear hfz14_3
     try clear hfz7_0
     try clear hfz7_1
     try clear hfz7_2
     try clear hfz7_3
     try clear p2
     obtain ⟨kq,x20_15,rfl,HA,HJ15,HO_463003,BK462,BK463,HB⟩:=hcut
     cases kq with
     | zero => exact absurd HA.out (by simp [spinneyref05_Done.j1])
     | succ kj15 =>
      have H:=HA.out
      clear HA
      simp only [spinneyref05_Done.j1] at H
      by_cases c18:x20_15=true
      ·subst c18
       have H1:((spinneyref05_Int.f (wrap64 (-a1_1))).bind fun bt470 => (some (bt470.1,bt470.2.1,bt470.2.2.1,bt470.2.2.2)))=some (r1,r2,r3,r4):=by rw [if_pos rfl] at H;exact H
       clear H
       have H:=H1
       clear H1
       replace H:=Option.bind_eq_some_iff.mp H
       obtain ⟨⟨t470,t471,t472,t473⟩,A190,H⟩:=H
       replace H:(some (t470,t471,t472,t473))=some (r1,r2,r3,r4):=H
       have A19:=Aside0.mk A190
       clear A190
       simp only [Option.some.injEq,Prod.mk.injEq] at H
       obtain ⟨rfl,rfl,rfl,rfl⟩:=H
       have hnb20:=NB462_463.out
       have hnc20:=NB463_462.out
       have hcz21_0:wc.cell? ⟨gb462,0,none⟩=some (.int .i64 a1_0):=(blk_cell BK462.out 0).trans rfl;have hcz21_1:wc.cell? ⟨gb462,1,none⟩=some (.int .i64 a1_1):=(blk_cell BK462.out 1).trans rfl;have hcz21_2:wc.cell? ⟨gb462,2,none⟩=some (.string a1_2):=(blk_cell BK462.out 2).trans rfl;have hcz21_3:wc.cell? ⟨gb462,3,none⟩=some (.slice A1_3 l1_3.length c1_3):=(blk_cell BK462.out 3).trans rfl;have hfz21_0:=blk_frozen BK462.out 0;have hfz21_1:=blk_frozen BK462.out 1;have hfz21_2:=blk_frozen BK462.out 2;have hfz21_3:=blk_frozen BK462.out 3
       go_wp2_with (first|((with_reducible refine gate_callee (f:=50) rfl ?_);refine goesL_ (some 29) rfl rfl Tryd.func50 (by kernel_rfl) rfl #[.int .i64 (wrap64 (-a1_1))] rfl (by (try simp only [List.map_toArray,List.map_cons,List.map_nil]);first|done|rfl|(simp only [List.length_drop,List.length_take];rfl)|(simp only [gt_iff_lt,Int.ofNat_lt];rfl)) ?_;(with_reducible refine (spinneyref05_Int.calls (wrap64 (-a1_1)) t470 t471 t472 t473 _ A19.out).mono ?_);rintro e w22 ⟨v474,rfl,ho0,hb⟩;refine ⟨_,rfl,?_⟩;have HO475:=Aside0.mk (Kd.N_lower (Kd.N_mono (ok':=fun k_ => (P1_3_ k_ ∨ w.heap.size≤k_)∧k_≠gb462∧k_≠gb463) (Kd.R_N (Kd.R_bound ho0)) (fun k_ hk_ => ⟨(.inr (Nat.le_trans (below_size (up_h HB)) hk_.2.1)),(Kd.freshB (up_b BK462) k_ hk_.2.1),(Kd.freshB (up_b BK463) k_ hk_.2.1)⟩)) (below_size (up_h HB)));replace HO_463003:=Aside0.mk (Kd.V_elder' (up_v HO_463003) (by first|exact Kd.N_base ho0|exact Kd.N_base (Kd.R_N ho0)) hb);replace BK462:=ca_b BK462 hb;replace BK463:=ca_b BK463 hb;replace HB:=ca_h HB hb;(try clear hb);(try clear hb2);(try clear hk);(try clear hi);(try clear ho0);obtain ⟨hcz23_0,hcz23_1,hcz23_2,hcz23_3,hfz23_0,hfz23_1,hfz23_2,hfz23_3⟩:=bk4 BK463;obtain ⟨Ao24,co24,eo24⟩:=Kd.N_slice HO475.out;subst eo24))
       refine bodyPost_ret (results_cell_row rfl _ _ gb463 24 #[.int .i64 t470,.int .i64 t471,.string t472,.slice Ao24 t473.length co24] (0,0) _ rfl (pu4 BK463) Tryd.underlying24 rfl (by kernel_rfl)) rfl ?_
       exact ⟨_,by first|rfl|(simp [errW_none,errW_some] <;> rfl)|(simp [*,errW_none,errW_some] <;> rfl),Kd.N_V (by (with_reducible repeat (first|apply Kd.N_alloc|apply Kd.N_drewN|apply Kd.N_drew));exact Kd.N_mono (Kd.N_far (p:=⟨gb463,3,none⟩) (Kd.N_far (p:=⟨gb463,2,none⟩) (Kd.N_far (p:=⟨gb463,1,none⟩) (Kd.N_far (p:=⟨gb463,0,none⟩) (Kd.N_mono HO475.out (fun k_ hk => (⟨hk,hk.2.2⟩:_∧k_≠gb463))) (fun _ hk => hk.2) (.int .i64 t470)) (fun _ hk => hk.2) (.int .i64 t471)) (fun _ hk => hk.2) (.string t472)) (fun _ hk => hk.2) (.slice Ao24 t473.length co24)) (fun _ hk => hk.1.1)),by repeat (first|(with_reducible first|exact HB.out|apply below_alloc|apply pw_below_drewN|apply below_drew1|refine below_set ?_ GE462.out|refine below_set ?_ GE463.out)|exact HB.out)⟩
      ·replace c18:=Bool.eq_false_iff.mpr c18
       subst c18
       have H1:(if a0=3 then ((spinneyref05_size.f kj15 a1_0 a1_1 a1_2 l1_3).bind fun t476 => ((spinneyref05_Int.f t476).bind fun bt477 => (some (bt477.1,bt477.2.1,bt477.2.2.1,bt477.2.2.2)))) else (if a0=4 then ((spinneyref05_first.f kj15 a1_0 a1_1 a1_2 l1_3).bind fun bt483 => (some (bt483.1,bt483.2.1,bt483.2.2.1,bt483.2.2.2))) else (if a0=5 then ((some (([(⟨a1_0,a1_1,a1_2,l1_3⟩:S24)]:List (S24)):List (S24))).bind fun y489 => ((spinneyref01_Right.f kj15 4 0 (⟨#[]⟩:ByteArray) y489).bind fun t493 => (if t493=true then (some (4,0,(⟨#[]⟩:ByteArray),y489)) else (some (0,0,(⟨#[]⟩:ByteArray),([]:List (S24))))))) else (if a0=6 then ((spinneyref05_Int.f a1_0).bind fun bt494 => (some (bt494.1,bt494.2.1,bt494.2.2.1,bt494.2.2.2))) else (if a0=7 then (if (a1_0 == 2)=true then ((spinneyref05_Int.f (wrap64 (Int.tdiv a1_1 2))).bind fun bt500 => (some (bt500.1,bt500.2.1,bt500.2.2.1,bt500.2.2.2))) else (some (a1_0,a1_1,a1_2,l1_3))) else (some (a1_0,a1_1,a1_2,l1_3)))))))=some (r1,r2,r3,r4):=by rw [if_neg (show ¬ (false=true) by decide)] at H;exact H
       clear H
       have H:=H1
       clear H1
       by_cases c25:a0=3
       ·rw [if_pos c25] at H
        have c25b0:(a0 == 3)=true:=beq_iff_eq.mpr c25
        have c25b1:(a0 != 3)=false:=bne_eq_false_iff_eq.mpr c25
        clear c25
        replace H:=Option.bind_eq_some_iff.mp H
        obtain ⟨t476,A260,H⟩:=H
        replace H:((spinneyref05_Int.f t476).bind fun bt477 => (some (bt477.1,bt477.2.1,bt477.2.2.1,bt477.2.2.2)))=some (r1,r2,r3,r4):=H
        have A26:=Aside0.mk A260
        clear A260
        replace H:=Option.bind_eq_some_iff.mp H
        obtain ⟨⟨t477,t478,t479,t480⟩,A270,H⟩:=H
        replace H:(some (t477,t478,t479,t480))=some (r1,r2,r3,r4):=H
        have A27:=Aside0.mk A270
        clear A270
        simp only [Option.some.injEq,Prod.mk.injEq] at H
        obtain ⟨rfl,rfl,rfl,rfl⟩:=H
        have hnb28:=NB462_463.out
        have hnc28:=NB463_462.out
        have hcz29_0:wc.cell? ⟨gb462,0,none⟩=some (.int .i64 a1_0):=(blk_cell BK462.out 0).trans rfl;have hcz29_1:wc.cell? ⟨gb462,1,none⟩=some (.int .i64 a1_1):=(blk_cell BK462.out 1).trans rfl;have hcz29_2:wc.cell? ⟨gb462,2,none⟩=some (.string a1_2):=(blk_cell BK462.out 2).trans rfl;have hcz29_3:wc.cell? ⟨gb462,3,none⟩=some (.slice A1_3 l1_3.length c1_3):=(blk_cell BK462.out 3).trans rfl;have hfz29_0:=blk_frozen BK462.out 0;have hfz29_1:=blk_frozen BK462.out 1;have hfz29_2:=blk_frozen BK462.out 2;have hfz29_3:=blk_frozen BK462.out 3
        go_wp2_with (first|((with_reducible refine gate_callee (f:=62) rfl ?_);refine goesL_ (some 34) rfl rfl Tryd.func62 (by kernel_rfl) rfl #[.agg #[.int .i64 a1_0,.int .i64 a1_1,.string a1_2,.slice A1_3 l1_3.length c1_3]] rfl (by (try simp only [List.map_toArray,List.map_cons,List.map_nil]);first|done|rfl|(simp only [List.length_drop,List.length_take];rfl)|(simp only [gt_iff_lt,Int.ofNat_lt];rfl)) ?_;(with_reducible refine (spinneyref05_size.calls kj15 a1_0 a1_1 a1_2 _ _ l1_3 t476 _ ?side1 ?side2 A26.out).mono ?_);(case side1 => repeat (first|exact (Kd.V_reads' HO_463003.out).2.2|(with_reducible refine Kd.C_alloc ?_ _)|(with_reducible refine Kd.C_drewN ?_ _)|(with_reducible refine Kd.C_drew ?_)));(case side2 => exact (Kd.V_reads' HO_463003.out).2.1);rintro e w30 ⟨rfl,hb⟩;refine ⟨_,rfl,?_⟩;replace HO_463003:=ca_v HO_463003 hb;replace BK462:=ca_b BK462 hb;replace BK463:=ca_b BK463 hb;replace HB:=ca_h HB hb;(try clear hb);(try clear hb2);(try clear hk);(try clear hi))|((with_reducible refine gate_callee (f:=50) rfl ?_);refine goesL_ (some 35) rfl rfl Tryd.func50 (by kernel_rfl) rfl #[.int .i64 t476] rfl (by (try simp only [List.map_toArray,List.map_cons,List.map_nil]);first|done|rfl|(simp only [List.length_drop,List.length_take];rfl)|(simp only [gt_iff_lt,Int.ofNat_lt];rfl)) ?_;(with_reducible refine (spinneyref05_Int.calls t476 t477 t478 t479 t480 _ A27.out).mono ?_);rintro e w31 ⟨v481,rfl,ho0,hb⟩;refine ⟨_,rfl,?_⟩;have HO482:=Aside0.mk (Kd.N_lower (Kd.N_mono (ok':=fun k_ => (P1_3_ k_ ∨ w.heap.size≤k_)∧k_≠gb462∧k_≠gb463) (Kd.R_N (Kd.R_bound ho0)) (fun k_ hk_ => ⟨(.inr (Nat.le_trans (below_size (up_h HB)) hk_.2.1)),(Kd.freshB (up_b BK462) k_ hk_.2.1),(Kd.freshB (up_b BK463) k_ hk_.2.1)⟩)) (below_size (up_h HB)));replace HO_463003:=Aside0.mk (Kd.V_elder' (up_v HO_463003) (by first|exact Kd.N_base ho0|exact Kd.N_base (Kd.R_N ho0)) hb);replace BK462:=ca_b BK462 hb;replace BK463:=ca_b BK463 hb;replace HB:=ca_h HB hb;(try clear hb);(try clear hb2);(try clear hk);(try clear hi);(try clear ho0);obtain ⟨hcz32_0,hcz32_1,hcz32_2,hcz32_3,hfz32_0,hfz32_1,hfz32_2,hfz32_3⟩:=bk4 BK463;obtain ⟨Ao33,co33,eo33⟩:=Kd.N_slice HO482.out;subst eo33))
        refine bodyPost_ret (results_cell_row rfl _ _ gb463 24 #[.int .i64 t477,.int .i64 t478,.string t479,.slice Ao33 t480.length co33] (0,0) _ rfl (pu4 BK463) Tryd.underlying24 rfl (by kernel_rfl)) rfl ?_
        exact ⟨_,by first|rfl|(simp [errW_none,errW_some] <;> rfl)|(simp [*,errW_none,errW_some] <;> rfl),Kd.N_V (by (with_reducible repeat (first|apply Kd.N_alloc|apply Kd.N_drewN|apply Kd.N_drew));exact Kd.N_mono (Kd.N_far (p:=⟨gb463,3,none⟩) (Kd.N_far (p:=⟨gb463,2,none⟩) (Kd.N_far (p:=⟨gb463,1,none⟩) (Kd.N_far (p:=⟨gb463,0,none⟩) (Kd.N_mono HO482.out (fun k_ hk => (⟨hk,hk.2.2⟩:_∧k_≠gb463))) (fun _ hk => hk.2) (.int .i64 t477)) (fun _ hk => hk.2) (.int .i64 t478)) (fun _ hk => hk.2) (.string t479)) (fun _ hk => hk.2) (.slice Ao33 t480.length co33)) (fun _ hk => hk.1.1)),by repeat (first|(with_reducible first|exact HB.out|apply below_alloc|apply pw_below_drewN|apply below_drew1|refine below_set ?_ GE462.out|refine below_set ?_ GE463.out)|exact HB.out)⟩
       ·rw [if_neg c25] at H
        have c25b0:(a0 == 3)=false:=beq_eq_false_iff_ne.mpr c25
        have c25b1:(a0 != 3)=true:=bne_iff_ne.mpr c25
        by_cases c34:a0=4
        ·rw [if_pos c34] at H
         have c34b0:(a0 == 4)=true:=beq_iff_eq.mpr c34
         have c34b1:(a0 != 4)=false:=bne_eq_false_iff_eq.mpr c34
         clear c34
         replace H:=Option.bind_eq_some_iff.mp H
         obtain ⟨⟨t483,t484,t485,t486⟩,A350,H⟩:=H
         replace H:(some (t483,t484,t485,t486))=some (r1,r2,r3,r4):=H
         have A35:=Aside0.mk A350
         clear A350
         simp only [Option.some.injEq,Prod.mk.injEq] at H
         obtain ⟨rfl,rfl,rfl,rfl⟩:=H
         have hnb36:=NB462_463.out
         have hnc36:=NB463_462.out
         have hcz37_0:wc.cell? ⟨gb462,0,none⟩=some (.int .i64 a1_0):=(blk_cell BK462.out 0).trans rfl;have hcz37_1:wc.cell? ⟨gb462,1,none⟩=some (.int .i64 a1_1):=(blk_cell BK462.out 1).trans rfl;have hcz37_2:wc.cell? ⟨gb462,2,none⟩=some (.string a1_2):=(blk_cell BK462.out 2).trans rfl;have hcz37_3:wc.cell? ⟨gb462,3,none⟩=some (.slice A1_3 l1_3.length c1_3):=(blk_cell BK462.out 3).trans rfl;have hfz37_0:=blk_frozen BK462.out 0;have hfz37_1:=blk_frozen BK462.out 1;have hfz37_2:=blk_frozen BK462.out 2;have hfz37_3:=blk_frozen BK462.out 3
         go_wp2_with (first|((with_reducible refine gate_callee (f:=63) rfl ?_);refine goesL_ (some 40) rfl rfl Tryd.func63 (by kernel_rfl) rfl #[.agg #[.int .i64 a1_0,.int .i64 a1_1,.string a1_2,.slice A1_3 l1_3.length c1_3]] rfl (by (try simp only [List.map_toArray,List.map_cons,List.map_nil]);first|done|rfl|(simp only [List.length_drop,List.length_take];rfl)|(simp only [gt_iff_lt,Int.ofNat_lt];rfl)) ?_;(with_reducible refine (spinneyref05_first.calls kj15 a1_0 a1_1 a1_2 (fun k_ => ((P1_3_ k_ ∨ w.heap.size≤k_)∧(k_≠gb462∧k_≠gb463))) _ _ l1_3 t483 t484 t485 t486 _ ?side1 A35.out).mono ?_);(case side1 => first|exact HO_463003.out|exact Kd.V_mono HO_463003.out (fun _ hk_ => by simp only [and_assoc] at hk_ ⊢;exact hk_));rintro e w38 ⟨v487,rfl,ho0,hb⟩;refine ⟨_,rfl,?_⟩;have HO488:=Aside0.mk (Kd.V_lower (Kd.V_mono (ok':=fun k_ => (P1_3_ k_ ∨ w.heap.size≤k_)∧k_≠gb462∧k_≠gb463) ho0 (fun k_ hk_ => ⟨Or.elim hk_ (fun hs_ => hs_.1) (fun hn_ => (.inr (Nat.le_trans (below_size (up_h HB)) hn_))),Or.elim hk_ (fun hs_ => hs_.2.1) (fun hn_ => (Kd.freshB (up_b BK462) k_ hn_)),Or.elim hk_ (fun hs_ => hs_.2.2) (fun hn_ => (Kd.freshB (up_b BK463) k_ hn_))⟩)) (below_size (up_h HB)));replace HO_463003:=ca_v HO_463003 hb;replace BK462:=ca_b BK462 hb;replace BK463:=ca_b BK463 hb;replace HB:=ca_h HB hb;(try clear hb);(try clear hb2);(try clear hk);(try clear hi);(try clear ho0);obtain ⟨hcz39_0,hcz39_1,hcz39_2,hcz39_3,hfz39_0,hfz39_1,hfz39_2,hfz39_3⟩:=bk4 BK463;obtain ⟨Ao40,co40,eo40⟩:=Kd.V_slice HO488.out;subst eo40))
         refine bodyPost_ret (results_cell_row rfl _ _ gb463 24 #[.int .i64 t483,.int .i64 t484,.string t485,.slice Ao40 t486.length co40] (0,0) _ rfl (pu4 BK463) Tryd.underlying24 rfl (by kernel_rfl)) rfl ?_
         exact ⟨_,by first|rfl|(simp [errW_none,errW_some] <;> rfl)|(simp [*,errW_none,errW_some] <;> rfl),by (with_reducible repeat (first|apply Kd.V_alloc|apply Kd.V_drewN|apply Kd.V_drew));exact Kd.V_mono (fa4_v HO488 (fun _ hk => hk.2.2)) (fun _ hk => hk.1.1),by repeat (first|(with_reducible first|exact HB.out|apply below_alloc|apply pw_below_drewN|apply below_drew1|refine below_set ?_ GE462.out|refine below_set ?_ GE463.out)|exact HB.out)⟩
        ·rw [if_neg c34] at H
         have c34b0:(a0 == 4)=false:=beq_eq_false_iff_ne.mpr c34
         have c34b1:(a0 != 4)=true:=bne_iff_ne.mpr c34
         by_cases c41:a0=5
         ·rw [if_pos c41] at H
          have c41b0:(a0 == 5)=true:=beq_iff_eq.mpr c41
          have c41b1:(a0 != 5)=false:=bne_eq_false_iff_eq.mpr c41
          clear c41
          obtain ⟨y489,hy489⟩:∃ y_:List (S24),y_=(([(⟨a1_0,a1_1,a1_2,l1_3⟩:S24)]:List (S24))):=⟨_,rfl⟩
          replace H:((spinneyref01_Right.f kj15 4 0 (⟨#[]⟩:ByteArray) y489).bind fun t493 => (if t493=true then (some (4,0,(⟨#[]⟩:ByteArray),y489)) else (some (0,0,(⟨#[]⟩:ByteArray),([]:List (S24))))))=some (r1,r2,r3,r4):=by first|(rw [hy489];with_reducible exact H)|(have H2_:=(Option.bind_some _ _).symm.trans H;rw [hy489];with_reducible exact H2_)|(have H2_:=(Option.bind_some _ _).symm.trans H;with_reducible exact H2_)|with_reducible exact H|(rw [hy489];exact H)|exact H
          have Ny489:=Aside0.mk hy489
          clear hy489
          replace H:=Option.bind_eq_some_iff.mp H
          obtain ⟨t493,A420,H⟩:=H
          replace H:(if t493=true then (some (4,0,(⟨#[]⟩:ByteArray),y489)) else (some (0,0,(⟨#[]⟩:ByteArray),([]:List (S24)))))=some (r1,r2,r3,r4):=H
          have A42:=Aside0.mk A420
          clear A420
          by_cases c43:t493=true
          ·subst c43
           have H1:(some (4,0,(⟨#[]⟩:ByteArray),y489))=some (r1,r2,r3,r4):=by rw [if_pos rfl] at H;exact H
           clear H
           have H:=H1
           clear H1
           simp only [Option.some.injEq,Prod.mk.injEq] at H
           obtain ⟨rfl,rfl,rfl,rfl⟩:=H
           have hnb44:=NB462_463.out
           have hnc44:=NB463_462.out
           have hcz45_0:wc.cell? ⟨gb462,0,none⟩=some (.int .i64 a1_0):=(blk_cell BK462.out 0).trans rfl;have hcz45_1:wc.cell? ⟨gb462,1,none⟩=some (.int .i64 a1_1):=(blk_cell BK462.out 1).trans rfl;have hcz45_2:wc.cell? ⟨gb462,2,none⟩=some (.string a1_2):=(blk_cell BK462.out 2).trans rfl;have hcz45_3:wc.cell? ⟨gb462,3,none⟩=some (.slice A1_3 l1_3.length c1_3):=(blk_cell BK462.out 3).trans rfl;have hfz45_0:=blk_frozen BK462.out 0;have hfz45_1:=blk_frozen BK462.out 1;have hfz45_2:=blk_frozen BK462.out 2;have hfz45_3:=blk_frozen BK462.out 3
           go_wp2_with (first|((with_reducible refine gate_dst (N:=45) rfl ?_);refine Kd.N_lit k24 _ 24 ?hg (N':=45) ?hd (xs:=([(⟨a1_0,a1_1,a1_2,l1_3⟩:S24)]:List (S24))) (inner:=[.int .i64 a1_0,.int .i64 a1_1,.string a1_2,.slice A1_3 l1_3.length c1_3]) (ok:=(fun k_ => (P1_3_ k_ ∨ w.heap.size≤k_)∧k_≠gb462∧k_≠gb463)) (okp:=(fun k_ => (P1_3_ k_ ∨ w.heap.size≤k_)∧k_≠gb462∧k_≠gb463)) ?hr ?hp (fun _ hk => hk) ((show ∀ k_,wc.heap.size≤k_→(fun k_ => (P1_3_ k_ ∨ w.heap.size≤k_)∧k_≠gb462∧k_≠gb463) k_ from fun k_ hk => ⟨(.inr (Nat.le_trans (below_size (up_h HB)) hk)),Kd.freshB (up_b BK462) k_ hk,Kd.freshB (up_b BK463) k_ hk⟩) _ (Nat.le_refl _)) (Below.refl _ _) (Nat.le_refl _) (by simp) ?_;(case hd => rfl);(case hg => rfl);(case hr => first|(go_simp;done)|(go_simp;rfl));(case hp => exact (Reps.c4 (show Kd.FK k24 _ _ (⟨a1_0,a1_1,a1_2,l1_3⟩:S24) [.int .i64 a1_0,.int .i64 a1_1,.string a1_2,.slice A1_3 l1_3.length c1_3] from (k24_mkF _ _ (⟨a1_0,a1_1,a1_2,l1_3⟩:S24) (Kd.V_reads' (Kd.V_mono (ok':=(fun k_ => (P1_3_ k_ ∨ w.heap.size≤k_)∧k_≠gb462∧k_≠gb463)) (HO_463003.out) (fun k_ hk => ⟨hk.1,⟨hk.2.1,hk.2.2⟩⟩))).2.1 (Kd.V_F (Kd.V_mono (ok':=(fun k_ => (P1_3_ k_ ∨ w.heap.size≤k_)∧k_≠gb462∧k_≠gb463)) (HO_463003.out) (fun k_ hk => ⟨hk.1,⟨hk.2.1,hk.2.2⟩⟩))))) (Reps.none _ _)));intro v490 w46 ho47 hb hg_ hnew_;clear hg_ hnew_;(first|rw [← Ny489.out] at ho47|(simp only [Int.reduceToNat] at ho47;rw [← Ny489.out] at ho47));have HO491:=Aside0.mk (Kd.N_lower ho47 (below_size (up_h HB)));replace HO_463003:=Aside0.mk (Kd.V_elder' (up_v HO_463003) (by first|exact Kd.N_base ho47|exact Kd.N_base (Kd.R_N ho47)) hb);replace BK462:=ca_b BK462 hb;replace BK463:=ca_b BK463 hb;replace HB:=ca_h HB hb;clear hb ho47;obtain ⟨Ao48,co48,eo48⟩:=Kd.N_slice HO491.out;subst eo48)|((with_reducible refine gate_dst (N:=6) rfl ?_);refine box_event ?hg (N:=6) ?hd (cs:=#[.int .i64 0,.int .i64 0,.string (⟨#[]⟩:ByteArray),.slice none 0 0]) (t:=24) ?hr ?_;(case hd => rfl);(case hg => rfl);(case hr => first|(go_simp;done)|(go_simp;rfl));intro gb492 hg w49 hbox hb;have BK492:=Aside0.mk (hbox);have GW492:=bx_g (up_h HB) hg;have GE492:=bx_g (up_h HB) hg;have NB462_492:=bx_n (up_b BK462) hg;have NB492_462:=bx_m (up_b BK462) hg;have NB463_492:=bx_n (up_b BK463) hg;have NB492_463:=bx_m (up_b BK463) hg;replace HO_463003:=bx_v HO_463003 hg hb;replace HO491:=Aside0.mk (Kd.N_below (Kd.N_elderB (up_n HO491) gb492 (Nat.le_of_eq hg.symm)) hb);replace BK462:=ca_b BK462 hb;replace BK463:=ca_b BK463 hb;replace HB:=ca_h HB hb;clear hb hbox hg;have hnb50:=NB492_462.out;have hnc50:=NB462_492.out;have hnb51:=NB492_463.out;have hnc51:=NB463_492.out;obtain ⟨hcz52_0,hcz52_1,hcz52_2,hcz52_3,hfz52_0,hfz52_1,hfz52_2,hfz52_3⟩:=bk4 BK492)|((with_reducible refine gate_callee (f:=22) rfl ?_);refine goesL_ (some 48) rfl rfl Tryd.func22 (by kernel_rfl) rfl #[.agg #[.int .i64 4,.int .i64 0,.string (⟨#[]⟩:ByteArray),.slice Ao48 y489.length co48]] rfl (by (try simp only [List.map_toArray,List.map_cons,List.map_nil]);first|done|rfl|(simp only [List.length_drop,List.length_take];rfl)|(simp only [gt_iff_lt,Int.ofNat_lt];rfl)) ?_;(with_reducible refine (spinneyref01_Right.calls kj15 4 0 (⟨#[]⟩:ByteArray) _ _ y489 true _ ?side1 ?side2 A42.out).mono ?_);(case side1 => refine (Kd.N_reads' (e:=24) (base:=w.heap.size) (ok:=fun k_ => (((P1_3_ k_ ∨ w.heap.size≤k_)∧(k_≠gb462∧k_≠gb463))∧k_≠gb492)) (n:=y489.length) (c:=co48) ?_).2.2;exact (by (with_reducible repeat (first|apply Kd.N_alloc|apply Kd.N_drewN|apply Kd.N_drew));exact (Kd.N_mono (Kd.N_far (p:=⟨gb492,3,none⟩) (Kd.N_far (p:=⟨gb492,2,none⟩) (Kd.N_far (p:=⟨gb492,1,none⟩) (Kd.N_far (p:=⟨gb492,0,none⟩) (Kd.N_mono HO491.out (fun k_ hk => (⟨hk,hk.2⟩:_∧k_≠gb492))) (fun _ hk => hk.2) (.int .i64 4)) (fun _ hk => hk.2) (.int .i64 0)) (fun _ hk => hk.2) (.string (⟨#[]⟩:ByteArray))) (fun _ hk => hk.2) (.slice Ao48 y489.length co48)) (fun _ h_ => h_.1))));(case side2 => exact (Kd.N_reads' HO491.out).2.1);rintro e w53 ⟨rfl,hb⟩;refine ⟨_,rfl,?_⟩;replace HO_463003:=Aside0.mk (Kd.V_below (by (with_reducible repeat (first|apply Kd.V_alloc|apply Kd.V_drewN|apply Kd.V_drew));exact (Kd.V_mono (fa4_v HO_463003 (fun _ hk => hk.2)) (fun _ h_ => h_.1))) hb);replace HO491:=Aside0.mk (Kd.N_below (by (with_reducible repeat (first|apply Kd.N_alloc|apply Kd.N_drewN|apply Kd.N_drew));exact (Kd.N_mono (Kd.N_far (p:=⟨gb492,3,none⟩) (Kd.N_far (p:=⟨gb492,2,none⟩) (Kd.N_far (p:=⟨gb492,1,none⟩) (Kd.N_far (p:=⟨gb492,0,none⟩) (Kd.N_mono HO491.out (fun k_ hk => (⟨hk,hk.2⟩:_∧k_≠gb492))) (fun _ hk => hk.2) (.int .i64 4)) (fun _ hk => hk.2) (.int .i64 0)) (fun _ hk => hk.2) (.string (⟨#[]⟩:ByteArray))) (fun _ hk => hk.2) (.slice Ao48 y489.length co48)) (fun _ h_ => h_.1))) hb);replace BK462:=cs_b BK462 NB462_492 hb;replace BK463:=cs_b BK463 NB463_492 hb;replace BK492:=Aside0.mk (blk_below (g:=gb492) (o:=.cells #[.int .i64 4,.int .i64 0,.string (⟨#[]⟩:ByteArray),.slice Ao48 y489.length co48] 24 (0,0)) (pu4 BK492) hb);replace HB:=cs_h HB GE492 hb;(try clear hb);(try clear hb2);(try clear hk);(try clear hi);obtain ⟨hcz54_0,hcz54_1,hcz54_2,hcz54_3,hfz54_0,hfz54_1,hfz54_2,hfz54_3⟩:=bk4 BK492;obtain ⟨hcz55_0,hcz55_1,hcz55_2,hcz55_3,hfz55_0,hfz55_1,hfz55_2,hfz55_3⟩:=bk4 BK463))
           refine bodyPost_ret (results_cell_row rfl _ _ gb463 24 #[.int .i64 4,.int .i64 0,.string (⟨#[]⟩:ByteArray),.slice Ao48 y489.length co48] (0,0) _ rfl (pu4 BK463) Tryd.underlying24 rfl (by kernel_rfl)) rfl ?_
           exact ⟨_,by first|rfl|(simp [errW_none,errW_some] <;> rfl)|(simp [*,errW_none,errW_some] <;> rfl),Kd.N_V (by (with_reducible repeat (first|apply Kd.N_alloc|apply Kd.N_drewN|apply Kd.N_drew));exact Kd.N_mono (Kd.N_far (p:=⟨gb463,3,none⟩) (Kd.N_far (p:=⟨gb463,2,none⟩) (Kd.N_far (p:=⟨gb463,1,none⟩) (Kd.N_far (p:=⟨gb463,0,none⟩) (Kd.N_mono HO491.out (fun k_ hk => (⟨hk,hk.1.2.2⟩:_∧k_≠gb463))) (fun _ hk => hk.2) (.int .i64 4)) (fun _ hk => hk.2) (.int .i64 0)) (fun _ hk => hk.2) (.string (⟨#[]⟩:ByteArray))) (fun _ hk => hk.2) (.slice Ao48 y489.length co48)) (fun _ hk => hk.1.1.1)),by repeat (first|(with_reducible first|exact HB.out|apply below_alloc|apply pw_below_drewN|apply below_drew1|refine below_set ?_ GE462.out|refine below_set ?_ GE463.out|refine below_set ?_ GE492.out)|exact HB.out)⟩
          ·replace c43:=Bool.eq_false_iff.mpr c43
           subst c43
           have H1:(some (0,0,(⟨#[]⟩:ByteArray),([]:List (S24))))=some (r1,r2,r3,r4):=by rw [if_neg (show ¬ (false=true) by decide)] at H;exact H
           clear H
           have H:=H1
           clear H1
           simp only [Option.some.injEq,Prod.mk.injEq] at H
           obtain ⟨rfl,rfl,rfl,rfl⟩:=H
           have hnb56:=NB462_463.out
           have hnc56:=NB463_462.out
           have hcz57_0:wc.cell? ⟨gb462,0,none⟩=some (.int .i64 a1_0):=(blk_cell BK462.out 0).trans rfl;have hcz57_1:wc.cell? ⟨gb462,1,none⟩=some (.int .i64 a1_1):=(blk_cell BK462.out 1).trans rfl;have hcz57_2:wc.cell? ⟨gb462,2,none⟩=some (.string a1_2):=(blk_cell BK462.out 2).trans rfl;have hcz57_3:wc.cell? ⟨gb462,3,none⟩=some (.slice A1_3 l1_3.length c1_3):=(blk_cell BK462.out 3).trans rfl;have hfz57_0:=blk_frozen BK462.out 0;have hfz57_1:=blk_frozen BK462.out 1;have hfz57_2:=blk_frozen BK462.out 2;have hfz57_3:=blk_frozen BK462.out 3
           go_wp2_with (first|((with_reducible refine gate_dst (N:=45) rfl ?_);refine Kd.N_lit k24 _ 24 ?hg (N':=45) ?hd (xs:=([(⟨a1_0,a1_1,a1_2,l1_3⟩:S24)]:List (S24))) (inner:=[.int .i64 a1_0,.int .i64 a1_1,.string a1_2,.slice A1_3 l1_3.length c1_3]) (ok:=(fun k_ => (P1_3_ k_ ∨ w.heap.size≤k_)∧k_≠gb462∧k_≠gb463)) (okp:=(fun k_ => (P1_3_ k_ ∨ w.heap.size≤k_)∧k_≠gb462∧k_≠gb463)) ?hr ?hp (fun _ hk => hk) ((show ∀ k_,wc.heap.size≤k_→(fun k_ => (P1_3_ k_ ∨ w.heap.size≤k_)∧k_≠gb462∧k_≠gb463) k_ from fun k_ hk => ⟨(.inr (Nat.le_trans (below_size (up_h HB)) hk)),Kd.freshB (up_b BK462) k_ hk,Kd.freshB (up_b BK463) k_ hk⟩) _ (Nat.le_refl _)) (Below.refl _ _) (Nat.le_refl _) (by simp) ?_;(case hd => rfl);(case hg => rfl);(case hr => first|(go_simp;done)|(go_simp;rfl));(case hp => exact (Reps.c4 (show Kd.FK k24 _ _ (⟨a1_0,a1_1,a1_2,l1_3⟩:S24) [.int .i64 a1_0,.int .i64 a1_1,.string a1_2,.slice A1_3 l1_3.length c1_3] from (k24_mkF _ _ (⟨a1_0,a1_1,a1_2,l1_3⟩:S24) (Kd.V_reads' (Kd.V_mono (ok':=(fun k_ => (P1_3_ k_ ∨ w.heap.size≤k_)∧k_≠gb462∧k_≠gb463)) (HO_463003.out) (fun k_ hk => ⟨hk.1,⟨hk.2.1,hk.2.2⟩⟩))).2.1 (Kd.V_F (Kd.V_mono (ok':=(fun k_ => (P1_3_ k_ ∨ w.heap.size≤k_)∧k_≠gb462∧k_≠gb463)) (HO_463003.out) (fun k_ hk => ⟨hk.1,⟨hk.2.1,hk.2.2⟩⟩))))) (Reps.none _ _)));intro v490 w58 ho59 hb hg_ hnew_;clear hg_ hnew_;(first|rw [← Ny489.out] at ho59|(simp only [Int.reduceToNat] at ho59;rw [← Ny489.out] at ho59));have HO491:=Aside0.mk (Kd.N_lower ho59 (below_size (up_h HB)));replace HO_463003:=Aside0.mk (Kd.V_elder' (up_v HO_463003) (by first|exact Kd.N_base ho59|exact Kd.N_base (Kd.R_N ho59)) hb);replace BK462:=ca_b BK462 hb;replace BK463:=ca_b BK463 hb;replace HB:=ca_h HB hb;clear hb ho59;obtain ⟨Ao60,co60,eo60⟩:=Kd.N_slice HO491.out;subst eo60)|((with_reducible refine gate_dst (N:=6) rfl ?_);refine box_event ?hg (N:=6) ?hd (cs:=#[.int .i64 0,.int .i64 0,.string (⟨#[]⟩:ByteArray),.slice none 0 0]) (t:=24) ?hr ?_;(case hd => rfl);(case hg => rfl);(case hr => first|(go_simp;done)|(go_simp;rfl));intro gb492 hg w61 hbox hb;have BK492:=Aside0.mk (hbox);have GW492:=bx_g (up_h HB) hg;have GE492:=bx_g (up_h HB) hg;have NB462_492:=bx_n (up_b BK462) hg;have NB492_462:=bx_m (up_b BK462) hg;have NB463_492:=bx_n (up_b BK463) hg;have NB492_463:=bx_m (up_b BK463) hg;replace HO_463003:=bx_v HO_463003 hg hb;replace HO491:=Aside0.mk (Kd.N_below (Kd.N_elderB (up_n HO491) gb492 (Nat.le_of_eq hg.symm)) hb);replace BK462:=ca_b BK462 hb;replace BK463:=ca_b BK463 hb;replace HB:=ca_h HB hb;clear hb hbox hg;have hnb62:=NB492_462.out;have hnc62:=NB462_492.out;have hnb63:=NB492_463.out;have hnc63:=NB463_492.out;obtain ⟨hcz64_0,hcz64_1,hcz64_2,hcz64_3,hfz64_0,hfz64_1,hfz64_2,hfz64_3⟩:=bk4 BK492)|((with_reducible refine gate_callee (f:=22) rfl ?_);refine goesL_ (some 48) rfl rfl Tryd.func22 (by kernel_rfl) rfl #[.agg #[.int .i64 4,.int .i64 0,.string (⟨#[]⟩:ByteArray),.slice Ao60 y489.length co60]] rfl (by (try simp only [List.map_toArray,List.map_cons,List.map_nil]);first|done|rfl|(simp only [List.length_drop,List.length_take];rfl)|(simp only [gt_iff_lt,Int.ofNat_lt];rfl)) ?_;(with_reducible refine (spinneyref01_Right.calls kj15 4 0 (⟨#[]⟩:ByteArray) _ _ y489 false _ ?side1 ?side2 A42.out).mono ?_);(case side1 => refine (Kd.N_reads' (e:=24) (base:=w.heap.size) (ok:=fun k_ => (((P1_3_ k_ ∨ w.heap.size≤k_)∧(k_≠gb462∧k_≠gb463))∧k_≠gb492)) (n:=y489.length) (c:=co60) ?_).2.2;exact (by (with_reducible repeat (first|apply Kd.N_alloc|apply Kd.N_drewN|apply Kd.N_drew));exact (Kd.N_mono (Kd.N_far (p:=⟨gb492,3,none⟩) (Kd.N_far (p:=⟨gb492,2,none⟩) (Kd.N_far (p:=⟨gb492,1,none⟩) (Kd.N_far (p:=⟨gb492,0,none⟩) (Kd.N_mono HO491.out (fun k_ hk => (⟨hk,hk.2⟩:_∧k_≠gb492))) (fun _ hk => hk.2) (.int .i64 4)) (fun _ hk => hk.2) (.int .i64 0)) (fun _ hk => hk.2) (.string (⟨#[]⟩:ByteArray))) (fun _ hk => hk.2) (.slice Ao60 y489.length co60)) (fun _ h_ => h_.1))));(case side2 => exact (Kd.N_reads' HO491.out).2.1);rintro e w65 ⟨rfl,hb⟩;refine ⟨_,rfl,?_⟩;replace HO_463003:=Aside0.mk (Kd.V_below (by (with_reducible repeat (first|apply Kd.V_alloc|apply Kd.V_drewN|apply Kd.V_drew));exact (Kd.V_mono (fa4_v HO_463003 (fun _ hk => hk.2)) (fun _ h_ => h_.1))) hb);replace HO491:=Aside0.mk (Kd.N_below (by (with_reducible repeat (first|apply Kd.N_alloc|apply Kd.N_drewN|apply Kd.N_drew));exact (Kd.N_mono (Kd.N_far (p:=⟨gb492,3,none⟩) (Kd.N_far (p:=⟨gb492,2,none⟩) (Kd.N_far (p:=⟨gb492,1,none⟩) (Kd.N_far (p:=⟨gb492,0,none⟩) (Kd.N_mono HO491.out (fun k_ hk => (⟨hk,hk.2⟩:_∧k_≠gb492))) (fun _ hk => hk.2) (.int .i64 4)) (fun _ hk => hk.2) (.int .i64 0)) (fun _ hk => hk.2) (.string (⟨#[]⟩:ByteArray))) (fun _ hk => hk.2) (.slice Ao60 y489.length co60)) (fun _ h_ => h_.1))) hb);replace BK462:=cs_b BK462 NB462_492 hb;replace BK463:=cs_b BK463 NB463_492 hb;replace BK492:=Aside0.mk (blk_below (g:=gb492) (o:=.cells #[.int .i64 4,.int .i64 0,.string (⟨#[]⟩:ByteArray),.slice Ao60 y489.length co60] 24 (0,0)) (pu4 BK492) hb);replace HB:=cs_h HB GE492 hb;(try clear hb);(try clear hb2);(try clear hk);(try clear hi);obtain ⟨hcz66_0,hcz66_1,hcz66_2,hcz66_3,hfz66_0,hfz66_1,hfz66_2,hfz66_3⟩:=bk4 BK463))
           refine bodyPost_ret (results_cell_row rfl _ _ gb463 24 #[.int .i64 0,.int .i64 0,.string (⟨#[]⟩:ByteArray),.slice none 0 0] (0,0) _ rfl (pu4 BK463) Tryd.underlying24 rfl (by kernel_rfl)) rfl ?_
           exact ⟨_,by first|rfl|(simp [errW_none,errW_some] <;> rfl)|(simp [*,errW_none,errW_some] <;> rfl),Kd.V_nil _ _ _ _ _,by repeat (first|(with_reducible first|exact HB.out|apply below_alloc|apply pw_below_drewN|apply below_drew1|refine below_set ?_ GE462.out|refine below_set ?_ GE463.out|refine below_set ?_ GE492.out)|exact HB.out)⟩
         ·rw [if_neg c41] at H
          have c41b0:(a0 == 5)=false:=beq_eq_false_iff_ne.mpr c41
          have c41b1:(a0 != 5)=true:=bne_iff_ne.mpr c41
          by_cases c67:a0=6
          ·rw [if_pos c67] at H
           have c67b0:(a0 == 6)=true:=beq_iff_eq.mpr c67
           have c67b1:(a0 != 6)=false:=bne_eq_false_iff_eq.mpr c67
           clear c67
           replace H:=Option.bind_eq_some_iff.mp H
           obtain ⟨⟨t494,t495,t496,t497⟩,A680,H⟩:=H
           replace H:(some (t494,t495,t496,t497))=some (r1,r2,r3,r4):=H
           have A68:=Aside0.mk A680
           clear A680
           simp only [Option.some.injEq,Prod.mk.injEq] at H
           obtain ⟨rfl,rfl,rfl,rfl⟩:=H
           have hnb69:=NB462_463.out
           have hnc69:=NB463_462.out
           have hcz70_0:wc.cell? ⟨gb462,0,none⟩=some (.int .i64 a1_0):=(blk_cell BK462.out 0).trans rfl;have hcz70_1:wc.cell? ⟨gb462,1,none⟩=some (.int .i64 a1_1):=(blk_cell BK462.out 1).trans rfl;have hcz70_2:wc.cell? ⟨gb462,2,none⟩=some (.string a1_2):=(blk_cell BK462.out 2).trans rfl;have hcz70_3:wc.cell? ⟨gb462,3,none⟩=some (.slice A1_3 l1_3.length c1_3):=(blk_cell BK462.out 3).trans rfl;have hfz70_0:=blk_frozen BK462.out 0;have hfz70_1:=blk_frozen BK462.out 1;have hfz70_2:=blk_frozen BK462.out 2;have hfz70_3:=blk_frozen BK462.out 3
           go_wp2_with (first|((with_reducible refine gate_callee (f:=50) rfl ?_);refine goesL_ (some 56) rfl rfl Tryd.func50 (by kernel_rfl) rfl #[.int .i64 a1_0] rfl (by (try simp only [List.map_toArray,List.map_cons,List.map_nil]);first|done|rfl|(simp only [List.length_drop,List.length_take];rfl)|(simp only [gt_iff_lt,Int.ofNat_lt];rfl)) ?_;(with_reducible refine (spinneyref05_Int.calls a1_0 t494 t495 t496 t497 _ A68.out).mono ?_);rintro e w71 ⟨v498,rfl,ho0,hb⟩;refine ⟨_,rfl,?_⟩;have HO499:=Aside0.mk (Kd.N_lower (Kd.N_mono (ok':=fun k_ => (P1_3_ k_ ∨ w.heap.size≤k_)∧k_≠gb462∧k_≠gb463) (Kd.R_N (Kd.R_bound ho0)) (fun k_ hk_ => ⟨(.inr (Nat.le_trans (below_size (up_h HB)) hk_.2.1)),(Kd.freshB (up_b BK462) k_ hk_.2.1),(Kd.freshB (up_b BK463) k_ hk_.2.1)⟩)) (below_size (up_h HB)));replace HO_463003:=Aside0.mk (Kd.V_elder' (up_v HO_463003) (by first|exact Kd.N_base ho0|exact Kd.N_base (Kd.R_N ho0)) hb);replace BK462:=ca_b BK462 hb;replace BK463:=ca_b BK463 hb;replace HB:=ca_h HB hb;(try clear hb);(try clear hb2);(try clear hk);(try clear hi);(try clear ho0);obtain ⟨hcz72_0,hcz72_1,hcz72_2,hcz72_3,hfz72_0,hfz72_1,hfz72_2,hfz72_3⟩:=bk4 BK463;obtain ⟨Ao73,co73,eo73⟩:=Kd.N_slice HO499.out;subst eo73))
           refine bodyPost_ret (results_cell_row rfl _ _ gb463 24 #[.int .i64 t494,.int .i64 t495,.string t496,.slice Ao73 t497.length co73] (0,0) _ rfl (pu4 BK463) Tryd.underlying24 rfl (by kernel_rfl)) rfl ?_
           exact ⟨_,by first|rfl|(simp [errW_none,errW_some] <;> rfl)|(simp [*,errW_none,errW_some] <;> rfl),Kd.N_V (by (with_reducible repeat (first|apply Kd.N_alloc|apply Kd.N_drewN|apply Kd.N_drew));exact Kd.N_mono (Kd.N_far (p:=⟨gb463,3,none⟩) (Kd.N_far (p:=⟨gb463,2,none⟩) (Kd.N_far (p:=⟨gb463,1,none⟩) (Kd.N_far (p:=⟨gb463,0,none⟩) (Kd.N_mono HO499.out (fun k_ hk => (⟨hk,hk.2.2⟩:_∧k_≠gb463))) (fun _ hk => hk.2) (.int .i64 t494)) (fun _ hk => hk.2) (.int .i64 t495)) (fun _ hk => hk.2) (.string t496)) (fun _ hk => hk.2) (.slice Ao73 t497.length co73)) (fun _ hk => hk.1.1)),by repeat (first|(with_reducible first|exact HB.out|apply below_alloc|apply pw_below_drewN|apply below_drew1|refine below_set ?_ GE462.out|refine below_set ?_ GE463.out)|exact HB.out)⟩
          ·rw [if_neg c67] at H
           have c67b0:(a0 == 6)=false:=beq_eq_false_iff_ne.mpr c67
           have c67b1:(a0 != 6)=true:=bne_iff_ne.mpr c67
           by_cases c74:a0=7
           ·rw [if_pos c74] at H
            have c74b0:(a0 == 7)=true:=beq_iff_eq.mpr c74
            have c74b1:(a0 != 7)=false:=bne_eq_false_iff_eq.mpr c74
            clear c74
            by_cases c75:(a1_0 == 2)=true
            ·rw [if_pos c75] at H
             have c75b0:(a1_0 == 2)=true:=c75
             (try (have c75b1:decide (a1_0=2)=true:=by simpa using c75))
             (try (have c75b2:(a1_0 == 2)=true:=by simpa using c75))
             clear c75
             replace H:=Option.bind_eq_some_iff.mp H
             obtain ⟨⟨t500,t501,t502,t503⟩,A760,H⟩:=H
             replace H:(some (t500,t501,t502,t503))=some (r1,r2,r3,r4):=H
             have A76:=Aside0.mk A760
             clear A760
             simp only [Option.some.injEq,Prod.mk.injEq] at H
             obtain ⟨rfl,rfl,rfl,rfl⟩:=H
             have hnb77:=NB462_463.out
             have hnc77:=NB463_462.out
             have hcz78_0:wc.cell? ⟨gb462,0,none⟩=some (.int .i64 a1_0):=(blk_cell BK462.out 0).trans rfl;have hcz78_1:wc.cell? ⟨gb462,1,none⟩=some (.int .i64 a1_1):=(blk_cell BK462.out 1).trans rfl;have hcz78_2:wc.cell? ⟨gb462,2,none⟩=some (.string a1_2):=(blk_cell BK462.out 2).trans rfl;have hcz78_3:wc.cell? ⟨gb462,3,none⟩=some (.slice A1_3 l1_3.length c1_3):=(blk_cell BK462.out 3).trans rfl;have hfz78_0:=blk_frozen BK462.out 0;have hfz78_1:=blk_frozen BK462.out 1;have hfz78_2:=blk_frozen BK462.out 2;have hfz78_3:=blk_frozen BK462.out 3
             go_wp2_with (first|((with_reducible refine gate_callee (f:=50) rfl ?_);refine goesL_ (some 66) rfl rfl Tryd.func50 (by kernel_rfl) rfl #[.int .i64 (wrap64 (Int.tdiv a1_1 2))] rfl (by (try simp only [List.map_toArray,List.map_cons,List.map_nil]);first|done|rfl|(simp only [List.length_drop,List.length_take];rfl)|(simp only [gt_iff_lt,Int.ofNat_lt];rfl)) ?_;(with_reducible refine (spinneyref05_Int.calls (wrap64 (Int.tdiv a1_1 2)) t500 t501 t502 t503 _ A76.out).mono ?_);rintro e w79 ⟨v504,rfl,ho0,hb⟩;refine ⟨_,rfl,?_⟩;have HO505:=Aside0.mk (Kd.N_lower (Kd.N_mono (ok':=fun k_ => (P1_3_ k_ ∨ w.heap.size≤k_)∧k_≠gb462∧k_≠gb463) (Kd.R_N (Kd.R_bound ho0)) (fun k_ hk_ => ⟨(.inr (Nat.le_trans (below_size (up_h HB)) hk_.2.1)),(Kd.freshB (up_b BK462) k_ hk_.2.1),(Kd.freshB (up_b BK463) k_ hk_.2.1)⟩)) (below_size (up_h HB)));replace HO_463003:=Aside0.mk (Kd.V_elder' (up_v HO_463003) (by first|exact Kd.N_base ho0|exact Kd.N_base (Kd.R_N ho0)) hb);replace BK462:=ca_b BK462 hb;replace BK463:=ca_b BK463 hb;replace HB:=ca_h HB hb;(try clear hb);(try clear hb2);(try clear hk);(try clear hi);(try clear ho0);obtain ⟨hcz80_0,hcz80_1,hcz80_2,hcz80_3,hfz80_0,hfz80_1,hfz80_2,hfz80_3⟩:=bk4 BK463;obtain ⟨Ao81,co81,eo81⟩:=Kd.N_slice HO505.out;subst eo81))
             refine bodyPost_ret (results_cell_row rfl _ _ gb463 24 #[.int .i64 t500,.int .i64 t501,.string t502,.slice Ao81 t503.length co81] (0,0) _ rfl (pu4 BK463) Tryd.underlying24 rfl (by kernel_rfl)) rfl ?_
             exact ⟨_,by first|rfl|(simp [errW_none,errW_some] <;> rfl)|(simp [*,errW_none,errW_some] <;> rfl),Kd.N_V (by (with_reducible repeat (first|apply Kd.N_alloc|apply Kd.N_drewN|apply Kd.N_drew));exact Kd.N_mono (Kd.N_far (p:=⟨gb463,3,none⟩) (Kd.N_far (p:=⟨gb463,2,none⟩) (Kd.N_far (p:=⟨gb463,1,none⟩) (Kd.N_far (p:=⟨gb463,0,none⟩) (Kd.N_mono HO505.out (fun k_ hk => (⟨hk,hk.2.2⟩:_∧k_≠gb463))) (fun _ hk => hk.2) (.int .i64 t500)) (fun _ hk => hk.2) (.int .i64 t501)) (fun _ hk => hk.2) (.string t502)) (fun _ hk => hk.2) (.slice Ao81 t503.length co81)) (fun _ hk => hk.1.1)),by repeat (first|(with_reducible first|exact HB.out|apply below_alloc|apply pw_below_drewN|apply below_drew1|refine below_set ?_ GE462.out|refine below_set ?_ GE463.out)|exact HB.out)⟩
            ·rw [if_neg c75] at H
             have c75b0:(a1_0 == 2)=false:=by simpa using c75
             (try (have c75b1:decide (a1_0=2)=false:=by simpa using c75))
             (try (have c75b2:(a1_0 == 2)=false:=by simpa using c75))
             (try (have c75b3:¬ (a1_0=2):=by simpa using c75))
             clear c75
             simp only [Option.some.injEq,Prod.mk.injEq] at H
             obtain ⟨rfl,rfl,rfl,rfl⟩:=H
             have hnb82:=NB462_463.out
             have hnc82:=NB463_462.out
             have hcz83_0:wc.cell? ⟨gb462,0,none⟩=some (.int .i64 a1_0):=(blk_cell BK462.out 0).trans rfl;have hcz83_1:wc.cell? ⟨gb462,1,none⟩=some (.int .i64 a1_1):=(blk_cell BK462.out 1).trans rfl;have hcz83_2:wc.cell? ⟨gb462,2,none⟩=some (.string a1_2):=(blk_cell BK462.out 2).trans rfl;have hcz83_3:wc.cell? ⟨gb462,3,none⟩=some (.slice A1_3 l1_3.length c1_3):=(blk_cell BK462.out 3).trans rfl;have hfz83_0:=blk_frozen BK462.out 0;have hfz83_1:=blk_frozen BK462.out 1;have hfz83_2:=blk_frozen BK462.out 2;have hfz83_3:=blk_frozen BK462.out 3;have hcz84_0:wc.cell? ⟨gb463,0,none⟩=some (.int .i64 0):=(blk_cell BK463.out 0).trans rfl;have hcz84_1:wc.cell? ⟨gb463,1,none⟩=some (.int .i64 0):=(blk_cell BK463.out 1).trans rfl;have hcz84_2:wc.cell? ⟨gb463,2,none⟩=some (.string (⟨#[]⟩:ByteArray)):=(blk_cell BK463.out 2).trans rfl;have hcz84_3:wc.cell? ⟨gb463,3,none⟩=some (.slice none 0 0):=(blk_cell BK463.out 3).trans rfl;have hfz84_0:=blk_frozen BK463.out 0;have hfz84_1:=blk_frozen BK463.out 1;have hfz84_2:=blk_frozen BK463.out 2;have hfz84_3:=blk_frozen BK463.out 3
             go_wp2
             refine bodyPost_ret (results_cell_row rfl _ _ gb463 24 #[.int .i64 a1_0,.int .i64 a1_1,.string a1_2,.slice A1_3 l1_3.length c1_3] (0,0) _ rfl (pu4 BK463) Tryd.underlying24 rfl (by kernel_rfl)) rfl ?_
             exact ⟨_,by first|rfl|(simp [errW_none,errW_some] <;> rfl)|(simp [*,errW_none,errW_some] <;> rfl),by (with_reducible repeat (first|apply Kd.V_alloc|apply Kd.V_drewN|apply Kd.V_drew));exact Kd.V_mono (fa4_v HO_463003 (fun _ hk => hk.2.2)) (fun _ hk => hk.1.1),by repeat (first|(with_reducible first|exact HB.out|apply below_alloc|apply pw_below_drewN|apply below_drew1|refine below_set ?_ GE462.out|refine below_set ?_ GE463.out)|exact HB.out)⟩
           ·rw [if_neg c74] at H
            have c74b0:(a0 == 7)=false:=beq_eq_false_iff_ne.mpr c74
            have c74b1:(a0 != 7)=true:=bne_iff_ne.mpr c74
            simp only [Option.some.injEq,Prod.mk.injEq] at H
            obtain ⟨rfl,rfl,rfl,rfl⟩:=H
            have hnb85:=NB462_463.out
            have hnc85:=NB463_462.out
            have hcz86_0:wc.cell? ⟨gb462,0,none⟩=some (.int .i64 a1_0):=(blk_cell BK462.out 0).trans rfl;have hcz86_1:wc.cell? ⟨gb462,1,none⟩=some (.int .i64 a1_1):=(blk_cell BK462.out 1).trans rfl;have hcz86_2:wc.cell? ⟨gb462,2,none⟩=some (.string a1_2):=(blk_cell BK462.out 2).trans rfl;have hcz86_3:wc.cell? ⟨gb462,3,none⟩=some (.slice A1_3 l1_3.length c1_3):=(blk_cell BK462.out 3).trans rfl;have hfz86_0:=blk_frozen BK462.out 0;have hfz86_1:=blk_frozen BK462.out 1;have hfz86_2:=blk_frozen BK462.out 2;have hfz86_3:=blk_frozen BK462.out 3;have hcz87_0:wc.cell? ⟨gb463,0,none⟩=some (.int .i64 0):=(blk_cell BK463.out 0).trans rfl;have hcz87_1:wc.cell? ⟨gb463,1,none⟩=some (.int .i64 0):=(blk_cell BK463.out 1).trans rfl;have hcz87_2:wc.cell? ⟨gb463,2,none⟩=some (.string (⟨#[]⟩:ByteArray)):=(blk_cell BK463.out 2).trans rfl;have hcz87_3:wc.cell? ⟨gb463,3,none⟩=some (.slice none 0 0):=(blk_cell BK463.out 3).trans rfl;have hfz87_0:=blk_frozen BK463.out 0;have hfz87_1:=blk_frozen BK463.out 1;have hfz87_2:=blk_frozen BK463.out 2;have hfz87_3:=blk_frozen BK463.out 3
            go_wp2
            refine bodyPost_ret (results_cell_row rfl _ _ gb463 24 #[.int .i64 a1_0,.int .i64 a1_1,.string a1_2,.slice A1_3 l1_3.length c1_3] (0,0) _ rfl (pu4 BK463) Tryd.underlying24 rfl (by kernel_rfl)) rfl ?_
            exact ⟨_,by first|rfl|(simp [errW_none,errW_some] <;> rfl)|(simp [*,errW_none,errW_some] <;> rfl),by (with_reducible repeat (first|apply Kd.V_alloc|apply Kd.V_drewN|apply Kd.V_drew));exact Kd.V_mono (fa4_v HO_463003 (fun _ hk => hk.2.2)) (fun _ hk => hk.1.1),by repeat (first|(with_reducible first|exact HB.out|apply below_alloc|apply pw_below_drewN|apply below_drew1|refine below_set ?_ GE462.out|refine below_set ?_ GE463.out)|exact HB.out)⟩

def spinneyref05_One.f (k:Nat) (a0:Int) (a1_0:Int) (a1_1:Int) (a1_2:ByteArray) (l1_3:List (S24)):Option (Int × Int × ByteArray × (List (S24)) × Int):=(spinneyref05_Kind.f a0).bind fun t508 => (if t508=true then ((spinneyref01_Right.f k a1_0 a1_1 a1_2 l1_3).bind fun t509 => (if t509=true then ((spinneyref05_Done.f k a0 a1_0 a1_1 a1_2 l1_3).bind fun bt510 => (some (bt510.1,bt510.2.1,bt510.2.2.1,bt510.2.2.2,0))) else (some (0,0,(⟨#[]⟩:ByteArray),([]:List (S24)),3)))) else (some (0,0,(⟨#[]⟩:ByteArray),([]:List (S24)),4)))
set_option maxHeartbeats 8000000 in
set_option maxRecDepth 100000 in
theorem spinneyref05_One.calls (k:Nat) (a0:Int) (a1_0:Int) (a1_1:Int) (a1_2:ByteArray) (P1_3_:Nat→Prop) (A1_3:Option Addr) (c1_3:Nat) (l1_3:List (S24)) (r1:Int) (r2:Int) (r3:ByteArray) (r4:List (S24)) (r5:Int) (w:World) (hs1_3:Kd.V k24 24 w w.heap.size (fun k_ => P1_3_ k_) (.slice A1_3 l1_3.length c1_3) l1_3) (h:spinneyref05_One.f k a0 a1_0 a1_1 a1_2 l1_3=some (r1,r2,r3,r4,r5)) :
  Calls Tryd.prog 16 #[.int .i64 a0,.agg #[.int .i64 a1_0,.int .i64 a1_1,.string a1_2,.slice A1_3 l1_3.length c1_3]] w fun e w' => ∃ v3_:Value,e=.returned (.tuple #[.agg #[.int .i64 r1,.int .i64 r2,.string r3,v3_],.int .i64 r5])∧Kd.V k24 24 w' w.heap.size (fun k_ => (P1_3_ k_ ∨ w.heap.size≤k_)) v3_ r4∧Below w.heap.size w w':=by
 have hu24:=Tryd.underlying24
 have HO1_3:=Aside0.mk (show Kd.V k24 24 w w.heap.size (fun k_ => (P1_3_ k_ ∨ w.heap.size≤k_)) (.slice A1_3 l1_3.length c1_3) l1_3 from Kd.V_mono hs1_3 (fun k_ hk => .inl hk))
 have HB:=Aside0.mk (Below.refl w.heap.size w)
 have H:((spinneyref05_Kind.f a0).bind fun t508 => (if t508=true then ((spinneyref01_Right.f k a1_0 a1_1 a1_2 l1_3).bind fun t509 => (if t509=true then ((spinneyref05_Done.f k a0 a1_0 a1_1 a1_2 l1_3).bind fun bt510 => (some (bt510.1,bt510.2.1,bt510.2.2.1,bt510.2.2.2,0))) else (some (0,0,(⟨#[]⟩:ByteArray),([]:List (S24)),3)))) else (some (0,0,(⟨#[]⟩:ByteArray),([]:List (S24)),4))))=some (r1,r2,r3,r4,r5):=h
 clear h
 replace H:=Option.bind_eq_some_iff.mp H
 obtain ⟨t508,A30,H⟩:=H
 replace H:(if t508=true then ((spinneyref01_Right.f k a1_0 a1_1 a1_2 l1_3).bind fun t509 => (if t509=true then ((spinneyref05_Done.f k a0 a1_0 a1_1 a1_2 l1_3).bind fun bt510 => (some (bt510.1,bt510.2.1,bt510.2.2.1,bt510.2.2.2,0))) else (some (0,0,(⟨#[]⟩:ByteArray),([]:List (S24)),3)))) else (some (0,0,(⟨#[]⟩:ByteArray),([]:List (S24)),4)))=some (r1,r2,r3,r4,r5):=H
 have A3:=Aside0.mk A30
 clear A30
 by_cases c4:t508=true
 ·subst c4
  have H1:((spinneyref01_Right.f k a1_0 a1_1 a1_2 l1_3).bind fun t509 => (if t509=true then ((spinneyref05_Done.f k a0 a1_0 a1_1 a1_2 l1_3).bind fun bt510 => (some (bt510.1,bt510.2.1,bt510.2.2.1,bt510.2.2.2,0))) else (some (0,0,(⟨#[]⟩:ByteArray),([]:List (S24)),3))))=some (r1,r2,r3,r4,r5):=by rw [if_pos rfl] at H;exact H
  clear H
  have H:=H1
  clear H1
  replace H:=Option.bind_eq_some_iff.mp H
  obtain ⟨t509,A50,H⟩:=H
  replace H:(if t509=true then ((spinneyref05_Done.f k a0 a1_0 a1_1 a1_2 l1_3).bind fun bt510 => (some (bt510.1,bt510.2.1,bt510.2.2.1,bt510.2.2.2,0))) else (some (0,0,(⟨#[]⟩:ByteArray),([]:List (S24)),3)))=some (r1,r2,r3,r4,r5):=H
  have A5:=Aside0.mk A50
  clear A50
  by_cases c6:t509=true
  ·subst c6
   have H1:((spinneyref05_Done.f k a0 a1_0 a1_1 a1_2 l1_3).bind fun bt510 => (some (bt510.1,bt510.2.1,bt510.2.2.1,bt510.2.2.2,0)))=some (r1,r2,r3,r4,r5):=by rw [if_pos rfl] at H;exact H
   clear H
   have H:=H1
   clear H1
   replace H:=Option.bind_eq_some_iff.mp H
   obtain ⟨⟨t510,t511,t512,t513⟩,A70,H⟩:=H
   replace H:(some (t510,t511,t512,t513,0))=some (r1,r2,r3,r4,r5):=H
   have A7:=Aside0.mk A70
   clear A70
   simp only [Option.some.injEq,Prod.mk.injEq] at H
   obtain ⟨rfl,rfl,rfl,rfl,rfl⟩:=H
   go_enter Tryd.func16,Tryd.ntmps16
   go_wp2_with (first|((with_reducible refine gate_dst (N:=3) rfl ?_);refine box_event ?hg (N:=3) ?hd (cs:=#[.int .i64 a1_0,.int .i64 a1_1,.string a1_2,.slice A1_3 l1_3.length c1_3]) (t:=24) ?hr ?_;(case hd => rfl);(case hg => rfl);(case hr => first|(go_simp;done)|(go_simp;rfl));intro gb506 hg w8 hbox hb;have BK506:=Aside0.mk (hbox);have GW506:=bx_g (up_h HB) hg;have GE506:=bx_g (up_h HB) hg;replace HO1_3:=bx_v HO1_3 hg hb;replace HB:=ca_h HB hb;clear hb hbox hg)|((with_reducible refine gate_dst (N:=4) rfl ?_);refine box_event ?hg (N:=4) ?hd (cs:=#[.int .i64 0,.int .i64 0,.string (⟨#[]⟩:ByteArray),.slice none 0 0]) (t:=24) ?hr ?_;(case hd => rfl);(case hg => rfl);(case hr => first|(go_simp;done)|(go_simp;rfl));intro gb507 hg w9 hbox hb;have BK507:=Aside0.mk (hbox);have GW507:=bx_g (up_h HB) hg;have GE507:=bx_g (up_h HB) hg;have NB506_507:=bx_n (up_b BK506) hg;have NB507_506:=bx_m (up_b BK506) hg;replace HO1_3:=bx_v HO1_3 hg hb;replace BK506:=ca_b BK506 hb;replace HB:=ca_h HB hb;clear hb hbox hg)|((with_reducible refine gate_callee (f:=21) rfl ?_);refine goesL_ (some 7) rfl rfl Tryd.func21 (by kernel_rfl) rfl #[.int .i64 a0] rfl (by (try simp only [List.map_toArray,List.map_cons,List.map_nil]);first|done|rfl|(simp only [List.length_drop,List.length_take];rfl)|(simp only [gt_iff_lt,Int.ofNat_lt];rfl)) ?_;(with_reducible refine (spinneyref05_Kind.calls a0 true _ A3.out).mono ?_);rintro e w' ⟨rfl,⟨nd,rfl⟩⟩;refine ⟨_,rfl,?_⟩;(try (rw [drewN_self w9];generalize hq_:World.drewN w9 _=w9;have n0_:Aside0 (Kd.V k24 24 w9 w.heap.size (fun k_ => (P1_3_ k_ ∨ w.heap.size≤k_)∧k_≠gb506∧k_≠gb507) (.slice A1_3 l1_3.length c1_3) l1_3):=⟨by rw [← hq_];exact (by (with_reducible repeat (first|apply Kd.V_alloc|apply Kd.V_drewN|apply Kd.V_drew));exact Kd.V_mono HO1_3.out (fun _ hk => ⟨hk.1.1,⟨hk.1.2,hk.2⟩⟩))⟩;have n1_:Aside0 (w9.heap[gb506]? = some (.cells #[.int .i64 a1_0,.int .i64 a1_1,.string a1_2,.slice A1_3 l1_3.length c1_3] 24 (0,0))):=⟨by rw [← hq_];exact (up_b BK506)⟩;have n2_:Aside0 (w9.heap[gb507]? = some (.cells #[.int .i64 0,.int .i64 0,.string (⟨#[]⟩:ByteArray),.slice none 0 0] 24 (0,0))):=⟨by rw [← hq_];exact (up_b BK507)⟩;have n3_:Aside0 (Below w.heap.size w w9):=⟨by rw [← hq_];exact (up_h HB)⟩;clear HO1_3 BK506 BK507 HB hq_;have HO1_3:=n0_;have BK506:=n1_;have BK507:=n2_;have HB:=n3_;clear n0_ n1_ n2_ n3_));have hnb10:=NB506_507.out;have hnc10:=NB507_506.out;obtain ⟨hcz11_0,hcz11_1,hcz11_2,hcz11_3,hfz11_0,hfz11_1,hfz11_2,hfz11_3⟩:=bk4 BK506)|((with_reducible refine gate_callee (f:=22) rfl ?_);refine goesL_ (some 11) rfl rfl Tryd.func22 (by kernel_rfl) rfl #[.agg #[.int .i64 a1_0,.int .i64 a1_1,.string a1_2,.slice A1_3 l1_3.length c1_3]] rfl (by (try simp only [List.map_toArray,List.map_cons,List.map_nil]);first|done|rfl|(simp only [List.length_drop,List.length_take];rfl)|(simp only [gt_iff_lt,Int.ofNat_lt];rfl)) ?_;(with_reducible refine (spinneyref01_Right.calls k a1_0 a1_1 a1_2 _ _ l1_3 true _ ?side1 ?side2 A5.out).mono ?_);(case side1 => repeat (first|exact (Kd.V_reads' HO1_3.out).2.2|(with_reducible refine Kd.C_alloc ?_ _)|(with_reducible refine Kd.C_drewN ?_ _)|(with_reducible refine Kd.C_drew ?_)));(case side2 => exact (Kd.V_reads' HO1_3.out).2.1);rintro e w12 ⟨rfl,hb⟩;refine ⟨_,rfl,?_⟩;replace HO1_3:=ca_v HO1_3 hb;replace BK506:=ca_b BK506 hb;replace BK507:=ca_b BK507 hb;replace HB:=ca_h HB hb;(try clear hb);(try clear hb2);(try clear hk);(try clear hi);obtain ⟨hcz13_0,hcz13_1,hcz13_2,hcz13_3,hfz13_0,hfz13_1,hfz13_2,hfz13_3⟩:=bk4 BK506)|((with_reducible refine gate_callee (f:=31) rfl ?_);refine goesL_ (some 16) rfl rfl Tryd.func31 (by kernel_rfl) rfl #[.int .i64 a0,.agg #[.int .i64 a1_0,.int .i64 a1_1,.string a1_2,.slice A1_3 l1_3.length c1_3]] rfl (by (try simp only [List.map_toArray,List.map_cons,List.map_nil]);first|done|rfl|(simp only [List.length_drop,List.length_take];rfl)|(simp only [gt_iff_lt,Int.ofNat_lt];rfl)) ?_;(with_reducible refine (spinneyref05_Done.calls k a0 a1_0 a1_1 a1_2 (fun k_ => (((P1_3_ k_ ∨ w.heap.size≤k_)∧k_≠gb506)∧k_≠gb507)) _ _ l1_3 t510 t511 t512 t513 _ ?side1 A7.out).mono ?_);(case side1 => first|exact HO1_3.out|exact Kd.V_mono HO1_3.out (fun _ hk_ => by simp only [and_assoc] at hk_ ⊢;exact hk_));rintro e w14 ⟨v514,rfl,ho0,hb⟩;refine ⟨_,rfl,?_⟩;have HO515:=Aside0.mk (Kd.V_lower (Kd.V_mono (ok':=fun k_ => (P1_3_ k_ ∨ w.heap.size≤k_)∧k_≠gb506∧k_≠gb507) ho0 (fun k_ hk_ => ⟨Or.elim hk_ (fun hs_ => hs_.1.1) (fun hn_ => (.inr (Nat.le_trans (below_size (up_h HB)) hn_))),Or.elim hk_ (fun hs_ => hs_.1.2) (fun hn_ => (Kd.freshB (up_b BK506) k_ hn_)),Or.elim hk_ (fun hs_ => hs_.2) (fun hn_ => (Kd.freshB (up_b BK507) k_ hn_))⟩)) (below_size (up_h HB)));replace HO1_3:=ca_v HO1_3 hb;replace BK506:=ca_b BK506 hb;replace BK507:=ca_b BK507 hb;replace HB:=ca_h HB hb;(try clear hb);(try clear hb2);(try clear hk);(try clear hi);(try clear ho0);obtain ⟨hcz15_0,hcz15_1,hcz15_2,hcz15_3,hfz15_0,hfz15_1,hfz15_2,hfz15_3⟩:=bk4 BK507;obtain ⟨Ao16,co16,eo16⟩:=Kd.V_slice HO515.out;subst eo16))
   refine bodyPost_ret (results_ct rfl _ _ gb507 24 #[.int .i64 t510,.int .i64 t511,.string t512,.slice Ao16 t513.length co16] (0,0) _ rfl (pu4 BK507) Tryd.underlying24 rfl (by kernel_rfl)) rfl ?_
   exact ⟨_,by first|rfl|(simp [errW_none,errW_some] <;> rfl)|(simp [*,errW_none,errW_some] <;> rfl),by (with_reducible repeat (first|apply Kd.V_alloc|apply Kd.V_drewN|apply Kd.V_drew));exact Kd.V_mono (fa4_v HO515 (fun _ hk => hk.2.2)) (fun _ hk => hk.1.1),by repeat (first|(with_reducible first|exact HB.out|apply below_alloc|apply pw_below_drewN|apply below_drew1|refine below_set ?_ GE506.out|refine below_set ?_ GE507.out)|exact HB.out)⟩
  ·replace c6:=Bool.eq_false_iff.mpr c6
   subst c6
   have H1:(some (0,0,(⟨#[]⟩:ByteArray),([]:List (S24)),3))=some (r1,r2,r3,r4,r5):=by rw [if_neg (show ¬ (false=true) by decide)] at H;exact H
   clear H
   have H:=H1
   clear H1
   simp only [Option.some.injEq,Prod.mk.injEq] at H
   obtain ⟨rfl,rfl,rfl,rfl,rfl⟩:=H
   go_enter Tryd.func16,Tryd.ntmps16
   go_wp2_with (first|((with_reducible refine gate_dst (N:=3) rfl ?_);refine box_event ?hg (N:=3) ?hd (cs:=#[.int .i64 a1_0,.int .i64 a1_1,.string a1_2,.slice A1_3 l1_3.length c1_3]) (t:=24) ?hr ?_;(case hd => rfl);(case hg => rfl);(case hr => first|(go_simp;done)|(go_simp;rfl));intro gb506 hg w17 hbox hb;have BK506:=Aside0.mk (hbox);have GW506:=bx_g (up_h HB) hg;have GE506:=bx_g (up_h HB) hg;replace HO1_3:=bx_v HO1_3 hg hb;replace HB:=ca_h HB hb;clear hb hbox hg)|((with_reducible refine gate_dst (N:=4) rfl ?_);refine box_event ?hg (N:=4) ?hd (cs:=#[.int .i64 0,.int .i64 0,.string (⟨#[]⟩:ByteArray),.slice none 0 0]) (t:=24) ?hr ?_;(case hd => rfl);(case hg => rfl);(case hr => first|(go_simp;done)|(go_simp;rfl));intro gb507 hg w18 hbox hb;have BK507:=Aside0.mk (hbox);have GW507:=bx_g (up_h HB) hg;have GE507:=bx_g (up_h HB) hg;have NB506_507:=bx_n (up_b BK506) hg;have NB507_506:=bx_m (up_b BK506) hg;replace HO1_3:=bx_v HO1_3 hg hb;replace BK506:=ca_b BK506 hb;replace HB:=ca_h HB hb;clear hb hbox hg)|((with_reducible refine gate_callee (f:=21) rfl ?_);refine goesL_ (some 7) rfl rfl Tryd.func21 (by kernel_rfl) rfl #[.int .i64 a0] rfl (by (try simp only [List.map_toArray,List.map_cons,List.map_nil]);first|done|rfl|(simp only [List.length_drop,List.length_take];rfl)|(simp only [gt_iff_lt,Int.ofNat_lt];rfl)) ?_;(with_reducible refine (spinneyref05_Kind.calls a0 true _ A3.out).mono ?_);rintro e w' ⟨rfl,⟨nd,rfl⟩⟩;refine ⟨_,rfl,?_⟩;(try (rw [drewN_self w18];generalize hq_:World.drewN w18 _=w18;have n0_:Aside0 (Kd.V k24 24 w18 w.heap.size (fun k_ => (P1_3_ k_ ∨ w.heap.size≤k_)∧k_≠gb506∧k_≠gb507) (.slice A1_3 l1_3.length c1_3) l1_3):=⟨by rw [← hq_];exact (by (with_reducible repeat (first|apply Kd.V_alloc|apply Kd.V_drewN|apply Kd.V_drew));exact Kd.V_mono HO1_3.out (fun _ hk => ⟨hk.1.1,⟨hk.1.2,hk.2⟩⟩))⟩;have n1_:Aside0 (w18.heap[gb506]? = some (.cells #[.int .i64 a1_0,.int .i64 a1_1,.string a1_2,.slice A1_3 l1_3.length c1_3] 24 (0,0))):=⟨by rw [← hq_];exact (up_b BK506)⟩;have n2_:Aside0 (w18.heap[gb507]? = some (.cells #[.int .i64 0,.int .i64 0,.string (⟨#[]⟩:ByteArray),.slice none 0 0] 24 (0,0))):=⟨by rw [← hq_];exact (up_b BK507)⟩;have n3_:Aside0 (Below w.heap.size w w18):=⟨by rw [← hq_];exact (up_h HB)⟩;clear HO1_3 BK506 BK507 HB hq_;have HO1_3:=n0_;have BK506:=n1_;have BK507:=n2_;have HB:=n3_;clear n0_ n1_ n2_ n3_));have hnb19:=NB506_507.out;have hnc19:=NB507_506.out;obtain ⟨hcz20_0,hcz20_1,hcz20_2,hcz20_3,hfz20_0,hfz20_1,hfz20_2,hfz20_3⟩:=bk4 BK506)|((with_reducible refine gate_callee (f:=22) rfl ?_);refine goesL_ (some 11) rfl rfl Tryd.func22 (by kernel_rfl) rfl #[.agg #[.int .i64 a1_0,.int .i64 a1_1,.string a1_2,.slice A1_3 l1_3.length c1_3]] rfl (by (try simp only [List.map_toArray,List.map_cons,List.map_nil]);first|done|rfl|(simp only [List.length_drop,List.length_take];rfl)|(simp only [gt_iff_lt,Int.ofNat_lt];rfl)) ?_;(with_reducible refine (spinneyref01_Right.calls k a1_0 a1_1 a1_2 _ _ l1_3 false _ ?side1 ?side2 A5.out).mono ?_);(case side1 => repeat (first|exact (Kd.V_reads' HO1_3.out).2.2|(with_reducible refine Kd.C_alloc ?_ _)|(with_reducible refine Kd.C_drewN ?_ _)|(with_reducible refine Kd.C_drew ?_)));(case side2 => exact (Kd.V_reads' HO1_3.out).2.1);rintro e w21 ⟨rfl,hb⟩;refine ⟨_,rfl,?_⟩;replace HO1_3:=ca_v HO1_3 hb;replace BK506:=ca_b BK506 hb;replace BK507:=ca_b BK507 hb;replace HB:=ca_h HB hb;(try clear hb);(try clear hb2);(try clear hk);(try clear hi);obtain ⟨hcz22_0,hcz22_1,hcz22_2,hcz22_3,hfz22_0,hfz22_1,hfz22_2,hfz22_3⟩:=bk4 BK507))
   refine bodyPost_ret (results_ct rfl _ _ gb507 24 #[.int .i64 0,.int .i64 0,.string (⟨#[]⟩:ByteArray),.slice none 0 0] (0,0) _ rfl (pu4 BK507) Tryd.underlying24 rfl (by kernel_rfl)) rfl ?_
   exact ⟨_,by first|rfl|(simp [errW_none,errW_some] <;> rfl)|(simp [*,errW_none,errW_some] <;> rfl),Kd.V_nil _ _ _ _ _,by repeat (first|(with_reducible first|exact HB.out|apply below_alloc|apply pw_below_drewN|apply below_drew1|refine below_set ?_ GE506.out|refine below_set ?_ GE507.out)|exact HB.out)⟩
 ·replace c4:=Bool.eq_false_iff.mpr c4
  subst c4
  have H1:(some (0,0,(⟨#[]⟩:ByteArray),([]:List (S24)),4))=some (r1,r2,r3,r4,r5):=by rw [if_neg (show ¬ (false=true) by decide)] at H;exact H
  clear H
  have H:=H1
  clear H1
  simp only [Option.some.injEq,Prod.mk.injEq] at H
  obtain ⟨rfl,rfl,rfl,rfl,rfl⟩:=H
  go_enter Tryd.func16,Tryd.ntmps16
  go_wp2_with (first|((with_reducible refine gate_dst (N:=3) rfl ?_);refine box_event ?hg (N:=3) ?hd (cs:=#[.int .i64 a1_0,.int .i64 a1_1,.string a1_2,.slice A1_3 l1_3.length c1_3]) (t:=24) ?hr ?_;(case hd => rfl);(case hg => rfl);(case hr => first|(go_simp;done)|(go_simp;rfl));intro gb506 hg w23 hbox hb;have BK506:=Aside0.mk (hbox);have GW506:=bx_g (up_h HB) hg;have GE506:=bx_g (up_h HB) hg;replace HO1_3:=bx_v HO1_3 hg hb;replace HB:=ca_h HB hb;clear hb hbox hg)|((with_reducible refine gate_dst (N:=4) rfl ?_);refine box_event ?hg (N:=4) ?hd (cs:=#[.int .i64 0,.int .i64 0,.string (⟨#[]⟩:ByteArray),.slice none 0 0]) (t:=24) ?hr ?_;(case hd => rfl);(case hg => rfl);(case hr => first|(go_simp;done)|(go_simp;rfl));intro gb507 hg w24 hbox hb;have BK507:=Aside0.mk (hbox);have GW507:=bx_g (up_h HB) hg;have GE507:=bx_g (up_h HB) hg;have NB506_507:=bx_n (up_b BK506) hg;have NB507_506:=bx_m (up_b BK506) hg;replace HO1_3:=bx_v HO1_3 hg hb;replace BK506:=ca_b BK506 hb;replace HB:=ca_h HB hb;clear hb hbox hg)|((with_reducible refine gate_callee (f:=21) rfl ?_);refine goesL_ (some 7) rfl rfl Tryd.func21 (by kernel_rfl) rfl #[.int .i64 a0] rfl (by (try simp only [List.map_toArray,List.map_cons,List.map_nil]);first|done|rfl|(simp only [List.length_drop,List.length_take];rfl)|(simp only [gt_iff_lt,Int.ofNat_lt];rfl)) ?_;(with_reducible refine (spinneyref05_Kind.calls a0 false _ A3.out).mono ?_);rintro e w' ⟨rfl,⟨nd,rfl⟩⟩;refine ⟨_,rfl,?_⟩;(try (rw [drewN_self w24];generalize hq_:World.drewN w24 _=w24;have n0_:Aside0 (Kd.V k24 24 w24 w.heap.size (fun k_ => (P1_3_ k_ ∨ w.heap.size≤k_)∧k_≠gb506∧k_≠gb507) (.slice A1_3 l1_3.length c1_3) l1_3):=⟨by rw [← hq_];exact (by (with_reducible repeat (first|apply Kd.V_alloc|apply Kd.V_drewN|apply Kd.V_drew));exact Kd.V_mono HO1_3.out (fun _ hk => ⟨hk.1.1,⟨hk.1.2,hk.2⟩⟩))⟩;have n1_:Aside0 (w24.heap[gb506]? = some (.cells #[.int .i64 a1_0,.int .i64 a1_1,.string a1_2,.slice A1_3 l1_3.length c1_3] 24 (0,0))):=⟨by rw [← hq_];exact (up_b BK506)⟩;have n2_:Aside0 (w24.heap[gb507]? = some (.cells #[.int .i64 0,.int .i64 0,.string (⟨#[]⟩:ByteArray),.slice none 0 0] 24 (0,0))):=⟨by rw [← hq_];exact (up_b BK507)⟩;have n3_:Aside0 (Below w.heap.size w w24):=⟨by rw [← hq_];exact (up_h HB)⟩;clear HO1_3 BK506 BK507 HB hq_;have HO1_3:=n0_;have BK506:=n1_;have BK507:=n2_;have HB:=n3_;clear n0_ n1_ n2_ n3_));have hnb25:=NB507_506.out;have hnc25:=NB506_507.out;obtain ⟨hcz26_0,hcz26_1,hcz26_2,hcz26_3,hfz26_0,hfz26_1,hfz26_2,hfz26_3⟩:=bk4 BK507))
  refine bodyPost_ret (results_ct rfl _ _ gb507 24 #[.int .i64 0,.int .i64 0,.string (⟨#[]⟩:ByteArray),.slice none 0 0] (0,0) _ rfl (pu4 BK507) Tryd.underlying24 rfl (by kernel_rfl)) rfl ?_
  exact ⟨_,by first|rfl|(simp [errW_none,errW_some] <;> rfl)|(simp [*,errW_none,errW_some] <;> rfl),Kd.V_nil _ _ _ _ _,by repeat (first|(with_reducible first|exact HB.out|apply below_alloc|apply pw_below_drewN|apply below_drew1|refine below_set ?_ GE506.out|refine below_set ?_ GE507.out)|exact HB.out)⟩

end Go.Proofs.YtgmmoagclkmeaaaDoor.XH
