-- cut down by bundle.py (the session's own program) from the texts YtgmmoagclkmeaaaDoorXH21, to what this claim names
import Derived.Test.YtgmmoagclkmeaaaDoorZFnsOneXH0
import Derived.Test.YtgmmoagclkmeaaaDoorZFnsOneXH4
import Derived.Test.YtgmmoagclkmeaaaDoorZFnsOneXH7
import Derived.Test.YtgmmoagclkmeaaaDoorZFnsOneXH13
import Derived.Test.YtgmmoagclkmeaaaDoorZFnsOneXH15
import Derived.Test.YtgmmoagclkmeaaaDoorZFnsOneXH16
import Derived.Test.YtgmmoagclkmeaaaDoorZFnsOneXH10
import Derived.Test.YtgmmoagclkmeaaaDoorZFnsOneXH6
import Derived.Test.YtgmmoagclkmeaaaDoorZFnsOneXH20
-- laid by xprint.py (the session's own program) out of the translation; Lean checks it
namespace Go.Proofs.YtgmmoagclkmeaaaDoor.XH
open Go.RowKit Go.Proofs.YtgmmoagclkmeaaaDoorW.PrintWords Go.Proofs.YtgmmoagclkmeaaaDoorW.PrintLast Go.Proofs.YtgmmoagclkmeaaaDoorW.PrintMore
attribute [local go_sem] max2_int min2_int max_two min_two max_three min_three max_four min_four   -- for this text's walks alone
set_option linter.unusedVariables false
set_option linter.unusedSimpArgs false

def spinneyref05_size.j0:Nat→Int→Bool→Int→Int→ByteArray→List (S24)→Option (Int)
 | 0,_,_,_,_,_,_ => none
 | k+1,x4,x10,x460000,x460001,x460002,x460003 => if x10=true then (some (x460003.length:Int)) else (if x4=6 then (some (wrap64 ((x460003.length:Int) / 2))) else (some 0))
def spinneyref05_size.f (k:Nat) (a0_0:Int) (a0_1:Int) (a0_2:ByteArray) (l0_3:List (S24)):Option (Int):=if a0_0=3 then ((spinneyref01_Letters.f k a0_2).bind fun t460 => (some t460)) else (if a0_0=4 then (spinneyref05_size.j0 k a0_0 (a0_0 == 4) a0_0 a0_1 a0_2 l0_3) else (spinneyref05_size.j0 k a0_0 (a0_0 == 5) a0_0 a0_1 a0_2 l0_3))
set_option maxHeartbeats 8000000 in
set_option maxRecDepth 100000 in
theorem spinneyref05_size.calls (k:Nat) (a0_0:Int) (a0_1:Int) (a0_2:ByteArray) (A0_3:Option Addr) (c0_3:Nat) (l0_3:List (S24)) (r:Int) (w:World) (hr0_3:Kd.C k24 w A0_3 l0_3.length l0_3) (hc0_3:l0_3.length≤c0_3) (h:spinneyref05_size.f k a0_0 a0_1 a0_2 l0_3=some r) :
  Calls Tryd.prog 62 #[.agg #[.int .i64 a0_0,.int .i64 a0_1,.string a0_2,.slice A0_3 l0_3.length c0_3]] w fun e w' => e=.returned (.int .i64 r)∧Below w.heap.size w w':=by
 have hu24:=Tryd.underlying24
 have HR0_3:=Aside0.mk hr0_3
 have HC0_3:=Aside0.mk hc0_3
 clear hr0_3 hc0_3
 have HB:=Aside0.mk (Below.refl w.heap.size w)
 have H:(if a0_0=3 then ((spinneyref01_Letters.f k a0_2).bind fun t460 => (some t460)) else (if a0_0=4 then (spinneyref05_size.j0 k a0_0 (a0_0 == 4) a0_0 a0_1 a0_2 l0_3) else (spinneyref05_size.j0 k a0_0 (a0_0 == 5) a0_0 a0_1 a0_2 l0_3)))=some r:=h
 clear h
 by_cases c2:a0_0=3
 ·rw [if_pos c2] at H
  have c2b0:(a0_0 == 3)=true:=beq_iff_eq.mpr c2
  have c2b1:(a0_0 != 3)=false:=bne_eq_false_iff_eq.mpr c2
  clear c2
  replace H:=Option.bind_eq_some_iff.mp H
  obtain ⟨t460,A30,H⟩:=H
  replace H:(some t460)=some r:=H
  have A3:=Aside0.mk A30
  clear A30
  obtain rfl:=Option.some.inj H
  go_enter Tryd.func62,Tryd.ntmps62
  go_wp2_with (first|((with_reducible refine gate_dst (N:=1) rfl ?_);refine box_event ?hg (N:=1) ?hd (cs:=#[.int .i64 a0_0,.int .i64 a0_1,.string a0_2,.slice A0_3 l0_3.length c0_3]) (t:=24) ?hr ?_;(case hd => rfl);(case hg => rfl);(case hr => first|(go_simp;done)|(go_simp;rfl));intro gb459 hg w4 hbox hb;have BK459:=Aside0.mk (hbox);have GW459:=bx_g (up_h HB) hg;have GE459:=bx_g (up_h HB) hg;replace HB:=ca_h HB hb;clear hb hbox hg;obtain ⟨hcz5_0,hcz5_1,hcz5_2,hcz5_3,hfz5_0,hfz5_1,hfz5_2,hfz5_3⟩:=bk4 BK459)|((with_reducible refine gate_callee (f:=73) rfl ?_);refine goesL_ (some 9) rfl rfl Tryd.func73 (by kernel_rfl) rfl #[.string a0_2] rfl (by (try simp only [List.map_toArray,List.map_cons,List.map_nil]);first|done|rfl|(simp only [List.length_drop,List.length_take];rfl)|(simp only [gt_iff_lt,Int.ofNat_lt];rfl)) ?_;(with_reducible refine (spinneyref01_Letters.calls k a0_2 t460 _ A3.out).mono ?_);rintro e w' ⟨rfl,⟨nd,rfl⟩⟩;refine ⟨_,rfl,?_⟩))
  go_ret
  exact ⟨by first|rfl|(simp [errW_none,errW_some] <;> rfl)|(simp [*,errW_none,errW_some] <;> rfl),by repeat (first|(with_reducible first|exact HB.out|apply below_alloc|apply pw_below_drewN|apply below_drew1|refine below_set ?_ GE459.out)|exact HB.out)⟩
 ·rw [if_neg c2] at H
  have c2b0:(a0_0 == 3)=false:=beq_eq_false_iff_ne.mpr c2
  have c2b1:(a0_0 != 3)=true:=bne_iff_ne.mpr c2
  have HC6:=Aside0.mk H
  clear H
  go_enter Tryd.func62,Tryd.ntmps62
  go_upto_if 10 with (first|((with_reducible refine gate_dst (N:=1) rfl ?_);refine box_event ?hg (N:=1) ?hd (cs:=#[.int .i64 a0_0,.int .i64 a0_1,.string a0_2,.slice A0_3 l0_3.length c0_3]) (t:=24) ?hr ?_;(case hd => rfl);(case hg => rfl);(case hr => first|(go_simp;done)|(go_simp;rfl));intro gb459 hg w7 hbox hb;have BK459:=Aside0.mk (hbox);have GW459:=Aside0.mk ((by rw [hg];exact (below_size (by repeat (first|(with_reducible first|exact HB.out|apply below_alloc|apply pw_below_drewN|apply below_drew1)|exact HB.out))):w.heap.size≤gb459));have GE459:=Aside0.mk ((by rw [hg];exact (below_size (by repeat (first|(with_reducible first|exact HB.out|apply below_alloc|apply pw_below_drewN|apply below_drew1)|exact HB.out))):w.heap.size≤gb459));replace HB:=Aside0.mk (below_step (by repeat (first|(with_reducible first|exact HB.out|apply below_alloc|apply pw_below_drewN|apply below_drew1)|exact HB.out)) hb);clear hb hbox hg;obtain ⟨hcz8_0,hcz8_1,hcz8_2,hcz8_3,hfz8_0,hfz8_1,hfz8_2,hfz8_3⟩:=bk4 BK459))
  (try simp only [Act.put,List.setIfInBounds_toArray,List.set_cons_zero,List.set_cons_succ])
  go_cut [10] (fun v10 wc => ∃ (kq:Nat) (x10_5:Bool),v10=.bool x10_5∧Aside0 (spinneyref05_size.j0 kq a0_0 x10_5 a0_0 a0_1 a0_2 l0_3=some r)∧Aside0 (kq≤k)∧Aside0 (wc.heap[gb459]? = some (.cells #[.int .i64 a0_0,.int .i64 a0_1,.string a0_2,(.slice A0_3 l0_3.length c0_3)] 24 (0,0)))∧Aside0 (Below w.heap.size w wc))
  case first =>
   have H:=HC6.out
   clear HC6
   by_cases c9:a0_0=4
   ·rw [if_pos c9] at H
    have c9b0:(a0_0 == 4)=true:=beq_iff_eq.mpr c9
    have c9b1:(a0_0 != 4)=false:=bne_eq_false_iff_eq.mpr c9
    clear c9
    (first|rw [c9b0]|(simp only [i64_w,i32_w];rw [c9b0])|skip)
    have H':=Aside0.mk H
    clear H
    go_wp2
    go_meet
    case rel => exact ⟨_,((a0_0 == 4)),(by first|rfl|(simp;done)|(simp [*];done)),H',⟨by first|omega|exact Nat.le_refl _⟩,⟨by (with_reducible repeat (first|refine blk_drewN ?_ _|refine blk_drew ?_|refine blk_alloc ?_ _));exact BK459.out⟩,⟨by repeat (first|(with_reducible first|exact HB.out|apply below_alloc|apply pw_below_drewN|apply below_drew1|refine below_set ?_ GE459.out)|exact HB.out)⟩⟩
   ·rw [if_neg c9] at H
    have c9b0:(a0_0 == 4)=false:=beq_eq_false_iff_ne.mpr c9
    have c9b1:(a0_0 != 4)=true:=bne_iff_ne.mpr c9
    (first|rw [c9b0]|(simp only [i64_w,i32_w];rw [c9b0])|skip)
    have H':=Aside0.mk H
    clear H
    go_wp2
    go_meet
    case rel => exact ⟨_,((a0_0 == 5)),(by first|rfl|(simp;done)|(simp [*];done)),H',⟨by first|omega|exact Nat.le_refl _⟩,⟨by (with_reducible repeat (first|refine blk_drewN ?_ _|refine blk_drew ?_|refine blk_alloc ?_ _));exact BK459.out⟩,⟨by repeat (first|(with_reducible first|exact HB.out|apply below_alloc|apply pw_below_drewN|apply below_drew1|refine below_set ?_ GE459.out)|exact HB.out)⟩⟩
  case rest =>
   clear HC6
   try clear c2
   try clear c2b0
   try clear c2b1
   try clear p2
   try clear c6
   try clear c7
   try clear c9
   try clear c9b0
   try clear c9b1
   try clear hcz5_0
   try clear hcz5_1
   try clear hcz5_2
   try clear hcz5_3
   try clear hcz8_0
   try clear hcz8_1
   try clear hcz8_2
   try clear hcz8_3
   try clear hfz5_0
   try clear hfz5_1
   try clear hfz5_2
   try clear hfz5_3
   try clear hfz8_0
   try clear hfz8_1
   try clear hfz8_2
   try clear hfz8_3
   obtain ⟨kq,x10_5,rfl,HA,HJ5,BK459,HB⟩:=hcut
   cases kq with
   | zero => exact absurd HA.out (by simp [spinneyref05_size.j0])
   | succ kj5 =>
    have H:=HA.out
    clear HA
    simp only [spinneyref05_size.j0] at H
    by_cases c10:x10_5=true
    ·subst c10
     have H1:(some (l0_3.length:Int))=some r:=by rw [if_pos rfl] at H;exact H
     clear H
     have H:=H1
     clear H1
     obtain rfl:=Option.some.inj H
     have hcz11_0:wc.cell? ⟨gb459,0,none⟩=some (.int .i64 a0_0):=(blk_cell BK459.out 0).trans rfl;have hcz11_1:wc.cell? ⟨gb459,1,none⟩=some (.int .i64 a0_1):=(blk_cell BK459.out 1).trans rfl;have hcz11_2:wc.cell? ⟨gb459,2,none⟩=some (.string a0_2):=(blk_cell BK459.out 2).trans rfl;have hcz11_3:wc.cell? ⟨gb459,3,none⟩=some (.slice A0_3 l0_3.length c0_3):=(blk_cell BK459.out 3).trans rfl;have hfz11_0:=blk_frozen BK459.out 0;have hfz11_1:=blk_frozen BK459.out 1;have hfz11_2:=blk_frozen BK459.out 2;have hfz11_3:=blk_frozen BK459.out 3
     go_wp2
     go_ret
     exact ⟨by first|rfl|(simp [errW_none,errW_some] <;> rfl)|(simp [*,errW_none,errW_some] <;> rfl),by repeat (first|(with_reducible first|exact HB.out|apply below_alloc|apply pw_below_drewN|apply below_drew1|refine below_set ?_ GE459.out)|exact HB.out)⟩
    ·replace c10:=Bool.eq_false_iff.mpr c10
     subst c10
     have H1:(if a0_0=6 then (some (wrap64 ((l0_3.length:Int) / 2))) else (some 0))=some r:=by rw [if_neg (show ¬ (false=true) by decide)] at H;exact H
     clear H
     have H:=H1
     clear H1
     by_cases c12:a0_0=6
     ·rw [if_pos c12] at H
      have c12b0:(a0_0 == 6)=true:=beq_iff_eq.mpr c12
      have c12b1:(a0_0 != 6)=false:=bne_eq_false_iff_eq.mpr c12
      clear c12
      obtain rfl:=Option.some.inj H
      have hcz13_0:wc.cell? ⟨gb459,0,none⟩=some (.int .i64 a0_0):=(blk_cell BK459.out 0).trans rfl;have hcz13_1:wc.cell? ⟨gb459,1,none⟩=some (.int .i64 a0_1):=(blk_cell BK459.out 1).trans rfl;have hcz13_2:wc.cell? ⟨gb459,2,none⟩=some (.string a0_2):=(blk_cell BK459.out 2).trans rfl;have hcz13_3:wc.cell? ⟨gb459,3,none⟩=some (.slice A0_3 l0_3.length c0_3):=(blk_cell BK459.out 3).trans rfl;have hfz13_0:=blk_frozen BK459.out 0;have hfz13_1:=blk_frozen BK459.out 1;have hfz13_2:=blk_frozen BK459.out 2;have hfz13_3:=blk_frozen BK459.out 3
      go_wp2
      go_ret
      exact ⟨by first|rfl|(simp [errW_none,errW_some] <;> rfl)|(simp [*,errW_none,errW_some] <;> rfl),by repeat (first|(with_reducible first|exact HB.out|apply below_alloc|apply pw_below_drewN|apply below_drew1|refine below_set ?_ GE459.out)|exact HB.out)⟩
     ·rw [if_neg c12] at H
      have c12b0:(a0_0 == 6)=false:=beq_eq_false_iff_ne.mpr c12
      have c12b1:(a0_0 != 6)=true:=bne_iff_ne.mpr c12
      obtain rfl:=Option.some.inj H
      go_wp2
      go_ret
      exact ⟨by first|rfl|(simp [errW_none,errW_some] <;> rfl)|(simp [*,errW_none,errW_some] <;> rfl),by repeat (first|(with_reducible first|exact HB.out|apply below_alloc|apply pw_below_drewN|apply below_drew1|refine below_set ?_ GE459.out)|exact HB.out)⟩

def spinneyref01_First.f (k:Nat) (a0:ByteArray):Option (Int):=(spinneyref01_utf.f k a0 0).bind fun t461 => (some t461)
set_option maxHeartbeats 8000000 in
set_option maxRecDepth 100000 in
theorem spinneyref01_First.calls (k:Nat) (a0:ByteArray) (r:Int) (w:World) (h:spinneyref01_First.f k a0=some r) :
  Calls Tryd.prog 74 #[.string a0] w fun e w' => e=.returned (.int .i64 r)∧Drawn0 w w':=by
 have H:((spinneyref01_utf.f k a0 0).bind fun t461 => (some t461))=some r:=h
 clear h
 replace H:=Option.bind_eq_some_iff.mp H
 obtain ⟨t461,A20,H⟩:=H
 replace H:(some t461)=some r:=H
 have A2:=Aside0.mk A20
 clear A20
 obtain rfl:=Option.some.inj H
 go_enter Tryd.func74,Tryd.ntmps74
 go_wp2_with (first|((with_reducible refine gate_callee (f:=80) rfl ?_);refine goesL_ (some 4) rfl rfl Tryd.func80 (by kernel_rfl) rfl #[.string a0,.int .i64 0] rfl (by (try simp only [List.map_toArray,List.map_cons,List.map_nil]);first|done|rfl|(simp only [List.length_drop,List.length_take];rfl)|(simp only [gt_iff_lt,Int.ofNat_lt];rfl)) ?_;(with_reducible refine (spinneyref01_utf.calls k a0 0 t461 _ A2.out).mono ?_);rintro e w' ⟨rfl,⟨nd,rfl⟩⟩;refine ⟨_,rfl,?_⟩))
 go_ret
 exact ⟨by first|rfl|(simp;done)|(simp [*];done),by repeat (first|exact Drawn0.refl _|apply Drawn0.step)⟩

set_option maxRecDepth 100000 in
set_option maxHeartbeats 1600000 in
theorem rfirst_text (k:Nat) (a0_1:Int) (a0_2:ByteArray) (A0_3:Option Addr) (c0_3:Nat) (l0_3:List S24) (n:Int) (w:World) (hz:a0_2.toList≠[]) (h0:0≤n) (h1:n≤a0_2.size) (h:spinneyref01_First.f k a0_2=some n) :
  Calls Tryd.prog 63 #[.agg #[.int .i64 3,.int .i64 a0_1,.string a0_2,.slice A0_3 l0_3.length c0_3]] w fun e w' => e=.returned (.agg #[.int .i64 3,.int .i64 0,.string (a0_2.extract 0 n.toNat),.slice none 0 0])∧Below w.heap.size w w':=by
 have hz1:a0_2.toList.isEmpty=false:=by simpa [List.isEmpty_iff] using hz
 have hz2:(!a0_2.toList.isEmpty)=true:=by rw [hz1];rfl
 have HF:=Aside0.mk h
 clear h hz
 go_enter Tryd.func63,Tryd.ntmps63
 go_wp2_with fail
 go_region_held3 (fun w' => w'.cell? ⟨w.heap.size,2,none⟩=some (.string a0_2))
  (first|go_keep|skip)
  (first|(go_at_call 74;refine (spinneyref01_First.calls k a0_2 n _ HF.out).mono ?_;rintro e w3 ⟨rfl,⟨nd,rfl⟩⟩))
 go_wp2
 refine bodyPost_ret (results_cell_row rfl _ _ (w.heap.size+1) 24 #[.int .i64 3,.int .i64 0,.string (a0_2.extract 0 n.toNat),.slice none 0 0] (0,0) _ rfl (by refine blk_put (cs:=#[.int .i64 3,.int .i64 0,.string (a0_2.extract 0 n.toNat),(.slice none 0 0)]) ?_ 3 _ rfl;refine blk_put (cs:=#[.int .i64 3,.int .i64 0,(.string (⟨#[]⟩:ByteArray)),(.slice none 0 0)]) ?_ 2 _ rfl;refine blk_put (cs:=#[.int .i64 3,(.int .i64 0),(.string (⟨#[]⟩:ByteArray)),(.slice none 0 0)]) ?_ 1 _ rfl;refine blk_put (cs:=#[(.int .i64 0),(.int .i64 0),(.string (⟨#[]⟩:ByteArray)),(.slice none 0 0)]) ?_ 0 _ rfl;exact blk_drewN (show ((w.alloc (.cells #[.int .i64 3,.int .i64 a0_1,.string a0_2,.slice A0_3 l0_3.length c0_3] 24)).alloc (.cells #[.int .i64 0,.int .i64 0,.string (⟨#[]⟩:ByteArray),.slice none 0 0] 24)).heap[w.heap.size+1]? = _ from by have h1:=blk_new (w.alloc (.cells #[.int .i64 3,.int .i64 a0_1,.string a0_2,.slice A0_3 l0_3.length c0_3] 24)) (.cells #[.int .i64 0,.int .i64 0,.string (⟨#[]⟩:ByteArray),.slice none 0 0] 24);rwa [show (w.alloc (.cells #[.int .i64 3,.int .i64 a0_1,.string a0_2,.slice A0_3 l0_3.length c0_3] 24)).heap.size=w.heap.size+1 by simp] at h1) _) Tryd.underlying24 rfl (by kernel_rfl)) rfl ?_
 exact ⟨rfl,by repeat (first|exact below_alloc (below_alloc (Below.refl _ _) _) _|apply pw_below_drewN|refine below_set ?_ (by simp))⟩
set_option maxRecDepth 100000 in
set_option maxHeartbeats 1600000 in
theorem rfirst_map (a0_1:Int) (a0_2:ByteArray) (A0_3:Option Addr) (c0_3:Nat) (l0_3:List S24) (w:World) (h2:2≤l0_3.length) (hcc:l0_3.length≤c0_3) :
  Calls Tryd.prog 63 #[.agg #[.int .i64 6,.int .i64 a0_1,.string a0_2,.slice A0_3 l0_3.length c0_3]] w fun e w' => e=.returned (.agg #[.int .i64 4,.int .i64 0,.string ⟨#[]⟩,.slice A0_3 2 2])∧Below w.heap.size w w':=by
 have h2c:2≤c0_3:=by omega
 have hlen:0 < l0_3.length:=by omega
 go_enter Tryd.func63,Tryd.ntmps63
 go_wp2
 refine bodyPost_ret (results_cell_row rfl _ _ (w.heap.size+1) 24 #[.int .i64 4,.int .i64 0,.string (⟨#[]⟩:ByteArray),.slice A0_3 2 2] (0,0) _ rfl (by have h1:=blk_new (w.alloc (.cells #[.int .i64 6,.int .i64 a0_1,.string a0_2,.slice A0_3 l0_3.length c0_3] 24)) (.cells #[.int .i64 4,.int .i64 0,.string (⟨#[]⟩:ByteArray),.slice A0_3 2 2] 24);rwa [show (w.alloc (.cells #[.int .i64 6,.int .i64 a0_1,.string a0_2,.slice A0_3 l0_3.length c0_3] 24)).heap.size=w.heap.size+1 by simp] at h1) Tryd.underlying24 rfl (by kernel_rfl)) rfl ?_
 exact ⟨rfl,below_alloc (below_alloc (Below.refl _ _) _) _⟩
set_option maxRecDepth 100000 in
set_option maxHeartbeats 1600000 in
theorem rfirst_item (a0_0 a0_1:Int) (a0_2:ByteArray) (A0_3:Option Addr) (c0_3:Nat) (l0_3:List S24) (w:World) (P:Nat→Prop) (hv:Kd.V k24 24 w w.heap.size P (.slice A0_3 l0_3.length c0_3) l0_3) (h3:a0_0≠3) (h6:a0_0≠6) (hn:0 < l0_3.length) :
  Calls Tryd.prog 63 #[.agg #[.int .i64 a0_0,.int .i64 a0_1,.string a0_2,.slice A0_3 l0_3.length c0_3]] w fun e w' => ∃ v3:Value,e=.returned (.agg #[.int .i64 (rd_T24 l0_3 0).f0,.int .i64 (rd_T24 l0_3 0).f1,.string (rd_T24 l0_3 0).f2,v3])∧Kd.V k24 24 w' w.heap.size (fun k => P k ∨ w.heap.size≤k) v3 (rd_T24 l0_3 0).f3∧Below w.heap.size w w':=by
 obtain ⟨_,hc,hf⟩:=Kd.V_at hv
 have e3:(a0_0 == 3)=false:=beq_eq_false_iff_ne.2 h3
 have e6:(a0_0 == 6)=false:=beq_eq_false_iff_ne.2 h6
 obtain ⟨ad',A3',c3',hA',hcs,hl3',hF3'⟩:=vel hf (Below.refl _ w) 0 hn
 have HF':=Aside0.mk hF3'
 have HL3':=Aside0.mk hl3'
 subst hA'
 simp only [Nat.zero_mul,Addr.add_zero'] at hcs
 obtain ⟨d0,d1,d2,d3⟩:=hcs
 have lt0:=World.block_lt_of_cell? w _ d0
 clear hF3' hl3' hf hv h3 h6
 go_enter Tryd.func63,Tryd.ntmps63
 go_wp2
 refine bodyPost_ret (results_cell_row rfl _ _ (w.heap.size+1) 24 #[.int .i64 (rd_T24 l0_3 0).f0,.int .i64 (rd_T24 l0_3 0).f1,.string (rd_T24 l0_3 0).f2,.slice A3' (rd_T24 l0_3 0).f3.length c3'] (0,0) _ rfl (by have h1:=blk_new (w.alloc (.cells #[.int .i64 a0_0,.int .i64 a0_1,.string a0_2,.slice (some ad') l0_3.length c0_3] 24)) (.cells #[.int .i64 (rd_T24 l0_3 0).f0,.int .i64 (rd_T24 l0_3 0).f1,.string (rd_T24 l0_3 0).f2,.slice A3' (rd_T24 l0_3 0).f3.length c3'] 24);rwa [show (w.alloc (.cells #[.int .i64 a0_0,.int .i64 a0_1,.string a0_2,.slice (some ad') l0_3.length c0_3] 24)).heap.size=w.heap.size+1 by simp] at h1) Tryd.underlying24 rfl (by kernel_rfl)) rfl ?_
 exact ⟨_,rfl,v_end HL3'.out HF'.out (below_alloc (below_alloc (Below.refl _ _) _) _)⟩
set_option maxRecDepth 100000 in
set_option maxHeartbeats 1600000 in
theorem rfirst_none (a0_0 a0_1:Int) (a0_2:ByteArray) (A0_3:Option Addr) (c0_3:Nat) (l0_3:List S24) (w:World) (h3:a0_0=3→a0_2.toList=[]) (hn:l0_3.length=0) :
  Calls Tryd.prog 63 #[.agg #[.int .i64 a0_0,.int .i64 a0_1,.string a0_2,.slice A0_3 l0_3.length c0_3]] w fun e w' => e=.returned (.agg #[.int .i64 0,.int .i64 0,.string ⟨#[]⟩,.slice none 0 0])∧Below w.heap.size w w':=by
 have hlen:¬ 0 < l0_3.length:=by omega
 clear hn
 by_cases c3:a0_0=3
 ·have hz:=h3 c3
  have hz1:a0_2.toList.isEmpty=true:=by simpa [List.isEmpty_iff] using hz
  have hz2:(!a0_2.toList.isEmpty)=false:=by rw [hz1];rfl
  subst c3
  clear h3 hz
  go_enter Tryd.func63,Tryd.ntmps63
  go_wp2
  refine bodyPost_ret (results_cell_row rfl _ _ (w.heap.size+1) 24 #[.int .i64 0,.int .i64 0,.string (⟨#[]⟩:ByteArray),.slice none 0 0] (0,0) _ rfl (by have h1:=blk_new (w.alloc (.cells #[.int .i64 3,.int .i64 a0_1,.string a0_2,.slice A0_3 l0_3.length c0_3] 24)) (.cells #[.int .i64 0,.int .i64 0,.string (⟨#[]⟩:ByteArray),.slice none 0 0] 24);rwa [show (w.alloc (.cells #[.int .i64 3,.int .i64 a0_1,.string a0_2,.slice A0_3 l0_3.length c0_3] 24)).heap.size=w.heap.size+1 by simp] at h1) Tryd.underlying24 rfl (by kernel_rfl)) rfl ?_
  exact ⟨rfl,below_alloc (below_alloc (Below.refl _ _) _) _⟩
 ·have e3:(a0_0 == 3)=false:=beq_eq_false_iff_ne.2 c3
  clear h3 c3
  by_cases c6:a0_0=6
  ·subst c6
   go_enter Tryd.func63,Tryd.ntmps63
   go_wp2
   refine bodyPost_ret (results_cell_row rfl _ _ (w.heap.size+1) 24 #[.int .i64 0,.int .i64 0,.string (⟨#[]⟩:ByteArray),.slice none 0 0] (0,0) _ rfl (by have h1:=blk_new (w.alloc (.cells #[.int .i64 6,.int .i64 a0_1,.string a0_2,.slice A0_3 l0_3.length c0_3] 24)) (.cells #[.int .i64 0,.int .i64 0,.string (⟨#[]⟩:ByteArray),.slice none 0 0] 24);rwa [show (w.alloc (.cells #[.int .i64 6,.int .i64 a0_1,.string a0_2,.slice A0_3 l0_3.length c0_3] 24)).heap.size=w.heap.size+1 by simp] at h1) Tryd.underlying24 rfl (by kernel_rfl)) rfl ?_
   exact ⟨rfl,below_alloc (below_alloc (Below.refl _ _) _) _⟩
  ·have e6:(a0_0 == 6)=false:=beq_eq_false_iff_ne.2 c6
   clear c6
   go_enter Tryd.func63,Tryd.ntmps63
   go_wp2
   refine bodyPost_ret (results_cell_row rfl _ _ (w.heap.size+1) 24 #[.int .i64 0,.int .i64 0,.string (⟨#[]⟩:ByteArray),.slice none 0 0] (0,0) _ rfl (by have h1:=blk_new (w.alloc (.cells #[.int .i64 a0_0,.int .i64 a0_1,.string a0_2,.slice A0_3 l0_3.length c0_3] 24)) (.cells #[.int .i64 0,.int .i64 0,.string (⟨#[]⟩:ByteArray),.slice none 0 0] 24);rwa [show (w.alloc (.cells #[.int .i64 a0_0,.int .i64 a0_1,.string a0_2,.slice A0_3 l0_3.length c0_3] 24)).heap.size=w.heap.size+1 by simp] at h1) Tryd.underlying24 rfl (by kernel_rfl)) rfl ?_
   exact ⟨rfl,below_alloc (below_alloc (Below.refl _ _) _) _⟩
def spinneyref05_first.f (k:Nat) (a0_0:Int) (a0_1:Int) (a0_2:ByteArray) (l0_3:List S24):Option (Int × Int × ByteArray × List S24) :=
 if a0_0=3∧a0_2.toList≠[] then (spinneyref01_First.f k a0_2).bind fun n => if 0≤n∧n≤a0_2.size then some (3,0,a0_2.extract 0 n.toNat,[]) else none
 else if l0_3.length=0 then some (0,0,⟨#[]⟩,[])
 else if a0_0=6 then (if 2≤l0_3.length then some (4,0,⟨#[]⟩,l0_3.take 2) else none)
 else if a0_0≠3 then some ((rd_T24 l0_3 0).f0,(rd_T24 l0_3 0).f1,(rd_T24 l0_3 0).f2,(rd_T24 l0_3 0).f3) else none
theorem spinneyref05_first.calls (k:Nat) (a0_0:Int) (a0_1:Int) (a0_2:ByteArray) (P0_3_:Nat→Prop) (A0_3:Option Addr) (c0_3:Nat) (l0_3:List S24) (r1 r2:Int) (r3:ByteArray) (r4:List S24) (w:World) (hs0_3:Kd.V k24 24 w w.heap.size (fun k_ => P0_3_ k_) (.slice A0_3 l0_3.length c0_3) l0_3) (h:spinneyref05_first.f k a0_0 a0_1 a0_2 l0_3=some (r1,r2,r3,r4)) :
  Calls Tryd.prog 63 #[.agg #[.int .i64 a0_0,.int .i64 a0_1,.string a0_2,.slice A0_3 l0_3.length c0_3]] w fun e w' => ∃ v3_:Value,e=.returned (.agg #[.int .i64 r1,.int .i64 r2,.string r3,v3_])∧Kd.V k24 24 w' w.heap.size (fun k_ => (P0_3_ k_ ∨ w.heap.size≤k_)) v3_ r4∧Below w.heap.size w w':=by
 obtain ⟨_,hc,hf⟩:=Kd.V_at hs0_3
 unfold spinneyref05_first.f at h
 by_cases c3:a0_0=3∧a0_2.toList≠[]
 ·rw [if_pos c3] at h
  obtain ⟨rfl,hz⟩:=c3
  obtain ⟨n,hn,h⟩:=Option.bind_eq_some_iff.1 h
  by_cases hb:0≤n∧n≤a0_2.size
  ·rw [if_pos hb] at h
   simp only [Option.some.injEq,Prod.mk.injEq] at h
   obtain ⟨rfl,rfl,rfl,rfl⟩:=h
   exact (rfirst_text k a0_1 a0_2 A0_3 c0_3 l0_3 n w hz hb.1 hb.2 hn).mono fun e w' ⟨he,hb⟩ => ⟨_,he,Kd.V_nil _ _ _ _ _,hb⟩
  ·rw [if_neg hb] at h;cases h
 rw [if_neg c3] at h
 by_cases hn:l0_3.length=0
 ·rw [if_pos hn] at h
  simp only [Option.some.injEq,Prod.mk.injEq] at h
  obtain ⟨rfl,rfl,rfl,rfl⟩:=h
  exact (rfirst_none a0_0 a0_1 a0_2 A0_3 c0_3 l0_3 w (fun h => Classical.byContradiction fun h' => c3 ⟨h,h'⟩) hn).mono fun e w' ⟨he,hb⟩ => ⟨_,he,Kd.V_nil _ _ _ _ _,hb⟩
 rw [if_neg hn] at h
 by_cases c6:a0_0=6
 ·rw [if_pos c6] at h
  subst c6
  by_cases h2:2≤l0_3.length
  ·rw [if_pos h2] at h
   simp only [Option.some.injEq,Prod.mk.injEq] at h
   obtain ⟨rfl,rfl,rfl,rfl⟩:=h
   refine (rfirst_map a0_1 a0_2 A0_3 c0_3 l0_3 w h2 hc).mono fun e w' ⟨he,hb⟩ => ⟨_,he,?_,hb⟩
   have hl:(l0_3.take 2).length=2:=by rw [List.length_take];omega
   have hF:Kd.F k24 w' (fun k_ => P0_3_ k_ ∨ w.heap.size≤k_) A0_3 2 (l0_3.take 2):=Kd.F_mono (Kd.F_below (Kd.F_imp hf (fun W' hW => c_take hW h2)) hb) (fun _ h => Or.inl h)
   have:=Kd.V_mk (e:=24) (base:=w.heap.size) (c:=2) (xs:=l0_3.take 2) (by rw [hl];omega) (by rw [hl];exact hF)
   rwa [hl] at this
  ·rw [if_neg h2] at h;cases h
 rw [if_neg c6] at h
 by_cases h3:a0_0≠3
 ·rw [if_pos h3] at h
  simp only [Option.some.injEq,Prod.mk.injEq] at h
  obtain ⟨rfl,rfl,rfl,rfl⟩:=h
  exact rfirst_item a0_0 a0_1 a0_2 A0_3 c0_3 l0_3 w P0_3_ hs0_3 h3 c6 (by omega)
 ·rw [if_neg h3] at h;cases h

end Go.Proofs.YtgmmoagclkmeaaaDoor.XH
