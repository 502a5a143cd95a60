-- cut down by bundle.py (the session's own program) from the texts YtgmmoagclkmeaaaDoorXH16, to what this claim names
import Derived.Test.YtgmmoagclkmeaaaDoorZFnsOneXH0
import Derived.Test.YtgmmoagclkmeaaaDoorZFnsOneXH10
import Derived.Test.YtgmmoagclkmeaaaDoorZFnsOneXH13
import Derived.Test.YtgmmoagclkmeaaaDoorZFnsOneXH14
import Derived.Test.YtgmmoagclkmeaaaDoorZFnsOneXH15
-- laid by xprint.py (the session's own program) out of the translation; Lean checks it
namespace Go.Proofs.YtgmmoagclkmeaaaDoor.XH
open Go.RowKit Go.Proofs.YtgmmoagclkmeaaaDoorW.PrintWords Go.Proofs.YtgmmoagclkmeaaaDoorW.PrintLast Go.Proofs.YtgmmoagclkmeaaaDoorW.PrintMore
attribute [local go_sem] max2_int min2_int max_two min_two max_three min_three max_four min_four   -- for this text's walks alone
set_option linter.unusedVariables false
set_option linter.unusedSimpArgs false

def spinneyplain_Text.f (a0:ByteArray):Option (Int × Int × ByteArray × (List (S24))):=some (3,0,a0,([]:List (S24)))
set_option maxHeartbeats 8000000 in
set_option maxRecDepth 100000 in
theorem spinneyplain_Text.calls (a0:ByteArray) (r1:Int) (r2:Int) (r3:ByteArray) (r4:List (S24)) (w:World) (h:spinneyplain_Text.f a0=some (r1,r2,r3,r4)) :
  Calls Tryd.prog 24 #[.string a0] w fun e w' => ∃ v3_:Value,e=.returned (.agg #[.int .i64 r1,.int .i64 r2,.string r3,v3_])∧Kd.R k24 24 w' w.heap.size (fun _ => True) v3_ r4∧Below w.heap.size w w':=by
 have hu24:=Tryd.underlying24
 have HB:=Aside0.mk (Below.refl w.heap.size w)
 have H:(some (3,0,a0,([]:List (S24))))=some (r1,r2,r3,r4):=h
 clear h
 simp only [Option.some.injEq,Prod.mk.injEq] at H
 obtain ⟨rfl,rfl,rfl,rfl⟩:=H
 go_enter Tryd.func24,Tryd.ntmps24
 go_wp2_with (first|((with_reducible refine gate_dst (N:=2) rfl ?_);refine box_event ?hg (N:=2) ?hd (cs:=#[.int .i64 0,.int .i64 0,.string (⟨#[]⟩:ByteArray),.slice none 0 0]) (t:=24) ?hr ?_;(case hd => rfl);(case hg => rfl);(case hr => first|(go_simp;done)|(go_simp;rfl));intro gb280 hg w2 hbox hb;have BK280:=Aside0.mk (hbox);have GW280:=bx_g (up_h HB) hg;have GE280:=bx_g (up_h HB) hg;replace HB:=ca_h HB hb;clear hb hbox hg;obtain ⟨hcz3_0,hcz3_1,hcz3_2,hcz3_3,hfz3_0,hfz3_1,hfz3_2,hfz3_3⟩:=bk4 BK280))
 refine bodyPost_ret (results_cell_row rfl _ _ gb280 24 #[.int .i64 3,.int .i64 0,.string a0,.slice none 0 0] (0,0) _ rfl (pu4 BK280) Tryd.underlying24 rfl (by kernel_rfl)) rfl ?_
 exact ⟨_,by first|rfl|(simp [errW_none,errW_some] <;> rfl)|(simp [*,errW_none,errW_some] <;> rfl),by first|exact Kd.R_nil _ _ _ _ _|exact Kd.N_nil _ _ _ _ _|exact Kd.V_nil _ _ _ _ _|exact Kd.Q_nil _ _ _ _ _|exact Kd.S_nil _ _ _ _ _,by repeat (first|(with_reducible first|exact HB.out|apply below_alloc|apply pw_below_drewN|apply below_drew1|refine below_set ?_ GE280.out)|exact HB.out)⟩

def spinneyplain_Int.f (a0:Int):Option (Int × Int × ByteArray × (List (S24))):=some (2,a0,(⟨#[]⟩:ByteArray),([]:List (S24)))
set_option maxHeartbeats 8000000 in
set_option maxRecDepth 100000 in
theorem spinneyplain_Int.calls (a0:Int) (r1:Int) (r2:Int) (r3:ByteArray) (r4:List (S24)) (w:World) (h:spinneyplain_Int.f a0=some (r1,r2,r3,r4)) :
  Calls Tryd.prog 25 #[.int .i64 a0] w fun e w' => ∃ v3_:Value,e=.returned (.agg #[.int .i64 r1,.int .i64 r2,.string r3,v3_])∧Kd.R k24 24 w' w.heap.size (fun _ => True) v3_ r4∧Below w.heap.size w w':=by
 have hu24:=Tryd.underlying24
 have HB:=Aside0.mk (Below.refl w.heap.size w)
 have H:(some (2,a0,(⟨#[]⟩:ByteArray),([]:List (S24))))=some (r1,r2,r3,r4):=h
 clear h
 simp only [Option.some.injEq,Prod.mk.injEq] at H
 obtain ⟨rfl,rfl,rfl,rfl⟩:=H
 go_enter Tryd.func25,Tryd.ntmps25
 go_wp2_with (first|((with_reducible refine gate_dst (N:=2) rfl ?_);refine box_event ?hg (N:=2) ?hd (cs:=#[.int .i64 0,.int .i64 0,.string (⟨#[]⟩:ByteArray),.slice none 0 0]) (t:=24) ?hr ?_;(case hd => rfl);(case hg => rfl);(case hr => first|(go_simp;done)|(go_simp;rfl));intro gb281 hg w2 hbox hb;have BK281:=Aside0.mk (hbox);have GW281:=bx_g (up_h HB) hg;have GE281:=bx_g (up_h HB) hg;replace HB:=ca_h HB hb;clear hb hbox hg;obtain ⟨hcz3_0,hcz3_1,hcz3_2,hcz3_3,hfz3_0,hfz3_1,hfz3_2,hfz3_3⟩:=bk4 BK281))
 refine bodyPost_ret (results_cell_row rfl _ _ gb281 24 #[.int .i64 2,.int .i64 a0,.string (⟨#[]⟩:ByteArray),.slice none 0 0] (0,0) _ rfl (pu4 BK281) Tryd.underlying24 rfl (by kernel_rfl)) rfl ?_
 exact ⟨_,by first|rfl|(simp [errW_none,errW_some] <;> rfl)|(simp [*,errW_none,errW_some] <;> rfl),by first|exact Kd.R_nil _ _ _ _ _|exact Kd.N_nil _ _ _ _ _|exact Kd.V_nil _ _ _ _ _|exact Kd.Q_nil _ _ _ _ _|exact Kd.S_nil _ _ _ _ _,by repeat (first|(with_reducible first|exact HB.out|apply below_alloc|apply pw_below_drewN|apply below_drew1|refine below_set ?_ GE281.out)|exact HB.out)⟩

def spinneylaw05_speaks.f (k:Nat) :Option (Bool):=(spinneyplain_Text.f (⟨#[195,169,97]⟩:ByteArray)).bind fun bt282 => ((fns_One.f k 4 bt282.1 bt282.2.1 bt282.2.2.1 bt282.2.2.2).bind fun bt288 => ((spinneyplain_Int.f 60).bind fun bt296 => ((spinneyplain_Int.f 50).bind fun bt302 => ((fns_Two.f k 6 bt296.1 bt296.2.1 bt296.2.2.1 bt296.2.2.2 bt302.1 bt302.2.1 bt302.2.2.1 bt302.2.2.2).bind fun bt308 => ((spinneyplain_Int.f 4).bind fun bt317 => ((fns_Is.f k 3 bt317.1 bt317.2.1 bt317.2.2.1 bt317.2.2.2).bind fun bt323 => (if bt288.2.2.2.2=0 then (if bt308.2.2.2.2.2=0 then (if bt323.2=0 then (if bt288.2.2.1.toList=([195,169]:List UInt8) then (if bt308.2.2.2.2.1=true then (if bt308.2.1=110 then (some bt323.1) else (none)) else (none)) else (none)) else (none)) else (none)) else (none))))))))
theorem spinneylaw05_speaks.mono:∀ k,LeO (spinneylaw05_speaks.f k ) (spinneylaw05_speaks.f (k+1) ):=by
 intro  k
 unfold spinneylaw05_speaks.f
 repeat' first
   | (with_reducible exact fns_Is.mono _ _ _ _ _ _)
   | (with_reducible exact fns_One.mono _ _ _ _ _ _)
   | (with_reducible exact fns_Two.mono _ _ _ _ _ _ _ _ _ _)
   | (with_reducible exact LeO.refl _)
   | (with_reducible exact LeO.none _)
   | (with_reducible refine LeO.ite ?_ ?_)
   | (with_reducible refine LeO.bind ?_ (fun _ => ?_))
   | exact fns_Is.mono _ _ _ _ _ _
   | exact fns_One.mono _ _ _ _ _ _
   | exact fns_Two.mono _ _ _ _ _ _ _ _ _ _
   | exact LeO.none _
   | refine LeO.ite ?_ ?_
   | refine LeO.bind ?_ (fun _ => ?_)
set_option maxHeartbeats 8000000 in
set_option maxRecDepth 100000 in
theorem spinneylaw05_speaks.calls (k:Nat)  (r:Bool) (w:World) (hL:LaidW w) (h:spinneylaw05_speaks.f k =some r) :
  Calls Tryd.prog 10 #[] w fun e w' => e=.returned (.bool r)∧Below w.heap.size w w':=by
 have hu24:=Tryd.underlying24
 have HLT:=Aside0.mk hL
 clear hL
 have HB:=Aside0.mk (Below.refl w.heap.size w)
 have H:((spinneyplain_Text.f (⟨#[195,169,97]⟩:ByteArray)).bind fun bt282 => ((fns_One.f k 4 bt282.1 bt282.2.1 bt282.2.2.1 bt282.2.2.2).bind fun bt288 => ((spinneyplain_Int.f 60).bind fun bt296 => ((spinneyplain_Int.f 50).bind fun bt302 => ((fns_Two.f k 6 bt296.1 bt296.2.1 bt296.2.2.1 bt296.2.2.2 bt302.1 bt302.2.1 bt302.2.2.1 bt302.2.2.2).bind fun bt308 => ((spinneyplain_Int.f 4).bind fun bt317 => ((fns_Is.f k 3 bt317.1 bt317.2.1 bt317.2.2.1 bt317.2.2.2).bind fun bt323 => (if bt288.2.2.2.2=0 then (if bt308.2.2.2.2.2=0 then (if bt323.2=0 then (if bt288.2.2.1.toList=([195,169]:List UInt8) then (if bt308.2.2.2.2.1=true then (if bt308.2.1=110 then (some bt323.1) else (none)) else (none)) else (none)) else (none)) else (none)) else (none)))))))))=some r:=h
 clear h
 replace H:=Option.bind_eq_some_iff.mp H
 obtain ⟨⟨t282,t283,t284,t285⟩,A10,H⟩:=H
 replace H:((fns_One.f k 4 t282 t283 t284 t285).bind fun bt288 => ((spinneyplain_Int.f 60).bind fun bt296 => ((spinneyplain_Int.f 50).bind fun bt302 => ((fns_Two.f k 6 bt296.1 bt296.2.1 bt296.2.2.1 bt296.2.2.2 bt302.1 bt302.2.1 bt302.2.2.1 bt302.2.2.2).bind fun bt308 => ((spinneyplain_Int.f 4).bind fun bt317 => ((fns_Is.f k 3 bt317.1 bt317.2.1 bt317.2.2.1 bt317.2.2.2).bind fun bt323 => (if bt288.2.2.2.2=0 then (if bt308.2.2.2.2.2=0 then (if bt323.2=0 then (if bt288.2.2.1.toList=([195,169]:List UInt8) then (if bt308.2.2.2.2.1=true then (if bt308.2.1=110 then (some bt323.1) else (none)) else (none)) else (none)) else (none)) else (none)) else (none))))))))=some r:=H
 have A1:=Aside0.mk A10
 clear A10
 replace H:=Option.bind_eq_some_iff.mp H
 obtain ⟨⟨t288,t289,t290,t291,t294⟩,A20,H⟩:=H
 replace H:((spinneyplain_Int.f 60).bind fun bt296 => ((spinneyplain_Int.f 50).bind fun bt302 => ((fns_Two.f k 6 bt296.1 bt296.2.1 bt296.2.2.1 bt296.2.2.2 bt302.1 bt302.2.1 bt302.2.2.1 bt302.2.2.2).bind fun bt308 => ((spinneyplain_Int.f 4).bind fun bt317 => ((fns_Is.f k 3 bt317.1 bt317.2.1 bt317.2.2.1 bt317.2.2.2).bind fun bt323 => (if t294=0 then (if bt308.2.2.2.2.2=0 then (if bt323.2=0 then (if t290.toList=([195,169]:List UInt8) then (if bt308.2.2.2.2.1=true then (if bt308.2.1=110 then (some bt323.1) else (none)) else (none)) else (none)) else (none)) else (none)) else (none)))))))=some r:=H
 have A2:=Aside0.mk A20
 clear A20
 replace H:=Option.bind_eq_some_iff.mp H
 obtain ⟨⟨t296,t297,t298,t299⟩,A30,H⟩:=H
 replace H:((spinneyplain_Int.f 50).bind fun bt302 => ((fns_Two.f k 6 t296 t297 t298 t299 bt302.1 bt302.2.1 bt302.2.2.1 bt302.2.2.2).bind fun bt308 => ((spinneyplain_Int.f 4).bind fun bt317 => ((fns_Is.f k 3 bt317.1 bt317.2.1 bt317.2.2.1 bt317.2.2.2).bind fun bt323 => (if t294=0 then (if bt308.2.2.2.2.2=0 then (if bt323.2=0 then (if t290.toList=([195,169]:List UInt8) then (if bt308.2.2.2.2.1=true then (if bt308.2.1=110 then (some bt323.1) else (none)) else (none)) else (none)) else (none)) else (none)) else (none))))))=some r:=H
 have A3:=Aside0.mk A30
 clear A30
 replace H:=Option.bind_eq_some_iff.mp H
 obtain ⟨⟨t302,t303,t304,t305⟩,A40,H⟩:=H
 replace H:((fns_Two.f k 6 t296 t297 t298 t299 t302 t303 t304 t305).bind fun bt308 => ((spinneyplain_Int.f 4).bind fun bt317 => ((fns_Is.f k 3 bt317.1 bt317.2.1 bt317.2.2.1 bt317.2.2.2).bind fun bt323 => (if t294=0 then (if bt308.2.2.2.2.2=0 then (if bt323.2=0 then (if t290.toList=([195,169]:List UInt8) then (if bt308.2.2.2.2.1=true then (if bt308.2.1=110 then (some bt323.1) else (none)) else (none)) else (none)) else (none)) else (none)) else (none)))))=some r:=H
 have A4:=Aside0.mk A40
 clear A40
 replace H:=Option.bind_eq_some_iff.mp H
 obtain ⟨⟨t308,t309,t310,t311,t314,t315⟩,A50,H⟩:=H
 replace H:((spinneyplain_Int.f 4).bind fun bt317 => ((fns_Is.f k 3 bt317.1 bt317.2.1 bt317.2.2.1 bt317.2.2.2).bind fun bt323 => (if t294=0 then (if t315=0 then (if bt323.2=0 then (if t290.toList=([195,169]:List UInt8) then (if t314=true then (if t309=110 then (some bt323.1) else (none)) else (none)) else (none)) else (none)) else (none)) else (none))))=some r:=H
 have A5:=Aside0.mk A50
 clear A50
 replace H:=Option.bind_eq_some_iff.mp H
 obtain ⟨⟨t317,t318,t319,t320⟩,A60,H⟩:=H
 replace H:((fns_Is.f k 3 t317 t318 t319 t320).bind fun bt323 => (if t294=0 then (if t315=0 then (if bt323.2=0 then (if t290.toList=([195,169]:List UInt8) then (if t314=true then (if t309=110 then (some bt323.1) else (none)) else (none)) else (none)) else (none)) else (none)) else (none)))=some r:=H
 have A6:=Aside0.mk A60
 clear A60
 replace H:=Option.bind_eq_some_iff.mp H
 obtain ⟨⟨t323,t324⟩,A70,H⟩:=H
 replace H:(if t294=0 then (if t315=0 then (if t324=0 then (if t290.toList=([195,169]:List UInt8) then (if t314=true then (if t309=110 then (some t323) else (none)) else (none)) else (none)) else (none)) else (none)) else (none))=some r:=H
 have A7:=Aside0.mk A70
 clear A70
 by_cases c8:t294=0
 ·rw [if_pos c8] at H
  have c8b0:(t294 == 0)=true:=beq_iff_eq.mpr c8
  have c8b1:(t294 != 0)=false:=bne_eq_false_iff_eq.mpr c8
  clear c8
  by_cases c9:t315=0
  ·rw [if_pos c9] at H
   have c9b0:(t315 == 0)=true:=beq_iff_eq.mpr c9
   have c9b1:(t315 != 0)=false:=bne_eq_false_iff_eq.mpr c9
   clear c9
   by_cases c10:t324=0
   ·rw [if_pos c10] at H
    have c10b0:(t324 == 0)=true:=beq_iff_eq.mpr c10
    have c10b1:(t324 != 0)=false:=bne_eq_false_iff_eq.mpr c10
    clear c10
    by_cases c11:t290.toList=([195,169]:List UInt8)
    ·rw [if_pos c11] at H
     have c11b0:(t290.toList == ([195,169]:List UInt8))=true:=beq_iff_eq.mpr c11
     have c11b1:(t290.toList != ([195,169]:List UInt8))=false:=bne_eq_false_iff_eq.mpr c11
     clear c11
     by_cases c12:t314=true
     ·subst c12
      have H1:(if t309=110 then (some t323) else (none))=some r:=by rw [if_pos rfl] at H;exact H
      clear H
      have H:=H1
      clear H1
      by_cases c13:t309=110
      ·rw [if_pos c13] at H
       have c13b0:(t309 == 110)=true:=beq_iff_eq.mpr c13
       have c13b1:(t309 != 110)=false:=bne_eq_false_iff_eq.mpr c13
       clear c13
       obtain rfl:=Option.some.inj H
       go_enter Tryd.func10,Tryd.ntmps10
       go_wp2_with (first|((with_reducible refine gate_callee (f:=24) rfl ?_);refine goesL_ (some 9) rfl rfl Tryd.func24 (by kernel_rfl) rfl #[.string (⟨#[195,169,97]⟩:ByteArray)] rfl (by (try simp only [List.map_toArray,List.map_cons,List.map_nil]);first|done|rfl|(simp only [List.length_drop,List.length_take];rfl)|(simp only [gt_iff_lt,Int.ofNat_lt];rfl)) ?_;(with_reducible refine (spinneyplain_Text.calls (⟨#[195,169,97]⟩:ByteArray) t282 t283 t284 t285 _ A1.out).mono ?_);rintro e w14 ⟨v286,rfl,ho0,hb⟩;refine ⟨_,rfl,?_⟩;have HO287:=Aside0.mk (Kd.R_lower ho0 (below_size (up_h HB)));replace HB:=ca_h HB hb;(try clear hb);(try clear hb2);(try clear hk);(try clear hi);(try clear ho0);obtain ⟨Ao15,co15,eo15⟩:=Kd.R_slice HO287.out;subst eo15)|((with_reducible refine gate_callee (f:=14) rfl ?_);refine goesL_ (some 10) rfl rfl Tryd.func14 (by kernel_rfl) rfl #[.int .i64 4,.agg #[.int .i64 t282,.int .i64 t283,.string t284,.slice Ao15 t285.length co15]] rfl (by (try simp only [List.map_toArray,List.map_cons,List.map_nil]);first|done|rfl|(simp only [List.length_drop,List.length_take];rfl)|(simp only [gt_iff_lt,Int.ofNat_lt];rfl)) ?_;(with_reducible refine (fns_One.calls4 k 4 t282 t283 t284 _ _ t285 t288 t289 t290 t291 t294 _ ?side1 ?side2 ?side3 A2.out).mono ?_);(case side1 => exact LaidW.below HLT.out (up_h HB));(case side2 => repeat (first|exact (Kd.R_reads' HO287.out).2.2|(with_reducible refine Kd.C_alloc ?_ _)|(with_reducible refine Kd.C_drewN ?_ _)|(with_reducible refine Kd.C_drew ?_)));(case side3 => exact (Kd.R_reads' HO287.out).2.1);rintro e w16 ⟨v292,rfl,ho0,hb⟩;refine ⟨_,rfl,?_⟩;have HO293:=Aside0.mk (Kd.R_lower (Kd.R_new' ho0 (Kd.R_lt (up_r HO287))) (below_size (up_h HB)));replace HO287:=Aside0.mk (Kd.R_elder' (up_r HO287) (Kd.R_base ho0) hb);replace HB:=ca_h HB hb;(try clear hb);(try clear hb2);(try clear hk);(try clear hi);(try clear ho0))|((with_reducible refine gate_dst (N:=1) rfl ?_);refine box_event ?hg (N:=1) ?hd (cs:=#[.int .i64 0,.int .i64 0,.string (⟨#[]⟩:ByteArray),.slice none 0 0]) (t:=24) ?hr ?_;(case hd => rfl);(case hg => rfl);(case hr => first|(go_simp;done)|(go_simp;rfl));intro gb295 hg w17 hbox hb;have BK295:=Aside0.mk (hbox);have GW295:=bx_g (up_h HB) hg;have GE295:=bx_g (up_h HB) hg;replace HO287:=Aside0.mk (Kd.R_below (Kd.R_elderB (up_r HO287) gb295 (Nat.le_of_eq hg.symm)) hb);replace HO293:=Aside0.mk (Kd.R_below (Kd.R_elderB (up_r HO293) gb295 (Nat.le_of_eq hg.symm)) hb);replace HB:=ca_h HB hb;clear hb hbox hg;obtain ⟨hcz18_0,hcz18_1,hcz18_2,hcz18_3,hfz18_0,hfz18_1,hfz18_2,hfz18_3⟩:=bk4 BK295;obtain ⟨Ao19,co19,eo19⟩:=Kd.R_slice HO293.out;subst eo19)|((with_reducible refine gate_callee (f:=25) rfl ?_);refine goesL_ (some 14) rfl rfl Tryd.func25 (by kernel_rfl) rfl #[.int .i64 60] rfl (by (try simp only [List.map_toArray,List.map_cons,List.map_nil]);first|done|rfl|(simp only [List.length_drop,List.length_take];rfl)|(simp only [gt_iff_lt,Int.ofNat_lt];rfl)) ?_;(with_reducible refine (spinneyplain_Int.calls 60 t296 t297 t298 t299 _ A3.out).mono ?_);rintro e w20 ⟨v300,rfl,ho0,hb⟩;refine ⟨_,rfl,?_⟩;have HO301:=Aside0.mk (Kd.R_lower (Kd.R_newB (Kd.R_new' (Kd.R_new' ho0 (Kd.R_lt (by (with_reducible repeat (first|apply Kd.R_alloc|apply Kd.R_drewN|apply Kd.R_drew));exact (Kd.R_mono (fa4_r HO287 (fun _ hk => hk.2)) (fun _ h_ => h_.1))))) (Kd.R_lt (by (with_reducible repeat (first|apply Kd.R_alloc|apply Kd.R_drewN|apply Kd.R_drew));exact (Kd.R_mono (fa4_r HO293 (fun _ hk => hk.2)) (fun _ h_ => h_.1))))) (g:=gb295) (o:=.cells #[.int .i64 t288,.int .i64 t289,.string t290,.slice Ao19 t291.length co19] 24 (0,0)) (pu4 BK295)) (below_size (sb_h HB GE295)));replace HO287:=Aside0.mk (Kd.R_elder' (by (with_reducible repeat (first|apply Kd.R_alloc|apply Kd.R_drewN|apply Kd.R_drew));exact (Kd.R_mono (fa4_r HO287 (fun _ hk => hk.2)) (fun _ h_ => h_.1))) (Kd.R_base ho0) hb);replace HO293:=Aside0.mk (Kd.R_elder' (by (with_reducible repeat (first|apply Kd.R_alloc|apply Kd.R_drewN|apply Kd.R_drew));exact (Kd.R_mono (fa4_r HO293 (fun _ hk => hk.2)) (fun _ h_ => h_.1))) (Kd.R_base ho0) hb);replace BK295:=Aside0.mk (blk_below (g:=gb295) (o:=.cells #[.int .i64 t288,.int .i64 t289,.string t290,.slice Ao19 t291.length co19] 24 (0,0)) (pu4 BK295) hb);replace HB:=cs_h HB GE295 hb;(try clear hb);(try clear hb2);(try clear hk);(try clear hi);(try clear ho0))|((with_reducible refine gate_callee (f:=25) rfl ?_);refine goesL_ (some 15) rfl rfl Tryd.func25 (by kernel_rfl) rfl #[.int .i64 50] rfl (by (try simp only [List.map_toArray,List.map_cons,List.map_nil]);first|done|rfl|(simp only [List.length_drop,List.length_take];rfl)|(simp only [gt_iff_lt,Int.ofNat_lt];rfl)) ?_;(with_reducible refine (spinneyplain_Int.calls 50 t302 t303 t304 t305 _ A4.out).mono ?_);rintro e w21 ⟨v306,rfl,ho0,hb⟩;refine ⟨_,rfl,?_⟩;have HO307:=Aside0.mk (Kd.R_lower (Kd.R_newB (Kd.R_new' (Kd.R_new' (Kd.R_new' ho0 (Kd.R_lt (up_r HO287))) (Kd.R_lt (up_r HO293))) (Kd.R_lt (up_r HO301))) (g:=gb295) (o:=.cells #[.int .i64 t288,.int .i64 t289,.string t290,.slice Ao19 t291.length co19] 24 (0,0)) (up_b BK295)) (below_size (up_h HB)));replace HO287:=Aside0.mk (Kd.R_elder' (up_r HO287) (Kd.R_base ho0) hb);replace HO293:=Aside0.mk (Kd.R_elder' (up_r HO293) (Kd.R_base ho0) hb);replace HO301:=Aside0.mk (Kd.R_elder' (up_r HO301) (Kd.R_base ho0) hb);replace BK295:=ca_b BK295 hb;replace HB:=ca_h HB hb;(try clear hb);(try clear hb2);(try clear hk);(try clear hi);(try clear ho0);obtain ⟨Ao22,co22,eo22⟩:=Kd.R_slice HO301.out;subst eo22;obtain ⟨Ao23,co23,eo23⟩:=Kd.R_slice HO307.out;subst eo23)|((with_reducible refine gate_callee (f:=11) rfl ?_);refine goesL_ (some 16) rfl rfl Tryd.func11 (by kernel_rfl) rfl #[.int .i64 6,.agg #[.int .i64 t296,.int .i64 t297,.string t298,.slice Ao22 t299.length co22],.agg #[.int .i64 t302,.int .i64 t303,.string t304,.slice Ao23 t305.length co23]] rfl (by (try simp only [List.map_toArray,List.map_cons,List.map_nil]);first|done|rfl|(simp only [List.length_drop,List.length_take];rfl)|(simp only [gt_iff_lt,Int.ofNat_lt];rfl)) ?_;(with_reducible refine (fns_Two.calls k 6 t296 t297 t298 _ _ t299 t302 t303 t304 _ _ t305 t308 t309 t310 t311 true t315 _ ?side1 ?side2 ?side3 ?side4 ?side5 A5.out).mono ?_);(case side1 => exact LaidW.below HLT.out (up_h HB));(case side2 => repeat (first|exact (Kd.R_reads' HO301.out).2.2|(with_reducible refine Kd.C_alloc ?_ _)|(with_reducible refine Kd.C_drewN ?_ _)|(with_reducible refine Kd.C_drew ?_)));(case side3 => exact (Kd.R_reads' HO301.out).2.1);(case side4 => repeat (first|exact (Kd.R_reads' HO307.out).2.2|(with_reducible refine Kd.C_alloc ?_ _)|(with_reducible refine Kd.C_drewN ?_ _)|(with_reducible refine Kd.C_drew ?_)));(case side5 => exact (Kd.R_reads' HO307.out).2.1);rintro e w24 ⟨v312,rfl,ho0,hb⟩;refine ⟨_,rfl,?_⟩;have HO313:=Aside0.mk (Kd.R_lower (Kd.R_newB (Kd.R_new' (Kd.R_new' (Kd.R_new' (Kd.R_new' ho0 (Kd.R_lt (up_r HO287))) (Kd.R_lt (up_r HO293))) (Kd.R_lt (up_r HO301))) (Kd.R_lt (up_r HO307))) (g:=gb295) (o:=.cells #[.int .i64 t288,.int .i64 t289,.string t290,.slice Ao19 t291.length co19] 24 (0,0)) (up_b BK295)) (below_size (up_h HB)));replace HO287:=Aside0.mk (Kd.R_elder' (up_r HO287) (Kd.R_base ho0) hb);replace HO293:=Aside0.mk (Kd.R_elder' (up_r HO293) (Kd.R_base ho0) hb);replace HO301:=Aside0.mk (Kd.R_elder' (up_r HO301) (Kd.R_base ho0) hb);replace HO307:=Aside0.mk (Kd.R_elder' (up_r HO307) (Kd.R_base ho0) hb);replace BK295:=ca_b BK295 hb;replace HB:=ca_h HB hb;(try clear hb);(try clear hb2);(try clear hk);(try clear hi);(try clear ho0))|((with_reducible refine gate_dst (N:=3) rfl ?_);refine box_event ?hg (N:=3) ?hd (cs:=#[.int .i64 0,.int .i64 0,.string (⟨#[]⟩:ByteArray),.slice none 0 0]) (t:=24) ?hr ?_;(case hd => rfl);(case hg => rfl);(case hr => first|(go_simp;done)|(go_simp;rfl));intro gb316 hg w25 hbox hb;have BK316:=Aside0.mk (hbox);have GW316:=bx_g (up_h HB) hg;have GE316:=bx_g (up_h HB) hg;have NB295_316:=bx_n (up_b BK295) hg;have NB316_295:=bx_m (up_b BK295) hg;replace HO287:=Aside0.mk (Kd.R_below (Kd.R_elderB (up_r HO287) gb316 (Nat.le_of_eq hg.symm)) hb);replace HO293:=Aside0.mk (Kd.R_below (Kd.R_elderB (up_r HO293) gb316 (Nat.le_of_eq hg.symm)) hb);replace HO301:=Aside0.mk (Kd.R_below (Kd.R_elderB (up_r HO301) gb316 (Nat.le_of_eq hg.symm)) hb);replace HO307:=Aside0.mk (Kd.R_below (Kd.R_elderB (up_r HO307) gb316 (Nat.le_of_eq hg.symm)) hb);replace HO313:=Aside0.mk (Kd.R_below (Kd.R_elderB (up_r HO313) gb316 (Nat.le_of_eq hg.symm)) hb);replace BK295:=ca_b BK295 hb;replace HB:=ca_h HB hb;clear hb hbox hg;have hnb26:=NB316_295.out;have hnc26:=NB295_316.out;obtain ⟨hcz27_0,hcz27_1,hcz27_2,hcz27_3,hfz27_0,hfz27_1,hfz27_2,hfz27_3⟩:=bk4 BK316;obtain ⟨Ao28,co28,eo28⟩:=Kd.R_slice HO313.out;subst eo28)|((with_reducible refine gate_callee (f:=25) rfl ?_);refine goesL_ (some 21) rfl rfl Tryd.func25 (by kernel_rfl) rfl #[.int .i64 4] rfl (by (try simp only [List.map_toArray,List.map_cons,List.map_nil]);first|done|rfl|(simp only [List.length_drop,List.length_take];rfl)|(simp only [gt_iff_lt,Int.ofNat_lt];rfl)) ?_;(with_reducible refine (spinneyplain_Int.calls 4 t317 t318 t319 t320 _ A6.out).mono ?_);rintro e w29 ⟨v321,rfl,ho0,hb⟩;refine ⟨_,rfl,?_⟩;have HO322:=Aside0.mk (Kd.R_lower (Kd.R_newB (Kd.R_newB (Kd.R_new' (Kd.R_new' (Kd.R_new' (Kd.R_new' (Kd.R_new' ho0 (Kd.R_lt (by (with_reducible repeat (first|apply Kd.R_alloc|apply Kd.R_drewN|apply Kd.R_drew));exact (Kd.R_mono (fa4_r HO287 (fun _ hk => hk.2)) (fun _ h_ => h_.1))))) (Kd.R_lt (by (with_reducible repeat (first|apply Kd.R_alloc|apply Kd.R_drewN|apply Kd.R_drew));exact (Kd.R_mono (fa4_r HO293 (fun _ hk => hk.2)) (fun _ h_ => h_.1))))) (Kd.R_lt (by (with_reducible repeat (first|apply Kd.R_alloc|apply Kd.R_drewN|apply Kd.R_drew));exact (Kd.R_mono (fa4_r HO301 (fun _ hk => hk.2)) (fun _ h_ => h_.1))))) (Kd.R_lt (by (with_reducible repeat (first|apply Kd.R_alloc|apply Kd.R_drewN|apply Kd.R_drew));exact (Kd.R_mono (fa4_r HO307 (fun _ hk => hk.2)) (fun _ h_ => h_.1))))) (Kd.R_lt (by (with_reducible repeat (first|apply Kd.R_alloc|apply Kd.R_drewN|apply Kd.R_drew));exact (Kd.R_mono (fa4_r HO313 (fun _ hk => hk.2)) (fun _ h_ => h_.1))))) (g:=gb295) (o:=.cells #[.int .i64 t288,.int .i64 t289,.string t290,.slice Ao19 t291.length co19] 24 (0,0)) (sb_b BK295 NB295_316)) (g:=gb316) (o:=.cells #[.int .i64 t308,.int .i64 t309,.string t310,.slice Ao28 t311.length co28] 24 (0,0)) (pu4 BK316)) (below_size (sb_h HB GE316)));replace HO287:=Aside0.mk (Kd.R_elder' (by (with_reducible repeat (first|apply Kd.R_alloc|apply Kd.R_drewN|apply Kd.R_drew));exact (Kd.R_mono (fa4_r HO287 (fun _ hk => hk.2)) (fun _ h_ => h_.1))) (Kd.R_base ho0) hb);replace HO293:=Aside0.mk (Kd.R_elder' (by (with_reducible repeat (first|apply Kd.R_alloc|apply Kd.R_drewN|apply Kd.R_drew));exact (Kd.R_mono (fa4_r HO293 (fun _ hk => hk.2)) (fun _ h_ => h_.1))) (Kd.R_base ho0) hb);replace HO301:=Aside0.mk (Kd.R_elder' (by (with_reducible repeat (first|apply Kd.R_alloc|apply Kd.R_drewN|apply Kd.R_drew));exact (Kd.R_mono (fa4_r HO301 (fun _ hk => hk.2)) (fun _ h_ => h_.1))) (Kd.R_base ho0) hb);replace HO307:=Aside0.mk (Kd.R_elder' (by (with_reducible repeat (first|apply Kd.R_alloc|apply Kd.R_drewN|apply Kd.R_drew));exact (Kd.R_mono (fa4_r HO307 (fun _ hk => hk.2)) (fun _ h_ => h_.1))) (Kd.R_base ho0) hb);replace HO313:=Aside0.mk (Kd.R_elder' (by (with_reducible repeat (first|apply Kd.R_alloc|apply Kd.R_drewN|apply Kd.R_drew));exact (Kd.R_mono (fa4_r HO313 (fun _ hk => hk.2)) (fun _ h_ => h_.1))) (Kd.R_base ho0) hb);replace BK295:=cs_b BK295 NB295_316 hb;replace BK316:=Aside0.mk (blk_below (g:=gb316) (o:=.cells #[.int .i64 t308,.int .i64 t309,.string t310,.slice Ao28 t311.length co28] 24 (0,0)) (pu4 BK316) hb);replace HB:=cs_h HB GE316 hb;(try clear hb);(try clear hb2);(try clear hk);(try clear hi);(try clear ho0);obtain ⟨Ao30,co30,eo30⟩:=Kd.R_slice HO322.out;subst eo30)|((with_reducible refine gate_callee (f:=8) rfl ?_);refine goesL_ (some 22) rfl rfl Tryd.func8 (by kernel_rfl) rfl #[.int .i64 3,.agg #[.int .i64 t317,.int .i64 t318,.string t319,.slice Ao30 t320.length co30]] rfl (by (try simp only [List.map_toArray,List.map_cons,List.map_nil]);first|done|rfl|(simp only [List.length_drop,List.length_take];rfl)|(simp only [gt_iff_lt,Int.ofNat_lt];rfl)) ?_;(with_reducible refine (fns_Is.calls3 k 3 t317 t318 t319 _ _ t320 t323 t324 _ ?side1 ?side2 ?side3 A7.out).mono ?_);(case side1 => exact LaidW.below HLT.out (up_h HB));(case side2 => repeat (first|exact (Kd.R_reads' HO322.out).2.2|(with_reducible refine Kd.C_alloc ?_ _)|(with_reducible refine Kd.C_drewN ?_ _)|(with_reducible refine Kd.C_drew ?_)));(case side3 => exact (Kd.R_reads' HO322.out).2.1);rintro e w31 ⟨rfl,hb⟩;refine ⟨_,rfl,?_⟩;replace HO287:=ca_r HO287 hb;replace HO293:=ca_r HO293 hb;replace HO301:=ca_r HO301 hb;replace HO307:=ca_r HO307 hb;replace HO313:=ca_r HO313 hb;replace HO322:=ca_r HO322 hb;replace BK295:=ca_b BK295 hb;replace BK316:=ca_b BK316 hb;replace HB:=ca_h HB hb;(try clear hb);(try clear hb2);(try clear hk);(try clear hi);obtain ⟨hcz32_0,hcz32_1,hcz32_2,hcz32_3,hfz32_0,hfz32_1,hfz32_2,hfz32_3⟩:=bk4 BK295;obtain ⟨hcz33_0,hcz33_1,hcz33_2,hcz33_3,hfz33_0,hfz33_1,hfz33_2,hfz33_3⟩:=bk4 BK316))
       go_ret
       exact ⟨by first|rfl|(simp [errW_none,errW_some] <;> rfl)|(simp [*,errW_none,errW_some] <;> rfl),by repeat (first|(with_reducible first|exact HB.out|apply below_alloc|apply pw_below_drewN|apply below_drew1|refine below_set ?_ GE295.out|refine below_set ?_ GE316.out)|exact HB.out)⟩
      ·rw [if_neg c13] at H
       exact absurd H (by simp)
     ·replace c12:=Bool.eq_false_iff.mpr c12
      subst c12
      have H1:(none)=some r:=by rw [if_neg (show ¬ (false=true) by decide)] at H;exact H
      clear H
      have H:=H1
      clear H1
      exact absurd H (by simp)
    ·rw [if_neg c11] at H
     exact absurd H (by simp)
   ·rw [if_neg c10] at H
    exact absurd H (by simp)
  ·rw [if_neg c9] at H
   exact absurd H (by simp)
 ·rw [if_neg c8] at H
  exact absurd H (by simp)

def spinneyref05_Int.f (a0:Int):Option (Int × Int × ByteArray × (List (S24))):=some (2,a0,(⟨#[]⟩:ByteArray),([]:List (S24)))
set_option maxHeartbeats 8000000 in
set_option maxRecDepth 100000 in
theorem spinneyref05_Int.calls (a0:Int) (r1:Int) (r2:Int) (r3:ByteArray) (r4:List (S24)) (w:World) (h:spinneyref05_Int.f a0=some (r1,r2,r3,r4)) :
  Calls Tryd.prog 50 #[.int .i64 a0] w fun e w' => ∃ v3_:Value,e=.returned (.agg #[.int .i64 r1,.int .i64 r2,.string r3,v3_])∧Kd.R k24 24 w' w.heap.size (fun _ => True) v3_ r4∧Below w.heap.size w w':=by
 have hu24:=Tryd.underlying24
 have HB:=Aside0.mk (Below.refl w.heap.size w)
 have H:(some (2,a0,(⟨#[]⟩:ByteArray),([]:List (S24))))=some (r1,r2,r3,r4):=h
 clear h
 simp only [Option.some.injEq,Prod.mk.injEq] at H
 obtain ⟨rfl,rfl,rfl,rfl⟩:=H
 go_enter Tryd.func50,Tryd.ntmps50
 go_wp2_with (first|((with_reducible refine gate_dst (N:=2) rfl ?_);refine box_event ?hg (N:=2) ?hd (cs:=#[.int .i64 0,.int .i64 0,.string (⟨#[]⟩:ByteArray),.slice none 0 0]) (t:=24) ?hr ?_;(case hd => rfl);(case hg => rfl);(case hr => first|(go_simp;done)|(go_simp;rfl));intro gb331 hg w2 hbox hb;have BK331:=Aside0.mk (hbox);have GW331:=bx_g (up_h HB) hg;have GE331:=bx_g (up_h HB) hg;replace HB:=ca_h HB hb;clear hb hbox hg;obtain ⟨hcz3_0,hcz3_1,hcz3_2,hcz3_3,hfz3_0,hfz3_1,hfz3_2,hfz3_3⟩:=bk4 BK331))
 refine bodyPost_ret (results_cell_row rfl _ _ gb331 24 #[.int .i64 2,.int .i64 a0,.string (⟨#[]⟩:ByteArray),.slice none 0 0] (0,0) _ rfl (pu4 BK331) Tryd.underlying24 rfl (by kernel_rfl)) rfl ?_
 exact ⟨_,by first|rfl|(simp [errW_none,errW_some] <;> rfl)|(simp [*,errW_none,errW_some] <;> rfl),by first|exact Kd.R_nil _ _ _ _ _|exact Kd.N_nil _ _ _ _ _|exact Kd.V_nil _ _ _ _ _|exact Kd.Q_nil _ _ _ _ _|exact Kd.S_nil _ _ _ _ _,by repeat (first|(with_reducible first|exact HB.out|apply below_alloc|apply pw_below_drewN|apply below_drew1|refine below_set ?_ GE331.out)|exact HB.out)⟩

end Go.Proofs.YtgmmoagclkmeaaaDoor.XH
