-- cut down by bundle.py (the session's own program) from the texts YtgmmoagclkmeaaaDoorXH12, to what this claim names
import Derived.Test.YtgmmoagclkmeaaaDoorZFnsOneXH0
import Derived.Test.YtgmmoagclkmeaaaDoorZFnsOneXH2
import Derived.Test.YtgmmoagclkmeaaaDoorZFnsOneXH4
import Derived.Test.YtgmmoagclkmeaaaDoorZFnsOneXH10
import Derived.Test.YtgmmoagclkmeaaaDoorZFnsOneXH11
-- laid by xprint.py (the session's own program) out of the translation; Lean checks it
namespace Go.Proofs.YtgmmoagclkmeaaaDoor.XH
open Go.RowKit Go.Proofs.YtgmmoagclkmeaaaDoorW.PrintWords Go.Proofs.YtgmmoagclkmeaaaDoorW.PrintLast Go.Proofs.YtgmmoagclkmeaaaDoorW.PrintMore
attribute [local go_sem] max2_int min2_int max_two min_two max_three min_three max_four min_four   -- for this text's walks alone
set_option linter.unusedVariables false
set_option linter.unusedSimpArgs false

def fns_two.f (k:Nat) (a0:Int) (a1_0:Int) (a1_1:Int) (a1_2:ByteArray) (l1_3:List (S24)) (a2_0:Int) (a2_1:Int) (a2_2:ByteArray) (l2_3:List (S24)):Option (Int × Int × ByteArray × (List (S24)) × Bool):=if a0=0 then ((fns_add.f a1_0 a1_1 a1_2 l1_3 a2_0 a2_1 a2_2 l2_3).bind fun bt201 => (some (bt201.1,bt201.2.1,bt201.2.2.1,bt201.2.2.2,false))) else (if a0=1 then ((value_Compare.f a2_0 a2_1 a2_2 l2_3 a1_0 a1_1 a1_2 l1_3).bind fun t207 => (if t207 > 0 then (some (a2_0,a2_1,a2_2,l2_3,false)) else (some (a1_0,a1_1,a1_2,l1_3,false)))) else (if a0=2 then ((value_Compare.f a2_0 a2_1 a2_2 l2_3 a1_0 a1_1 a1_2 l1_3).bind fun t208 => (if t208 < 0 then (some (a2_0,a2_1,a2_2,l2_3,false)) else (some (a1_0,a1_1,a1_2,l1_3,false)))) else (if a0=3 then ((fns_conj.f k a1_0 a1_1 a1_2 l1_3 a2_0 a2_1 a2_2 l2_3).bind fun bt209 => (some (bt209.1,bt209.2.1,bt209.2.2.1,bt209.2.2.2,false))) else (if a0=5 then (some (a2_0,a2_1,a2_2,l2_3,false)) else (if a0=6 then ((fns_add.f a1_0 a1_1 a1_2 l1_3 a2_0 a2_1 a2_2 l2_3).bind fun bt215 => ((fns_isInt.f bt215.1 bt215.2.1 bt215.2.2.1 bt215.2.2.2).bind fun t222 => (if t222=true then (some (bt215.1,bt215.2.1,bt215.2.2.1,bt215.2.2.2,decide (bt215.2.1 > 100))) else (some (bt215.1,bt215.2.1,bt215.2.2.1,bt215.2.2.2,false))))) else (if a0=7 then ((fns_isInt.f a1_0 a1_1 a1_2 l1_3).bind fun t223 => (if t223=true then ((fns_integer.f (wrap64 (a1_1+1))).bind fun bt224 => (some (bt224.1,bt224.2.1,bt224.2.2.1,bt224.2.2.2,false))) else ((fns_integer.f 1).bind fun bt230 => (some (bt230.1,bt230.2.1,bt230.2.2.1,bt230.2.2.2,false))))) else (some (a1_0,a1_1,a1_2,l1_3,false))))))))
theorem fns_two.mono:∀ a0 a1 a2 a3 a4 a5 a6 a7 a8 k,LeO (fns_two.f k a0 a1 a2 a3 a4 a5 a6 a7 a8) (fns_two.f (k+1) a0 a1 a2 a3 a4 a5 a6 a7 a8):=by
 intro a0 a1 a2 a3 a4 a5 a6 a7 a8 k
 unfold fns_two.f
 repeat' first
   | (with_reducible exact fns_conj.mono _ _ _ _ _ _ _ _ _)
   | (with_reducible exact LeO.refl _)
   | (with_reducible exact LeO.none _)
   | (with_reducible refine LeO.ite ?_ ?_)
   | (with_reducible refine LeO.bind ?_ (fun _ => ?_))
   | exact fns_conj.mono _ _ _ _ _ _ _ _ _
   | exact LeO.none _
   | refine LeO.ite ?_ ?_
   | refine LeO.bind ?_ (fun _ => ?_)
def fns_two.T16:Bool × List (List Nat × List Nat):=(true,[([],[]),([],[]),([1],[1]),([2,2],[2]),([3],[3]),([4,3],[3,4]),([5,3],[3,5]),([3,6],[3,6]),([0,3,0],[0]),([7,8,0,1,2,3,4,5,6,7,8],[7])])
def fns_two.B16:List Nat:=[0,0,2,6,14,30,62,126,15,511]
theorem fns_two.tab16:rtab .any (opsOf Tryd.f26 16)=fns_two.T16:=by kernel_rfl
theorem fns_two.bits16:waitsOk fns_two.T16.2 fns_two.B16=true:=by kernel_rfl
set_option maxHeartbeats 8000000 in
set_option maxRecDepth 100000 in
theorem fns_two.calls (k:Nat) (a0:Int) (a1_0:Int) (a1_1:Int) (a1_2:ByteArray) (P1_3_:Nat→Prop) (A1_3:Option Addr) (c1_3:Nat) (l1_3:List (S24)) (a2_0:Int) (a2_1:Int) (a2_2:ByteArray) (P2_3_:Nat→Prop) (A2_3:Option Addr) (c2_3:Nat) (l2_3:List (S24)) (r1:Int) (r2:Int) (r3:ByteArray) (r4:List (S24)) (r5:Bool) (w:World) (hL:LaidW w) (hs1_3:Kd.V k24 24 w w.heap.size (fun k_ => P1_3_ k_) (.slice A1_3 l1_3.length c1_3) l1_3) (hs2_3:Kd.V k24 24 w w.heap.size (fun k_ => P2_3_ k_) (.slice A2_3 l2_3.length c2_3) l2_3) (h:fns_two.f k a0 a1_0 a1_1 a1_2 l1_3 a2_0 a2_1 a2_2 l2_3=some (r1,r2,r3,r4,r5)) :
  Calls Tryd.prog 26 #[.int .i64 a0,.agg #[.int .i64 a1_0,.int .i64 a1_1,.string a1_2,.slice A1_3 l1_3.length c1_3],.agg #[.int .i64 a2_0,.int .i64 a2_1,.string a2_2,.slice A2_3 l2_3.length c2_3]] w fun e w' => ∃ v3_:Value,e=.returned (.tuple #[.agg #[.int .i64 r1,.int .i64 r2,.string r3,v3_],.bool r5])∧Kd.V k24 24 w' w.heap.size (fun k_ => ((P1_3_ k_ ∨ P2_3_ k_) ∨ w.heap.size≤k_)) v3_ r4∧Below w.heap.size w w':=by
 have hu24:=Tryd.underlying24
 have HO1_3:=Aside0.mk (show Kd.V k24 24 w w.heap.size (fun k_ => ((P1_3_ k_ ∨ P2_3_ k_) ∨ w.heap.size≤k_)) (.slice A1_3 l1_3.length c1_3) l1_3 from Kd.V_mono hs1_3 (fun k_ hk => .inl (.inl hk)))
 have HO2_3:=Aside0.mk (show Kd.V k24 24 w w.heap.size (fun k_ => ((P1_3_ k_ ∨ P2_3_ k_) ∨ w.heap.size≤k_)) (.slice A2_3 l2_3.length c2_3) l2_3 from Kd.V_mono hs2_3 (fun k_ hk => .inl (.inr hk)))
 have HLT:=Aside0.mk hL
 clear hL
 have HB:=Aside0.mk (Below.refl w.heap.size w)
 have H:(if a0=0 then ((fns_add.f a1_0 a1_1 a1_2 l1_3 a2_0 a2_1 a2_2 l2_3).bind fun bt201 => (some (bt201.1,bt201.2.1,bt201.2.2.1,bt201.2.2.2,false))) else (if a0=1 then ((value_Compare.f a2_0 a2_1 a2_2 l2_3 a1_0 a1_1 a1_2 l1_3).bind fun t207 => (if t207 > 0 then (some (a2_0,a2_1,a2_2,l2_3,false)) else (some (a1_0,a1_1,a1_2,l1_3,false)))) else (if a0=2 then ((value_Compare.f a2_0 a2_1 a2_2 l2_3 a1_0 a1_1 a1_2 l1_3).bind fun t208 => (if t208 < 0 then (some (a2_0,a2_1,a2_2,l2_3,false)) else (some (a1_0,a1_1,a1_2,l1_3,false)))) else (if a0=3 then ((fns_conj.f k a1_0 a1_1 a1_2 l1_3 a2_0 a2_1 a2_2 l2_3).bind fun bt209 => (some (bt209.1,bt209.2.1,bt209.2.2.1,bt209.2.2.2,false))) else (if a0=5 then (some (a2_0,a2_1,a2_2,l2_3,false)) else (if a0=6 then ((fns_add.f a1_0 a1_1 a1_2 l1_3 a2_0 a2_1 a2_2 l2_3).bind fun bt215 => ((fns_isInt.f bt215.1 bt215.2.1 bt215.2.2.1 bt215.2.2.2).bind fun t222 => (if t222=true then (some (bt215.1,bt215.2.1,bt215.2.2.1,bt215.2.2.2,decide (bt215.2.1 > 100))) else (some (bt215.1,bt215.2.1,bt215.2.2.1,bt215.2.2.2,false))))) else (if a0=7 then ((fns_isInt.f a1_0 a1_1 a1_2 l1_3).bind fun t223 => (if t223=true then ((fns_integer.f (wrap64 (a1_1+1))).bind fun bt224 => (some (bt224.1,bt224.2.1,bt224.2.2.1,bt224.2.2.2,false))) else ((fns_integer.f 1).bind fun bt230 => (some (bt230.1,bt230.2.1,bt230.2.2.1,bt230.2.2.2,false))))) else (some (a1_0,a1_1,a1_2,l1_3,false)))))))))=some (r1,r2,r3,r4,r5):=h
 clear h
 by_cases c4:a0=0
 ·rw [if_pos c4] at H
  have c4b0:(a0 == 0)=true:=beq_iff_eq.mpr c4
  have c4b1:(a0 != 0)=false:=bne_eq_false_iff_eq.mpr c4
  clear c4
  replace H:=Option.bind_eq_some_iff.mp H
  obtain ⟨⟨t201,t202,t203,t204⟩,A50,H⟩:=H
  replace H:(some (t201,t202,t203,t204,false))=some (r1,r2,r3,r4,r5):=H
  have A5:=Aside0.mk A50
  clear A50
  simp only [Option.some.injEq,Prod.mk.injEq] at H
  obtain ⟨rfl,rfl,rfl,rfl,rfl⟩:=H
  go_enter Tryd.func26,Tryd.ntmps26
  go_wp2_with (first|((with_reducible refine gate_dst (N:=4) rfl ?_);refine box_event ?hg (N:=4) ?hd (cs:=#[.int .i64 a1_0,.int .i64 a1_1,.string a1_2,.slice A1_3 l1_3.length c1_3]) (t:=24) ?hr ?_;(case hd => rfl);(case hg => rfl);(case hr => first|(go_simp;done)|(go_simp;rfl));intro gb198 hg w6 hbox hb;have BK198:=Aside0.mk (hbox);have GW198:=bx_g (up_h HB) hg;have GE198:=bx_g (up_h HB) hg;replace HO1_3:=bx_v HO1_3 hg hb;replace HO2_3:=bx_v HO2_3 hg hb;replace HB:=ca_h HB hb;clear hb hbox hg)|((with_reducible refine gate_dst (N:=5) rfl ?_);refine box_event ?hg (N:=5) ?hd (cs:=#[.int .i64 a2_0,.int .i64 a2_1,.string a2_2,.slice A2_3 l2_3.length c2_3]) (t:=24) ?hr ?_;(case hd => rfl);(case hg => rfl);(case hr => first|(go_simp;done)|(go_simp;rfl));intro gb199 hg w7 hbox hb;have BK199:=Aside0.mk (hbox);have GW199:=bx_g (up_h HB) hg;have GE199:=bx_g (up_h HB) hg;have NB198_199:=bx_n (up_b BK198) hg;have NB199_198:=bx_m (up_b BK198) hg;replace HO1_3:=bx_v HO1_3 hg hb;replace HO2_3:=bx_v HO2_3 hg hb;replace BK198:=ca_b BK198 hb;replace HB:=ca_h HB hb;clear hb hbox hg)|((with_reducible refine gate_dst (N:=6) rfl ?_);refine box_event ?hg (N:=6) ?hd (cs:=#[.int .i64 0,.int .i64 0,.string (⟨#[]⟩:ByteArray),.slice none 0 0]) (t:=24) ?hr ?_;(case hd => rfl);(case hg => rfl);(case hr => first|(go_simp;done)|(go_simp;rfl));intro gb200 hg w8 hbox hb;have BK200:=Aside0.mk (hbox);have GW200:=bx_g (up_h HB) hg;have GE200:=bx_g (up_h HB) hg;have NB198_200:=bx_n (up_b BK198) hg;have NB200_198:=bx_m (up_b BK198) hg;have NB199_200:=bx_n (up_b BK199) hg;have NB200_199:=bx_m (up_b BK199) hg;replace HO1_3:=bx_v HO1_3 hg hb;replace HO2_3:=bx_v HO2_3 hg hb;replace BK198:=ca_b BK198 hb;replace BK199:=ca_b BK199 hb;replace HB:=ca_h HB hb;clear hb hbox hg;have hnb9:=NB198_199.out;have hnc9:=NB199_198.out;have hnb10:=NB198_200.out;have hnc10:=NB200_198.out;obtain ⟨hcz11_0,hcz11_1,hcz11_2,hcz11_3,hfz11_0,hfz11_1,hfz11_2,hfz11_3⟩:=bk4 BK198;have hnb12:=NB199_200.out;have hnc12:=NB200_199.out;obtain ⟨hcz13_0,hcz13_1,hcz13_2,hcz13_3,hfz13_0,hfz13_1,hfz13_2,hfz13_3⟩:=bk4 BK199)|((with_reducible refine gate_callee (f:=42) rfl ?_);refine goesL_ (some 14) rfl rfl Tryd.func42 (by kernel_rfl) rfl #[.agg #[.int .i64 a1_0,.int .i64 a1_1,.string a1_2,.slice A1_3 l1_3.length c1_3],.agg #[.int .i64 a2_0,.int .i64 a2_1,.string a2_2,.slice A2_3 l2_3.length c2_3]] rfl (by (try simp only [List.map_toArray,List.map_cons,List.map_nil]);first|done|rfl|(simp only [List.length_drop,List.length_take];rfl)|(simp only [gt_iff_lt,Int.ofNat_lt];rfl)) ?_;(with_reducible refine (fns_add.calls a1_0 a1_1 a1_2 (fun k_ => (((((P1_3_ k_ ∨ P2_3_ k_) ∨ w.heap.size≤k_)∧k_≠gb198)∧k_≠gb199)∧k_≠gb200)) _ _ l1_3 a2_0 a2_1 a2_2 _ _ l2_3 t201 t202 t203 t204 _ ?side1 ?side2 ?side3 A5.out).mono ?_);(case side1 => first|exact HO1_3.out|exact Kd.V_mono HO1_3.out (fun _ hk_ => by simp only [and_assoc] at hk_ ⊢;exact hk_));(case side2 => repeat (first|exact (Kd.V_reads' HO2_3.out).2.2|(with_reducible refine Kd.C_alloc ?_ _)|(with_reducible refine Kd.C_drewN ?_ _)|(with_reducible refine Kd.C_drew ?_)));(case side3 => exact (Kd.V_reads' HO2_3.out).2.1);rintro e w14 ⟨v205,rfl,ho0,hb⟩;refine ⟨_,rfl,?_⟩;have HO206:=Aside0.mk (Kd.V_lower (Kd.V_mono (ok':=fun k_ => ((P1_3_ k_ ∨ P2_3_ k_) ∨ w.heap.size≤k_)∧k_≠gb198∧k_≠gb199∧k_≠gb200) ho0 (fun k_ hk_ => ⟨Or.elim hk_ (fun hs_ => hs_.1.1.1) (fun hn_ => (.inr (Nat.le_trans (below_size (up_h HB)) hn_))),Or.elim hk_ (fun hs_ => hs_.1.1.2) (fun hn_ => (Kd.freshB (up_b BK198) k_ hn_)),Or.elim hk_ (fun hs_ => hs_.1.2) (fun hn_ => (Kd.freshB (up_b BK199) k_ hn_)),Or.elim hk_ (fun hs_ => hs_.2) (fun hn_ => (Kd.freshB (up_b BK200) k_ hn_))⟩)) (below_size (up_h HB)));replace HO1_3:=ca_v HO1_3 hb;replace HO2_3:=ca_v HO2_3 hb;replace BK198:=ca_b BK198 hb;replace BK199:=ca_b BK199 hb;replace BK200:=ca_b BK200 hb;replace HB:=ca_h HB hb;(try clear hb);(try clear hb2);(try clear hk);(try clear hi);(try clear ho0);obtain ⟨hcz15_0,hcz15_1,hcz15_2,hcz15_3,hfz15_0,hfz15_1,hfz15_2,hfz15_3⟩:=bk4 BK200;obtain ⟨Ao16,co16,eo16⟩:=Kd.V_slice HO206.out;subst eo16))
  refine bodyPost_ret (results_ct rfl _ _ gb200 24 #[.int .i64 t201,.int .i64 t202,.string t203,.slice Ao16 t204.length co16] (0,0) _ rfl (pu4 BK200) Tryd.underlying24 rfl (by kernel_rfl)) rfl ?_
  exact ⟨_,by first|rfl|(simp [errW_none,errW_some] <;> rfl)|(simp [*,errW_none,errW_some] <;> rfl),by (with_reducible repeat (first|apply Kd.V_alloc|apply Kd.V_drewN|apply Kd.V_drew));exact Kd.V_mono (fa4_v HO206 (fun _ hk => hk.2.2.2)) (fun _ hk => hk.1.1),by repeat (first|(with_reducible first|exact HB.out|apply below_alloc|apply pw_below_drewN|apply below_drew1|refine below_set ?_ GE198.out|refine below_set ?_ GE199.out|refine below_set ?_ GE200.out)|exact HB.out)⟩
 ·rw [if_neg c4] at H
  have c4b0:(a0 == 0)=false:=beq_eq_false_iff_ne.mpr c4
  have c4b1:(a0 != 0)=true:=bne_iff_ne.mpr c4
  by_cases c17:a0=1
  ·rw [if_pos c17] at H
   have c17b0:(a0 == 1)=true:=beq_iff_eq.mpr c17
   have c17b1:(a0 != 1)=false:=bne_eq_false_iff_eq.mpr c17
   clear c17
   replace H:=Option.bind_eq_some_iff.mp H
   obtain ⟨t207,A180,H⟩:=H
   replace H:(if t207 > 0 then (some (a2_0,a2_1,a2_2,l2_3,false)) else (some (a1_0,a1_1,a1_2,l1_3,false)))=some (r1,r2,r3,r4,r5):=H
   have A18:=Aside0.mk A180
   clear A180
   by_cases c19:t207 > 0
   ·rw [if_pos c19] at H
    have c19b0:decide (0 < t207)=true:=decide_eq_true c19
    clear c19
    simp only [Option.some.injEq,Prod.mk.injEq] at H
    obtain ⟨rfl,rfl,rfl,rfl,rfl⟩:=H
    go_enter Tryd.func26,Tryd.ntmps26
    go_wp2_with (first|((with_reducible refine gate_dst (N:=4) rfl ?_);refine box_event ?hg (N:=4) ?hd (cs:=#[.int .i64 a1_0,.int .i64 a1_1,.string a1_2,.slice A1_3 l1_3.length c1_3]) (t:=24) ?hr ?_;(case hd => rfl);(case hg => rfl);(case hr => first|(go_simp;done)|(go_simp;rfl));intro gb198 hg w20 hbox hb;have BK198:=Aside0.mk (hbox);have GW198:=bx_g (up_h HB) hg;have GE198:=bx_g (up_h HB) hg;replace HO1_3:=bx_v HO1_3 hg hb;replace HO2_3:=bx_v HO2_3 hg hb;replace HB:=ca_h HB hb;clear hb hbox hg)|((with_reducible refine gate_dst (N:=5) rfl ?_);refine box_event ?hg (N:=5) ?hd (cs:=#[.int .i64 a2_0,.int .i64 a2_1,.string a2_2,.slice A2_3 l2_3.length c2_3]) (t:=24) ?hr ?_;(case hd => rfl);(case hg => rfl);(case hr => first|(go_simp;done)|(go_simp;rfl));intro gb199 hg w21 hbox hb;have BK199:=Aside0.mk (hbox);have GW199:=bx_g (up_h HB) hg;have GE199:=bx_g (up_h HB) hg;have NB198_199:=bx_n (up_b BK198) hg;have NB199_198:=bx_m (up_b BK198) hg;replace HO1_3:=bx_v HO1_3 hg hb;replace HO2_3:=bx_v HO2_3 hg hb;replace BK198:=ca_b BK198 hb;replace HB:=ca_h HB hb;clear hb hbox hg)|((with_reducible refine gate_dst (N:=6) rfl ?_);refine box_event ?hg (N:=6) ?hd (cs:=#[.int .i64 0,.int .i64 0,.string (⟨#[]⟩:ByteArray),.slice none 0 0]) (t:=24) ?hr ?_;(case hd => rfl);(case hg => rfl);(case hr => first|(go_simp;done)|(go_simp;rfl));intro gb200 hg w22 hbox hb;have BK200:=Aside0.mk (hbox);have GW200:=bx_g (up_h HB) hg;have GE200:=bx_g (up_h HB) hg;have NB198_200:=bx_n (up_b BK198) hg;have NB200_198:=bx_m (up_b BK198) hg;have NB199_200:=bx_n (up_b BK199) hg;have NB200_199:=bx_m (up_b BK199) hg;replace HO1_3:=bx_v HO1_3 hg hb;replace HO2_3:=bx_v HO2_3 hg hb;replace BK198:=ca_b BK198 hb;replace BK199:=ca_b BK199 hb;replace HB:=ca_h HB hb;clear hb hbox hg;have hnb23:=NB199_198.out;have hnc23:=NB198_199.out;have hnb24:=NB199_200.out;have hnc24:=NB200_199.out;obtain ⟨hcz25_0,hcz25_1,hcz25_2,hcz25_3,hfz25_0,hfz25_1,hfz25_2,hfz25_3⟩:=bk4 BK199;have hnb26:=NB198_200.out;have hnc26:=NB200_198.out;obtain ⟨hcz27_0,hcz27_1,hcz27_2,hcz27_3,hfz27_0,hfz27_1,hfz27_2,hfz27_3⟩:=bk4 BK198)|((with_reducible refine gate_callee (f:=43) rfl ?_);refine goesL_ (some 19) rfl rfl Tryd.func43 (by kernel_rfl) rfl #[.agg #[.int .i64 a2_0,.int .i64 a2_1,.string a2_2,.slice A2_3 l2_3.length c2_3],.agg #[.int .i64 a1_0,.int .i64 a1_1,.string a1_2,.slice A1_3 l1_3.length c1_3]] rfl (by (try simp only [List.map_toArray,List.map_cons,List.map_nil]);first|done|rfl|(simp only [List.length_drop,List.length_take];rfl)|(simp only [gt_iff_lt,Int.ofNat_lt];rfl)) ?_;(with_reducible refine (value_Compare.calls a2_0 a2_1 a2_2 _ _ l2_3 a1_0 a1_1 a1_2 _ _ l1_3 t207 _ ?side1 ?side2 ?side3 ?side4 A18.out).mono ?_);(case side1 => repeat (first|exact (Kd.V_reads' HO2_3.out).2.2|(with_reducible refine Kd.C_alloc ?_ _)|(with_reducible refine Kd.C_drewN ?_ _)|(with_reducible refine Kd.C_drew ?_)));(case side2 => exact (Kd.V_reads' HO2_3.out).2.1);(case side3 => repeat (first|exact (Kd.V_reads' HO1_3.out).2.2|(with_reducible refine Kd.C_alloc ?_ _)|(with_reducible refine Kd.C_drewN ?_ _)|(with_reducible refine Kd.C_drew ?_)));(case side4 => exact (Kd.V_reads' HO1_3.out).2.1);rintro e w28 ⟨rfl,hb⟩;refine ⟨_,rfl,?_⟩;replace HO1_3:=ca_v HO1_3 hb;replace HO2_3:=ca_v HO2_3 hb;replace BK198:=ca_b BK198 hb;replace BK199:=ca_b BK199 hb;replace BK200:=ca_b BK200 hb;replace HB:=ca_h HB hb;(try clear hb);(try clear hb2);(try clear hk);(try clear hi);obtain ⟨hcz29_0,hcz29_1,hcz29_2,hcz29_3,hfz29_0,hfz29_1,hfz29_2,hfz29_3⟩:=bk4 BK199;obtain ⟨hcz30_0,hcz30_1,hcz30_2,hcz30_3,hfz30_0,hfz30_1,hfz30_2,hfz30_3⟩:=bk4 BK200))
    refine bodyPost_ret (results_ct rfl _ _ gb200 24 #[.int .i64 a2_0,.int .i64 a2_1,.string a2_2,.slice A2_3 l2_3.length c2_3] (0,0) _ rfl (pu4 BK200) Tryd.underlying24 rfl (by kernel_rfl)) rfl ?_
    exact ⟨_,by first|rfl|(simp [errW_none,errW_some] <;> rfl)|(simp [*,errW_none,errW_some] <;> rfl),by (with_reducible repeat (first|apply Kd.V_alloc|apply Kd.V_drewN|apply Kd.V_drew));exact Kd.V_mono (fa4_v HO2_3 (fun _ hk => hk.2)) (fun _ hk => hk.1.1.1.1),by repeat (first|(with_reducible first|exact HB.out|apply below_alloc|apply pw_below_drewN|apply below_drew1|refine below_set ?_ GE198.out|refine below_set ?_ GE199.out|refine below_set ?_ GE200.out)|exact HB.out)⟩
   ·rw [if_neg c19] at H
    have c19b0:decide (0 < t207)=false:=decide_eq_false c19
    clear c19
    simp only [Option.some.injEq,Prod.mk.injEq] at H
    obtain ⟨rfl,rfl,rfl,rfl,rfl⟩:=H
    go_enter Tryd.func26,Tryd.ntmps26
    go_wp2_with (first|((with_reducible refine gate_dst (N:=4) rfl ?_);refine box_event ?hg (N:=4) ?hd (cs:=#[.int .i64 a1_0,.int .i64 a1_1,.string a1_2,.slice A1_3 l1_3.length c1_3]) (t:=24) ?hr ?_;(case hd => rfl);(case hg => rfl);(case hr => first|(go_simp;done)|(go_simp;rfl));intro gb198 hg w31 hbox hb;have BK198:=Aside0.mk (hbox);have GW198:=bx_g (up_h HB) hg;have GE198:=bx_g (up_h HB) hg;replace HO1_3:=bx_v HO1_3 hg hb;replace HO2_3:=bx_v HO2_3 hg hb;replace HB:=ca_h HB hb;clear hb hbox hg)|((with_reducible refine gate_dst (N:=5) rfl ?_);refine box_event ?hg (N:=5) ?hd (cs:=#[.int .i64 a2_0,.int .i64 a2_1,.string a2_2,.slice A2_3 l2_3.length c2_3]) (t:=24) ?hr ?_;(case hd => rfl);(case hg => rfl);(case hr => first|(go_simp;done)|(go_simp;rfl));intro gb199 hg w32 hbox hb;have BK199:=Aside0.mk (hbox);have GW199:=bx_g (up_h HB) hg;have GE199:=bx_g (up_h HB) hg;have NB198_199:=bx_n (up_b BK198) hg;have NB199_198:=bx_m (up_b BK198) hg;replace HO1_3:=bx_v HO1_3 hg hb;replace HO2_3:=bx_v HO2_3 hg hb;replace BK198:=ca_b BK198 hb;replace HB:=ca_h HB hb;clear hb hbox hg)|((with_reducible refine gate_dst (N:=6) rfl ?_);refine box_event ?hg (N:=6) ?hd (cs:=#[.int .i64 0,.int .i64 0,.string (⟨#[]⟩:ByteArray),.slice none 0 0]) (t:=24) ?hr ?_;(case hd => rfl);(case hg => rfl);(case hr => first|(go_simp;done)|(go_simp;rfl));intro gb200 hg w33 hbox hb;have BK200:=Aside0.mk (hbox);have GW200:=bx_g (up_h HB) hg;have GE200:=bx_g (up_h HB) hg;have NB198_200:=bx_n (up_b BK198) hg;have NB200_198:=bx_m (up_b BK198) hg;have NB199_200:=bx_n (up_b BK199) hg;have NB200_199:=bx_m (up_b BK199) hg;replace HO1_3:=bx_v HO1_3 hg hb;replace HO2_3:=bx_v HO2_3 hg hb;replace BK198:=ca_b BK198 hb;replace BK199:=ca_b BK199 hb;replace HB:=ca_h HB hb;clear hb hbox hg;have hnb34:=NB199_198.out;have hnc34:=NB198_199.out;have hnb35:=NB199_200.out;have hnc35:=NB200_199.out;obtain ⟨hcz36_0,hcz36_1,hcz36_2,hcz36_3,hfz36_0,hfz36_1,hfz36_2,hfz36_3⟩:=bk4 BK199;have hnb37:=NB198_200.out;have hnc37:=NB200_198.out;obtain ⟨hcz38_0,hcz38_1,hcz38_2,hcz38_3,hfz38_0,hfz38_1,hfz38_2,hfz38_3⟩:=bk4 BK198)|((with_reducible refine gate_callee (f:=43) rfl ?_);refine goesL_ (some 19) rfl rfl Tryd.func43 (by kernel_rfl) rfl #[.agg #[.int .i64 a2_0,.int .i64 a2_1,.string a2_2,.slice A2_3 l2_3.length c2_3],.agg #[.int .i64 a1_0,.int .i64 a1_1,.string a1_2,.slice A1_3 l1_3.length c1_3]] rfl (by (try simp only [List.map_toArray,List.map_cons,List.map_nil]);first|done|rfl|(simp only [List.length_drop,List.length_take];rfl)|(simp only [gt_iff_lt,Int.ofNat_lt];rfl)) ?_;(with_reducible refine (value_Compare.calls a2_0 a2_1 a2_2 _ _ l2_3 a1_0 a1_1 a1_2 _ _ l1_3 t207 _ ?side1 ?side2 ?side3 ?side4 A18.out).mono ?_);(case side1 => repeat (first|exact (Kd.V_reads' HO2_3.out).2.2|(with_reducible refine Kd.C_alloc ?_ _)|(with_reducible refine Kd.C_drewN ?_ _)|(with_reducible refine Kd.C_drew ?_)));(case side2 => exact (Kd.V_reads' HO2_3.out).2.1);(case side3 => repeat (first|exact (Kd.V_reads' HO1_3.out).2.2|(with_reducible refine Kd.C_alloc ?_ _)|(with_reducible refine Kd.C_drewN ?_ _)|(with_reducible refine Kd.C_drew ?_)));(case side4 => exact (Kd.V_reads' HO1_3.out).2.1);rintro e w39 ⟨rfl,hb⟩;refine ⟨_,rfl,?_⟩;replace HO1_3:=ca_v HO1_3 hb;replace HO2_3:=ca_v HO2_3 hb;replace BK198:=ca_b BK198 hb;replace BK199:=ca_b BK199 hb;replace BK200:=ca_b BK200 hb;replace HB:=ca_h HB hb;(try clear hb);(try clear hb2);(try clear hk);(try clear hi);obtain ⟨hcz40_0,hcz40_1,hcz40_2,hcz40_3,hfz40_0,hfz40_1,hfz40_2,hfz40_3⟩:=bk4 BK198;obtain ⟨hcz41_0,hcz41_1,hcz41_2,hcz41_3,hfz41_0,hfz41_1,hfz41_2,hfz41_3⟩:=bk4 BK200))
    refine bodyPost_ret (results_ct rfl _ _ gb200 24 #[.int .i64 a1_0,.int .i64 a1_1,.string a1_2,.slice A1_3 l1_3.length c1_3] (0,0) _ rfl (pu4 BK200) Tryd.underlying24 rfl (by kernel_rfl)) rfl ?_
    exact ⟨_,by first|rfl|(simp [errW_none,errW_some] <;> rfl)|(simp [*,errW_none,errW_some] <;> rfl),by (with_reducible repeat (first|apply Kd.V_alloc|apply Kd.V_drewN|apply Kd.V_drew));exact Kd.V_mono (fa4_v HO1_3 (fun _ hk => hk.2)) (fun _ hk => hk.1.1.1.1),by repeat (first|(with_reducible first|exact HB.out|apply below_alloc|apply pw_below_drewN|apply below_drew1|refine below_set ?_ GE198.out|refine below_set ?_ GE199.out|refine below_set ?_ GE200.out)|exact HB.out)⟩
  ·rw [if_neg c17] at H
   have c17b0:(a0 == 1)=false:=beq_eq_false_iff_ne.mpr c17
   have c17b1:(a0 != 1)=true:=bne_iff_ne.mpr c17
   by_cases c42:a0=2
   ·rw [if_pos c42] at H
    have c42b0:(a0 == 2)=true:=beq_iff_eq.mpr c42
    have c42b1:(a0 != 2)=false:=bne_eq_false_iff_eq.mpr c42
    clear c42
    replace H:=Option.bind_eq_some_iff.mp H
    obtain ⟨t208,A430,H⟩:=H
    replace H:(if t208 < 0 then (some (a2_0,a2_1,a2_2,l2_3,false)) else (some (a1_0,a1_1,a1_2,l1_3,false)))=some (r1,r2,r3,r4,r5):=H
    have A43:=Aside0.mk A430
    clear A430
    by_cases c44:t208 < 0
    ·rw [if_pos c44] at H
     have c44b0:decide (t208 < 0)=true:=decide_eq_true c44
     clear c44
     simp only [Option.some.injEq,Prod.mk.injEq] at H
     obtain ⟨rfl,rfl,rfl,rfl,rfl⟩:=H
     go_enter Tryd.func26,Tryd.ntmps26
     go_wp2_with (first|((with_reducible refine gate_dst (N:=4) rfl ?_);refine box_event ?hg (N:=4) ?hd (cs:=#[.int .i64 a1_0,.int .i64 a1_1,.string a1_2,.slice A1_3 l1_3.length c1_3]) (t:=24) ?hr ?_;(case hd => rfl);(case hg => rfl);(case hr => first|(go_simp;done)|(go_simp;rfl));intro gb198 hg w45 hbox hb;have BK198:=Aside0.mk (hbox);have GW198:=bx_g (up_h HB) hg;have GE198:=bx_g (up_h HB) hg;replace HO1_3:=bx_v HO1_3 hg hb;replace HO2_3:=bx_v HO2_3 hg hb;replace HB:=ca_h HB hb;clear hb hbox hg)|((with_reducible refine gate_dst (N:=5) rfl ?_);refine box_event ?hg (N:=5) ?hd (cs:=#[.int .i64 a2_0,.int .i64 a2_1,.string a2_2,.slice A2_3 l2_3.length c2_3]) (t:=24) ?hr ?_;(case hd => rfl);(case hg => rfl);(case hr => first|(go_simp;done)|(go_simp;rfl));intro gb199 hg w46 hbox hb;have BK199:=Aside0.mk (hbox);have GW199:=bx_g (up_h HB) hg;have GE199:=bx_g (up_h HB) hg;have NB198_199:=bx_n (up_b BK198) hg;have NB199_198:=bx_m (up_b BK198) hg;replace HO1_3:=bx_v HO1_3 hg hb;replace HO2_3:=bx_v HO2_3 hg hb;replace BK198:=ca_b BK198 hb;replace HB:=ca_h HB hb;clear hb hbox hg)|((with_reducible refine gate_dst (N:=6) rfl ?_);refine box_event ?hg (N:=6) ?hd (cs:=#[.int .i64 0,.int .i64 0,.string (⟨#[]⟩:ByteArray),.slice none 0 0]) (t:=24) ?hr ?_;(case hd => rfl);(case hg => rfl);(case hr => first|(go_simp;done)|(go_simp;rfl));intro gb200 hg w47 hbox hb;have BK200:=Aside0.mk (hbox);have GW200:=bx_g (up_h HB) hg;have GE200:=bx_g (up_h HB) hg;have NB198_200:=bx_n (up_b BK198) hg;have NB200_198:=bx_m (up_b BK198) hg;have NB199_200:=bx_n (up_b BK199) hg;have NB200_199:=bx_m (up_b BK199) hg;replace HO1_3:=bx_v HO1_3 hg hb;replace HO2_3:=bx_v HO2_3 hg hb;replace BK198:=ca_b BK198 hb;replace BK199:=ca_b BK199 hb;replace HB:=ca_h HB hb;clear hb hbox hg;have hnb48:=NB199_198.out;have hnc48:=NB198_199.out;have hnb49:=NB199_200.out;have hnc49:=NB200_199.out;obtain ⟨hcz50_0,hcz50_1,hcz50_2,hcz50_3,hfz50_0,hfz50_1,hfz50_2,hfz50_3⟩:=bk4 BK199;have hnb51:=NB198_200.out;have hnc51:=NB200_198.out;obtain ⟨hcz52_0,hcz52_1,hcz52_2,hcz52_3,hfz52_0,hfz52_1,hfz52_2,hfz52_3⟩:=bk4 BK198)|((with_reducible refine gate_callee (f:=43) rfl ?_);refine goesL_ (some 26) rfl rfl Tryd.func43 (by kernel_rfl) rfl #[.agg #[.int .i64 a2_0,.int .i64 a2_1,.string a2_2,.slice A2_3 l2_3.length c2_3],.agg #[.int .i64 a1_0,.int .i64 a1_1,.string a1_2,.slice A1_3 l1_3.length c1_3]] rfl (by (try simp only [List.map_toArray,List.map_cons,List.map_nil]);first|done|rfl|(simp only [List.length_drop,List.length_take];rfl)|(simp only [gt_iff_lt,Int.ofNat_lt];rfl)) ?_;(with_reducible refine (value_Compare.calls a2_0 a2_1 a2_2 _ _ l2_3 a1_0 a1_1 a1_2 _ _ l1_3 t208 _ ?side1 ?side2 ?side3 ?side4 A43.out).mono ?_);(case side1 => repeat (first|exact (Kd.V_reads' HO2_3.out).2.2|(with_reducible refine Kd.C_alloc ?_ _)|(with_reducible refine Kd.C_drewN ?_ _)|(with_reducible refine Kd.C_drew ?_)));(case side2 => exact (Kd.V_reads' HO2_3.out).2.1);(case side3 => repeat (first|exact (Kd.V_reads' HO1_3.out).2.2|(with_reducible refine Kd.C_alloc ?_ _)|(with_reducible refine Kd.C_drewN ?_ _)|(with_reducible refine Kd.C_drew ?_)));(case side4 => exact (Kd.V_reads' HO1_3.out).2.1);rintro e w53 ⟨rfl,hb⟩;refine ⟨_,rfl,?_⟩;replace HO1_3:=ca_v HO1_3 hb;replace HO2_3:=ca_v HO2_3 hb;replace BK198:=ca_b BK198 hb;replace BK199:=ca_b BK199 hb;replace BK200:=ca_b BK200 hb;replace HB:=ca_h HB hb;(try clear hb);(try clear hb2);(try clear hk);(try clear hi);obtain ⟨hcz54_0,hcz54_1,hcz54_2,hcz54_3,hfz54_0,hfz54_1,hfz54_2,hfz54_3⟩:=bk4 BK199;obtain ⟨hcz55_0,hcz55_1,hcz55_2,hcz55_3,hfz55_0,hfz55_1,hfz55_2,hfz55_3⟩:=bk4 BK200))
     refine bodyPost_ret (results_ct rfl _ _ gb200 24 #[.int .i64 a2_0,.int .i64 a2_1,.string a2_2,.slice A2_3 l2_3.length c2_3] (0,0) _ rfl (pu4 BK200) Tryd.underlying24 rfl (by kernel_rfl)) rfl ?_
     exact ⟨_,by first|rfl|(simp [errW_none,errW_some] <;> rfl)|(simp [*,errW_none,errW_some] <;> rfl),by (with_reducible repeat (first|apply Kd.V_alloc|apply Kd.V_drewN|apply Kd.V_drew));exact Kd.V_mono (fa4_v HO2_3 (fun _ hk => hk.2)) (fun _ hk => hk.1.1.1.1),by repeat (first|(with_reducible first|exact HB.out|apply below_alloc|apply pw_below_drewN|apply below_drew1|refine below_set ?_ GE198.out|refine below_set ?_ GE199.out|refine below_set ?_ GE200.out)|exact HB.out)⟩
    ·rw [if_neg c44] at H
     have c44b0:decide (t208 < 0)=false:=decide_eq_false c44
     clear c44
     simp only [Option.some.injEq,Prod.mk.injEq] at H
     obtain ⟨rfl,rfl,rfl,rfl,rfl⟩:=H
     go_enter Tryd.func26,Tryd.ntmps26
     go_wp2_with (first|((with_reducible refine gate_dst (N:=4) rfl ?_);refine box_event ?hg (N:=4) ?hd (cs:=#[.int .i64 a1_0,.int .i64 a1_1,.string a1_2,.slice A1_3 l1_3.length c1_3]) (t:=24) ?hr ?_;(case hd => rfl);(case hg => rfl);(case hr => first|(go_simp;done)|(go_simp;rfl));intro gb198 hg w56 hbox hb;have BK198:=Aside0.mk (hbox);have GW198:=bx_g (up_h HB) hg;have GE198:=bx_g (up_h HB) hg;replace HO1_3:=bx_v HO1_3 hg hb;replace HO2_3:=bx_v HO2_3 hg hb;replace HB:=ca_h HB hb;clear hb hbox hg)|((with_reducible refine gate_dst (N:=5) rfl ?_);refine box_event ?hg (N:=5) ?hd (cs:=#[.int .i64 a2_0,.int .i64 a2_1,.string a2_2,.slice A2_3 l2_3.length c2_3]) (t:=24) ?hr ?_;(case hd => rfl);(case hg => rfl);(case hr => first|(go_simp;done)|(go_simp;rfl));intro gb199 hg w57 hbox hb;have BK199:=Aside0.mk (hbox);have GW199:=bx_g (up_h HB) hg;have GE199:=bx_g (up_h HB) hg;have NB198_199:=bx_n (up_b BK198) hg;have NB199_198:=bx_m (up_b BK198) hg;replace HO1_3:=bx_v HO1_3 hg hb;replace HO2_3:=bx_v HO2_3 hg hb;replace BK198:=ca_b BK198 hb;replace HB:=ca_h HB hb;clear hb hbox hg)|((with_reducible refine gate_dst (N:=6) rfl ?_);refine box_event ?hg (N:=6) ?hd (cs:=#[.int .i64 0,.int .i64 0,.string (⟨#[]⟩:ByteArray),.slice none 0 0]) (t:=24) ?hr ?_;(case hd => rfl);(case hg => rfl);(case hr => first|(go_simp;done)|(go_simp;rfl));intro gb200 hg w58 hbox hb;have BK200:=Aside0.mk (hbox);have GW200:=bx_g (up_h HB) hg;have GE200:=bx_g (up_h HB) hg;have NB198_200:=bx_n (up_b BK198) hg;have NB200_198:=bx_m (up_b BK198) hg;have NB199_200:=bx_n (up_b BK199) hg;have NB200_199:=bx_m (up_b BK199) hg;replace HO1_3:=bx_v HO1_3 hg hb;replace HO2_3:=bx_v HO2_3 hg hb;replace BK198:=ca_b BK198 hb;replace BK199:=ca_b BK199 hb;replace HB:=ca_h HB hb;clear hb hbox hg;have hnb59:=NB199_198.out;have hnc59:=NB198_199.out;have hnb60:=NB199_200.out;have hnc60:=NB200_199.out;obtain ⟨hcz61_0,hcz61_1,hcz61_2,hcz61_3,hfz61_0,hfz61_1,hfz61_2,hfz61_3⟩:=bk4 BK199;have hnb62:=NB198_200.out;have hnc62:=NB200_198.out;obtain ⟨hcz63_0,hcz63_1,hcz63_2,hcz63_3,hfz63_0,hfz63_1,hfz63_2,hfz63_3⟩:=bk4 BK198)|((with_reducible refine gate_callee (f:=43) rfl ?_);refine goesL_ (some 26) rfl rfl Tryd.func43 (by kernel_rfl) rfl #[.agg #[.int .i64 a2_0,.int .i64 a2_1,.string a2_2,.slice A2_3 l2_3.length c2_3],.agg #[.int .i64 a1_0,.int .i64 a1_1,.string a1_2,.slice A1_3 l1_3.length c1_3]] rfl (by (try simp only [List.map_toArray,List.map_cons,List.map_nil]);first|done|rfl|(simp only [List.length_drop,List.length_take];rfl)|(simp only [gt_iff_lt,Int.ofNat_lt];rfl)) ?_;(with_reducible refine (value_Compare.calls a2_0 a2_1 a2_2 _ _ l2_3 a1_0 a1_1 a1_2 _ _ l1_3 t208 _ ?side1 ?side2 ?side3 ?side4 A43.out).mono ?_);(case side1 => repeat (first|exact (Kd.V_reads' HO2_3.out).2.2|(with_reducible refine Kd.C_alloc ?_ _)|(with_reducible refine Kd.C_drewN ?_ _)|(with_reducible refine Kd.C_drew ?_)));(case side2 => exact (Kd.V_reads' HO2_3.out).2.1);(case side3 => repeat (first|exact (Kd.V_reads' HO1_3.out).2.2|(with_reducible refine Kd.C_alloc ?_ _)|(with_reducible refine Kd.C_drewN ?_ _)|(with_reducible refine Kd.C_drew ?_)));(case side4 => exact (Kd.V_reads' HO1_3.out).2.1);rintro e w64 ⟨rfl,hb⟩;refine ⟨_,rfl,?_⟩;replace HO1_3:=ca_v HO1_3 hb;replace HO2_3:=ca_v HO2_3 hb;replace BK198:=ca_b BK198 hb;replace BK199:=ca_b BK199 hb;replace BK200:=ca_b BK200 hb;replace HB:=ca_h HB hb;(try clear hb);(try clear hb2);(try clear hk);(try clear hi);obtain ⟨hcz65_0,hcz65_1,hcz65_2,hcz65_3,hfz65_0,hfz65_1,hfz65_2,hfz65_3⟩:=bk4 BK198;obtain ⟨hcz66_0,hcz66_1,hcz66_2,hcz66_3,hfz66_0,hfz66_1,hfz66_2,hfz66_3⟩:=bk4 BK200))
     refine bodyPost_ret (results_ct rfl _ _ gb200 24 #[.int .i64 a1_0,.int .i64 a1_1,.string a1_2,.slice A1_3 l1_3.length c1_3] (0,0) _ rfl (pu4 BK200) Tryd.underlying24 rfl (by kernel_rfl)) rfl ?_
     exact ⟨_,by first|rfl|(simp [errW_none,errW_some] <;> rfl)|(simp [*,errW_none,errW_some] <;> rfl),by (with_reducible repeat (first|apply Kd.V_alloc|apply Kd.V_drewN|apply Kd.V_drew));exact Kd.V_mono (fa4_v HO1_3 (fun _ hk => hk.2)) (fun _ hk => hk.1.1.1.1),by repeat (first|(with_reducible first|exact HB.out|apply below_alloc|apply pw_below_drewN|apply below_drew1|refine below_set ?_ GE198.out|refine below_set ?_ GE199.out|refine below_set ?_ GE200.out)|exact HB.out)⟩
   ·rw [if_neg c42] at H
    have c42b0:(a0 == 2)=false:=beq_eq_false_iff_ne.mpr c42
    have c42b1:(a0 != 2)=true:=bne_iff_ne.mpr c42
    by_cases c67:a0=3
    ·rw [if_pos c67] at H
     have c67b0:(a0 == 3)=true:=beq_iff_eq.mpr c67
     have c67b1:(a0 != 3)=false:=bne_eq_false_iff_eq.mpr c67
     clear c67
     replace H:=Option.bind_eq_some_iff.mp H
     obtain ⟨⟨t209,t210,t211,t212⟩,A680,H⟩:=H
     replace H:(some (t209,t210,t211,t212,false))=some (r1,r2,r3,r4,r5):=H
     have A68:=Aside0.mk A680
     clear A680
     simp only [Option.some.injEq,Prod.mk.injEq] at H
     obtain ⟨rfl,rfl,rfl,rfl,rfl⟩:=H
     go_enter Tryd.func26,Tryd.ntmps26
     go_wp2_with (first|((with_reducible refine gate_dst (N:=4) rfl ?_);refine box_event ?hg (N:=4) ?hd (cs:=#[.int .i64 a1_0,.int .i64 a1_1,.string a1_2,.slice A1_3 l1_3.length c1_3]) (t:=24) ?hr ?_;(case hd => rfl);(case hg => rfl);(case hr => first|(go_simp;done)|(go_simp;rfl));intro gb198 hg w69 hbox hb;have BK198:=Aside0.mk (hbox);have GW198:=bx_g (up_h HB) hg;have GE198:=bx_g (up_h HB) hg;replace HO1_3:=bx_v HO1_3 hg hb;replace HO2_3:=bx_v HO2_3 hg hb;replace HB:=ca_h HB hb;clear hb hbox hg)|((with_reducible refine gate_dst (N:=5) rfl ?_);refine box_event ?hg (N:=5) ?hd (cs:=#[.int .i64 a2_0,.int .i64 a2_1,.string a2_2,.slice A2_3 l2_3.length c2_3]) (t:=24) ?hr ?_;(case hd => rfl);(case hg => rfl);(case hr => first|(go_simp;done)|(go_simp;rfl));intro gb199 hg w70 hbox hb;have BK199:=Aside0.mk (hbox);have GW199:=bx_g (up_h HB) hg;have GE199:=bx_g (up_h HB) hg;have NB198_199:=bx_n (up_b BK198) hg;have NB199_198:=bx_m (up_b BK198) hg;replace HO1_3:=bx_v HO1_3 hg hb;replace HO2_3:=bx_v HO2_3 hg hb;replace BK198:=ca_b BK198 hb;replace HB:=ca_h HB hb;clear hb hbox hg)|((with_reducible refine gate_dst (N:=6) rfl ?_);refine box_event ?hg (N:=6) ?hd (cs:=#[.int .i64 0,.int .i64 0,.string (⟨#[]⟩:ByteArray),.slice none 0 0]) (t:=24) ?hr ?_;(case hd => rfl);(case hg => rfl);(case hr => first|(go_simp;done)|(go_simp;rfl));intro gb200 hg w71 hbox hb;have BK200:=Aside0.mk (hbox);have GW200:=bx_g (up_h HB) hg;have GE200:=bx_g (up_h HB) hg;have NB198_200:=bx_n (up_b BK198) hg;have NB200_198:=bx_m (up_b BK198) hg;have NB199_200:=bx_n (up_b BK199) hg;have NB200_199:=bx_m (up_b BK199) hg;replace HO1_3:=bx_v HO1_3 hg hb;replace HO2_3:=bx_v HO2_3 hg hb;replace BK198:=ca_b BK198 hb;replace BK199:=ca_b BK199 hb;replace HB:=ca_h HB hb;clear hb hbox hg;have hnb72:=NB198_199.out;have hnc72:=NB199_198.out;have hnb73:=NB198_200.out;have hnc73:=NB200_198.out;obtain ⟨hcz74_0,hcz74_1,hcz74_2,hcz74_3,hfz74_0,hfz74_1,hfz74_2,hfz74_3⟩:=bk4 BK198;have hnb75:=NB199_200.out;have hnc75:=NB200_199.out;obtain ⟨hcz76_0,hcz76_1,hcz76_2,hcz76_3,hfz76_0,hfz76_1,hfz76_2,hfz76_3⟩:=bk4 BK199)|((with_reducible refine gate_callee (f:=44) rfl ?_);refine goesL_ (some 33) rfl rfl Tryd.func44 (by kernel_rfl) rfl #[.agg #[.int .i64 a1_0,.int .i64 a1_1,.string a1_2,.slice A1_3 l1_3.length c1_3],.agg #[.int .i64 a2_0,.int .i64 a2_1,.string a2_2,.slice A2_3 l2_3.length c2_3]] rfl (by (try simp only [List.map_toArray,List.map_cons,List.map_nil]);first|done|rfl|(simp only [List.length_drop,List.length_take];rfl)|(simp only [gt_iff_lt,Int.ofNat_lt];rfl)) ?_;(with_reducible refine (fns_conj.calls k a1_0 a1_1 a1_2 (fun k_ => (((((P1_3_ k_ ∨ P2_3_ k_) ∨ w.heap.size≤k_)∧k_≠gb198)∧k_≠gb199)∧k_≠gb200)) _ _ l1_3 a2_0 a2_1 a2_2 (fun k_ => (((((P1_3_ k_ ∨ P2_3_ k_) ∨ w.heap.size≤k_)∧k_≠gb198)∧k_≠gb199)∧k_≠gb200)) _ _ l2_3 t209 t210 t211 t212 _ ?side1 ?side2 ?side3 A68.out).mono ?_);(case side1 => exact LaidW.below HLT.out (up_h HB));(case side2 => first|exact HO1_3.out|exact Kd.V_mono HO1_3.out (fun _ hk_ => by simp only [and_assoc] at hk_ ⊢;exact hk_));(case side3 => first|exact HO2_3.out|exact Kd.V_mono HO2_3.out (fun _ hk_ => by simp only [and_assoc] at hk_ ⊢;exact hk_));rintro e w77 ⟨v213,rfl,ho0,hb⟩;refine ⟨_,rfl,?_⟩;have HO214:=Aside0.mk (Kd.V_lower (Kd.V_mono (ok':=fun k_ => ((P1_3_ k_ ∨ P2_3_ k_) ∨ w.heap.size≤k_)∧k_≠gb198∧k_≠gb199∧k_≠gb200) ho0 (fun k_ hk_ => ⟨Or.elim hk_ (fun hs_ => Or.elim hs_ (fun hs_ => hs_.1.1.1) (fun hs_ => hs_.1.1.1)) (fun hn_ => (.inr (Nat.le_trans (below_size (up_h HB)) hn_))),Or.elim hk_ (fun hs_ => Or.elim hs_ (fun hs_ => hs_.1.1.2) (fun hs_ => hs_.1.1.2)) (fun hn_ => (Kd.freshB (up_b BK198) k_ hn_)),Or.elim hk_ (fun hs_ => Or.elim hs_ (fun hs_ => hs_.1.2) (fun hs_ => hs_.1.2)) (fun hn_ => (Kd.freshB (up_b BK199) k_ hn_)),Or.elim hk_ (fun hs_ => Or.elim hs_ (fun hs_ => hs_.2) (fun hs_ => hs_.2)) (fun hn_ => (Kd.freshB (up_b BK200) k_ hn_))⟩)) (below_size (up_h HB)));replace HO1_3:=ca_v HO1_3 hb;replace HO2_3:=ca_v HO2_3 hb;replace BK198:=ca_b BK198 hb;replace BK199:=ca_b BK199 hb;replace BK200:=ca_b BK200 hb;replace HB:=ca_h HB hb;(try clear hb);(try clear hb2);(try clear hk);(try clear hi);(try clear ho0);obtain ⟨hcz78_0,hcz78_1,hcz78_2,hcz78_3,hfz78_0,hfz78_1,hfz78_2,hfz78_3⟩:=bk4 BK200;obtain ⟨Ao79,co79,eo79⟩:=Kd.V_slice HO214.out;subst eo79))
     refine bodyPost_ret (results_ct rfl _ _ gb200 24 #[.int .i64 t209,.int .i64 t210,.string t211,.slice Ao79 t212.length co79] (0,0) _ rfl (pu4 BK200) Tryd.underlying24 rfl (by kernel_rfl)) rfl ?_
     exact ⟨_,by first|rfl|(simp [errW_none,errW_some] <;> rfl)|(simp [*,errW_none,errW_some] <;> rfl),by (with_reducible repeat (first|apply Kd.V_alloc|apply Kd.V_drewN|apply Kd.V_drew));exact Kd.V_mono (fa4_v HO214 (fun _ hk => hk.2.2.2)) (fun _ hk => hk.1.1),by repeat (first|(with_reducible first|exact HB.out|apply below_alloc|apply pw_below_drewN|apply below_drew1|refine below_set ?_ GE198.out|refine below_set ?_ GE199.out|refine below_set ?_ GE200.out)|exact HB.out)⟩
    ·rw [if_neg c67] at H
     have c67b0:(a0 == 3)=false:=beq_eq_false_iff_ne.mpr c67
     have c67b1:(a0 != 3)=true:=bne_iff_ne.mpr c67
     by_cases c80:a0=5
     ·rw [if_pos c80] at H
      have c80b0:(a0 == 5)=true:=beq_iff_eq.mpr c80
      have c80b1:(a0 != 5)=false:=bne_eq_false_iff_eq.mpr c80
      clear c80
      simp only [Option.some.injEq,Prod.mk.injEq] at H
      obtain ⟨rfl,rfl,rfl,rfl,rfl⟩:=H
      go_enter Tryd.func26,Tryd.ntmps26
      go_wp2_with (first|((with_reducible refine gate_dst (N:=4) rfl ?_);refine box_event ?hg (N:=4) ?hd (cs:=#[.int .i64 a1_0,.int .i64 a1_1,.string a1_2,.slice A1_3 l1_3.length c1_3]) (t:=24) ?hr ?_;(case hd => rfl);(case hg => rfl);(case hr => first|(go_simp;done)|(go_simp;rfl));intro gb198 hg w81 hbox hb;have BK198:=Aside0.mk (hbox);have GW198:=bx_g (up_h HB) hg;have GE198:=bx_g (up_h HB) hg;replace HO1_3:=bx_v HO1_3 hg hb;replace HO2_3:=bx_v HO2_3 hg hb;replace HB:=ca_h HB hb;clear hb hbox hg)|((with_reducible refine gate_dst (N:=5) rfl ?_);refine box_event ?hg (N:=5) ?hd (cs:=#[.int .i64 a2_0,.int .i64 a2_1,.string a2_2,.slice A2_3 l2_3.length c2_3]) (t:=24) ?hr ?_;(case hd => rfl);(case hg => rfl);(case hr => first|(go_simp;done)|(go_simp;rfl));intro gb199 hg w82 hbox hb;have BK199:=Aside0.mk (hbox);have GW199:=bx_g (up_h HB) hg;have GE199:=bx_g (up_h HB) hg;have NB198_199:=bx_n (up_b BK198) hg;have NB199_198:=bx_m (up_b BK198) hg;replace HO1_3:=bx_v HO1_3 hg hb;replace HO2_3:=bx_v HO2_3 hg hb;replace BK198:=ca_b BK198 hb;replace HB:=ca_h HB hb;clear hb hbox hg)|((with_reducible refine gate_dst (N:=6) rfl ?_);refine box_event ?hg (N:=6) ?hd (cs:=#[.int .i64 0,.int .i64 0,.string (⟨#[]⟩:ByteArray),.slice none 0 0]) (t:=24) ?hr ?_;(case hd => rfl);(case hg => rfl);(case hr => first|(go_simp;done)|(go_simp;rfl));intro gb200 hg w83 hbox hb;have BK200:=Aside0.mk (hbox);have GW200:=bx_g (up_h HB) hg;have GE200:=bx_g (up_h HB) hg;have NB198_200:=bx_n (up_b BK198) hg;have NB200_198:=bx_m (up_b BK198) hg;have NB199_200:=bx_n (up_b BK199) hg;have NB200_199:=bx_m (up_b BK199) hg;replace HO1_3:=bx_v HO1_3 hg hb;replace HO2_3:=bx_v HO2_3 hg hb;replace BK198:=ca_b BK198 hb;replace BK199:=ca_b BK199 hb;replace HB:=ca_h HB hb;clear hb hbox hg;have hnb84:=NB199_198.out;have hnc84:=NB198_199.out;have hnb85:=NB199_200.out;have hnc85:=NB200_199.out;obtain ⟨hcz86_0,hcz86_1,hcz86_2,hcz86_3,hfz86_0,hfz86_1,hfz86_2,hfz86_3⟩:=bk4 BK199;have hnb87:=NB200_198.out;have hnc87:=NB198_200.out;obtain ⟨hcz88_0,hcz88_1,hcz88_2,hcz88_3,hfz88_0,hfz88_1,hfz88_2,hfz88_3⟩:=bk4 BK200))
      refine bodyPost_ret (results_ct rfl _ _ gb200 24 #[.int .i64 a2_0,.int .i64 a2_1,.string a2_2,.slice A2_3 l2_3.length c2_3] (0,0) _ rfl (pu4 BK200) Tryd.underlying24 rfl (by kernel_rfl)) rfl ?_
      exact ⟨_,by first|rfl|(simp [errW_none,errW_some] <;> rfl)|(simp [*,errW_none,errW_some] <;> rfl),by (with_reducible repeat (first|apply Kd.V_alloc|apply Kd.V_drewN|apply Kd.V_drew));exact Kd.V_mono (fa4_v HO2_3 (fun _ hk => hk.2)) (fun _ hk => hk.1.1.1.1),by repeat (first|(with_reducible first|exact HB.out|apply below_alloc|apply pw_below_drewN|apply below_drew1|refine below_set ?_ GE198.out|refine below_set ?_ GE199.out|refine below_set ?_ GE200.out)|exact HB.out)⟩
     ·rw [if_neg c80] at H
      have c80b0:(a0 == 5)=false:=beq_eq_false_iff_ne.mpr c80
      have c80b1:(a0 != 5)=true:=bne_iff_ne.mpr c80
      by_cases c89:a0=6
      ·rw [if_pos c89] at H
       have c89b0:(a0 == 6)=true:=beq_iff_eq.mpr c89
       have c89b1:(a0 != 6)=false:=bne_eq_false_iff_eq.mpr c89
       clear c89
       replace H:=Option.bind_eq_some_iff.mp H
       obtain ⟨⟨t215,t216,t217,t218⟩,A900,H⟩:=H
       replace H:((fns_isInt.f t215 t216 t217 t218).bind fun t222 => (if t222=true then (some (t215,t216,t217,t218,decide (t216 > 100))) else (some (t215,t216,t217,t218,false))))=some (r1,r2,r3,r4,r5):=H
       have A90:=Aside0.mk A900
       clear A900
       replace H:=Option.bind_eq_some_iff.mp H
       obtain ⟨t222,A910,H⟩:=H
       replace H:(if t222=true then (some (t215,t216,t217,t218,decide (t216 > 100))) else (some (t215,t216,t217,t218,false)))=some (r1,r2,r3,r4,r5):=H
       have A91:=Aside0.mk A910
       clear A910
       by_cases c92:t222=true
       ·subst c92
        have H1:(some (t215,t216,t217,t218,decide (t216 > 100)))=some (r1,r2,r3,r4,r5):=by rw [if_pos rfl] at H;exact H
        clear H
        have H:=H1
        clear H1
        simp only [Option.some.injEq,Prod.mk.injEq] at H
        obtain ⟨rfl,rfl,rfl,rfl,rfl⟩:=H
        go_enter Tryd.func26,Tryd.ntmps26
        try go_wp2_with (first|((with_reducible refine gate_dst (N:=4) rfl ?_);refine box_event ?hg (N:=4) ?hd (cs:=#[.int .i64 a1_0,.int .i64 a1_1,.string a1_2,.slice A1_3 l1_3.length c1_3]) (t:=24) ?hr ?_;(case hd => rfl);(case hg => rfl);(case hr => first|(go_simp;done)|(go_simp;rfl));intro gb198 hg w93 hbox hb;have BK198:=Aside0.mk (hbox);have GW198:=bx_g (up_h HB) hg;have GE198:=bx_g (up_h HB) hg;replace HO1_3:=bx_v HO1_3 hg hb;replace HO2_3:=bx_v HO2_3 hg hb;replace HB:=ca_h HB hb;clear hb hbox hg)|((with_reducible refine gate_dst (N:=5) rfl ?_);refine box_event ?hg (N:=5) ?hd (cs:=#[.int .i64 a2_0,.int .i64 a2_1,.string a2_2,.slice A2_3 l2_3.length c2_3]) (t:=24) ?hr ?_;(case hd => rfl);(case hg => rfl);(case hr => first|(go_simp;done)|(go_simp;rfl));intro gb199 hg w94 hbox hb;have BK199:=Aside0.mk (hbox);have GW199:=bx_g (up_h HB) hg;have GE199:=bx_g (up_h HB) hg;have NB198_199:=bx_n (up_b BK198) hg;have NB199_198:=bx_m (up_b BK198) hg;replace HO1_3:=bx_v HO1_3 hg hb;replace HO2_3:=bx_v HO2_3 hg hb;replace BK198:=ca_b BK198 hb;replace HB:=ca_h HB hb;clear hb hbox hg)|((with_reducible refine gate_dst (N:=6) rfl ?_);refine box_event ?hg (N:=6) ?hd (cs:=#[.int .i64 0,.int .i64 0,.string (⟨#[]⟩:ByteArray),.slice none 0 0]) (t:=24) ?hr ?_;(case hd => rfl);(case hg => rfl);(case hr => first|(go_simp;done)|(go_simp;rfl));intro gb200 hg w95 hbox hb;have BK200:=Aside0.mk (hbox);have GW200:=bx_g (up_h HB) hg;have GE200:=bx_g (up_h HB) hg;have NB198_200:=bx_n (up_b BK198) hg;have NB200_198:=bx_m (up_b BK198) hg;have NB199_200:=bx_n (up_b BK199) hg;have NB200_199:=bx_m (up_b BK199) hg;replace HO1_3:=bx_v HO1_3 hg hb;replace HO2_3:=bx_v HO2_3 hg hb;replace BK198:=ca_b BK198 hb;replace BK199:=ca_b BK199 hb;replace HB:=ca_h HB hb;clear hb hbox hg;have hnb96:=NB198_199.out;have hnc96:=NB199_198.out;have hnb97:=NB198_200.out;have hnc97:=NB200_198.out;obtain ⟨hcz98_0,hcz98_1,hcz98_2,hcz98_3,hfz98_0,hfz98_1,hfz98_2,hfz98_3⟩:=bk4 BK198;have hnb99:=NB199_200.out;have hnc99:=NB200_199.out;obtain ⟨hcz100_0,hcz100_1,hcz100_2,hcz100_3,hfz100_0,hfz100_1,hfz100_2,hfz100_3⟩:=bk4 BK199)|((with_reducible refine gate_callee (f:=42) rfl ?_);refine goesL_ (some 41) rfl rfl Tryd.func42 (by kernel_rfl) rfl #[.agg #[.int .i64 a1_0,.int .i64 a1_1,.string a1_2,.slice A1_3 l1_3.length c1_3],.agg #[.int .i64 a2_0,.int .i64 a2_1,.string a2_2,.slice A2_3 l2_3.length c2_3]] rfl (by (try simp only [List.map_toArray,List.map_cons,List.map_nil]);first|done|rfl|(simp only [List.length_drop,List.length_take];rfl)|(simp only [gt_iff_lt,Int.ofNat_lt];rfl)) ?_;(with_reducible refine (fns_add.calls a1_0 a1_1 a1_2 (fun k_ => (((((P1_3_ k_ ∨ P2_3_ k_) ∨ w.heap.size≤k_)∧k_≠gb198)∧k_≠gb199)∧k_≠gb200)) _ _ l1_3 a2_0 a2_1 a2_2 _ _ l2_3 t215 t216 t217 t218 _ ?side1 ?side2 ?side3 A90.out).mono ?_);(case side1 => first|exact HO1_3.out|exact Kd.V_mono HO1_3.out (fun _ hk_ => by simp only [and_assoc] at hk_ ⊢;exact hk_));(case side2 => repeat (first|exact (Kd.V_reads' HO2_3.out).2.2|(with_reducible refine Kd.C_alloc ?_ _)|(with_reducible refine Kd.C_drewN ?_ _)|(with_reducible refine Kd.C_drew ?_)));(case side3 => exact (Kd.V_reads' HO2_3.out).2.1);rintro e w101 ⟨v219,rfl,ho0,hb⟩;refine ⟨_,rfl,?_⟩;have HO220:=Aside0.mk (Kd.V_lower (Kd.V_mono (ok':=fun k_ => ((P1_3_ k_ ∨ P2_3_ k_) ∨ w.heap.size≤k_)∧k_≠gb198∧k_≠gb199∧k_≠gb200) ho0 (fun k_ hk_ => ⟨Or.elim hk_ (fun hs_ => hs_.1.1.1) (fun hn_ => (.inr (Nat.le_trans (below_size (up_h HB)) hn_))),Or.elim hk_ (fun hs_ => hs_.1.1.2) (fun hn_ => (Kd.freshB (up_b BK198) k_ hn_)),Or.elim hk_ (fun hs_ => hs_.1.2) (fun hn_ => (Kd.freshB (up_b BK199) k_ hn_)),Or.elim hk_ (fun hs_ => hs_.2) (fun hn_ => (Kd.freshB (up_b BK200) k_ hn_))⟩)) (below_size (up_h HB)));replace HO1_3:=ca_v HO1_3 hb;replace HO2_3:=ca_v HO2_3 hb;replace BK198:=ca_b BK198 hb;replace BK199:=ca_b BK199 hb;replace BK200:=ca_b BK200 hb;replace HB:=ca_h HB hb;(try clear hb);(try clear hb2);(try clear hk);(try clear hi);(try clear ho0))|((with_reducible refine gate_dst (N:=8) rfl ?_);refine box_event ?hg (N:=8) ?hd (cs:=#[.int .i64 0,.int .i64 0,.string (⟨#[]⟩:ByteArray),.slice none 0 0]) (t:=24) ?hr ?_;(case hd => rfl);(case hg => rfl);(case hr => first|(go_simp;done)|(go_simp;rfl));intro gb221 hg w102 hbox hb;have BK221:=Aside0.mk (hbox);have GW221:=bx_g (up_h HB) hg;have GE221:=bx_g (up_h HB) hg;have NB198_221:=bx_n (up_b BK198) hg;have NB221_198:=bx_m (up_b BK198) hg;have NB199_221:=bx_n (up_b BK199) hg;have NB221_199:=bx_m (up_b BK199) hg;have NB200_221:=bx_n (up_b BK200) hg;have NB221_200:=bx_m (up_b BK200) hg;replace HO1_3:=bx_v HO1_3 hg hb;replace HO2_3:=bx_v HO2_3 hg hb;replace HO220:=bx_v HO220 hg hb;replace BK198:=ca_b BK198 hb;replace BK199:=ca_b BK199 hb;replace BK200:=ca_b BK200 hb;replace HB:=ca_h HB hb;clear hb hbox hg;have hnb103:=NB221_198.out;have hnc103:=NB198_221.out;have hnb104:=NB221_199.out;have hnc104:=NB199_221.out;have hnb105:=NB221_200.out;have hnc105:=NB200_221.out;obtain ⟨hcz106_0,hcz106_1,hcz106_2,hcz106_3,hfz106_0,hfz106_1,hfz106_2,hfz106_3⟩:=bk4 BK221;obtain ⟨Ao107,co107,eo107⟩:=Kd.V_slice HO220.out;subst eo107))
        have n0_:Aside0 (Kd.V k24 24 ((((w102.setCell ⟨gb221,0,none⟩ (.int .i64 t215)).setCell ⟨gb221,1,none⟩ (.int .i64 t216)).setCell ⟨gb221,2,none⟩ (.string t217)).setCell ⟨gb221,3,none⟩ (.slice Ao107 t218.length co107)) w.heap.size (fun k_ => ((P1_3_ k_ ∨ P2_3_ k_) ∨ w.heap.size≤k_)∧k_≠gb198∧k_≠gb199∧k_≠gb200∧k_≠gb221) (.slice A1_3 l1_3.length c1_3) l1_3):=⟨by (with_reducible repeat (first|apply Kd.V_alloc|apply Kd.V_drewN|apply Kd.V_drew));exact Kd.V_mono (fa4_v HO1_3 (fun _ hk => hk.2)) (fun _ hk => ⟨hk.1.1.1.1.1,⟨hk.1.1.1.1.2,⟨hk.1.1.1.2,⟨hk.1.1.2,hk.1.2⟩⟩⟩⟩)⟩
        have n1_:Aside0 (Kd.V k24 24 ((((w102.setCell ⟨gb221,0,none⟩ (.int .i64 t215)).setCell ⟨gb221,1,none⟩ (.int .i64 t216)).setCell ⟨gb221,2,none⟩ (.string t217)).setCell ⟨gb221,3,none⟩ (.slice Ao107 t218.length co107)) w.heap.size (fun k_ => ((P1_3_ k_ ∨ P2_3_ k_) ∨ w.heap.size≤k_)∧k_≠gb198∧k_≠gb199∧k_≠gb200∧k_≠gb221) (.slice A2_3 l2_3.length c2_3) l2_3):=⟨by (with_reducible repeat (first|apply Kd.V_alloc|apply Kd.V_drewN|apply Kd.V_drew));exact Kd.V_mono (fa4_v HO2_3 (fun _ hk => hk.2)) (fun _ hk => ⟨hk.1.1.1.1.1,⟨hk.1.1.1.1.2,⟨hk.1.1.1.2,⟨hk.1.1.2,hk.1.2⟩⟩⟩⟩)⟩
        have n2_:Aside0 (Kd.V k24 24 ((((w102.setCell ⟨gb221,0,none⟩ (.int .i64 t215)).setCell ⟨gb221,1,none⟩ (.int .i64 t216)).setCell ⟨gb221,2,none⟩ (.string t217)).setCell ⟨gb221,3,none⟩ (.slice Ao107 t218.length co107)) w.heap.size (fun k_ => ((P1_3_ k_ ∨ P2_3_ k_) ∨ w.heap.size≤k_)∧k_≠gb198∧k_≠gb199∧k_≠gb200∧k_≠gb221) (.slice Ao107 t218.length co107) t218):=⟨by (with_reducible repeat (first|apply Kd.V_alloc|apply Kd.V_drewN|apply Kd.V_drew));exact Kd.V_mono (fa4_v HO220 (fun _ hk => hk.2)) (fun _ hk => ⟨hk.1.1.1,⟨hk.1.1.2.1,⟨hk.1.1.2.2.1,⟨hk.1.1.2.2.2,hk.1.2⟩⟩⟩⟩)⟩
        have n3_:Aside0 (((((w102.setCell ⟨gb221,0,none⟩ (.int .i64 t215)).setCell ⟨gb221,1,none⟩ (.int .i64 t216)).setCell ⟨gb221,2,none⟩ (.string t217)).setCell ⟨gb221,3,none⟩ (.slice Ao107 t218.length co107)).heap[gb198]? = some (.cells #[.int .i64 a1_0,.int .i64 a1_1,.string a1_2,.slice A1_3 l1_3.length c1_3] 24 (0,0))):=⟨sb_b BK198 NB198_221⟩
        have n4_:Aside0 (((((w102.setCell ⟨gb221,0,none⟩ (.int .i64 t215)).setCell ⟨gb221,1,none⟩ (.int .i64 t216)).setCell ⟨gb221,2,none⟩ (.string t217)).setCell ⟨gb221,3,none⟩ (.slice Ao107 t218.length co107)).heap[gb199]? = some (.cells #[.int .i64 a2_0,.int .i64 a2_1,.string a2_2,.slice A2_3 l2_3.length c2_3] 24 (0,0))):=⟨sb_b BK199 NB199_221⟩
        have n5_:Aside0 (((((w102.setCell ⟨gb221,0,none⟩ (.int .i64 t215)).setCell ⟨gb221,1,none⟩ (.int .i64 t216)).setCell ⟨gb221,2,none⟩ (.string t217)).setCell ⟨gb221,3,none⟩ (.slice Ao107 t218.length co107)).heap[gb200]? = some (.cells #[.int .i64 0,.int .i64 0,.string (⟨#[]⟩:ByteArray),.slice none 0 0] 24 (0,0))):=⟨sb_b BK200 NB200_221⟩
        have n6_:Aside0 (((((w102.setCell ⟨gb221,0,none⟩ (.int .i64 t215)).setCell ⟨gb221,1,none⟩ (.int .i64 t216)).setCell ⟨gb221,2,none⟩ (.string t217)).setCell ⟨gb221,3,none⟩ (.slice Ao107 t218.length co107)).heap[gb221]? = some (.cells #[.int .i64 t215,.int .i64 t216,.string t217,.slice Ao107 t218.length co107] 24 (0,0))):=⟨pu4 BK221⟩
        have n7_:Aside0 (Below w.heap.size w ((((w102.setCell ⟨gb221,0,none⟩ (.int .i64 t215)).setCell ⟨gb221,1,none⟩ (.int .i64 t216)).setCell ⟨gb221,2,none⟩ (.string t217)).setCell ⟨gb221,3,none⟩ (.slice Ao107 t218.length co107))):=⟨sb_h HB GE221⟩
        (try clear HO1_3)
        (try clear HO2_3)
        (try clear HO220)
        (try clear BK198)
        (try clear BK199)
        (try clear BK200)
        (try clear BK221)
        (try clear HB)
        generalize ((((w102.setCell ⟨gb221,0,none⟩ (.int .i64 t215)).setCell ⟨gb221,1,none⟩ (.int .i64 t216)).setCell ⟨gb221,2,none⟩ (.string t217)).setCell ⟨gb221,3,none⟩ (.slice Ao107 t218.length co107))=w108 at n0_ n1_ n2_ n3_ n4_ n5_ n6_ n7_ ⊢
        have HO1_3:=n0_
        have HO2_3:=n1_
        have HO220:=n2_
        have BK198:=n3_
        have BK199:=n4_
        have BK200:=n5_
        have BK221:=n6_
        have HB:=n7_
        clear n0_ n1_ n2_ n3_ n4_ n5_ n6_ n7_
        replace HO1_3:=Aside0.mk (Kd.V_drew HO1_3.out);replace HO2_3:=Aside0.mk (Kd.V_drew HO2_3.out);replace HO220:=Aside0.mk (Kd.V_drew HO220.out);replace BK198:=Aside0.mk (blk_drew BK198.out);replace BK199:=Aside0.mk (blk_drew BK199.out);replace BK200:=Aside0.mk (blk_drew BK200.out);replace BK221:=Aside0.mk (blk_drew BK221.out);replace HB:=Aside0.mk (below_drew1 HB.out)
        refine start_ (n:=10) (S:=fun w' => w'.cell? ⟨gb221,0,none⟩=some (.int .i64 t215)∧w'.cell? ⟨gb221,1,none⟩=some (.int .i64 t216)∧w'.cell? ⟨gb221,2,none⟩=some (.string t217)∧w'.cell? ⟨gb221,3,none⟩=some (.slice Ao107 t218.length co107)) (ds:=[]) #[false,false,false,false,false,false,false,false,false,false] (by kernel_rfl) rfl rfl ⟨(blk_cell BK221.out 0).trans rfl,(blk_cell BK221.out 1).trans rfl,(blk_cell BK221.out 2).trans rfl,(blk_cell BK221.out 3).trans rfl⟩ (fun hHeld => ?_);refine with_tabW fns_two.tab16 fns_two.bits16 (fun HT_ HW_ => ?_)
        generalize w108.drew=w109 at HO1_3 HO2_3 HO220 BK198 BK199 BK200 BK221 HB hHeld ⊢
        refine take_ (i:=0) (N:=some 42) (v:=?_) (a':=?_) #[true,false,false,false,false,false,false,false,false,false] rfl rfl (take_ofW HT_.out HW_.out (by kernel_rfl)) (fun _ _ _ h => h) (Or.inl ⟨by rfl,?_⟩) hHeld ?_ ?_
        rotate_left
        ·rintro w' ⟨s0,s1,s2,s3⟩
         go_simp
         with_reducible rfl
        rotate_left
        ·simp only [Act.put,List.setIfInBounds_toArray,List.set_cons_zero,List.set_cons_succ,i64_w,i32_w]
         rfl
        refine take_ (i:=1) (N:=some 43) (v:=?_) (a':=?_) #[true,true,false,false,false,false,false,false,false,false] rfl rfl (take_ofW HT_.out HW_.out (by kernel_rfl)) (fun _ _ _ h => h) (Or.inl ⟨by rfl,?_⟩) hHeld ?_ ?_
        rotate_left
        ·rintro w' ⟨s0,s1,s2,s3⟩
         go_simp
         with_reducible rfl
        rotate_left
        ·simp only [Act.put,List.setIfInBounds_toArray,List.set_cons_zero,List.set_cons_succ,i64_w,i32_w]
         rfl
        refine one_ (i:=2) (N:=some 44) #[true,true,true,false,false,false,false,false,false,false] rfl rfl (one_of HT_.out (by kernel_rfl)) (by decide) (fun K hK => ?_)
        refine goes_ Tryd.func35 (by kernel_rfl) rfl #[.agg #[.int .i64 t215,.int .i64 t216,.string t217,.slice Ao107 t218.length co107]] (by rfl) rfl rfl (by (try simp only [List.map_toArray,List.map_cons,List.map_nil]);first|done|rfl|(simp only [List.length_drop,List.length_take];rfl)|(simp only [gt_iff_lt,Int.ofNat_lt];rfl)) ?_
        with_reducible refine (fns_isInt.calls t215 t216 t217 _ _ t218 true _ ?side1 ?side2 A91.out).mono ?_
        (case side1 => repeat (first|exact (Kd.V_reads' HO220.out).2.2|(with_reducible refine Kd.C_alloc ?_ _)|(with_reducible refine Kd.C_drewN ?_ _)|(with_reducible refine Kd.C_drew ?_)))
        (case side2 => exact (Kd.V_reads' HO220.out).2.1)
        rintro e w110 ⟨rfl,hb⟩
        refine ⟨_,rfl,?_⟩
        replace HO1_3:=ca_v HO1_3 hb;replace HO2_3:=ca_v HO2_3 hb;replace HO220:=ca_v HO220 hb;replace BK198:=ca_b BK198 hb;replace BK199:=ca_b BK199 hb;replace BK200:=ca_b BK200 hb;replace BK221:=ca_b BK221 hb;replace HB:=ca_h HB hb
        (try clear hb)
        (try clear hb2)
        (try clear hk)
        (try clear hi)
        refine hK.out _ _ ⟨(blk_cell BK221.out 0).trans rfl,(blk_cell BK221.out 1).trans rfl,(blk_cell BK221.out 2).trans rfl,(blk_cell BK221.out 3).trans rfl⟩ (fun hHeld => ?_)
        clear hK K
        refine norm_ (a':=?_) ?_ ?_
        rotate_left
        ·show Act.put _ (some 44) _=_
         simp only [Act.put,List.setIfInBounds_toArray,List.set_cons_zero,List.set_cons_succ,i64_w,i32_w]
         rfl
        refine pure_ (i:=3) (N:=some 45) (v:=?_) (a':=?_) #[true,true,true,true,false,false,false,false,false,false] rfl rfl (any_of HT_.out (by kernel_rfl)) (fun _ _ _ h => h) (Or.inl ⟨by rfl,?_⟩) ?_ ?_
        rotate_left
        ·intro w'
         go_simp
         with_reducible rfl
        rotate_left
        ·simp only [Act.put,List.setIfInBounds_toArray,List.set_cons_zero,List.set_cons_succ,i64_w,i32_w]
         rfl
        refine pure_ (i:=4) (N:=some 46) (v:=?_) (a':=?_) #[true,true,true,true,true,false,false,false,false,false] rfl rfl (any_of HT_.out (by kernel_rfl)) (fun _ _ _ h => h) (Or.inl ⟨by rfl,?_⟩) ?_ ?_
        rotate_left
        ·intro w'
         go_simp
         with_reducible rfl
        rotate_left
        ·simp only [Act.put,List.setIfInBounds_toArray,List.set_cons_zero,List.set_cons_succ,i64_w,i32_w]
         rfl
        refine take_ (i:=5) (N:=some 47) (v:=?_) (a':=?_) #[true,true,true,true,true,true,false,false,false,false] rfl rfl (take_ofW HT_.out HW_.out (by kernel_rfl)) (fun _ _ _ h => h) (Or.inl ⟨by rfl,?_⟩) hHeld ?_ ?_
        rotate_left
        ·rintro w' ⟨s0,s1,s2,s3⟩
         go_simp
         with_reducible rfl
        rotate_left
        ·simp only [Act.put,List.setIfInBounds_toArray,List.set_cons_zero,List.set_cons_succ,i64_w,i32_w]
         rfl
        refine pure_ (i:=6) (N:=some 48) (v:=?_) (a':=?_) #[true,true,true,true,true,true,true,false,false,false] rfl rfl (any_of HT_.out (by kernel_rfl)) (fun _ _ _ h => h) (Or.inl ⟨by rfl,?_⟩) ?_ ?_
        rotate_left
        ·intro w'
         go_simp
         with_reducible rfl
        rotate_left
        ·simp only [Act.put,List.setIfInBounds_toArray,List.set_cons_zero,List.set_cons_succ,i64_w,i32_w]
         rfl
        refine pure_ (i:=7) (N:=some 49) (v:=?_) (a':=?_) #[true,true,true,true,true,true,true,true,false,false] rfl rfl (any_of HT_.out (by kernel_rfl)) (fun _ _ _ h => h) (Or.inl ⟨by rfl,?_⟩) ?_ ?_
        rotate_left
        ·intro w'
         go_simp
         with_reducible rfl
        rotate_left
        ·simp only [Act.put,List.setIfInBounds_toArray,List.set_cons_zero,List.set_cons_succ,i64_w,i32_w]
         rfl
        refine one_ (i:=8) (N:=none) #[true,true,true,true,true,true,true,true,true,false] rfl rfl (one_of HT_.out (by kernel_rfl)) (by decide) (fun K hK => ?_)
        have hs111:w110.cell? ⟨gb200,0,none⟩=some (.int .i64 0):=(blk_cell BK200.out 0).trans rfl
        have hfs111:=blk_frozen BK200.out 0
        have hns111_0:=NB198_200.out
        have hns111_1:=NB199_200.out
        have hns111_3:=NB221_200.out
        have hms111_0:=NB200_198.out
        have hms111_1:=NB200_199.out
        have hms111_3:=NB200_221.out
        have hs112:w110.cell? ⟨gb200,1,none⟩=some (.int .i64 0):=(blk_cell BK200.out 1).trans rfl
        have hfs112:=blk_frozen BK200.out 1
        have hns112_0:=NB198_200.out
        have hns112_1:=NB199_200.out
        have hns112_3:=NB221_200.out
        have hms112_0:=NB200_198.out
        have hms112_1:=NB200_199.out
        have hms112_3:=NB200_221.out
        have hs113:w110.cell? ⟨gb200,2,none⟩=some (.string (⟨#[]⟩:ByteArray)):=(blk_cell BK200.out 2).trans rfl
        have hfs113:=blk_frozen BK200.out 2
        have hns113_0:=NB198_200.out
        have hns113_1:=NB199_200.out
        have hns113_3:=NB221_200.out
        have hms113_0:=NB200_198.out
        have hms113_1:=NB200_199.out
        have hms113_3:=NB200_221.out
        have hs114:w110.cell? ⟨gb200,3,none⟩=some (.slice none 0 0):=(blk_cell BK200.out 3).trans rfl
        have hfs114:=blk_frozen BK200.out 3
        have hns114_0:=NB198_200.out
        have hns114_1:=NB199_200.out
        have hns114_3:=NB221_200.out
        have hms114_0:=NB200_198.out
        have hms114_1:=NB200_199.out
        have hms114_3:=NB200_221.out
        refine skip_ (w1:=?_) (by rfl) rfl ?_ ?_
        rotate_left
        ·go_simp
         rfl
        refine hK.out _ _ ⟨((cell_far (p:=⟨gb200,_,none⟩) NB221_200.out _).trans (((cell_far (p:=⟨gb200,_,none⟩) NB221_200.out _).trans (((cell_far (p:=⟨gb200,_,none⟩) NB221_200.out _).trans (((cell_far (p:=⟨gb200,_,none⟩) NB221_200.out _).trans (hHeld.1)))))))),((cell_far (p:=⟨gb200,_,none⟩) NB221_200.out _).trans (((cell_far (p:=⟨gb200,_,none⟩) NB221_200.out _).trans (((cell_far (p:=⟨gb200,_,none⟩) NB221_200.out _).trans (((cell_far (p:=⟨gb200,_,none⟩) NB221_200.out _).trans (hHeld.2.1)))))))),((cell_far (p:=⟨gb200,_,none⟩) NB221_200.out _).trans (((cell_far (p:=⟨gb200,_,none⟩) NB221_200.out _).trans (((cell_far (p:=⟨gb200,_,none⟩) NB221_200.out _).trans (((cell_far (p:=⟨gb200,_,none⟩) NB221_200.out _).trans (hHeld.2.2.1)))))))),((cell_far (p:=⟨gb200,_,none⟩) NB221_200.out _).trans (((cell_far (p:=⟨gb200,_,none⟩) NB221_200.out _).trans (((cell_far (p:=⟨gb200,_,none⟩) NB221_200.out _).trans (((cell_far (p:=⟨gb200,_,none⟩) NB221_200.out _).trans (hHeld.2.2.2))))))))⟩ (fun hHeld => ?_)
        clear hK K
        refine pure_ (i:=9) (N:=some 7) (v:=?_) (a':=?_) #[true,true,true,true,true,true,true,true,true,true] rfl rfl (any_of HT_.out (by kernel_rfl)) (fun _ _ _ h => h) (Or.inl ⟨by rfl,?_⟩) ?_ ?_
        rotate_left
        ·intro w'
         go_simp
         with_reducible rfl
        rotate_left
        ·simp only [Act.put,List.setIfInBounds_toArray,List.set_cons_zero,List.set_cons_succ,i64_w,i32_w]
         rfl
        refine done_ (done_of HT_.out (by kernel_rfl)) ?_
        try go_wp2
        refine bodyPost_ret (results_ct rfl _ _ gb200 24 #[.int .i64 t215,.int .i64 t216,.string t217,.slice Ao107 t218.length co107] (0,0) _ rfl (pu4 BK200) Tryd.underlying24 rfl (by kernel_rfl)) rfl ?_
        exact ⟨_,by first|rfl|(simp [errW_none,errW_some] <;> rfl)|(simp [*,errW_none,errW_some] <;> rfl),by (with_reducible repeat (first|apply Kd.V_alloc|apply Kd.V_drewN|apply Kd.V_drew));exact Kd.V_mono (fa4_v HO220 (fun _ hk => hk.2.2.2.1)) (fun _ hk => hk.1.1),by repeat (first|(with_reducible first|exact HB.out|apply below_alloc|apply pw_below_drewN|apply below_drew1|refine below_set ?_ GE198.out|refine below_set ?_ GE199.out|refine below_set ?_ GE200.out|refine below_set ?_ GE221.out)|exact HB.out)⟩
       ·replace c92:=Bool.eq_false_iff.mpr c92
        subst c92
        have H1:(some (t215,t216,t217,t218,false))=some (r1,r2,r3,r4,r5):=by rw [if_neg (show ¬ (false=true) by decide)] at H;exact H
        clear H
        have H:=H1
        clear H1
        simp only [Option.some.injEq,Prod.mk.injEq] at H
        obtain ⟨rfl,rfl,rfl,rfl,rfl⟩:=H
        go_enter Tryd.func26,Tryd.ntmps26
        try go_wp2_with (first|((with_reducible refine gate_dst (N:=4) rfl ?_);refine box_event ?hg (N:=4) ?hd (cs:=#[.int .i64 a1_0,.int .i64 a1_1,.string a1_2,.slice A1_3 l1_3.length c1_3]) (t:=24) ?hr ?_;(case hd => rfl);(case hg => rfl);(case hr => first|(go_simp;done)|(go_simp;rfl));intro gb198 hg w115 hbox hb;have BK198:=Aside0.mk (hbox);have GW198:=bx_g (up_h HB) hg;have GE198:=bx_g (up_h HB) hg;replace HO1_3:=bx_v HO1_3 hg hb;replace HO2_3:=bx_v HO2_3 hg hb;replace HB:=ca_h HB hb;clear hb hbox hg)|((with_reducible refine gate_dst (N:=5) rfl ?_);refine box_event ?hg (N:=5) ?hd (cs:=#[.int .i64 a2_0,.int .i64 a2_1,.string a2_2,.slice A2_3 l2_3.length c2_3]) (t:=24) ?hr ?_;(case hd => rfl);(case hg => rfl);(case hr => first|(go_simp;done)|(go_simp;rfl));intro gb199 hg w116 hbox hb;have BK199:=Aside0.mk (hbox);have GW199:=bx_g (up_h HB) hg;have GE199:=bx_g (up_h HB) hg;have NB198_199:=bx_n (up_b BK198) hg;have NB199_198:=bx_m (up_b BK198) hg;replace HO1_3:=bx_v HO1_3 hg hb;replace HO2_3:=bx_v HO2_3 hg hb;replace BK198:=ca_b BK198 hb;replace HB:=ca_h HB hb;clear hb hbox hg)|((with_reducible refine gate_dst (N:=6) rfl ?_);refine box_event ?hg (N:=6) ?hd (cs:=#[.int .i64 0,.int .i64 0,.string (⟨#[]⟩:ByteArray),.slice none 0 0]) (t:=24) ?hr ?_;(case hd => rfl);(case hg => rfl);(case hr => first|(go_simp;done)|(go_simp;rfl));intro gb200 hg w117 hbox hb;have BK200:=Aside0.mk (hbox);have GW200:=bx_g (up_h HB) hg;have GE200:=bx_g (up_h HB) hg;have NB198_200:=bx_n (up_b BK198) hg;have NB200_198:=bx_m (up_b BK198) hg;have NB199_200:=bx_n (up_b BK199) hg;have NB200_199:=bx_m (up_b BK199) hg;replace HO1_3:=bx_v HO1_3 hg hb;replace HO2_3:=bx_v HO2_3 hg hb;replace BK198:=ca_b BK198 hb;replace BK199:=ca_b BK199 hb;replace HB:=ca_h HB hb;clear hb hbox hg;have hnb118:=NB198_199.out;have hnc118:=NB199_198.out;have hnb119:=NB198_200.out;have hnc119:=NB200_198.out;obtain ⟨hcz120_0,hcz120_1,hcz120_2,hcz120_3,hfz120_0,hfz120_1,hfz120_2,hfz120_3⟩:=bk4 BK198;have hnb121:=NB199_200.out;have hnc121:=NB200_199.out;obtain ⟨hcz122_0,hcz122_1,hcz122_2,hcz122_3,hfz122_0,hfz122_1,hfz122_2,hfz122_3⟩:=bk4 BK199)|((with_reducible refine gate_callee (f:=42) rfl ?_);refine goesL_ (some 41) rfl rfl Tryd.func42 (by kernel_rfl) rfl #[.agg #[.int .i64 a1_0,.int .i64 a1_1,.string a1_2,.slice A1_3 l1_3.length c1_3],.agg #[.int .i64 a2_0,.int .i64 a2_1,.string a2_2,.slice A2_3 l2_3.length c2_3]] rfl (by (try simp only [List.map_toArray,List.map_cons,List.map_nil]);first|done|rfl|(simp only [List.length_drop,List.length_take];rfl)|(simp only [gt_iff_lt,Int.ofNat_lt];rfl)) ?_;(with_reducible refine (fns_add.calls a1_0 a1_1 a1_2 (fun k_ => (((((P1_3_ k_ ∨ P2_3_ k_) ∨ w.heap.size≤k_)∧k_≠gb198)∧k_≠gb199)∧k_≠gb200)) _ _ l1_3 a2_0 a2_1 a2_2 _ _ l2_3 t215 t216 t217 t218 _ ?side1 ?side2 ?side3 A90.out).mono ?_);(case side1 => first|exact HO1_3.out|exact Kd.V_mono HO1_3.out (fun _ hk_ => by simp only [and_assoc] at hk_ ⊢;exact hk_));(case side2 => repeat (first|exact (Kd.V_reads' HO2_3.out).2.2|(with_reducible refine Kd.C_alloc ?_ _)|(with_reducible refine Kd.C_drewN ?_ _)|(with_reducible refine Kd.C_drew ?_)));(case side3 => exact (Kd.V_reads' HO2_3.out).2.1);rintro e w123 ⟨v219,rfl,ho0,hb⟩;refine ⟨_,rfl,?_⟩;have HO220:=Aside0.mk (Kd.V_lower (Kd.V_mono (ok':=fun k_ => ((P1_3_ k_ ∨ P2_3_ k_) ∨ w.heap.size≤k_)∧k_≠gb198∧k_≠gb199∧k_≠gb200) ho0 (fun k_ hk_ => ⟨Or.elim hk_ (fun hs_ => hs_.1.1.1) (fun hn_ => (.inr (Nat.le_trans (below_size (up_h HB)) hn_))),Or.elim hk_ (fun hs_ => hs_.1.1.2) (fun hn_ => (Kd.freshB (up_b BK198) k_ hn_)),Or.elim hk_ (fun hs_ => hs_.1.2) (fun hn_ => (Kd.freshB (up_b BK199) k_ hn_)),Or.elim hk_ (fun hs_ => hs_.2) (fun hn_ => (Kd.freshB (up_b BK200) k_ hn_))⟩)) (below_size (up_h HB)));replace HO1_3:=ca_v HO1_3 hb;replace HO2_3:=ca_v HO2_3 hb;replace BK198:=ca_b BK198 hb;replace BK199:=ca_b BK199 hb;replace BK200:=ca_b BK200 hb;replace HB:=ca_h HB hb;(try clear hb);(try clear hb2);(try clear hk);(try clear hi);(try clear ho0))|((with_reducible refine gate_dst (N:=8) rfl ?_);refine box_event ?hg (N:=8) ?hd (cs:=#[.int .i64 0,.int .i64 0,.string (⟨#[]⟩:ByteArray),.slice none 0 0]) (t:=24) ?hr ?_;(case hd => rfl);(case hg => rfl);(case hr => first|(go_simp;done)|(go_simp;rfl));intro gb221 hg w124 hbox hb;have BK221:=Aside0.mk (hbox);have GW221:=bx_g (up_h HB) hg;have GE221:=bx_g (up_h HB) hg;have NB198_221:=bx_n (up_b BK198) hg;have NB221_198:=bx_m (up_b BK198) hg;have NB199_221:=bx_n (up_b BK199) hg;have NB221_199:=bx_m (up_b BK199) hg;have NB200_221:=bx_n (up_b BK200) hg;have NB221_200:=bx_m (up_b BK200) hg;replace HO1_3:=bx_v HO1_3 hg hb;replace HO2_3:=bx_v HO2_3 hg hb;replace HO220:=bx_v HO220 hg hb;replace BK198:=ca_b BK198 hb;replace BK199:=ca_b BK199 hb;replace BK200:=ca_b BK200 hb;replace HB:=ca_h HB hb;clear hb hbox hg;have hnb125:=NB221_198.out;have hnc125:=NB198_221.out;have hnb126:=NB221_199.out;have hnc126:=NB199_221.out;have hnb127:=NB221_200.out;have hnc127:=NB200_221.out;obtain ⟨hcz128_0,hcz128_1,hcz128_2,hcz128_3,hfz128_0,hfz128_1,hfz128_2,hfz128_3⟩:=bk4 BK221;obtain ⟨Ao129,co129,eo129⟩:=Kd.V_slice HO220.out;subst eo129))
        have n0_:Aside0 (Kd.V k24 24 ((((w124.setCell ⟨gb221,0,none⟩ (.int .i64 t215)).setCell ⟨gb221,1,none⟩ (.int .i64 t216)).setCell ⟨gb221,2,none⟩ (.string t217)).setCell ⟨gb221,3,none⟩ (.slice Ao129 t218.length co129)) w.heap.size (fun k_ => ((P1_3_ k_ ∨ P2_3_ k_) ∨ w.heap.size≤k_)∧k_≠gb198∧k_≠gb199∧k_≠gb200∧k_≠gb221) (.slice A1_3 l1_3.length c1_3) l1_3):=⟨by (with_reducible repeat (first|apply Kd.V_alloc|apply Kd.V_drewN|apply Kd.V_drew));exact Kd.V_mono (fa4_v HO1_3 (fun _ hk => hk.2)) (fun _ hk => ⟨hk.1.1.1.1.1,⟨hk.1.1.1.1.2,⟨hk.1.1.1.2,⟨hk.1.1.2,hk.1.2⟩⟩⟩⟩)⟩
        have n1_:Aside0 (Kd.V k24 24 ((((w124.setCell ⟨gb221,0,none⟩ (.int .i64 t215)).setCell ⟨gb221,1,none⟩ (.int .i64 t216)).setCell ⟨gb221,2,none⟩ (.string t217)).setCell ⟨gb221,3,none⟩ (.slice Ao129 t218.length co129)) w.heap.size (fun k_ => ((P1_3_ k_ ∨ P2_3_ k_) ∨ w.heap.size≤k_)∧k_≠gb198∧k_≠gb199∧k_≠gb200∧k_≠gb221) (.slice A2_3 l2_3.length c2_3) l2_3):=⟨by (with_reducible repeat (first|apply Kd.V_alloc|apply Kd.V_drewN|apply Kd.V_drew));exact Kd.V_mono (fa4_v HO2_3 (fun _ hk => hk.2)) (fun _ hk => ⟨hk.1.1.1.1.1,⟨hk.1.1.1.1.2,⟨hk.1.1.1.2,⟨hk.1.1.2,hk.1.2⟩⟩⟩⟩)⟩
        have n2_:Aside0 (Kd.V k24 24 ((((w124.setCell ⟨gb221,0,none⟩ (.int .i64 t215)).setCell ⟨gb221,1,none⟩ (.int .i64 t216)).setCell ⟨gb221,2,none⟩ (.string t217)).setCell ⟨gb221,3,none⟩ (.slice Ao129 t218.length co129)) w.heap.size (fun k_ => ((P1_3_ k_ ∨ P2_3_ k_) ∨ w.heap.size≤k_)∧k_≠gb198∧k_≠gb199∧k_≠gb200∧k_≠gb221) (.slice Ao129 t218.length co129) t218):=⟨by (with_reducible repeat (first|apply Kd.V_alloc|apply Kd.V_drewN|apply Kd.V_drew));exact Kd.V_mono (fa4_v HO220 (fun _ hk => hk.2)) (fun _ hk => ⟨hk.1.1.1,⟨hk.1.1.2.1,⟨hk.1.1.2.2.1,⟨hk.1.1.2.2.2,hk.1.2⟩⟩⟩⟩)⟩
        have n3_:Aside0 (((((w124.setCell ⟨gb221,0,none⟩ (.int .i64 t215)).setCell ⟨gb221,1,none⟩ (.int .i64 t216)).setCell ⟨gb221,2,none⟩ (.string t217)).setCell ⟨gb221,3,none⟩ (.slice Ao129 t218.length co129)).heap[gb198]? = some (.cells #[.int .i64 a1_0,.int .i64 a1_1,.string a1_2,.slice A1_3 l1_3.length c1_3] 24 (0,0))):=⟨sb_b BK198 NB198_221⟩
        have n4_:Aside0 (((((w124.setCell ⟨gb221,0,none⟩ (.int .i64 t215)).setCell ⟨gb221,1,none⟩ (.int .i64 t216)).setCell ⟨gb221,2,none⟩ (.string t217)).setCell ⟨gb221,3,none⟩ (.slice Ao129 t218.length co129)).heap[gb199]? = some (.cells #[.int .i64 a2_0,.int .i64 a2_1,.string a2_2,.slice A2_3 l2_3.length c2_3] 24 (0,0))):=⟨sb_b BK199 NB199_221⟩
        have n5_:Aside0 (((((w124.setCell ⟨gb221,0,none⟩ (.int .i64 t215)).setCell ⟨gb221,1,none⟩ (.int .i64 t216)).setCell ⟨gb221,2,none⟩ (.string t217)).setCell ⟨gb221,3,none⟩ (.slice Ao129 t218.length co129)).heap[gb200]? = some (.cells #[.int .i64 0,.int .i64 0,.string (⟨#[]⟩:ByteArray),.slice none 0 0] 24 (0,0))):=⟨sb_b BK200 NB200_221⟩
        have n6_:Aside0 (((((w124.setCell ⟨gb221,0,none⟩ (.int .i64 t215)).setCell ⟨gb221,1,none⟩ (.int .i64 t216)).setCell ⟨gb221,2,none⟩ (.string t217)).setCell ⟨gb221,3,none⟩ (.slice Ao129 t218.length co129)).heap[gb221]? = some (.cells #[.int .i64 t215,.int .i64 t216,.string t217,.slice Ao129 t218.length co129] 24 (0,0))):=⟨pu4 BK221⟩
        have n7_:Aside0 (Below w.heap.size w ((((w124.setCell ⟨gb221,0,none⟩ (.int .i64 t215)).setCell ⟨gb221,1,none⟩ (.int .i64 t216)).setCell ⟨gb221,2,none⟩ (.string t217)).setCell ⟨gb221,3,none⟩ (.slice Ao129 t218.length co129))):=⟨sb_h HB GE221⟩
        (try clear HO1_3)
        (try clear HO2_3)
        (try clear HO220)
        (try clear BK198)
        (try clear BK199)
        (try clear BK200)
        (try clear BK221)
        (try clear HB)
        generalize ((((w124.setCell ⟨gb221,0,none⟩ (.int .i64 t215)).setCell ⟨gb221,1,none⟩ (.int .i64 t216)).setCell ⟨gb221,2,none⟩ (.string t217)).setCell ⟨gb221,3,none⟩ (.slice Ao129 t218.length co129))=w130 at n0_ n1_ n2_ n3_ n4_ n5_ n6_ n7_ ⊢
        have HO1_3:=n0_
        have HO2_3:=n1_
        have HO220:=n2_
        have BK198:=n3_
        have BK199:=n4_
        have BK200:=n5_
        have BK221:=n6_
        have HB:=n7_
        clear n0_ n1_ n2_ n3_ n4_ n5_ n6_ n7_
        replace HO1_3:=Aside0.mk (Kd.V_drew HO1_3.out);replace HO2_3:=Aside0.mk (Kd.V_drew HO2_3.out);replace HO220:=Aside0.mk (Kd.V_drew HO220.out);replace BK198:=Aside0.mk (blk_drew BK198.out);replace BK199:=Aside0.mk (blk_drew BK199.out);replace BK200:=Aside0.mk (blk_drew BK200.out);replace BK221:=Aside0.mk (blk_drew BK221.out);replace HB:=Aside0.mk (below_drew1 HB.out)
        refine start_ (n:=10) (S:=fun w' => w'.cell? ⟨gb221,0,none⟩=some (.int .i64 t215)∧w'.cell? ⟨gb221,1,none⟩=some (.int .i64 t216)∧w'.cell? ⟨gb221,2,none⟩=some (.string t217)∧w'.cell? ⟨gb221,3,none⟩=some (.slice Ao129 t218.length co129)) (ds:=[]) #[false,false,false,false,false,false,false,false,false,false] (by kernel_rfl) rfl rfl ⟨(blk_cell BK221.out 0).trans rfl,(blk_cell BK221.out 1).trans rfl,(blk_cell BK221.out 2).trans rfl,(blk_cell BK221.out 3).trans rfl⟩ (fun hHeld => ?_);refine with_tabW fns_two.tab16 fns_two.bits16 (fun HT_ HW_ => ?_)
        generalize w130.drew=w131 at HO1_3 HO2_3 HO220 BK198 BK199 BK200 BK221 HB hHeld ⊢
        refine take_ (i:=0) (N:=some 42) (v:=?_) (a':=?_) #[true,false,false,false,false,false,false,false,false,false] rfl rfl (take_ofW HT_.out HW_.out (by kernel_rfl)) (fun _ _ _ h => h) (Or.inl ⟨by rfl,?_⟩) hHeld ?_ ?_
        rotate_left
        ·rintro w' ⟨s0,s1,s2,s3⟩
         go_simp
         with_reducible rfl
        rotate_left
        ·simp only [Act.put,List.setIfInBounds_toArray,List.set_cons_zero,List.set_cons_succ,i64_w,i32_w]
         rfl
        refine take_ (i:=1) (N:=some 43) (v:=?_) (a':=?_) #[true,true,false,false,false,false,false,false,false,false] rfl rfl (take_ofW HT_.out HW_.out (by kernel_rfl)) (fun _ _ _ h => h) (Or.inl ⟨by rfl,?_⟩) hHeld ?_ ?_
        rotate_left
        ·rintro w' ⟨s0,s1,s2,s3⟩
         go_simp
         with_reducible rfl
        rotate_left
        ·simp only [Act.put,List.setIfInBounds_toArray,List.set_cons_zero,List.set_cons_succ,i64_w,i32_w]
         rfl
        refine one_ (i:=2) (N:=some 44) #[true,true,true,false,false,false,false,false,false,false] rfl rfl (one_of HT_.out (by kernel_rfl)) (by decide) (fun K hK => ?_)
        refine goes_ Tryd.func35 (by kernel_rfl) rfl #[.agg #[.int .i64 t215,.int .i64 t216,.string t217,.slice Ao129 t218.length co129]] (by rfl) rfl rfl (by (try simp only [List.map_toArray,List.map_cons,List.map_nil]);first|done|rfl|(simp only [List.length_drop,List.length_take];rfl)|(simp only [gt_iff_lt,Int.ofNat_lt];rfl)) ?_
        with_reducible refine (fns_isInt.calls t215 t216 t217 _ _ t218 false _ ?side1 ?side2 A91.out).mono ?_
        (case side1 => repeat (first|exact (Kd.V_reads' HO220.out).2.2|(with_reducible refine Kd.C_alloc ?_ _)|(with_reducible refine Kd.C_drewN ?_ _)|(with_reducible refine Kd.C_drew ?_)))
        (case side2 => exact (Kd.V_reads' HO220.out).2.1)
        rintro e w132 ⟨rfl,hb⟩
        refine ⟨_,rfl,?_⟩
        replace HO1_3:=ca_v HO1_3 hb;replace HO2_3:=ca_v HO2_3 hb;replace HO220:=ca_v HO220 hb;replace BK198:=ca_b BK198 hb;replace BK199:=ca_b BK199 hb;replace BK200:=ca_b BK200 hb;replace BK221:=ca_b BK221 hb;replace HB:=ca_h HB hb
        (try clear hb)
        (try clear hb2)
        (try clear hk)
        (try clear hi)
        refine hK.out _ _ ⟨(blk_cell BK221.out 0).trans rfl,(blk_cell BK221.out 1).trans rfl,(blk_cell BK221.out 2).trans rfl,(blk_cell BK221.out 3).trans rfl⟩ (fun hHeld => ?_)
        clear hK K
        refine norm_ (a':=?_) ?_ ?_
        rotate_left
        ·show Act.put _ (some 44) _=_
         simp only [Act.put,List.setIfInBounds_toArray,List.set_cons_zero,List.set_cons_succ,i64_w,i32_w]
         rfl
        refine pure_ (i:=3) (N:=some 45) (v:=?_) (a':=?_) #[true,true,true,true,false,false,false,false,false,false] rfl rfl (any_of HT_.out (by kernel_rfl)) (fun _ _ _ h => h) (Or.inl ⟨by rfl,?_⟩) ?_ ?_
        rotate_left
        ·intro w'
         go_simp
         with_reducible rfl
        rotate_left
        ·simp only [Act.put,List.setIfInBounds_toArray,List.set_cons_zero,List.set_cons_succ,i64_w,i32_w]
         rfl
        refine pure_ (i:=4) (N:=some 46) (v:=undef) (a':=?_) #[true,true,true,true,true,false,false,false,false,false] rfl rfl (any_of HT_.out (by kernel_rfl)) (fun _ _ _ h => h) (Or.inr ⟨by rfl,rfl⟩) ?_ ?_
        rotate_left
        ·simp only [Act.put,List.setIfInBounds_toArray,List.set_cons_zero,List.set_cons_succ,i64_w,i32_w]
         rfl
        refine pure_ (i:=5) (N:=some 47) (v:=undef) (a':=?_) #[true,true,true,true,true,true,false,false,false,false] rfl rfl (any_of HT_.out (by kernel_rfl)) (fun _ _ _ h => h) (Or.inr ⟨by rfl,rfl⟩) ?_ ?_
        rotate_left
        ·simp only [Act.put,List.setIfInBounds_toArray,List.set_cons_zero,List.set_cons_succ,i64_w,i32_w]
         rfl
        refine pure_ (i:=6) (N:=some 48) (v:=undef) (a':=?_) #[true,true,true,true,true,true,true,false,false,false] rfl rfl (any_of HT_.out (by kernel_rfl)) (fun _ _ _ h => h) (Or.inr ⟨by rfl,rfl⟩) ?_ ?_
        rotate_left
        ·simp only [Act.put,List.setIfInBounds_toArray,List.set_cons_zero,List.set_cons_succ,i64_w,i32_w]
         rfl
        refine pure_ (i:=7) (N:=some 49) (v:=?_) (a':=?_) #[true,true,true,true,true,true,true,true,false,false] rfl rfl (any_of HT_.out (by kernel_rfl)) (fun _ _ _ h => h) (Or.inl ⟨by rfl,?_⟩) ?_ ?_
        rotate_left
        ·intro w'
         go_simp
         with_reducible rfl
        rotate_left
        ·simp only [Act.put,List.setIfInBounds_toArray,List.set_cons_zero,List.set_cons_succ,i64_w,i32_w]
         rfl
        refine one_ (i:=8) (N:=none) #[true,true,true,true,true,true,true,true,true,false] rfl rfl (one_of HT_.out (by kernel_rfl)) (by decide) (fun K hK => ?_)
        have hs133:w132.cell? ⟨gb200,0,none⟩=some (.int .i64 0):=(blk_cell BK200.out 0).trans rfl
        have hfs133:=blk_frozen BK200.out 0
        have hns133_0:=NB198_200.out
        have hns133_1:=NB199_200.out
        have hns133_3:=NB221_200.out
        have hms133_0:=NB200_198.out
        have hms133_1:=NB200_199.out
        have hms133_3:=NB200_221.out
        have hs134:w132.cell? ⟨gb200,1,none⟩=some (.int .i64 0):=(blk_cell BK200.out 1).trans rfl
        have hfs134:=blk_frozen BK200.out 1
        have hns134_0:=NB198_200.out
        have hns134_1:=NB199_200.out
        have hns134_3:=NB221_200.out
        have hms134_0:=NB200_198.out
        have hms134_1:=NB200_199.out
        have hms134_3:=NB200_221.out
        have hs135:w132.cell? ⟨gb200,2,none⟩=some (.string (⟨#[]⟩:ByteArray)):=(blk_cell BK200.out 2).trans rfl
        have hfs135:=blk_frozen BK200.out 2
        have hns135_0:=NB198_200.out
        have hns135_1:=NB199_200.out
        have hns135_3:=NB221_200.out
        have hms135_0:=NB200_198.out
        have hms135_1:=NB200_199.out
        have hms135_3:=NB200_221.out
        have hs136:w132.cell? ⟨gb200,3,none⟩=some (.slice none 0 0):=(blk_cell BK200.out 3).trans rfl
        have hfs136:=blk_frozen BK200.out 3
        have hns136_0:=NB198_200.out
        have hns136_1:=NB199_200.out
        have hns136_3:=NB221_200.out
        have hms136_0:=NB200_198.out
        have hms136_1:=NB200_199.out
        have hms136_3:=NB200_221.out
        refine skip_ (w1:=?_) (by rfl) rfl ?_ ?_
        rotate_left
        ·go_simp
         rfl
        refine hK.out _ _ ⟨((cell_far (p:=⟨gb200,_,none⟩) NB221_200.out _).trans (((cell_far (p:=⟨gb200,_,none⟩) NB221_200.out _).trans (((cell_far (p:=⟨gb200,_,none⟩) NB221_200.out _).trans (((cell_far (p:=⟨gb200,_,none⟩) NB221_200.out _).trans (hHeld.1)))))))),((cell_far (p:=⟨gb200,_,none⟩) NB221_200.out _).trans (((cell_far (p:=⟨gb200,_,none⟩) NB221_200.out _).trans (((cell_far (p:=⟨gb200,_,none⟩) NB221_200.out _).trans (((cell_far (p:=⟨gb200,_,none⟩) NB221_200.out _).trans (hHeld.2.1)))))))),((cell_far (p:=⟨gb200,_,none⟩) NB221_200.out _).trans (((cell_far (p:=⟨gb200,_,none⟩) NB221_200.out _).trans (((cell_far (p:=⟨gb200,_,none⟩) NB221_200.out _).trans (((cell_far (p:=⟨gb200,_,none⟩) NB221_200.out _).trans (hHeld.2.2.1)))))))),((cell_far (p:=⟨gb200,_,none⟩) NB221_200.out _).trans (((cell_far (p:=⟨gb200,_,none⟩) NB221_200.out _).trans (((cell_far (p:=⟨gb200,_,none⟩) NB221_200.out _).trans (((cell_far (p:=⟨gb200,_,none⟩) NB221_200.out _).trans (hHeld.2.2.2))))))))⟩ (fun hHeld => ?_)
        clear hK K
        refine pure_ (i:=9) (N:=some 7) (v:=?_) (a':=?_) #[true,true,true,true,true,true,true,true,true,true] rfl rfl (any_of HT_.out (by kernel_rfl)) (fun _ _ _ h => h) (Or.inl ⟨by rfl,?_⟩) ?_ ?_
        rotate_left
        ·intro w'
         go_simp
         with_reducible rfl
        rotate_left
        ·simp only [Act.put,List.setIfInBounds_toArray,List.set_cons_zero,List.set_cons_succ,i64_w,i32_w]
         rfl
        refine done_ (done_of HT_.out (by kernel_rfl)) ?_
        try go_wp2
        refine bodyPost_ret (results_ct rfl _ _ gb200 24 #[.int .i64 t215,.int .i64 t216,.string t217,.slice Ao129 t218.length co129] (0,0) _ rfl (pu4 BK200) Tryd.underlying24 rfl (by kernel_rfl)) rfl ?_
        exact ⟨_,by first|rfl|(simp [errW_none,errW_some] <;> rfl)|(simp [*,errW_none,errW_some] <;> rfl),by (with_reducible repeat (first|apply Kd.V_alloc|apply Kd.V_drewN|apply Kd.V_drew));exact Kd.V_mono (fa4_v HO220 (fun _ hk => hk.2.2.2.1)) (fun _ hk => hk.1.1),by repeat (first|(with_reducible first|exact HB.out|apply below_alloc|apply pw_below_drewN|apply below_drew1|refine below_set ?_ GE198.out|refine below_set ?_ GE199.out|refine below_set ?_ GE200.out|refine below_set ?_ GE221.out)|exact HB.out)⟩
      ·rw [if_neg c89] at H
       have c89b0:(a0 == 6)=false:=beq_eq_false_iff_ne.mpr c89
       have c89b1:(a0 != 6)=true:=bne_iff_ne.mpr c89
       by_cases c137:a0=7
       ·rw [if_pos c137] at H
        have c137b0:(a0 == 7)=true:=beq_iff_eq.mpr c137
        have c137b1:(a0 != 7)=false:=bne_eq_false_iff_eq.mpr c137
        clear c137
        replace H:=Option.bind_eq_some_iff.mp H
        obtain ⟨t223,A1380,H⟩:=H
        replace H:(if t223=true then ((fns_integer.f (wrap64 (a1_1+1))).bind fun bt224 => (some (bt224.1,bt224.2.1,bt224.2.2.1,bt224.2.2.2,false))) else ((fns_integer.f 1).bind fun bt230 => (some (bt230.1,bt230.2.1,bt230.2.2.1,bt230.2.2.2,false))))=some (r1,r2,r3,r4,r5):=H
        have A138:=Aside0.mk A1380
        clear A1380
        by_cases c139:t223=true
        ·subst c139
         have H1:((fns_integer.f (wrap64 (a1_1+1))).bind fun bt224 => (some (bt224.1,bt224.2.1,bt224.2.2.1,bt224.2.2.2,false)))=some (r1,r2,r3,r4,r5):=by rw [if_pos rfl] at H;exact H
         clear H
         have H:=H1
         clear H1
         replace H:=Option.bind_eq_some_iff.mp H
         obtain ⟨⟨t224,t225,t226,t227⟩,A1400,H⟩:=H
         replace H:(some (t224,t225,t226,t227,false))=some (r1,r2,r3,r4,r5):=H
         have A140:=Aside0.mk A1400
         clear A1400
         simp only [Option.some.injEq,Prod.mk.injEq] at H
         obtain ⟨rfl,rfl,rfl,rfl,rfl⟩:=H
         go_enter Tryd.func26,Tryd.ntmps26
         go_wp2_with (first|((with_reducible refine gate_dst (N:=4) rfl ?_);refine box_event ?hg (N:=4) ?hd (cs:=#[.int .i64 a1_0,.int .i64 a1_1,.string a1_2,.slice A1_3 l1_3.length c1_3]) (t:=24) ?hr ?_;(case hd => rfl);(case hg => rfl);(case hr => first|(go_simp;done)|(go_simp;rfl));intro gb198 hg w141 hbox hb;have BK198:=Aside0.mk (hbox);have GW198:=bx_g (up_h HB) hg;have GE198:=bx_g (up_h HB) hg;replace HO1_3:=bx_v HO1_3 hg hb;replace HO2_3:=bx_v HO2_3 hg hb;replace HB:=ca_h HB hb;clear hb hbox hg)|((with_reducible refine gate_dst (N:=5) rfl ?_);refine box_event ?hg (N:=5) ?hd (cs:=#[.int .i64 a2_0,.int .i64 a2_1,.string a2_2,.slice A2_3 l2_3.length c2_3]) (t:=24) ?hr ?_;(case hd => rfl);(case hg => rfl);(case hr => first|(go_simp;done)|(go_simp;rfl));intro gb199 hg w142 hbox hb;have BK199:=Aside0.mk (hbox);have GW199:=bx_g (up_h HB) hg;have GE199:=bx_g (up_h HB) hg;have NB198_199:=bx_n (up_b BK198) hg;have NB199_198:=bx_m (up_b BK198) hg;replace HO1_3:=bx_v HO1_3 hg hb;replace HO2_3:=bx_v HO2_3 hg hb;replace BK198:=ca_b BK198 hb;replace HB:=ca_h HB hb;clear hb hbox hg)|((with_reducible refine gate_dst (N:=6) rfl ?_);refine box_event ?hg (N:=6) ?hd (cs:=#[.int .i64 0,.int .i64 0,.string (⟨#[]⟩:ByteArray),.slice none 0 0]) (t:=24) ?hr ?_;(case hd => rfl);(case hg => rfl);(case hr => first|(go_simp;done)|(go_simp;rfl));intro gb200 hg w143 hbox hb;have BK200:=Aside0.mk (hbox);have GW200:=bx_g (up_h HB) hg;have GE200:=bx_g (up_h HB) hg;have NB198_200:=bx_n (up_b BK198) hg;have NB200_198:=bx_m (up_b BK198) hg;have NB199_200:=bx_n (up_b BK199) hg;have NB200_199:=bx_m (up_b BK199) hg;replace HO1_3:=bx_v HO1_3 hg hb;replace HO2_3:=bx_v HO2_3 hg hb;replace BK198:=ca_b BK198 hb;replace BK199:=ca_b BK199 hb;replace HB:=ca_h HB hb;clear hb hbox hg;have hnb144:=NB198_199.out;have hnc144:=NB199_198.out;have hnb145:=NB198_200.out;have hnc145:=NB200_198.out;obtain ⟨hcz146_0,hcz146_1,hcz146_2,hcz146_3,hfz146_0,hfz146_1,hfz146_2,hfz146_3⟩:=bk4 BK198)|((with_reducible refine gate_callee (f:=35) rfl ?_);refine goesL_ (some 53) rfl rfl Tryd.func35 (by kernel_rfl) rfl #[.agg #[.int .i64 a1_0,.int .i64 a1_1,.string a1_2,.slice A1_3 l1_3.length c1_3]] rfl (by (try simp only [List.map_toArray,List.map_cons,List.map_nil]);first|done|rfl|(simp only [List.length_drop,List.length_take];rfl)|(simp only [gt_iff_lt,Int.ofNat_lt];rfl)) ?_;(with_reducible refine (fns_isInt.calls a1_0 a1_1 a1_2 _ _ l1_3 true _ ?side1 ?side2 A138.out).mono ?_);(case side1 => repeat (first|exact (Kd.V_reads' HO1_3.out).2.2|(with_reducible refine Kd.C_alloc ?_ _)|(with_reducible refine Kd.C_drewN ?_ _)|(with_reducible refine Kd.C_drew ?_)));(case side2 => exact (Kd.V_reads' HO1_3.out).2.1);rintro e w147 ⟨rfl,hb⟩;refine ⟨_,rfl,?_⟩;replace HO1_3:=ca_v HO1_3 hb;replace HO2_3:=ca_v HO2_3 hb;replace BK198:=ca_b BK198 hb;replace BK199:=ca_b BK199 hb;replace BK200:=ca_b BK200 hb;replace HB:=ca_h HB hb;(try clear hb);(try clear hb2);(try clear hk);(try clear hi);obtain ⟨hcz148_0,hcz148_1,hcz148_2,hcz148_3,hfz148_0,hfz148_1,hfz148_2,hfz148_3⟩:=bk4 BK198)|((with_reducible refine gate_callee (f:=45) rfl ?_);refine goesL_ (some 59) rfl rfl Tryd.func45 (by kernel_rfl) rfl #[.int .i64 (wrap64 (a1_1+1))] rfl (by (try simp only [List.map_toArray,List.map_cons,List.map_nil]);first|done|rfl|(simp only [List.length_drop,List.length_take];rfl)|(simp only [gt_iff_lt,Int.ofNat_lt];rfl)) ?_;(with_reducible refine (fns_integer.calls (wrap64 (a1_1+1)) t224 t225 t226 t227 _ A140.out).mono ?_);rintro e w149 ⟨v228,rfl,ho0,hb⟩;refine ⟨_,rfl,?_⟩;have HO229:=Aside0.mk (Kd.R_lower (Kd.R_newB (Kd.R_newB (Kd.R_newB (Kd.R_newM (M:=fun k_ => (w.heap.size≤k_)) ho0 (below_size (up_h HB)) (fun k_ h_ => h_)) (g:=gb198) (o:=.cells #[.int .i64 a1_0,.int .i64 a1_1,.string a1_2,.slice A1_3 l1_3.length c1_3] 24 (0,0)) (up_b BK198)) (g:=gb199) (o:=.cells #[.int .i64 a2_0,.int .i64 a2_1,.string a2_2,.slice A2_3 l2_3.length c2_3] 24 (0,0)) (up_b BK199)) (g:=gb200) (o:=.cells #[.int .i64 0,.int .i64 0,.string (⟨#[]⟩:ByteArray),.slice none 0 0] 24 (0,0)) (up_b BK200)) (below_size (up_h HB)));replace HO1_3:=Aside0.mk (Kd.V_elder' (up_v HO1_3) (Kd.R_base ho0) hb);replace HO2_3:=Aside0.mk (Kd.V_elder' (up_v HO2_3) (Kd.R_base ho0) hb);replace BK198:=ca_b BK198 hb;replace BK199:=ca_b BK199 hb;replace BK200:=ca_b BK200 hb;replace HB:=ca_h HB hb;(try clear hb);(try clear hb2);(try clear hk);(try clear hi);(try clear ho0);have hnb150:=NB200_199.out;have hnc150:=NB199_200.out;obtain ⟨hcz151_0,hcz151_1,hcz151_2,hcz151_3,hfz151_0,hfz151_1,hfz151_2,hfz151_3⟩:=bk4 BK200;obtain ⟨Ao152,co152,eo152⟩:=Kd.R_slice HO229.out;subst eo152))
         refine bodyPost_ret (results_ct rfl _ _ gb200 24 #[.int .i64 t224,.int .i64 t225,.string t226,.slice Ao152 t227.length co152] (0,0) _ rfl (pu4 BK200) Tryd.underlying24 rfl (by kernel_rfl)) rfl ?_
         exact ⟨_,by first|rfl|(simp [errW_none,errW_some] <;> rfl)|(simp [*,errW_none,errW_some] <;> rfl),Kd.V_mono (Kd.R_V (by (with_reducible repeat (first|apply Kd.R_alloc|apply Kd.R_drewN|apply Kd.R_drew));exact Kd.R_mono (fa4_r HO229 (fun _ hk => hk.2)) (fun _ hk => hk.1.1.1.1.1))) (fun k_ hk => by first|exact ⟨(.inr (hk.1)),hk.2⟩|exact (.inr (hk))),by repeat (first|(with_reducible first|exact HB.out|apply below_alloc|apply pw_below_drewN|apply below_drew1|refine below_set ?_ GE198.out|refine below_set ?_ GE199.out|refine below_set ?_ GE200.out)|exact HB.out)⟩
        ·replace c139:=Bool.eq_false_iff.mpr c139
         subst c139
         have H1:((fns_integer.f 1).bind fun bt230 => (some (bt230.1,bt230.2.1,bt230.2.2.1,bt230.2.2.2,false)))=some (r1,r2,r3,r4,r5):=by rw [if_neg (show ¬ (false=true) by decide)] at H;exact H
         clear H
         have H:=H1
         clear H1
         replace H:=Option.bind_eq_some_iff.mp H
         obtain ⟨⟨t230,t231,t232,t233⟩,A1530,H⟩:=H
         replace H:(some (t230,t231,t232,t233,false))=some (r1,r2,r3,r4,r5):=H
         have A153:=Aside0.mk A1530
         clear A1530
         simp only [Option.some.injEq,Prod.mk.injEq] at H
         obtain ⟨rfl,rfl,rfl,rfl,rfl⟩:=H
         go_enter Tryd.func26,Tryd.ntmps26
         go_wp2_with (first|((with_reducible refine gate_dst (N:=4) rfl ?_);refine box_event ?hg (N:=4) ?hd (cs:=#[.int .i64 a1_0,.int .i64 a1_1,.string a1_2,.slice A1_3 l1_3.length c1_3]) (t:=24) ?hr ?_;(case hd => rfl);(case hg => rfl);(case hr => first|(go_simp;done)|(go_simp;rfl));intro gb198 hg w154 hbox hb;have BK198:=Aside0.mk (hbox);have GW198:=bx_g (up_h HB) hg;have GE198:=bx_g (up_h HB) hg;replace HO1_3:=bx_v HO1_3 hg hb;replace HO2_3:=bx_v HO2_3 hg hb;replace HB:=ca_h HB hb;clear hb hbox hg)|((with_reducible refine gate_dst (N:=5) rfl ?_);refine box_event ?hg (N:=5) ?hd (cs:=#[.int .i64 a2_0,.int .i64 a2_1,.string a2_2,.slice A2_3 l2_3.length c2_3]) (t:=24) ?hr ?_;(case hd => rfl);(case hg => rfl);(case hr => first|(go_simp;done)|(go_simp;rfl));intro gb199 hg w155 hbox hb;have BK199:=Aside0.mk (hbox);have GW199:=bx_g (up_h HB) hg;have GE199:=bx_g (up_h HB) hg;have NB198_199:=bx_n (up_b BK198) hg;have NB199_198:=bx_m (up_b BK198) hg;replace HO1_3:=bx_v HO1_3 hg hb;replace HO2_3:=bx_v HO2_3 hg hb;replace BK198:=ca_b BK198 hb;replace HB:=ca_h HB hb;clear hb hbox hg)|((with_reducible refine gate_dst (N:=6) rfl ?_);refine box_event ?hg (N:=6) ?hd (cs:=#[.int .i64 0,.int .i64 0,.string (⟨#[]⟩:ByteArray),.slice none 0 0]) (t:=24) ?hr ?_;(case hd => rfl);(case hg => rfl);(case hr => first|(go_simp;done)|(go_simp;rfl));intro gb200 hg w156 hbox hb;have BK200:=Aside0.mk (hbox);have GW200:=bx_g (up_h HB) hg;have GE200:=bx_g (up_h HB) hg;have NB198_200:=bx_n (up_b BK198) hg;have NB200_198:=bx_m (up_b BK198) hg;have NB199_200:=bx_n (up_b BK199) hg;have NB200_199:=bx_m (up_b BK199) hg;replace HO1_3:=bx_v HO1_3 hg hb;replace HO2_3:=bx_v HO2_3 hg hb;replace BK198:=ca_b BK198 hb;replace BK199:=ca_b BK199 hb;replace HB:=ca_h HB hb;clear hb hbox hg;have hnb157:=NB198_199.out;have hnc157:=NB199_198.out;have hnb158:=NB198_200.out;have hnc158:=NB200_198.out;obtain ⟨hcz159_0,hcz159_1,hcz159_2,hcz159_3,hfz159_0,hfz159_1,hfz159_2,hfz159_3⟩:=bk4 BK198)|((with_reducible refine gate_callee (f:=35) rfl ?_);refine goesL_ (some 53) rfl rfl Tryd.func35 (by kernel_rfl) rfl #[.agg #[.int .i64 a1_0,.int .i64 a1_1,.string a1_2,.slice A1_3 l1_3.length c1_3]] rfl (by (try simp only [List.map_toArray,List.map_cons,List.map_nil]);first|done|rfl|(simp only [List.length_drop,List.length_take];rfl)|(simp only [gt_iff_lt,Int.ofNat_lt];rfl)) ?_;(with_reducible refine (fns_isInt.calls a1_0 a1_1 a1_2 _ _ l1_3 false _ ?side1 ?side2 A138.out).mono ?_);(case side1 => repeat (first|exact (Kd.V_reads' HO1_3.out).2.2|(with_reducible refine Kd.C_alloc ?_ _)|(with_reducible refine Kd.C_drewN ?_ _)|(with_reducible refine Kd.C_drew ?_)));(case side2 => exact (Kd.V_reads' HO1_3.out).2.1);rintro e w160 ⟨rfl,hb⟩;refine ⟨_,rfl,?_⟩;replace HO1_3:=ca_v HO1_3 hb;replace HO2_3:=ca_v HO2_3 hb;replace BK198:=ca_b BK198 hb;replace BK199:=ca_b BK199 hb;replace BK200:=ca_b BK200 hb;replace HB:=ca_h HB hb;(try clear hb);(try clear hb2);(try clear hk);(try clear hi))|((with_reducible refine gate_callee (f:=45) rfl ?_);refine goesL_ (some 55) rfl rfl Tryd.func45 (by kernel_rfl) rfl #[.int .i64 1] rfl (by (try simp only [List.map_toArray,List.map_cons,List.map_nil]);first|done|rfl|(simp only [List.length_drop,List.length_take];rfl)|(simp only [gt_iff_lt,Int.ofNat_lt];rfl)) ?_;(with_reducible refine (fns_integer.calls 1 t230 t231 t232 t233 _ A153.out).mono ?_);rintro e w161 ⟨v234,rfl,ho0,hb⟩;refine ⟨_,rfl,?_⟩;have HO235:=Aside0.mk (Kd.R_lower (Kd.R_newB (Kd.R_newB (Kd.R_newB (Kd.R_newM (M:=fun k_ => (w.heap.size≤k_)) ho0 (below_size (up_h HB)) (fun k_ h_ => h_)) (g:=gb198) (o:=.cells #[.int .i64 a1_0,.int .i64 a1_1,.string a1_2,.slice A1_3 l1_3.length c1_3] 24 (0,0)) (up_b BK198)) (g:=gb199) (o:=.cells #[.int .i64 a2_0,.int .i64 a2_1,.string a2_2,.slice A2_3 l2_3.length c2_3] 24 (0,0)) (up_b BK199)) (g:=gb200) (o:=.cells #[.int .i64 0,.int .i64 0,.string (⟨#[]⟩:ByteArray),.slice none 0 0] 24 (0,0)) (up_b BK200)) (below_size (up_h HB)));replace HO1_3:=Aside0.mk (Kd.V_elder' (up_v HO1_3) (Kd.R_base ho0) hb);replace HO2_3:=Aside0.mk (Kd.V_elder' (up_v HO2_3) (Kd.R_base ho0) hb);replace BK198:=ca_b BK198 hb;replace BK199:=ca_b BK199 hb;replace BK200:=ca_b BK200 hb;replace HB:=ca_h HB hb;(try clear hb);(try clear hb2);(try clear hk);(try clear hi);(try clear ho0);have hnb162:=NB200_199.out;have hnc162:=NB199_200.out;obtain ⟨hcz163_0,hcz163_1,hcz163_2,hcz163_3,hfz163_0,hfz163_1,hfz163_2,hfz163_3⟩:=bk4 BK200;obtain ⟨Ao164,co164,eo164⟩:=Kd.R_slice HO235.out;subst eo164))
         refine bodyPost_ret (results_ct rfl _ _ gb200 24 #[.int .i64 t230,.int .i64 t231,.string t232,.slice Ao164 t233.length co164] (0,0) _ rfl (pu4 BK200) Tryd.underlying24 rfl (by kernel_rfl)) rfl ?_
         exact ⟨_,by first|rfl|(simp [errW_none,errW_some] <;> rfl)|(simp [*,errW_none,errW_some] <;> rfl),Kd.V_mono (Kd.R_V (by (with_reducible repeat (first|apply Kd.R_alloc|apply Kd.R_drewN|apply Kd.R_drew));exact Kd.R_mono (fa4_r HO235 (fun _ hk => hk.2)) (fun _ hk => hk.1.1.1.1.1))) (fun k_ hk => by first|exact ⟨(.inr (hk.1)),hk.2⟩|exact (.inr (hk))),by repeat (first|(with_reducible first|exact HB.out|apply below_alloc|apply pw_below_drewN|apply below_drew1|refine below_set ?_ GE198.out|refine below_set ?_ GE199.out|refine below_set ?_ GE200.out)|exact HB.out)⟩
       ·rw [if_neg c137] at H
        have c137b0:(a0 == 7)=false:=beq_eq_false_iff_ne.mpr c137
        have c137b1:(a0 != 7)=true:=bne_iff_ne.mpr c137
        simp only [Option.some.injEq,Prod.mk.injEq] at H
        obtain ⟨rfl,rfl,rfl,rfl,rfl⟩:=H
        go_enter Tryd.func26,Tryd.ntmps26
        go_wp2_with (first|((with_reducible refine gate_dst (N:=4) rfl ?_);refine box_event ?hg (N:=4) ?hd (cs:=#[.int .i64 a1_0,.int .i64 a1_1,.string a1_2,.slice A1_3 l1_3.length c1_3]) (t:=24) ?hr ?_;(case hd => rfl);(case hg => rfl);(case hr => first|(go_simp;done)|(go_simp;rfl));intro gb198 hg w165 hbox hb;have BK198:=Aside0.mk (hbox);have GW198:=bx_g (up_h HB) hg;have GE198:=bx_g (up_h HB) hg;replace HO1_3:=bx_v HO1_3 hg hb;replace HO2_3:=bx_v HO2_3 hg hb;replace HB:=ca_h HB hb;clear hb hbox hg)|((with_reducible refine gate_dst (N:=5) rfl ?_);refine box_event ?hg (N:=5) ?hd (cs:=#[.int .i64 a2_0,.int .i64 a2_1,.string a2_2,.slice A2_3 l2_3.length c2_3]) (t:=24) ?hr ?_;(case hd => rfl);(case hg => rfl);(case hr => first|(go_simp;done)|(go_simp;rfl));intro gb199 hg w166 hbox hb;have BK199:=Aside0.mk (hbox);have GW199:=bx_g (up_h HB) hg;have GE199:=bx_g (up_h HB) hg;have NB198_199:=bx_n (up_b BK198) hg;have NB199_198:=bx_m (up_b BK198) hg;replace HO1_3:=bx_v HO1_3 hg hb;replace HO2_3:=bx_v HO2_3 hg hb;replace BK198:=ca_b BK198 hb;replace HB:=ca_h HB hb;clear hb hbox hg)|((with_reducible refine gate_dst (N:=6) rfl ?_);refine box_event ?hg (N:=6) ?hd (cs:=#[.int .i64 0,.int .i64 0,.string (⟨#[]⟩:ByteArray),.slice none 0 0]) (t:=24) ?hr ?_;(case hd => rfl);(case hg => rfl);(case hr => first|(go_simp;done)|(go_simp;rfl));intro gb200 hg w167 hbox hb;have BK200:=Aside0.mk (hbox);have GW200:=bx_g (up_h HB) hg;have GE200:=bx_g (up_h HB) hg;have NB198_200:=bx_n (up_b BK198) hg;have NB200_198:=bx_m (up_b BK198) hg;have NB199_200:=bx_n (up_b BK199) hg;have NB200_199:=bx_m (up_b BK199) hg;replace HO1_3:=bx_v HO1_3 hg hb;replace HO2_3:=bx_v HO2_3 hg hb;replace BK198:=ca_b BK198 hb;replace BK199:=ca_b BK199 hb;replace HB:=ca_h HB hb;clear hb hbox hg;have hnb168:=NB198_199.out;have hnc168:=NB199_198.out;have hnb169:=NB198_200.out;have hnc169:=NB200_198.out;obtain ⟨hcz170_0,hcz170_1,hcz170_2,hcz170_3,hfz170_0,hfz170_1,hfz170_2,hfz170_3⟩:=bk4 BK198;have hnb171:=NB200_199.out;have hnc171:=NB199_200.out;obtain ⟨hcz172_0,hcz172_1,hcz172_2,hcz172_3,hfz172_0,hfz172_1,hfz172_2,hfz172_3⟩:=bk4 BK200))
        refine bodyPost_ret (results_ct rfl _ _ gb200 24 #[.int .i64 a1_0,.int .i64 a1_1,.string a1_2,.slice A1_3 l1_3.length c1_3] (0,0) _ rfl (pu4 BK200) Tryd.underlying24 rfl (by kernel_rfl)) rfl ?_
        exact ⟨_,by first|rfl|(simp [errW_none,errW_some] <;> rfl)|(simp [*,errW_none,errW_some] <;> rfl),by (with_reducible repeat (first|apply Kd.V_alloc|apply Kd.V_drewN|apply Kd.V_drew));exact Kd.V_mono (fa4_v HO1_3 (fun _ hk => hk.2)) (fun _ hk => hk.1.1.1.1),by repeat (first|(with_reducible first|exact HB.out|apply below_alloc|apply pw_below_drewN|apply below_drew1|refine below_set ?_ GE198.out|refine below_set ?_ GE199.out|refine below_set ?_ GE200.out)|exact HB.out)⟩

end Go.Proofs.YtgmmoagclkmeaaaDoor.XH
