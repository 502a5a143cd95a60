-- cut down by bundle.py (the session's own program) from the texts YtgmmoagclkmeaaaDoorXH13, to what this claim names
import Derived.Test.YtgmmoagclkmeaaaDoorZFnsOneXH0
import Derived.Test.YtgmmoagclkmeaaaDoorZFnsOneXH4
import Derived.Test.YtgmmoagclkmeaaaDoorZFnsOneXH10
import Derived.Test.YtgmmoagclkmeaaaDoorZFnsOneXH11
import Derived.Test.YtgmmoagclkmeaaaDoorZFnsOneXH12
-- laid by xprint.py (the session's own program) out of the translation; Lean checks it
namespace Go.Proofs.YtgmmoagclkmeaaaDoor.XH
open Go.RowKit Go.Proofs.YtgmmoagclkmeaaaDoorW.PrintWords Go.Proofs.YtgmmoagclkmeaaaDoorW.PrintLast Go.Proofs.YtgmmoagclkmeaaaDoorW.PrintMore
attribute [local go_sem] max2_int min2_int max_two min_two max_three min_three max_four min_four   -- for this text's walks alone
set_option linter.unusedVariables false
set_option linter.unusedSimpArgs false

mutual
def OwnV:S24→Bool
 | ⟨_,_,_,l⟩ => decide (l.length≤1048576) && OwnL l
def OwnL:List S24→Bool
 | [] => true
 | a :: l => OwnV a && OwnL l
end
theorem ownL_mem:∀ (l:List S24),OwnL l=true→∀ a ∈ l,OwnV a=true
 | [],_,a,ha => by cases ha
 | b :: l,h,a,ha => by
  simp only [OwnL,Bool.and_eq_true] at h
  rcases List.mem_cons.1 ha with rfl|ha
  ·exact h.1
  ·exact ownL_mem l h.2 a ha
theorem rd_mem24 (l:List S24) (i:Int) (h0:0≤i) (h1:i < (l.length:Int)):rd_T24 l i ∈ l:=by
 obtain ⟨n,rfl⟩:=Int.eq_ofNat_of_zero_le h0
 rw [rd_get24 l n (by omega)]
 exact List.getElem_mem _
def own_Value.f (a0_0:Int) (a0_1:Int) (a0_2:ByteArray) (l0_3:List S24):Option (Int × Int × ByteArray × (List (S24))):=if OwnV ⟨a0_0,a0_1,a0_2,l0_3⟩ then some (a0_0,a0_1,a0_2,l0_3) else none
@[reducible] def OwnOk (a:S24):Prop:=∀ (A:Option Addr) (c:Nat) (r1:Int) (r2:Int) (r3:ByteArray) (r4:List S24) (w:World),Kd.C k24 w A a.f3.length a.f3→a.f3.length≤c→own_Value.f a.f0 a.f1 a.f2 a.f3=some (r1,r2,r3,r4) →
  Calls Tryd.prog 27 #[.agg #[.int .i64 a.f0,.int .i64 a.f1,.string a.f2,.slice A a.f3.length c]] w fun e w' => ∃ v3_:Value,e=.returned (.agg #[.int .i64 r1,.int .i64 r2,.string r3,v3_])∧Kd.R k24 24 w' w.heap.size (fun _ => True) v3_ r4∧Below w.heap.size w w'
def own_Values.l0:Nat→List (S24)→List (S24)→Int→Int→Option ((List (S24)))
 | 0,_,_,_,_ => none
 | k+1,x3,x12,x13,x14 => if x14 < x13 then (if 0≤x14 then (if x14 < (x12.length:Int) then ((own_Value.f ((rd_T24 x12 x14).f0) ((rd_T24 x12 x14).f1) ((rd_T24 x12 x14).f2) ((rd_T24 x12 x14).f3)).bind fun bt426 => (if x14 < (x3.length:Int) then (own_Values.l0 k (x3.set (x14:Int).toNat (⟨bt426.1,bt426.2.1,bt426.2.2.1,bt426.2.2.2⟩:S24)) x12 x13 (wrap64 (x14+1))) else (none))) else (none)) else (none)) else (some x3)
def own_Values.f (k:Nat) (l0:List (S24)):Option ((List (S24))):=if (l0.length:Int)=0 then (some ([]:List (S24))) else (if 0≤(l0.length:Int) then (if ((l0.length:Int):Int).toNat≤5026338869833 then (own_Values.l0 k (List.replicate ((l0.length:Int):Int).toNat z24) l0 (l0.length:Int) 0) else (none)) else (none))
set_option maxHeartbeats 8000000 in
set_option maxRecDepth 100000 in
theorem own_rows (k:Nat)  (A0:Option Addr) (c0:Nat) (l0:List (S24)) (r:List (S24)) (w:World) (hr0:Kd.C k24 w A0 l0.length l0) (hc0:l0.length≤c0) (ih_:∀ a ∈ l0,OwnOk a) (h:own_Values.f k l0=some r) :
  Calls Tryd.prog 46 #[.slice A0 l0.length c0] w fun e w' => ∃ v0_:Value,e=.returned (v0_)∧Kd.R k24 24 w' w.heap.size (fun _ => True) v0_ r∧Below w.heap.size w w':=by
 have hu24:=Tryd.underlying24
 have HR0:=Aside0.mk hr0
 have HC0:=Aside0.mk hc0
 clear hr0 hc0
 have HB:=Aside0.mk (Below.refl w.heap.size w)
 have IH:=Aside0.mk ih_
 clear ih_
 have H:(if (l0.length:Int)=0 then (some ([]:List (S24))) else (if 0≤(l0.length:Int) then (if ((l0.length:Int):Int).toNat≤5026338869833 then (own_Values.l0 k (List.replicate ((l0.length:Int):Int).toNat z24) l0 (l0.length:Int) 0) else (none)) else (none)))=some r:=h
 clear h
 by_cases c2:(l0.length:Int)=0
 ·rw [if_pos c2] at H
  have c2b0:((l0.length:Int) == 0)=true:=beq_iff_eq.mpr c2
  have c2b1:((l0.length:Int) != 0)=false:=bne_eq_false_iff_eq.mpr c2
  clear c2
  obtain rfl:=Option.some.inj H
  go_enter Tryd.func46,Tryd.ntmps46
  go_wp2
  go_ret
  exact ⟨_,by first|rfl|(simp [errW_none,errW_some] <;> rfl)|(simp [*,errW_none,errW_some] <;> rfl),by first|exact Kd.R_nil _ _ _ _ _|exact Kd.N_nil _ _ _ _ _|exact Kd.V_nil _ _ _ _ _|exact Kd.Q_nil _ _ _ _ _|exact Kd.S_nil _ _ _ _ _,by repeat (first|(with_reducible first|exact HB.out|apply below_alloc|apply pw_below_drewN|apply below_drew1)|exact HB.out)⟩
 ·rw [if_neg c2] at H
  have c2b0:((l0.length:Int) == 0)=false:=beq_eq_false_iff_ne.mpr c2
  have c2b1:((l0.length:Int) != 0)=true:=bne_iff_ne.mpr c2
  have c2b2:¬ (l0=[]):=fun h_ => c2 (by rw [h_];rfl)
  by_cases c3:0≤(l0.length:Int)
  ·rw [if_pos c3] at H
   have c3b0:=eq_true c3
   have c3b1:decide (0≤(l0.length:Int))=true:=decide_eq_true c3
   clear c3
   by_cases c4:((l0.length:Int):Int).toNat≤5026338869833
   ·rw [if_pos c4] at H
    have c4b0:=eq_true c4
    have c4b1:decide (((l0.length:Int):Int).toNat≤5026338869833)=true:=decide_eq_true c4
    clear c4
    obtain ⟨y421,hy421⟩:∃ y_:List (S24),y_=(List.replicate ((l0.length:Int):Int).toNat z24):=⟨_,rfl⟩
    replace H:(own_Values.l0 k y421 l0 (l0.length:Int) 0)=some r:=by first|(rw [hy421];with_reducible exact H)|(have H2_:=(Option.bind_some _ _).symm.trans H;rw [hy421];with_reducible exact H2_)|(have H2_:=(Option.bind_some _ _).symm.trans H;with_reducible exact H2_)|with_reducible exact H|(rw [hy421];exact H)|exact H
    have Ny421:=Aside0.mk hy421
    clear hy421
    have H':=Aside0.mk H
    clear H
    go_enter Tryd.func46,Tryd.ntmps46
    go_wp2_with (first|((with_reducible refine gate_dst (N:=11) rfl ?_);refine Kd.R_make k24 _ 24 rfl (N:=11) rfl 22 _ _ rfl (l0.length:Int) rfl rfl Tryd.underlying22 (.agg #[(.int .i64 0),(.int .i64 0),(.string ⟨#[]⟩),(.slice none 0 0)]) 56 info24 rfl (by decide) (by omega) z24 (ok:=fun _ => True) (okp:=fun _ => True) (k24_mkM _ _ _ z24 (Kd.R_nil _ _ _ _ _)) (fun _ hk => hk) trivial (of_decide_eq_true (by first|(with_reducible assumption)|assumption)) (Nat.le_trans (Nat.mul_le_mul_right _ (of_decide_eq_true (by first|(with_reducible assumption)|assumption):(l0.length:Int).toNat≤5026338869833)) (by omega)) (Below.refl _ _) (Nat.le_refl _) ?_;intro v422 w5 ho6 hb hg_ hnew_;clear hg_ hnew_;(first|rw [← Ny421.out] at ho6|(simp only [Int.reduceToNat] at ho6;rw [← Ny421.out] at ho6));have HO423:=Aside0.mk (Kd.R_lower ho6 (below_size (up_h HB)));replace HB:=ca_h HB hb;clear hb ho6))
    go_loopg [14] k (fun kq v14 w' => ∃ (x3_1:List (S24)) (x14_1:Int),v14=.int .i64 x14_1∧Aside0 (own_Values.l0 kq x3_1 l0 (l0.length:Int) x14_1=some r)∧Aside0 (kq≤k)∧Aside0 (Kd.R k24 24 w' w.heap.size (fun _ => True) v422 x3_1)∧Aside0 (Below w.heap.size w w'))
    case atStart => exact ⟨(y421),(0),(by first|rfl|(simp;done)|(simp [*];done)),H',⟨Nat.le_refl _⟩,⟨up_r HO423⟩,⟨by repeat (first|(with_reducible first|exact HB.out|apply below_alloc|apply pw_below_drewN|apply below_drew1)|exact HB.out)⟩⟩
    case round =>
     clear H'
     try clear c2
     try clear c2b0
     try clear c2b1
     try clear c2b2
     try clear p2
     try clear c3
     try clear c3b0
     try clear c3b1
     try clear c4
     try clear c4b0
     try clear c4b1
     obtain ⟨x3_1,x14_1,rfl,HA,HK1,HO_3,HB⟩:=hrel
     cases gk with
     | zero => exact absurd HA.out (by simp [own_Values.l0])
     | succ k1 =>
      have H:=HA.out
      clear HA
      simp only [own_Values.l0] at H
      by_cases c7:x14_1 < (l0.length:Int)
      ·rw [if_pos c7] at H
       have c7b0:decide (x14_1 < (l0.length:Int))=true:=decide_eq_true c7
       clear c7
       by_cases c8:0≤x14_1
       ·rw [if_pos c8] at H
        have c8b0:decide (0≤x14_1)=true:=decide_eq_true c8
        clear c8
        by_cases c9:x14_1 < (l0.length:Int)
        ·rw [if_pos c9] at H
         have c9b0:decide (x14_1 < (l0.length:Int))=true:=decide_eq_true c9
         clear c9
         replace H:=Option.bind_eq_some_iff.mp H
         obtain ⟨⟨t426,t427,t428,t429⟩,A100,H⟩:=H
         replace H:(if x14_1 < (x3_1.length:Int) then (own_Values.l0 k1 (x3_1.set (x14_1:Int).toNat (⟨t426,t427,t428,t429⟩:S24)) l0 (l0.length:Int) (wrap64 (x14_1+1))) else (none))=some r:=H
         have A10:=Aside0.mk A100
         clear A100
         by_cases c11:x14_1 < (x3_1.length:Int)
         ·rw [if_pos c11] at H
          have c11b0:decide (x14_1 < (x3_1.length:Int))=true:=decide_eq_true c11
          clear c11
          obtain ⟨y432,hy432⟩:∃ y_:List (S24),y_=(x3_1.set (x14_1:Int).toNat (⟨t426,t427,t428,t429⟩:S24)):=⟨_,rfl⟩
          replace H:(own_Values.l0 k1 y432 l0 (l0.length:Int) (wrap64 (x14_1+1)))=some r:=by first|(rw [hy432];with_reducible exact H)|(have H2_:=(Option.bind_some _ _).symm.trans H;rw [hy432];with_reducible exact H2_)|(have H2_:=(Option.bind_some _ _).symm.trans H;with_reducible exact H2_)|with_reducible exact H|(rw [hy432];exact H)|exact H
          have Ny432:=Aside0.mk hy432
          clear hy432
          have H':=Aside0.mk H
          clear H
          have p424:0≤(x14_1:Int):=of_decide_eq_true (by first|(with_reducible assumption)|assumption)
          have q424:x14_1 < (l0.length:Int):=of_decide_eq_true (by first|(with_reducible assumption)|assumption)
          obtain ⟨ad424,A424_3,c424_3,e424,hx424_0,hx424_1,hx424_2,hx424_3,hl424_3,hi424_3⟩:=at_T24 HR0.out x14_1 p424 q424
          cases e424
          replace hx424_0:=(HB.out.cell (World.block_lt_of_cell? w _ hx424_0)).trans hx424_0
          replace hx424_1:=(HB.out.cell (World.block_lt_of_cell? w _ hx424_1)).trans hx424_1
          replace hx424_2:=(HB.out.cell (World.block_lt_of_cell? w _ hx424_2)).trans hx424_2
          replace hx424_3:=(HB.out.cell (World.block_lt_of_cell? w _ hx424_3)).trans hx424_3
          have HR424_3:=Aside0.mk hi424_3
          have HC424_3:=Aside0.mk hl424_3
          clear hi424_3 hl424_3
          have HMEM:=Aside0.mk (IH.out _ (rd_mem24 l0 x14_1 p424 q424))
          replace p424:=eq_true p424
          replace q424:=eq_true q424
          go_wp2_with (first|((with_reducible refine gate_dst (N:=5) rfl ?_);refine box_event ?hg (N:=5) ?hd (cs:=#[.int .i64 0,.int .i64 0,.string (⟨#[]⟩:ByteArray),.slice none 0 0]) (t:=24) ?hr ?_;(case hd => rfl);(case hg => rfl);(case hr => first|(go_simp;done)|(go_simp;rfl));intro gb425 hg w13 hbox hb;have BK425:=Aside0.mk (hbox);have GW425:=bx_g (up_h HB) hg;have GE425:=bx_g (up_h HB) hg;replace HO_3:=Aside0.mk (Kd.R_below (Kd.R_elderB (up_r HO_3) gb425 (Nat.le_of_eq hg.symm)) hb);replace HB:=ca_h HB hb;clear hb hbox hg;obtain ⟨hcz14_0,hcz14_1,hcz14_2,hcz14_3,hfz14_0,hfz14_1,hfz14_2,hfz14_3⟩:=bk4 BK425)|((with_reducible refine gate_callee (f:=27) rfl ?_);refine goesL_ (some 22) rfl rfl Tryd.func27 (by kernel_rfl) rfl #[.agg #[.int .i64 ((rd_T24 l0 x14_1).f0),.int .i64 ((rd_T24 l0 x14_1).f1),.string ((rd_T24 l0 x14_1).f2),.slice A424_3 ((rd_T24 l0 x14_1).f3).length c424_3]] rfl (by (try simp only [List.map_toArray,List.map_cons,List.map_nil]);first|done|rfl|(simp only [List.length_drop,List.length_take];rfl)|(simp only [gt_iff_lt,Int.ofNat_lt];rfl)) ?_;(with_reducible refine (HMEM.out _ _ t426 t427 t428 t429 _ ?side1 ?side2 A10.out).mono ?_);(case side1 => exact Kd.C_below HR424_3.out (sb_h HB GE425));(case side2 => exact HC424_3.out);rintro e w15 ⟨v430,rfl,ho0,hb⟩;refine ⟨_,rfl,?_⟩;obtain ⟨AoV,coV,eoV⟩:=Kd.R_slice ho0;subst eoV;have HO431:=Aside0.mk (Kd.R_lower (Kd.R_newB (Kd.R_new' ho0 (Kd.R_lt (by (with_reducible repeat (first|apply Kd.R_alloc|apply Kd.R_drewN|apply Kd.R_drew));exact (Kd.R_mono (fa4_r HO_3 (fun _ hk => hk.2)) (fun _ h_ => h_.1))))) (g:=gb425) (o:=.cells #[.int .i64 ((rd_T24 l0 x14_1).f0),.int .i64 ((rd_T24 l0 x14_1).f1),.string ((rd_T24 l0 x14_1).f2),.slice A424_3 ((rd_T24 l0 x14_1).f3).length c424_3] 24 (0,0)) (pu4 BK425)) (below_size (sb_h HB GE425)));replace HO_3:=Aside0.mk (Kd.R_elder' (by (with_reducible repeat (first|apply Kd.R_alloc|apply Kd.R_drewN|apply Kd.R_drew));exact (Kd.R_mono (fa4_r HO_3 (fun _ hk => hk.2)) (fun _ h_ => h_.1))) (Kd.R_base ho0) hb);replace BK425:=Aside0.mk (blk_below (g:=gb425) (o:=.cells #[.int .i64 ((rd_T24 l0 x14_1).f0),.int .i64 ((rd_T24 l0 x14_1).f1),.string ((rd_T24 l0 x14_1).f2),.slice A424_3 ((rd_T24 l0 x14_1).f3).length c424_3] 24 (0,0)) (pu4 BK425) hb);replace HB:=cs_h HB GE425 hb;(try clear hb);(try clear hb2);(try clear hk);(try clear hi);(try clear ho0);have p12:0≤(x14_1:Int):=of_decide_eq_true (by first|(with_reducible assumption)|assumption);have q12:(x14_1:Int) < ((x3_1.length:Int):Int):=of_decide_eq_true (by first|(with_reducible assumption)|assumption);obtain ⟨go12,co12,eo12,gb12,gl12,cl12,HG12⟩:=Kd.R_form HO_3.out (by omega);(first|cases eo12|(injection eo12 with ea_ en_ ec_;(first|subst ea_|(injection ea_ with ea_;subst ea_));subst ec_;clear en_));have GB12:=Aside0.mk gb12;have GG12:=Aside0.mk HG12;clear gb12 gl12 HG12;obtain ⟨ce12,hcl12,hM12,hcc12,hfr12⟩:=Kd.R_elem HO_3.out z24 (x14_1:Int) p12 q12;obtain ⟨ve12_3,rfl,ge12_3⟩:=k24_openM hM12;have hx12_0:w15.cell? ⟨go12,(x14_1:Int).toNat * 4,none⟩=some (.int .i64 ((rd_T24 x3_1 x14_1).f0)):=hcc12 0 _ rfl;have hx12_1:w15.cell? ⟨go12,(x14_1:Int).toNat * 4+1,none⟩=some (.int .i64 ((rd_T24 x3_1 x14_1).f1)):=hcc12 1 _ rfl;have hx12_2:w15.cell? ⟨go12,(x14_1:Int).toNat * 4+2,none⟩=some (.string ((rd_T24 x3_1 x14_1).f2)):=hcc12 2 _ rfl;have hx12_3:w15.cell? ⟨go12,(x14_1:Int).toNat * 4+3,none⟩=some (ve12_3):=hcc12 3 _ rfl;have hf12_0:w15.frozen? ⟨go12,(x14_1:Int).toNat * 4,none⟩=false:=hfr12 0;have hf12_1:w15.frozen? ⟨go12,(x14_1:Int).toNat * 4+1,none⟩=false:=hfr12 1;have hf12_2:w15.frozen? ⟨go12,(x14_1:Int).toNat * 4+2,none⟩=false:=hfr12 2;have hf12_3:w15.frozen? ⟨go12,(x14_1:Int).toNat * 4+3,none⟩=false:=hfr12 3;clear hcl12 hcc12 hfr12 hM12;replace p12:=eq_true p12;replace q12:=eq_true q12;have n_:=Aside0.mk (Kd.R_mono (ok':=(fun k_ => some k_≠((.slice AoV t429.length coV):Value).ownBlock∧k_≠gb425)) HO_3.out (fun k_ hk => ⟨hk.2,hk.1.2⟩));clear HO_3;have HO_3:=n_;clear n_;have HX16:=Aside0.mk (show Kd.R k24 24 w15 w.heap.size (fun k_ => k_≠gb425) (.slice (some ⟨go12,0,none⟩) x3_1.length co12) x3_1 from (by (with_reducible repeat (first|apply Kd.R_alloc|apply Kd.R_drewN|apply Kd.R_drew));exact Kd.R_mono HO_3.out (fun _ hk => hk.2)));obtain ⟨ce16,hcl16,hM16,hcc16,hfr16⟩:=Kd.R_elem HX16.out z24 (x14_1:Int) (of_decide_eq_true (by first|(with_reducible assumption)|assumption)) (by have h_:(x14_1:Int) < ((x3_1.length:Int):Int):=of_decide_eq_true (by first|(with_reducible assumption)|assumption);first|exact h_|(have e_:=(Kd.R_reads' HO_3.out).1;omega)|simpa using h_);obtain ⟨ve16_3,rfl,ge16_3⟩:=k24_openM hM16;have HP16:=Kd.R_seg HX16.out (x14_1:Int) (of_decide_eq_true (by first|(with_reducible assumption)|assumption)) (by have h_:(x14_1:Int) < ((x3_1.length:Int):Int):=of_decide_eq_true (by first|(with_reducible assumption)|assumption);first|exact h_|(have e_:=(Kd.R_reads' HO_3.out).1;omega)|simpa using h_) (seg:=[.int .i64 t426,.int .i64 t427,.string t428,(.slice AoV t429.length coV)]) (j:=0) hcl16 hcc16 (show 4≤4 from by decide) (x':=(⟨t426,t427,t428,t429⟩:S24)) (k24_mkM _ _ _ (⟨t426,t427,t428,t429⟩:S24) (Kd.R_mono (HO431.out) (fun k_ hk => ⟨hk.2,fun e_ => (hk.1.2) (by rw [e_];rfl)⟩))) (fun _ hk => hk);have hx16_0:=hcc16 0 _ rfl;(try simp only [show (k24).sz=4 from rfl,Nat.mul_one,Nat.add_zero] at hx16_0);have hf16_0:=hfr16 0;(try simp only [show (k24).sz=4 from rfl,Nat.mul_one,Nat.add_zero] at hf16_0);have hx16_1:=hcc16 1 _ rfl;(try simp only [show (k24).sz=4 from rfl,Nat.mul_one,Nat.add_zero] at hx16_1);have hf16_1:=hfr16 1;(try simp only [show (k24).sz=4 from rfl,Nat.mul_one,Nat.add_zero] at hf16_1);have hx16_2:=hcc16 2 _ rfl;(try simp only [show (k24).sz=4 from rfl,Nat.mul_one,Nat.add_zero] at hx16_2);have hf16_2:=hfr16 2;(try simp only [show (k24).sz=4 from rfl,Nat.mul_one,Nat.add_zero] at hf16_2);have hx16_3:=hcc16 3 _ rfl;(try simp only [show (k24).sz=4 from rfl,Nat.mul_one,Nat.add_zero] at hx16_3);have hf16_3:=hfr16 3;(try simp only [show (k24).sz=4 from rfl,Nat.mul_one,Nat.add_zero] at hf16_3);clear hcl16 hcc16 hfr16 hM16)|((with_reducible refine gate_store (t:=24) (p:=23) rfl ?_);refine store_event (t:=24) (p:=23) (v:=?vo_w17) (w1:=((((w15.setCell ⟨go12,(x14_1:Int).toNat * 4,none⟩ (.int .i64 t426)).setCell ⟨go12,(x14_1:Int).toNat * 4+1,none⟩ (.int .i64 t427)).setCell ⟨go12,(x14_1:Int).toNat * 4+2,none⟩ (.string t428)).setCell ⟨go12,(x14_1:Int).toNat * 4+3,none⟩ ((.slice AoV t429.length coV)))) ?hg ?ho ?hn ?hr ?_;(case ho => rfl);(case hg => rfl);(case hn => rfl);(case hr => first|(go_simp;done)|(go_simp;rfl));intro w17 hw;have hg:w15.grownBy w17 (some go12):=(by rw [hw];exact HP16.2);have hp_:Kd.R k24 24 w17 w.heap.size (fun k_ => k_≠gb425) (.slice (some ⟨go12,0,none⟩) x3_1.length co12) y432:=(by rw [hw,Ny432.out];exact HP16.1);clear HP16;replace BK425:=Aside0.mk (blk_grown (g:=gb425) (o:=.cells #[.int .i64 ((rd_T24 l0 x14_1).f0),.int .i64 ((rd_T24 l0 x14_1).f1),.string ((rd_T24 l0 x14_1).f2),.slice A424_3 ((rd_T24 l0 x14_1).f3).length c424_3] 24 (0,0)) (up_b BK425) hg (Kd.R_away HO_3.out (fun _ hk => hk.2)));replace HO_3:=Aside0.mk (hp_);replace HB:=Aside0.mk ((by rw [hw];exact below_set (below_set (below_set (below_set (HB.out) GB12.out) GB12.out) GB12.out) GB12.out:Below w.heap.size w w17));clear HO431;clear hg hw hp_))
          go_roundg k1
          case measure => have:=HK1.out;omega
          case rel => exact ⟨(y432),(wrap64 (x14_1+1)),(by first|rfl|(simp;done)|(simp [*];done)),H',⟨by have:=HK1.out;omega⟩,⟨by (with_reducible repeat (first|apply Kd.R_alloc|apply Kd.R_drewN|apply Kd.R_drew));exact Kd.R_mono HO_3.out (fun _ hk => trivial)⟩,⟨by repeat (first|(with_reducible first|exact HB.out|apply below_alloc|apply pw_below_drewN|apply below_drew1|refine below_set ?_ GE425.out)|exact HB.out)⟩⟩
         ·rw [if_neg c11] at H
          exact absurd H (by simp)
        ·rw [if_neg c9] at H
         exact absurd H (by simp)
       ·rw [if_neg c8] at H
        exact absurd H (by simp)
      ·rw [if_neg c7] at H
       have c7b0:decide (x14_1 < (l0.length:Int))=false:=decide_eq_false c7
       clear c7
       obtain rfl:=Option.some.inj H
       go_wp2
       go_ret
       exact ⟨_,by first|rfl|(simp [errW_none,errW_some] <;> rfl)|(simp [*,errW_none,errW_some] <;> rfl),by (with_reducible repeat (first|apply Kd.R_alloc|apply Kd.R_drewN|apply Kd.R_drew));exact HO_3.out,by repeat (first|(with_reducible first|exact HB.out|apply below_alloc|apply pw_below_drewN|apply below_drew1)|exact HB.out)⟩
   ·rw [if_neg c4] at H
    exact absurd H (by simp)
  ·rw [if_neg c3] at H
   exact absurd H (by simp)

set_option maxHeartbeats 8000000 in
set_option maxRecDepth 100000 in
theorem own_one (k:Nat) (a0_0:Int) (a0_1:Int) (a0_2:ByteArray) (A0_3:Option Addr) (c0_3:Nat) (l0_3:List (S24)) (r1:Int) (r2:Int) (r3:ByteArray) (r4:List (S24)) (w:World) (hr0_3:Kd.C k24 w A0_3 l0_3.length l0_3) (hc0_3:l0_3.length≤c0_3) (ih_:∀ a ∈ l0_3,OwnOk a) (h:((own_Values.f k l0_3).bind fun t => (some (a0_0,a0_1,a0_2,t)))=some (r1,r2,r3,r4)) :
  Calls Tryd.prog 27 #[.agg #[.int .i64 a0_0,.int .i64 a0_1,.string a0_2,.slice A0_3 l0_3.length c0_3]] w fun e w' => ∃ v3_:Value,e=.returned (.agg #[.int .i64 r1,.int .i64 r2,.string r3,v3_])∧Kd.R k24 24 w' w.heap.size (fun _ => True) v3_ r4∧Below w.heap.size w w':=by
 have hu24:=Tryd.underlying24
 have HR0_3:=Aside0.mk hr0_3
 have HC0_3:=Aside0.mk hc0_3
 clear hr0_3 hc0_3
 have HB:=Aside0.mk (Below.refl w.heap.size w)
 have IH:=Aside0.mk ih_
 clear ih_
 have H:((own_Values.f k l0_3).bind fun t423 => (some (a0_0,a0_1,a0_2,t423)))=some (r1,r2,r3,r4):=h
 clear h
 replace H:=Option.bind_eq_some_iff.mp H
 obtain ⟨t423,A20,H⟩:=H
 replace H:(some (a0_0,a0_1,a0_2,t423))=some (r1,r2,r3,r4):=H
 have A2:=Aside0.mk A20
 clear A20
 simp only [Option.some.injEq,Prod.mk.injEq] at H
 obtain ⟨rfl,rfl,rfl,rfl⟩:=H
 go_enter Tryd.func27,Tryd.ntmps27
 go_wp2_with (first|((with_reducible refine gate_dst (N:=1) rfl ?_);refine box_event ?hg (N:=1) ?hd (cs:=#[.int .i64 a0_0,.int .i64 a0_1,.string a0_2,.slice A0_3 l0_3.length c0_3]) (t:=24) ?hr ?_;(case hd => rfl);(case hg => rfl);(case hr => first|(go_simp;done)|(go_simp;rfl));intro gb421 hg w3 hbox hb;have BK421:=Aside0.mk (hbox);have GW421:=bx_g (up_h HB) hg;have GE421:=bx_g (up_h HB) hg;replace HB:=ca_h HB hb;clear hb hbox hg)|((with_reducible refine gate_dst (N:=2) rfl ?_);refine box_event ?hg (N:=2) ?hd (cs:=#[.int .i64 0,.int .i64 0,.string (⟨#[]⟩:ByteArray),.slice none 0 0]) (t:=24) ?hr ?_;(case hd => rfl);(case hg => rfl);(case hr => first|(go_simp;done)|(go_simp;rfl));intro gb422 hg w4 hbox hb;have BK422:=Aside0.mk (hbox);have GW422:=bx_g (up_h HB) hg;have GE422:=bx_g (up_h HB) hg;have NB421_422:=bx_n (up_b BK421) hg;have NB422_421:=bx_m (up_b BK421) hg;replace BK421:=ca_b BK421 hb;replace HB:=ca_h HB hb;clear hb hbox hg;have hnb5:=NB421_422.out;have hnc5:=NB422_421.out;obtain ⟨hcz6_0,hcz6_1,hcz6_2,hcz6_3,hfz6_0,hfz6_1,hfz6_2,hfz6_3⟩:=bk4 BK421)|((with_reducible refine gate_callee (f:=46) rfl ?_);refine goesL_ (some 5) rfl rfl Tryd.func46 (by kernel_rfl) rfl #[.slice A0_3 l0_3.length c0_3] rfl (by (try simp only [List.map_toArray,List.map_cons,List.map_nil]);first|done|rfl|(simp only [List.length_drop,List.length_take];rfl)|(simp only [gt_iff_lt,Int.ofNat_lt];rfl)) ?_;(with_reducible refine (own_rows k _ _ l0_3 t423 _ ?side1 ?side2 IH.out A2.out).mono ?_);(case side1 => repeat (first|exact (Kd.C_below HR0_3.out HB.out)|(with_reducible refine Kd.C_alloc ?_ _)|(with_reducible refine Kd.C_drewN ?_ _)|(with_reducible refine Kd.C_drew ?_)));(case side2 => exact HC0_3.out);rintro e w7 ⟨v424,rfl,ho0,hb⟩;refine ⟨_,rfl,?_⟩;have HO425:=Aside0.mk (Kd.R_lower (Kd.R_newB (Kd.R_newB ho0 (g:=gb421) (o:=.cells #[.int .i64 a0_0,.int .i64 a0_1,.string a0_2,.slice A0_3 l0_3.length c0_3] 24 (0,0)) (up_b BK421)) (g:=gb422) (o:=.cells #[.int .i64 0,.int .i64 0,.string (⟨#[]⟩:ByteArray),.slice none 0 0] 24 (0,0)) (up_b BK422)) (below_size (up_h HB)));replace BK421:=ca_b BK421 hb;replace BK422:=ca_b BK422 hb;replace HB:=ca_h HB hb;(try clear hb);(try clear hb2);(try clear hk);(try clear hi);(try clear ho0);obtain ⟨Ao8,co8,eo8⟩:=Kd.R_slice HO425.out;subst eo8;obtain ⟨hcz9_0,hcz9_1,hcz9_2,hcz9_3,hfz9_0,hfz9_1,hfz9_2,hfz9_3⟩:=bk4 BK421;obtain ⟨hcz10_0,hcz10_1,hcz10_2,hcz10_3,hfz10_0,hfz10_1,hfz10_2,hfz10_3⟩:=bk4 BK422))
 refine bodyPost_ret (results_cell_row rfl _ _ gb422 24 #[.int .i64 a0_0,.int .i64 a0_1,.string a0_2,.slice Ao8 t423.length co8] (0,0) _ rfl (by (with_reducible repeat (first|refine blk_drewN ?_ _|refine blk_drew ?_|refine blk_alloc ?_ _));refine blk_put (cs:=#[.int .i64 a0_0,.int .i64 a0_1,.string a0_2,.slice none 0 0]) ?_ 3 _ rfl;(with_reducible repeat (first|refine blk_drewN ?_ _|refine blk_drew ?_|refine blk_alloc ?_ _));refine blk_put (cs:=#[.int .i64 a0_0,.int .i64 a0_1,.string (⟨#[]⟩:ByteArray),.slice none 0 0]) ?_ 2 _ rfl;(with_reducible repeat (first|refine blk_drewN ?_ _|refine blk_drew ?_|refine blk_alloc ?_ _));refine blk_put (cs:=#[.int .i64 a0_0,.int .i64 0,.string (⟨#[]⟩:ByteArray),.slice none 0 0]) ?_ 1 _ rfl;(with_reducible repeat (first|refine blk_drewN ?_ _|refine blk_drew ?_|refine blk_alloc ?_ _));refine blk_put (cs:=#[.int .i64 0,.int .i64 0,.string (⟨#[]⟩:ByteArray),.slice none 0 0]) ?_ 0 _ rfl;(with_reducible repeat (first|refine blk_drewN ?_ _|refine blk_drew ?_|refine blk_alloc ?_ _));refine blk_far ?_ NB422_421.out _;(with_reducible repeat (first|refine blk_drewN ?_ _|refine blk_drew ?_|refine blk_alloc ?_ _));exact BK422.out) Tryd.underlying24 rfl (by kernel_rfl)) rfl ?_
 exact ⟨_,by first|rfl|(simp [errW_none,errW_some] <;> rfl)|(simp [*,errW_none,errW_some] <;> rfl),by (with_reducible repeat (first|apply Kd.R_alloc|apply Kd.R_drewN|apply Kd.R_drew));exact Kd.R_mono (Kd.R_far (p:=⟨gb422,3,none⟩) (Kd.R_far (p:=⟨gb422,2,none⟩) (Kd.R_far (p:=⟨gb422,1,none⟩) (Kd.R_far (p:=⟨gb422,0,none⟩) (Kd.R_far (p:=⟨gb421,3,none⟩) (Kd.R_mono (Kd.R_mono HO425.out (fun k_ hk => (⟨hk,hk.1.2⟩:_∧k_≠gb421))) (fun k_ hk => (⟨hk,hk.1.2⟩:_∧k_≠gb422))) (fun _ hk => hk.1.2) (.slice Ao8 t423.length co8)) (fun _ hk => hk.2) (.int .i64 a0_0)) (fun _ hk => hk.2) (.int .i64 a0_1)) (fun _ hk => hk.2) (.string a0_2)) (fun _ hk => hk.2) (.slice Ao8 t423.length co8)) (fun _ hk => trivial),by repeat (first|(with_reducible first|exact HB.out|apply below_alloc|apply pw_below_drewN|apply below_drew1|refine below_set ?_ GE421.out|refine below_set ?_ GE422.out)|exact HB.out)⟩

theorem own_loop (l:List S24) (hl:l.length≤1048576) (ho:OwnL l=true) (d:Nat):∀ i:Nat,l.length - i=d→i≤l.length→own_Values.l0 (d+1) (l.take i ++ List.replicate (l.length - i) z24) l (l.length:Int) (i:Int)=some l:=by
 induction d with
 | zero =>
  intro i hd hi
  obtain rfl:i=l.length:=by omega
  simp only [own_Values.l0]
  rw [if_neg (by omega)]
  simp
 | succ d ih =>
  intro i hd hi
  have hlt:i < l.length:=by omega
  have hv:=ownL_mem l ho _ (List.getElem_mem hlt)
  have e:own_Value.f (l[i]).f0 (l[i]).f1 (l[i]).f2 (l[i]).f3=some ((l[i]).f0,(l[i]).f1,(l[i]).f2,(l[i]).f3):=by
   unfold own_Value.f
   rw [if_pos (by cases h:l[i] with|mk a b c d => rw [h] at hv;exact hv)]
  have hs:(l.take i ++ List.replicate (l.length - i) z24).set i (⟨(l[i]).f0,(l[i]).f1,(l[i]).f2,(l[i]).f3⟩:S24)=l.take (i+1) ++ List.replicate (l.length - (i+1)) z24:=by
   rw [show (⟨(l[i]).f0,(l[i]).f1,(l[i]).f2,(l[i]).f3⟩:S24)=l[i] by cases l[i];rfl]
   rw [show l.length - i=(l.length - (i+1))+1 by omega,List.replicate_succ,List.set_append_right _ _ (by simp;omega)]
   rw [show i - (l.take i).length=0 by simp;omega,List.set_cons_zero,List.take_succ_eq_append_getElem hlt,List.append_assoc]
   rfl
  simp only [own_Values.l0]
  rw [if_pos (by omega),if_pos (by omega),if_pos (by omega),rd_get24 l i hlt,e,Option.bind_some,if_pos (by simp;omega)]
  rw [Int.toNat_natCast]
  show own_Values.l0 (d+1) ((l.take i ++ List.replicate (l.length - i) z24).set i (⟨(l[i]).f0,(l[i]).f1,(l[i]).f2,(l[i]).f3⟩:S24)) l (l.length:Int) (wrap64 ((i:Int)+1))=some l
  rw [hs,show wrap64 ((i:Int)+1)=((i+1:Nat):Int) by unfold wrap64;omega]
  exact ih (i+1) (by omega) (by omega)
theorem own_Values_is (l:List S24) (hl:l.length≤1048576) (ho:OwnL l=true):own_Values.f (l.length+1) l=some l:=by
 unfold own_Values.f
 by_cases h0:(l.length:Int)=0
 ·rw [if_pos h0,List.eq_nil_of_length_eq_zero (show l.length=0 by omega)]
 ·rw [if_neg h0,if_pos (by omega),if_pos (by omega)]
  have:=own_loop l hl ho l.length 0 (by omega) (by omega)
  rw [List.take_zero,List.nil_append] at this
  rw [Int.toNat_natCast]
  exact this
mutual
theorem own_ok:(a:S24)→OwnOk a
 | ⟨k,n,t,l⟩ => fun A c r1 r2 r3 r4 w hC hc h => by
  unfold own_Value.f at h
  by_cases hv:OwnV ⟨k,n,t,l⟩=true
  ·rw [if_pos hv] at h
   simp only [OwnV,Bool.and_eq_true,decide_eq_true_eq] at hv
   exact own_one (l.length+1) k n t A c l r1 r2 r3 r4 w hC hc (own_okL l) (by rw [own_Values_is l hv.1 hv.2,Option.bind_some];exact h)
  ·rw [if_neg hv] at h;cases h
theorem own_okL:(l:List S24)→∀ a ∈ l,OwnOk a
 | [],a,ha => by cases ha
 | x :: l,a,ha => by
  rcases List.mem_cons.1 ha with e|ha
  ·rw [e];exact own_ok x
  ·exact own_okL l a ha
end
theorem own_Value.calls (a0_0:Int) (a0_1:Int) (a0_2:ByteArray) (A0_3:Option Addr) (c0_3:Nat) (l0_3:List S24) (r1:Int) (r2:Int) (r3:ByteArray) (r4:List S24) (w:World) (hr0_3:Kd.C k24 w A0_3 l0_3.length l0_3) (hc0_3:l0_3.length≤c0_3) (h:own_Value.f a0_0 a0_1 a0_2 l0_3=some (r1,r2,r3,r4)) :
  Calls Tryd.prog 27 #[.agg #[.int .i64 a0_0,.int .i64 a0_1,.string a0_2,.slice A0_3 l0_3.length c0_3]] w fun e w' => ∃ v3_:Value,e=.returned (.agg #[.int .i64 r1,.int .i64 r2,.string r3,v3_])∧Kd.R k24 24 w' w.heap.size (fun _ => True) v3_ r4∧Below w.heap.size w w':=own_ok ⟨a0_0,a0_1,a0_2,l0_3⟩ A0_3 c0_3 r1 r2 r3 r4 w hr0_3 hc0_3 h

def fns_Two.f (k:Nat) (a0:Int) (a1_0:Int) (a1_1:Int) (a1_2:ByteArray) (l1_3:List (S24)) (a2_0:Int) (a2_1:Int) (a2_2:ByteArray) (l2_3:List (S24)):Option (Int × Int × ByteArray × (List (S24)) × Bool × Int):=(fns_fit.f k a0 a1_0 a1_1 a1_2 l1_3).bind fun t239 => (if t239=0 then ((value_Check.f k a2_0 a2_1 a2_2 l2_3).bind fun t240 => (if t240=0 then ((fns_two.f k a0 a1_0 a1_1 a1_2 l1_3 a2_0 a2_1 a2_2 l2_3).bind fun bt241 => ((own_Value.f bt241.1 bt241.2.1 bt241.2.2.1 bt241.2.2.2.1).bind fun bt249 => (some (bt249.1,bt249.2.1,bt249.2.2.1,bt249.2.2.2,bt241.2.2.2.2,0)))) else (some (0,0,(⟨#[]⟩:ByteArray),([]:List (S24)),false,t240)))) else (some (0,0,(⟨#[]⟩:ByteArray),([]:List (S24)),false,t239)))
theorem fns_Two.mono:∀ a0 a1 a2 a3 a4 a5 a6 a7 a8 k,LeO (fns_Two.f k a0 a1 a2 a3 a4 a5 a6 a7 a8) (fns_Two.f (k+1) a0 a1 a2 a3 a4 a5 a6 a7 a8):=by
 intro a0 a1 a2 a3 a4 a5 a6 a7 a8 k
 unfold fns_Two.f
 repeat' first
   | (with_reducible exact fns_fit.mono _ _ _ _ _ _)
   | (with_reducible exact fns_two.mono _ _ _ _ _ _ _ _ _ _)
   | (with_reducible exact value_Check.mono _ _ _ _ _)
   | (with_reducible exact LeO.refl _)
   | (with_reducible exact LeO.none _)
   | (with_reducible refine LeO.ite ?_ ?_)
   | (with_reducible refine LeO.bind ?_ (fun _ => ?_))
   | exact fns_fit.mono _ _ _ _ _ _
   | exact fns_two.mono _ _ _ _ _ _ _ _ _ _
   | exact value_Check.mono _ _ _ _ _
   | exact LeO.none _
   | refine LeO.ite ?_ ?_
   | refine LeO.bind ?_ (fun _ => ?_)
set_option maxHeartbeats 8000000 in
set_option maxRecDepth 100000 in
theorem fns_Two.calls (k:Nat) (a0:Int) (a1_0:Int) (a1_1:Int) (a1_2:ByteArray) (A1_3:Option Addr) (c1_3:Nat) (l1_3:List (S24)) (a2_0:Int) (a2_1:Int) (a2_2:ByteArray) (A2_3:Option Addr) (c2_3:Nat) (l2_3:List (S24)) (r1:Int) (r2:Int) (r3:ByteArray) (r4:List (S24)) (r5:Bool) (r6:Int) (w:World) (hL:LaidW w) (hr1_3:Kd.C k24 w A1_3 l1_3.length l1_3) (hc1_3:l1_3.length≤c1_3) (hr2_3:Kd.C k24 w A2_3 l2_3.length l2_3) (hc2_3:l2_3.length≤c2_3) (h:fns_Two.f k a0 a1_0 a1_1 a1_2 l1_3 a2_0 a2_1 a2_2 l2_3=some (r1,r2,r3,r4,r5,r6)) :
  Calls Tryd.prog 11 #[.int .i64 a0,.agg #[.int .i64 a1_0,.int .i64 a1_1,.string a1_2,.slice A1_3 l1_3.length c1_3],.agg #[.int .i64 a2_0,.int .i64 a2_1,.string a2_2,.slice A2_3 l2_3.length c2_3]] w fun e w' => ∃ v3_:Value,e=.returned (.tuple #[.agg #[.int .i64 r1,.int .i64 r2,.string r3,v3_],.bool r5,.int .i64 r6])∧Kd.R k24 24 w' w.heap.size (fun _ => True) v3_ r4∧Below w.heap.size w w':=by
 have hu24:=Tryd.underlying24
 have HR1_3:=Aside0.mk hr1_3
 have HC1_3:=Aside0.mk hc1_3
 clear hr1_3 hc1_3
 have HR2_3:=Aside0.mk hr2_3
 have HC2_3:=Aside0.mk hc2_3
 clear hr2_3 hc2_3
 have HLT:=Aside0.mk hL
 clear hL
 have HB:=Aside0.mk (Below.refl w.heap.size w)
 have H:((fns_fit.f k a0 a1_0 a1_1 a1_2 l1_3).bind fun t239 => (if t239=0 then ((value_Check.f k a2_0 a2_1 a2_2 l2_3).bind fun t240 => (if t240=0 then ((fns_two.f k a0 a1_0 a1_1 a1_2 l1_3 a2_0 a2_1 a2_2 l2_3).bind fun bt241 => ((own_Value.f bt241.1 bt241.2.1 bt241.2.2.1 bt241.2.2.2.1).bind fun bt249 => (some (bt249.1,bt249.2.1,bt249.2.2.1,bt249.2.2.2,bt241.2.2.2.2,0)))) else (some (0,0,(⟨#[]⟩:ByteArray),([]:List (S24)),false,t240)))) else (some (0,0,(⟨#[]⟩:ByteArray),([]:List (S24)),false,t239))))=some (r1,r2,r3,r4,r5,r6):=h
 clear h
 replace H:=Option.bind_eq_some_iff.mp H
 obtain ⟨t239,A40,H⟩:=H
 replace H:(if t239=0 then ((value_Check.f k a2_0 a2_1 a2_2 l2_3).bind fun t240 => (if t240=0 then ((fns_two.f k a0 a1_0 a1_1 a1_2 l1_3 a2_0 a2_1 a2_2 l2_3).bind fun bt241 => ((own_Value.f bt241.1 bt241.2.1 bt241.2.2.1 bt241.2.2.2.1).bind fun bt249 => (some (bt249.1,bt249.2.1,bt249.2.2.1,bt249.2.2.2,bt241.2.2.2.2,0)))) else (some (0,0,(⟨#[]⟩:ByteArray),([]:List (S24)),false,t240)))) else (some (0,0,(⟨#[]⟩:ByteArray),([]:List (S24)),false,t239)))=some (r1,r2,r3,r4,r5,r6):=H
 have A4:=Aside0.mk A40
 clear A40
 by_cases c5:t239=0
 ·rw [if_pos c5] at H
  have c5b0:(t239 == 0)=true:=beq_iff_eq.mpr c5
  have c5b1:(t239 != 0)=false:=bne_eq_false_iff_eq.mpr c5
  clear c5
  replace H:=Option.bind_eq_some_iff.mp H
  obtain ⟨t240,A60,H⟩:=H
  replace H:(if t240=0 then ((fns_two.f k a0 a1_0 a1_1 a1_2 l1_3 a2_0 a2_1 a2_2 l2_3).bind fun bt241 => ((own_Value.f bt241.1 bt241.2.1 bt241.2.2.1 bt241.2.2.2.1).bind fun bt249 => (some (bt249.1,bt249.2.1,bt249.2.2.1,bt249.2.2.2,bt241.2.2.2.2,0)))) else (some (0,0,(⟨#[]⟩:ByteArray),([]:List (S24)),false,t240)))=some (r1,r2,r3,r4,r5,r6):=H
  have A6:=Aside0.mk A60
  clear A60
  by_cases c7:t240=0
  ·rw [if_pos c7] at H
   have c7b0:(t240 == 0)=true:=beq_iff_eq.mpr c7
   have c7b1:(t240 != 0)=false:=bne_eq_false_iff_eq.mpr c7
   clear c7
   replace H:=Option.bind_eq_some_iff.mp H
   obtain ⟨⟨t241,t242,t243,t244,t247⟩,A80,H⟩:=H
   replace H:((own_Value.f t241 t242 t243 t244).bind fun bt249 => (some (bt249.1,bt249.2.1,bt249.2.2.1,bt249.2.2.2,t247,0)))=some (r1,r2,r3,r4,r5,r6):=H
   have A8:=Aside0.mk A80
   clear A80
   replace H:=Option.bind_eq_some_iff.mp H
   obtain ⟨⟨t249,t250,t251,t252⟩,A90,H⟩:=H
   replace H:(some (t249,t250,t251,t252,t247,0))=some (r1,r2,r3,r4,r5,r6):=H
   have A9:=Aside0.mk A90
   clear A90
   simp only [Option.some.injEq,Prod.mk.injEq] at H
   obtain ⟨rfl,rfl,rfl,rfl,rfl,rfl⟩:=H
   go_enter Tryd.func11,Tryd.ntmps11
   go_wp2_with (first|((with_reducible refine gate_dst (N:=4) rfl ?_);refine box_event ?hg (N:=4) ?hd (cs:=#[.int .i64 a1_0,.int .i64 a1_1,.string a1_2,.slice A1_3 l1_3.length c1_3]) (t:=24) ?hr ?_;(case hd => rfl);(case hg => rfl);(case hr => first|(go_simp;done)|(go_simp;rfl));intro gb236 hg w10 hbox hb;have BK236:=Aside0.mk (hbox);have GW236:=bx_g (up_h HB) hg;have GE236:=bx_g (up_h HB) hg;replace HB:=ca_h HB hb;clear hb hbox hg)|((with_reducible refine gate_dst (N:=5) rfl ?_);refine box_event ?hg (N:=5) ?hd (cs:=#[.int .i64 a2_0,.int .i64 a2_1,.string a2_2,.slice A2_3 l2_3.length c2_3]) (t:=24) ?hr ?_;(case hd => rfl);(case hg => rfl);(case hr => first|(go_simp;done)|(go_simp;rfl));intro gb237 hg w11 hbox hb;have BK237:=Aside0.mk (hbox);have GW237:=bx_g (up_h HB) hg;have GE237:=bx_g (up_h HB) hg;have NB236_237:=bx_n (up_b BK236) hg;have NB237_236:=bx_m (up_b BK236) hg;replace BK236:=ca_b BK236 hb;replace HB:=ca_h HB hb;clear hb hbox hg)|((with_reducible refine gate_dst (N:=6) rfl ?_);refine box_event ?hg (N:=6) ?hd (cs:=#[.int .i64 0,.int .i64 0,.string (⟨#[]⟩:ByteArray),.slice none 0 0]) (t:=24) ?hr ?_;(case hd => rfl);(case hg => rfl);(case hr => first|(go_simp;done)|(go_simp;rfl));intro gb238 hg w12 hbox hb;have BK238:=Aside0.mk (hbox);have GW238:=bx_g (up_h HB) hg;have GE238:=bx_g (up_h HB) hg;have NB236_238:=bx_n (up_b BK236) hg;have NB238_236:=bx_m (up_b BK236) hg;have NB237_238:=bx_n (up_b BK237) hg;have NB238_237:=bx_m (up_b BK237) hg;replace BK236:=ca_b BK236 hb;replace BK237:=ca_b BK237 hb;replace HB:=ca_h HB hb;clear hb hbox hg;have hnb13:=NB236_237.out;have hnc13:=NB237_236.out;have hnb14:=NB236_238.out;have hnc14:=NB238_236.out;obtain ⟨hcz15_0,hcz15_1,hcz15_2,hcz15_3,hfz15_0,hfz15_1,hfz15_2,hfz15_3⟩:=bk4 BK236)|((with_reducible refine gate_callee (f:=19) rfl ?_);refine goesL_ (some 15) rfl rfl Tryd.func19 (by kernel_rfl) rfl #[.int .i64 a0,.agg #[.int .i64 a1_0,.int .i64 a1_1,.string a1_2,.slice A1_3 l1_3.length c1_3]] rfl (by (try simp only [List.map_toArray,List.map_cons,List.map_nil]);first|done|rfl|(simp only [List.length_drop,List.length_take];rfl)|(simp only [gt_iff_lt,Int.ofNat_lt];rfl)) ?_;(with_reducible refine (fns_fit.calls k a0 a1_0 a1_1 a1_2 _ _ l1_3 t239 _ ?side1 ?side2 ?side3 A4.out).mono ?_);(case side1 => exact LaidW.below HLT.out (up_h HB));(case side2 => repeat (first|exact (Kd.C_below HR1_3.out HB.out)|(with_reducible refine Kd.C_alloc ?_ _)|(with_reducible refine Kd.C_drewN ?_ _)|(with_reducible refine Kd.C_drew ?_)));(case side3 => exact HC1_3.out);rintro e w16 ⟨rfl,hb⟩;refine ⟨_,rfl,?_⟩;replace BK236:=ca_b BK236 hb;replace BK237:=ca_b BK237 hb;replace BK238:=ca_b BK238 hb;replace HB:=ca_h HB hb;(try clear hb);(try clear hb2);(try clear hk);(try clear hi);have hnb17:=NB237_238.out;have hnc17:=NB238_237.out;obtain ⟨hcz18_0,hcz18_1,hcz18_2,hcz18_3,hfz18_0,hfz18_1,hfz18_2,hfz18_3⟩:=bk4 BK237)|((with_reducible refine gate_callee (f:=15) rfl ?_);refine goesL_ (some 21) rfl rfl Tryd.func15 (by kernel_rfl) rfl #[.agg #[.int .i64 a2_0,.int .i64 a2_1,.string a2_2,.slice A2_3 l2_3.length c2_3]] rfl (by (try simp only [List.map_toArray,List.map_cons,List.map_nil]);first|done|rfl|(simp only [List.length_drop,List.length_take];rfl)|(simp only [gt_iff_lt,Int.ofNat_lt];rfl)) ?_;(with_reducible refine (value_Check.calls k a2_0 a2_1 a2_2 _ _ l2_3 t240 _ ?side1 ?side2 ?side3 A6.out).mono ?_);(case side1 => exact LaidW.below HLT.out (up_h HB));(case side2 => repeat (first|exact (Kd.C_below HR2_3.out HB.out)|(with_reducible refine Kd.C_alloc ?_ _)|(with_reducible refine Kd.C_drewN ?_ _)|(with_reducible refine Kd.C_drew ?_)));(case side3 => exact HC2_3.out);rintro e w19 ⟨rfl,hb⟩;refine ⟨_,rfl,?_⟩;replace BK236:=ca_b BK236 hb;replace BK237:=ca_b BK237 hb;replace BK238:=ca_b BK238 hb;replace HB:=ca_h HB hb;(try clear hb);(try clear hb2);(try clear hk);(try clear hi);obtain ⟨hcz20_0,hcz20_1,hcz20_2,hcz20_3,hfz20_0,hfz20_1,hfz20_2,hfz20_3⟩:=bk4 BK236;obtain ⟨hcz21_0,hcz21_1,hcz21_2,hcz21_3,hfz21_0,hfz21_1,hfz21_2,hfz21_3⟩:=bk4 BK237)|((with_reducible refine gate_callee (f:=26) rfl ?_);refine goesL_ (some 30) rfl rfl Tryd.func26 (by kernel_rfl) rfl #[.int .i64 a0,.agg #[.int .i64 a1_0,.int .i64 a1_1,.string a1_2,.slice A1_3 l1_3.length c1_3],.agg #[.int .i64 a2_0,.int .i64 a2_1,.string a2_2,.slice A2_3 l2_3.length c2_3]] rfl (by (try simp only [List.map_toArray,List.map_cons,List.map_nil]);first|done|rfl|(simp only [List.length_drop,List.length_take];rfl)|(simp only [gt_iff_lt,Int.ofNat_lt];rfl)) ?_;(with_reducible refine (fns_two.calls k a0 a1_0 a1_1 a1_2 (fun k_ => k_ < w.heap.size) _ _ l1_3 a2_0 a2_1 a2_2 (fun k_ => k_ < w.heap.size) _ _ l2_3 t241 t242 t243 t244 t247 _ ?side1 ?side2 ?side3 A8.out).mono ?_);(case side1 => exact LaidW.below HLT.out (up_h HB));(case side2 => exact Kd.V_mk HC1_3.out (Kd.F_below (Kd.C_F k24_heap HR1_3.out) (up_h HB)));(case side3 => exact Kd.V_mk HC2_3.out (Kd.F_below (Kd.C_F k24_heap HR2_3.out) (up_h HB)));rintro e w22 ⟨v245,rfl,ho0,hb⟩;refine ⟨_,rfl,?_⟩;have HO246:=Aside0.mk (Kd.V_lower (Kd.V_mono (ok':=fun k_ => k_≠gb236∧k_≠gb237∧k_≠gb238) ho0 (fun k_ hk_ => ⟨Or.elim hk_ (fun hs_ => Or.elim hs_ (fun hs_ => fun e_ => Nat.not_le.2 hs_ (by rw [e_];exact GW236.out)) (fun hs_ => fun e_ => Nat.not_le.2 hs_ (by rw [e_];exact GW236.out))) (fun hn_ => (Kd.freshB (up_b BK236) k_ hn_)),Or.elim hk_ (fun hs_ => Or.elim hs_ (fun hs_ => fun e_ => Nat.not_le.2 hs_ (by rw [e_];exact GW237.out)) (fun hs_ => fun e_ => Nat.not_le.2 hs_ (by rw [e_];exact GW237.out))) (fun hn_ => (Kd.freshB (up_b BK237) k_ hn_)),Or.elim hk_ (fun hs_ => Or.elim hs_ (fun hs_ => fun e_ => Nat.not_le.2 hs_ (by rw [e_];exact GW238.out)) (fun hs_ => fun e_ => Nat.not_le.2 hs_ (by rw [e_];exact GW238.out))) (fun hn_ => (Kd.freshB (up_b BK238) k_ hn_))⟩)) (below_size (up_h HB)));replace BK236:=ca_b BK236 hb;replace BK237:=ca_b BK237 hb;replace BK238:=ca_b BK238 hb;replace HB:=ca_h HB hb;(try clear hb);(try clear hb2);(try clear hk);(try clear hi);(try clear ho0))|((with_reducible refine gate_dst (N:=11) rfl ?_);refine box_event ?hg (N:=11) ?hd (cs:=#[.int .i64 0,.int .i64 0,.string (⟨#[]⟩:ByteArray),.slice none 0 0]) (t:=24) ?hr ?_;(case hd => rfl);(case hg => rfl);(case hr => first|(go_simp;done)|(go_simp;rfl));intro gb248 hg w23 hbox hb;have BK248:=Aside0.mk (hbox);have GW248:=bx_g (up_h HB) hg;have GE248:=bx_g (up_h HB) hg;have NB236_248:=bx_n (up_b BK236) hg;have NB248_236:=bx_m (up_b BK236) hg;have NB237_248:=bx_n (up_b BK237) hg;have NB248_237:=bx_m (up_b BK237) hg;have NB238_248:=bx_n (up_b BK238) hg;have NB248_238:=bx_m (up_b BK238) hg;replace HO246:=bx_v HO246 hg hb;replace BK236:=ca_b BK236 hb;replace BK237:=ca_b BK237 hb;replace BK238:=ca_b BK238 hb;replace HB:=ca_h HB hb;clear hb hbox hg;have hnb24:=NB248_236.out;have hnc24:=NB236_248.out;have hnb25:=NB248_237.out;have hnc25:=NB237_248.out;have hnb26:=NB248_238.out;have hnc26:=NB238_248.out;obtain ⟨hcz27_0,hcz27_1,hcz27_2,hcz27_3,hfz27_0,hfz27_1,hfz27_2,hfz27_3⟩:=bk4 BK248;obtain ⟨Ao28,co28,eo28⟩:=Kd.V_slice HO246.out;subst eo28)|((with_reducible refine gate_callee (f:=27) rfl ?_);refine goesL_ (some 34) rfl rfl Tryd.func27 (by kernel_rfl) rfl #[.agg #[.int .i64 t241,.int .i64 t242,.string t243,.slice Ao28 t244.length co28]] rfl (by (try simp only [List.map_toArray,List.map_cons,List.map_nil]);first|done|rfl|(simp only [List.length_drop,List.length_take];rfl)|(simp only [gt_iff_lt,Int.ofNat_lt];rfl)) ?_;(with_reducible refine (own_Value.calls t241 t242 t243 _ _ t244 t249 t250 t251 t252 _ ?side1 ?side2 A9.out).mono ?_);(case side1 => refine (Kd.V_reads' (e:=24) (base:=w.heap.size) (ok:=fun k_ => ((k_≠gb236∧(k_≠gb237∧k_≠gb238))∧k_≠gb248)) (n:=t244.length) (c:=co28) ?_).2.2;exact (by (with_reducible repeat (first|apply Kd.V_alloc|apply Kd.V_drewN|apply Kd.V_drew));exact (Kd.V_mono (fa4_v HO246 (fun _ hk => hk.2)) (fun _ h_ => h_.1))));(case side2 => exact (Kd.V_reads' HO246.out).2.1);rintro e w29 ⟨v253,rfl,ho0,hb⟩;refine ⟨_,rfl,?_⟩;have HO254:=Aside0.mk (Kd.R_lower (Kd.R_newB (Kd.R_newB (Kd.R_newB (Kd.R_newB ho0 (g:=gb236) (o:=.cells #[.int .i64 a1_0,.int .i64 a1_1,.string a1_2,.slice A1_3 l1_3.length c1_3] 24 (0,0)) (sb_b BK236 NB236_248)) (g:=gb237) (o:=.cells #[.int .i64 a2_0,.int .i64 a2_1,.string a2_2,.slice A2_3 l2_3.length c2_3] 24 (0,0)) (sb_b BK237 NB237_248)) (g:=gb238) (o:=.cells #[.int .i64 0,.int .i64 0,.string (⟨#[]⟩:ByteArray),.slice none 0 0] 24 (0,0)) (sb_b BK238 NB238_248)) (g:=gb248) (o:=.cells #[.int .i64 t241,.int .i64 t242,.string t243,.slice Ao28 t244.length co28] 24 (0,0)) (pu4 BK248)) (below_size (sb_h HB GE248)));replace HO246:=Aside0.mk (Kd.V_elder' (by (with_reducible repeat (first|apply Kd.V_alloc|apply Kd.V_drewN|apply Kd.V_drew));exact (Kd.V_mono (fa4_v HO246 (fun _ hk => hk.2)) (fun _ h_ => h_.1))) (Kd.R_base ho0) hb);replace BK236:=cs_b BK236 NB236_248 hb;replace BK237:=cs_b BK237 NB237_248 hb;replace BK238:=cs_b BK238 NB238_248 hb;replace BK248:=Aside0.mk (blk_below (g:=gb248) (o:=.cells #[.int .i64 t241,.int .i64 t242,.string t243,.slice Ao28 t244.length co28] 24 (0,0)) (pu4 BK248) hb);replace HB:=cs_h HB GE248 hb;(try clear hb);(try clear hb2);(try clear hk);(try clear hi);(try clear ho0);obtain ⟨hcz30_0,hcz30_1,hcz30_2,hcz30_3,hfz30_0,hfz30_1,hfz30_2,hfz30_3⟩:=bk4 BK238;obtain ⟨Ao31,co31,eo31⟩:=Kd.R_slice HO254.out;subst eo31))
   refine bodyPost_ret (results_ctt rfl _ _ gb238 24 #[.int .i64 t249,.int .i64 t250,.string t251,.slice Ao31 t252.length co31] (0,0) _ rfl (pu4 BK238) Tryd.underlying24 rfl (by kernel_rfl)) rfl ?_
   exact ⟨_,by first|rfl|(simp [errW_none,errW_some] <;> rfl)|(simp [*,errW_none,errW_some] <;> rfl),by (with_reducible repeat (first|apply Kd.R_alloc|apply Kd.R_drewN|apply Kd.R_drew));exact Kd.R_mono (fa4_r HO254 (fun _ hk => hk.1.2)) (fun _ hk => trivial),by repeat (first|(with_reducible first|exact HB.out|apply below_alloc|apply pw_below_drewN|apply below_drew1|refine below_set ?_ GE236.out|refine below_set ?_ GE237.out|refine below_set ?_ GE238.out|refine below_set ?_ GE248.out)|exact HB.out)⟩
  ·rw [if_neg c7] at H
   have c7b0:(t240 == 0)=false:=beq_eq_false_iff_ne.mpr c7
   have c7b1:(t240 != 0)=true:=bne_iff_ne.mpr c7
   simp only [Option.some.injEq,Prod.mk.injEq] at H
   obtain ⟨rfl,rfl,rfl,rfl,rfl,rfl⟩:=H
   go_enter Tryd.func11,Tryd.ntmps11
   go_wp2_with (first|((with_reducible refine gate_dst (N:=4) rfl ?_);refine box_event ?hg (N:=4) ?hd (cs:=#[.int .i64 a1_0,.int .i64 a1_1,.string a1_2,.slice A1_3 l1_3.length c1_3]) (t:=24) ?hr ?_;(case hd => rfl);(case hg => rfl);(case hr => first|(go_simp;done)|(go_simp;rfl));intro gb236 hg w32 hbox hb;have BK236:=Aside0.mk (hbox);have GW236:=bx_g (up_h HB) hg;have GE236:=bx_g (up_h HB) hg;replace HB:=ca_h HB hb;clear hb hbox hg)|((with_reducible refine gate_dst (N:=5) rfl ?_);refine box_event ?hg (N:=5) ?hd (cs:=#[.int .i64 a2_0,.int .i64 a2_1,.string a2_2,.slice A2_3 l2_3.length c2_3]) (t:=24) ?hr ?_;(case hd => rfl);(case hg => rfl);(case hr => first|(go_simp;done)|(go_simp;rfl));intro gb237 hg w33 hbox hb;have BK237:=Aside0.mk (hbox);have GW237:=bx_g (up_h HB) hg;have GE237:=bx_g (up_h HB) hg;have NB236_237:=bx_n (up_b BK236) hg;have NB237_236:=bx_m (up_b BK236) hg;replace BK236:=ca_b BK236 hb;replace HB:=ca_h HB hb;clear hb hbox hg)|((with_reducible refine gate_dst (N:=6) rfl ?_);refine box_event ?hg (N:=6) ?hd (cs:=#[.int .i64 0,.int .i64 0,.string (⟨#[]⟩:ByteArray),.slice none 0 0]) (t:=24) ?hr ?_;(case hd => rfl);(case hg => rfl);(case hr => first|(go_simp;done)|(go_simp;rfl));intro gb238 hg w34 hbox hb;have BK238:=Aside0.mk (hbox);have GW238:=bx_g (up_h HB) hg;have GE238:=bx_g (up_h HB) hg;have NB236_238:=bx_n (up_b BK236) hg;have NB238_236:=bx_m (up_b BK236) hg;have NB237_238:=bx_n (up_b BK237) hg;have NB238_237:=bx_m (up_b BK237) hg;replace BK236:=ca_b BK236 hb;replace BK237:=ca_b BK237 hb;replace HB:=ca_h HB hb;clear hb hbox hg;have hnb35:=NB236_237.out;have hnc35:=NB237_236.out;have hnb36:=NB236_238.out;have hnc36:=NB238_236.out;obtain ⟨hcz37_0,hcz37_1,hcz37_2,hcz37_3,hfz37_0,hfz37_1,hfz37_2,hfz37_3⟩:=bk4 BK236)|((with_reducible refine gate_callee (f:=19) rfl ?_);refine goesL_ (some 15) rfl rfl Tryd.func19 (by kernel_rfl) rfl #[.int .i64 a0,.agg #[.int .i64 a1_0,.int .i64 a1_1,.string a1_2,.slice A1_3 l1_3.length c1_3]] rfl (by (try simp only [List.map_toArray,List.map_cons,List.map_nil]);first|done|rfl|(simp only [List.length_drop,List.length_take];rfl)|(simp only [gt_iff_lt,Int.ofNat_lt];rfl)) ?_;(with_reducible refine (fns_fit.calls k a0 a1_0 a1_1 a1_2 _ _ l1_3 t239 _ ?side1 ?side2 ?side3 A4.out).mono ?_);(case side1 => exact LaidW.below HLT.out (up_h HB));(case side2 => repeat (first|exact (Kd.C_below HR1_3.out HB.out)|(with_reducible refine Kd.C_alloc ?_ _)|(with_reducible refine Kd.C_drewN ?_ _)|(with_reducible refine Kd.C_drew ?_)));(case side3 => exact HC1_3.out);rintro e w38 ⟨rfl,hb⟩;refine ⟨_,rfl,?_⟩;replace BK236:=ca_b BK236 hb;replace BK237:=ca_b BK237 hb;replace BK238:=ca_b BK238 hb;replace HB:=ca_h HB hb;(try clear hb);(try clear hb2);(try clear hk);(try clear hi);have hnb39:=NB237_238.out;have hnc39:=NB238_237.out;obtain ⟨hcz40_0,hcz40_1,hcz40_2,hcz40_3,hfz40_0,hfz40_1,hfz40_2,hfz40_3⟩:=bk4 BK237)|((with_reducible refine gate_callee (f:=15) rfl ?_);refine goesL_ (some 21) rfl rfl Tryd.func15 (by kernel_rfl) rfl #[.agg #[.int .i64 a2_0,.int .i64 a2_1,.string a2_2,.slice A2_3 l2_3.length c2_3]] rfl (by (try simp only [List.map_toArray,List.map_cons,List.map_nil]);first|done|rfl|(simp only [List.length_drop,List.length_take];rfl)|(simp only [gt_iff_lt,Int.ofNat_lt];rfl)) ?_;(with_reducible refine (value_Check.calls k a2_0 a2_1 a2_2 _ _ l2_3 t240 _ ?side1 ?side2 ?side3 A6.out).mono ?_);(case side1 => exact LaidW.below HLT.out (up_h HB));(case side2 => repeat (first|exact (Kd.C_below HR2_3.out HB.out)|(with_reducible refine Kd.C_alloc ?_ _)|(with_reducible refine Kd.C_drewN ?_ _)|(with_reducible refine Kd.C_drew ?_)));(case side3 => exact HC2_3.out);rintro e w41 ⟨rfl,hb⟩;refine ⟨_,rfl,?_⟩;replace BK236:=ca_b BK236 hb;replace BK237:=ca_b BK237 hb;replace BK238:=ca_b BK238 hb;replace HB:=ca_h HB hb;(try clear hb);(try clear hb2);(try clear hk);(try clear hi);obtain ⟨hcz42_0,hcz42_1,hcz42_2,hcz42_3,hfz42_0,hfz42_1,hfz42_2,hfz42_3⟩:=bk4 BK238))
   refine bodyPost_ret (results_ctt rfl _ _ gb238 24 #[.int .i64 0,.int .i64 0,.string (⟨#[]⟩:ByteArray),.slice none 0 0] (0,0) _ rfl (pu4 BK238) Tryd.underlying24 rfl (by kernel_rfl)) rfl ?_
   exact ⟨_,by first|rfl|(simp [errW_none,errW_some] <;> rfl)|(simp [*,errW_none,errW_some] <;> rfl),by first|exact Kd.R_nil _ _ _ _ _|exact Kd.N_nil _ _ _ _ _|exact Kd.V_nil _ _ _ _ _|exact Kd.Q_nil _ _ _ _ _|exact Kd.S_nil _ _ _ _ _,by repeat (first|(with_reducible first|exact HB.out|apply below_alloc|apply pw_below_drewN|apply below_drew1|refine below_set ?_ GE236.out|refine below_set ?_ GE237.out|refine below_set ?_ GE238.out)|exact HB.out)⟩
 ·rw [if_neg c5] at H
  have c5b0:(t239 == 0)=false:=beq_eq_false_iff_ne.mpr c5
  have c5b1:(t239 != 0)=true:=bne_iff_ne.mpr c5
  simp only [Option.some.injEq,Prod.mk.injEq] at H
  obtain ⟨rfl,rfl,rfl,rfl,rfl,rfl⟩:=H
  go_enter Tryd.func11,Tryd.ntmps11
  go_wp2_with (first|((with_reducible refine gate_dst (N:=4) rfl ?_);refine box_event ?hg (N:=4) ?hd (cs:=#[.int .i64 a1_0,.int .i64 a1_1,.string a1_2,.slice A1_3 l1_3.length c1_3]) (t:=24) ?hr ?_;(case hd => rfl);(case hg => rfl);(case hr => first|(go_simp;done)|(go_simp;rfl));intro gb236 hg w43 hbox hb;have BK236:=Aside0.mk (hbox);have GW236:=bx_g (up_h HB) hg;have GE236:=bx_g (up_h HB) hg;replace HB:=ca_h HB hb;clear hb hbox hg)|((with_reducible refine gate_dst (N:=5) rfl ?_);refine box_event ?hg (N:=5) ?hd (cs:=#[.int .i64 a2_0,.int .i64 a2_1,.string a2_2,.slice A2_3 l2_3.length c2_3]) (t:=24) ?hr ?_;(case hd => rfl);(case hg => rfl);(case hr => first|(go_simp;done)|(go_simp;rfl));intro gb237 hg w44 hbox hb;have BK237:=Aside0.mk (hbox);have GW237:=bx_g (up_h HB) hg;have GE237:=bx_g (up_h HB) hg;have NB236_237:=bx_n (up_b BK236) hg;have NB237_236:=bx_m (up_b BK236) hg;replace BK236:=ca_b BK236 hb;replace HB:=ca_h HB hb;clear hb hbox hg)|((with_reducible refine gate_dst (N:=6) rfl ?_);refine box_event ?hg (N:=6) ?hd (cs:=#[.int .i64 0,.int .i64 0,.string (⟨#[]⟩:ByteArray),.slice none 0 0]) (t:=24) ?hr ?_;(case hd => rfl);(case hg => rfl);(case hr => first|(go_simp;done)|(go_simp;rfl));intro gb238 hg w45 hbox hb;have BK238:=Aside0.mk (hbox);have GW238:=bx_g (up_h HB) hg;have GE238:=bx_g (up_h HB) hg;have NB236_238:=bx_n (up_b BK236) hg;have NB238_236:=bx_m (up_b BK236) hg;have NB237_238:=bx_n (up_b BK237) hg;have NB238_237:=bx_m (up_b BK237) hg;replace BK236:=ca_b BK236 hb;replace BK237:=ca_b BK237 hb;replace HB:=ca_h HB hb;clear hb hbox hg;have hnb46:=NB236_237.out;have hnc46:=NB237_236.out;have hnb47:=NB236_238.out;have hnc47:=NB238_236.out;obtain ⟨hcz48_0,hcz48_1,hcz48_2,hcz48_3,hfz48_0,hfz48_1,hfz48_2,hfz48_3⟩:=bk4 BK236)|((with_reducible refine gate_callee (f:=19) rfl ?_);refine goesL_ (some 15) rfl rfl Tryd.func19 (by kernel_rfl) rfl #[.int .i64 a0,.agg #[.int .i64 a1_0,.int .i64 a1_1,.string a1_2,.slice A1_3 l1_3.length c1_3]] rfl (by (try simp only [List.map_toArray,List.map_cons,List.map_nil]);first|done|rfl|(simp only [List.length_drop,List.length_take];rfl)|(simp only [gt_iff_lt,Int.ofNat_lt];rfl)) ?_;(with_reducible refine (fns_fit.calls k a0 a1_0 a1_1 a1_2 _ _ l1_3 t239 _ ?side1 ?side2 ?side3 A4.out).mono ?_);(case side1 => exact LaidW.below HLT.out (up_h HB));(case side2 => repeat (first|exact (Kd.C_below HR1_3.out HB.out)|(with_reducible refine Kd.C_alloc ?_ _)|(with_reducible refine Kd.C_drewN ?_ _)|(with_reducible refine Kd.C_drew ?_)));(case side3 => exact HC1_3.out);rintro e w49 ⟨rfl,hb⟩;refine ⟨_,rfl,?_⟩;replace BK236:=ca_b BK236 hb;replace BK237:=ca_b BK237 hb;replace BK238:=ca_b BK238 hb;replace HB:=ca_h HB hb;(try clear hb);(try clear hb2);(try clear hk);(try clear hi);have hnb50:=NB238_237.out;have hnc50:=NB237_238.out;obtain ⟨hcz51_0,hcz51_1,hcz51_2,hcz51_3,hfz51_0,hfz51_1,hfz51_2,hfz51_3⟩:=bk4 BK238))
  refine bodyPost_ret (results_ctt rfl _ _ gb238 24 #[.int .i64 0,.int .i64 0,.string (⟨#[]⟩:ByteArray),.slice none 0 0] (0,0) _ rfl (pu4 BK238) Tryd.underlying24 rfl (by kernel_rfl)) rfl ?_
  exact ⟨_,by first|rfl|(simp [errW_none,errW_some] <;> rfl)|(simp [*,errW_none,errW_some] <;> rfl),by first|exact Kd.R_nil _ _ _ _ _|exact Kd.N_nil _ _ _ _ _|exact Kd.V_nil _ _ _ _ _|exact Kd.Q_nil _ _ _ _ _|exact Kd.S_nil _ _ _ _ _,by repeat (first|(with_reducible first|exact HB.out|apply below_alloc|apply pw_below_drewN|apply below_drew1|refine below_set ?_ GE236.out|refine below_set ?_ GE237.out|refine below_set ?_ GE238.out)|exact HB.out)⟩

-- NOT PRINTED: function 52 (fns_number)

-- NOT PRINTED: function 55 (fns_size)

-- NOT PRINTED: function 56 (fns_first)

-- NOT PRINTED: function 29 (fns_ones)

def fns_ones_1.f (a0_0:Int) (a0_1:Int) (a0_2:ByteArray) (l0_3:List (S24)):Option (Int × Int × ByteArray × (List (S24))):=some (a0_0,a0_1,a0_2,l0_3)
set_option maxHeartbeats 8000000 in
set_option maxRecDepth 100000 in
theorem fns_ones_1.calls (a0_0:Int) (a0_1:Int) (a0_2:ByteArray) (P0_3_:Nat→Prop) (A0_3:Option Addr) (c0_3:Nat) (l0_3:List (S24)) (r1:Int) (r2:Int) (r3:ByteArray) (r4:List (S24)) (w:World) (hs0_3:Kd.V k24 24 w w.heap.size (fun k_ => P0_3_ k_) (.slice A0_3 l0_3.length c0_3) l0_3) (h:fns_ones_1.f a0_0 a0_1 a0_2 l0_3=some (r1,r2,r3,r4)) :
  Calls Tryd.prog 51 #[.agg #[.int .i64 a0_0,.int .i64 a0_1,.string a0_2,.slice A0_3 l0_3.length c0_3]] w fun e w' => ∃ v3_:Value,e=.returned (.agg #[.int .i64 r1,.int .i64 r2,.string r3,v3_])∧Kd.V k24 24 w' w.heap.size (fun k_ => (P0_3_ k_ ∨ w.heap.size≤k_)) v3_ r4∧Below w.heap.size w w':=by
 have hu24:=Tryd.underlying24
 have HO0_3:=Aside0.mk (show Kd.V k24 24 w w.heap.size (fun k_ => (P0_3_ k_ ∨ w.heap.size≤k_)) (.slice A0_3 l0_3.length c0_3) l0_3 from Kd.V_mono hs0_3 (fun k_ hk => .inl hk))
 have HB:=Aside0.mk (Below.refl w.heap.size w)
 have H:(some (a0_0,a0_1,a0_2,l0_3))=some (r1,r2,r3,r4):=h
 clear h
 simp only [Option.some.injEq,Prod.mk.injEq] at H
 obtain ⟨rfl,rfl,rfl,rfl⟩:=H
 go_enter Tryd.func51,Tryd.ntmps51
 go_wp2_with (first|((with_reducible refine gate_dst (N:=1) rfl ?_);refine box_event ?hg (N:=1) ?hd (cs:=#[.int .i64 a0_0,.int .i64 a0_1,.string a0_2,.slice A0_3 l0_3.length c0_3]) (t:=24) ?hr ?_;(case hd => rfl);(case hg => rfl);(case hr => first|(go_simp;done)|(go_simp;rfl));intro gb259 hg w2 hbox hb;have BK259:=Aside0.mk (hbox);have GW259:=bx_g (up_h HB) hg;have GE259:=bx_g (up_h HB) hg;replace HO0_3:=bx_v HO0_3 hg hb;replace HB:=ca_h HB hb;clear hb hbox hg)|((with_reducible refine gate_dst (N:=2) rfl ?_);refine box_event ?hg (N:=2) ?hd (cs:=#[.int .i64 0,.int .i64 0,.string (⟨#[]⟩:ByteArray),.slice none 0 0]) (t:=24) ?hr ?_;(case hd => rfl);(case hg => rfl);(case hr => first|(go_simp;done)|(go_simp;rfl));intro gb260 hg w3 hbox hb;have BK260:=Aside0.mk (hbox);have GW260:=bx_g (up_h HB) hg;have GE260:=bx_g (up_h HB) hg;have NB259_260:=bx_n (up_b BK259) hg;have NB260_259:=bx_m (up_b BK259) hg;replace HO0_3:=bx_v HO0_3 hg hb;replace BK259:=ca_b BK259 hb;replace HB:=ca_h HB hb;clear hb hbox hg;have hnb4:=NB259_260.out;have hnc4:=NB260_259.out;obtain ⟨hcz5_0,hcz5_1,hcz5_2,hcz5_3,hfz5_0,hfz5_1,hfz5_2,hfz5_3⟩:=bk4 BK259;obtain ⟨hcz6_0,hcz6_1,hcz6_2,hcz6_3,hfz6_0,hfz6_1,hfz6_2,hfz6_3⟩:=bk4 BK260))
 refine bodyPost_ret (results_cell_row rfl _ _ gb260 24 #[.int .i64 a0_0,.int .i64 a0_1,.string a0_2,.slice A0_3 l0_3.length c0_3] (0,0) _ rfl (pu4 BK260) Tryd.underlying24 rfl (by kernel_rfl)) rfl ?_
 exact ⟨_,by first|rfl|(simp [errW_none,errW_some] <;> rfl)|(simp [*,errW_none,errW_some] <;> rfl),by (with_reducible repeat (first|apply Kd.V_alloc|apply Kd.V_drewN|apply Kd.V_drew));exact Kd.V_mono (fa4_v HO0_3 (fun _ hk => hk.2)) (fun _ hk => hk.1.1.1),by repeat (first|(with_reducible first|exact HB.out|apply below_alloc|apply pw_below_drewN|apply below_drew1|refine below_set ?_ GE259.out|refine below_set ?_ GE260.out)|exact HB.out)⟩

def fns_ones_2.f (a0:Int):Option (Int):=some (wrap64 (a0+1))
set_option maxHeartbeats 8000000 in
set_option maxRecDepth 100000 in
theorem fns_ones_2.calls (a0:Int) (r:Int) (w:World) (h:fns_ones_2.f a0=some r) :
  Calls Tryd.prog 53 #[.int .i64 a0] w fun e w' => e=.returned (.int .i64 r)∧Drawn0 w w':=by
 have H:(some (wrap64 (a0+1)))=some r:=h
 clear h
 obtain rfl:=Option.some.inj H
 go_enter Tryd.func53,Tryd.ntmps53
 go_wp2
 go_ret
 exact ⟨by first|rfl|(simp;done)|(simp [*];done),by repeat (first|exact Drawn0.refl _|apply Drawn0.step)⟩

def fns_ones_3.f (a0:Int):Option (Int):=some (wrap64 (-a0))
set_option maxHeartbeats 8000000 in
set_option maxRecDepth 100000 in
theorem fns_ones_3.calls (a0:Int) (r:Int) (w:World) (h:fns_ones_3.f a0=some r) :
  Calls Tryd.prog 54 #[.int .i64 a0] w fun e w' => e=.returned (.int .i64 r)∧Drawn0 w w':=by
 have H:(some (wrap64 (-a0)))=some r:=h
 clear h
 obtain rfl:=Option.some.inj H
 go_enter Tryd.func54,Tryd.ntmps54
 go_wp2
 go_ret
 exact ⟨by first|rfl|(simp;done)|(simp [*];done),by repeat (first|exact Drawn0.refl _|apply Drawn0.step)⟩

def fns_ones_4.f (k:Nat) (a0_0:Int) (a0_1:Int) (a0_2:ByteArray) (l0_3:List (S24)):Option (Int × Int × ByteArray × (List (S24))):=(fns_right.f k 4 0 (⟨#[]⟩:ByteArray) (([(⟨a0_0,a0_1,a0_2,l0_3⟩:S24)]:List (S24))) 0 0 (⟨#[]⟩:ByteArray) ([]:List (S24))).bind fun bt266 => (some (bt266.1,bt266.2.1,bt266.2.2.1,bt266.2.2.2))
theorem fns_ones_4.mono:∀ a0 a1 a2 a3 k,LeO (fns_ones_4.f k a0 a1 a2 a3) (fns_ones_4.f (k+1) a0 a1 a2 a3):=by
 intro a0 a1 a2 a3 k
 unfold fns_ones_4.f
 repeat' first
   | (with_reducible exact fns_right.mono _ _ _ _ _ _ _ _ _)
   | (with_reducible exact LeO.refl _)
   | (with_reducible exact LeO.none _)
   | (with_reducible refine LeO.ite ?_ ?_)
   | (with_reducible refine LeO.bind ?_ (fun _ => ?_))
   | exact fns_right.mono _ _ _ _ _ _ _ _ _
   | exact LeO.none _
   | refine LeO.ite ?_ ?_
   | refine LeO.bind ?_ (fun _ => ?_)
set_option maxHeartbeats 8000000 in
set_option maxRecDepth 100000 in
theorem fns_ones_4.calls (k:Nat) (a0_0:Int) (a0_1:Int) (a0_2:ByteArray) (P0_3_:Nat→Prop) (A0_3:Option Addr) (c0_3:Nat) (l0_3:List (S24)) (r1:Int) (r2:Int) (r3:ByteArray) (r4:List (S24)) (w:World) (hL:LaidW w) (hs0_3:Kd.V k24 24 w w.heap.size (fun k_ => P0_3_ k_) (.slice A0_3 l0_3.length c0_3) l0_3) (h:fns_ones_4.f k a0_0 a0_1 a0_2 l0_3=some (r1,r2,r3,r4)) :
  Calls Tryd.prog 57 #[.agg #[.int .i64 a0_0,.int .i64 a0_1,.string a0_2,.slice A0_3 l0_3.length c0_3]] w fun e w' => ∃ v3_:Value,e=.returned (.agg #[.int .i64 r1,.int .i64 r2,.string r3,v3_])∧Kd.V k24 24 w' w.heap.size (fun k_ => (P0_3_ k_ ∨ w.heap.size≤k_)) v3_ r4∧Below w.heap.size w w':=by
 have hu24:=Tryd.underlying24
 have HO0_3:=Aside0.mk (show Kd.V k24 24 w w.heap.size (fun k_ => (P0_3_ k_ ∨ w.heap.size≤k_)) (.slice A0_3 l0_3.length c0_3) l0_3 from Kd.V_mono hs0_3 (fun k_ hk => .inl hk))
 have HLT:=Aside0.mk hL
 clear hL
 have HB:=Aside0.mk (Below.refl w.heap.size w)
 have H:((fns_right.f k 4 0 (⟨#[]⟩:ByteArray) (([(⟨a0_0,a0_1,a0_2,l0_3⟩:S24)]:List (S24))) 0 0 (⟨#[]⟩:ByteArray) ([]:List (S24))).bind fun bt266 => (some (bt266.1,bt266.2.1,bt266.2.2.1,bt266.2.2.2)))=some (r1,r2,r3,r4):=h
 clear h
 obtain ⟨y263,hy263⟩:∃ y_:List (S24),y_=(([(⟨a0_0,a0_1,a0_2,l0_3⟩:S24)]:List (S24))):=⟨_,rfl⟩
 replace H:((fns_right.f k 4 0 (⟨#[]⟩:ByteArray) y263 0 0 (⟨#[]⟩:ByteArray) ([]:List (S24))).bind fun bt266 => (some (bt266.1,bt266.2.1,bt266.2.2.1,bt266.2.2.2)))=some (r1,r2,r3,r4):=by first|(rw [hy263];with_reducible exact H)|(have H2_:=(Option.bind_some _ _).symm.trans H;rw [hy263];with_reducible exact H2_)|(have H2_:=(Option.bind_some _ _).symm.trans H;with_reducible exact H2_)|with_reducible exact H|(rw [hy263];exact H)|exact H
 have Ny263:=Aside0.mk hy263
 clear hy263
 replace H:=Option.bind_eq_some_iff.mp H
 obtain ⟨⟨t266,t267,t268,t269⟩,A20,H⟩:=H
 replace H:(some (t266,t267,t268,t269))=some (r1,r2,r3,r4):=H
 have A2:=Aside0.mk A20
 clear A20
 simp only [Option.some.injEq,Prod.mk.injEq] at H
 obtain ⟨rfl,rfl,rfl,rfl⟩:=H
 go_enter Tryd.func57,Tryd.ntmps57
 go_wp2_with (first|((with_reducible refine gate_dst (N:=1) rfl ?_);refine box_event ?hg (N:=1) ?hd (cs:=#[.int .i64 a0_0,.int .i64 a0_1,.string a0_2,.slice A0_3 l0_3.length c0_3]) (t:=24) ?hr ?_;(case hd => rfl);(case hg => rfl);(case hr => first|(go_simp;done)|(go_simp;rfl));intro gb261 hg w3 hbox hb;have BK261:=Aside0.mk (hbox);have GW261:=bx_g (up_h HB) hg;have GE261:=bx_g (up_h HB) hg;replace HO0_3:=bx_v HO0_3 hg hb;replace HB:=ca_h HB hb;clear hb hbox hg)|((with_reducible refine gate_dst (N:=2) rfl ?_);refine box_event ?hg (N:=2) ?hd (cs:=#[.int .i64 0,.int .i64 0,.string (⟨#[]⟩:ByteArray),.slice none 0 0]) (t:=24) ?hr ?_;(case hd => rfl);(case hg => rfl);(case hr => first|(go_simp;done)|(go_simp;rfl));intro gb262 hg w4 hbox hb;have BK262:=Aside0.mk (hbox);have GW262:=bx_g (up_h HB) hg;have GE262:=bx_g (up_h HB) hg;have NB261_262:=bx_n (up_b BK261) hg;have NB262_261:=bx_m (up_b BK261) hg;replace HO0_3:=bx_v HO0_3 hg hb;replace BK261:=ca_b BK261 hb;replace HB:=ca_h HB hb;clear hb hbox hg;have hnb5:=NB261_262.out;have hnc5:=NB262_261.out;obtain ⟨hcz6_0,hcz6_1,hcz6_2,hcz6_3,hfz6_0,hfz6_1,hfz6_2,hfz6_3⟩:=bk4 BK261)|((with_reducible refine gate_dst (N:=4) rfl ?_);refine Kd.N_lit k24 _ 24 ?hg (N':=4) ?hd (xs:=([(⟨a0_0,a0_1,a0_2,l0_3⟩:S24)]:List (S24))) (inner:=[.int .i64 a0_0,.int .i64 a0_1,.string a0_2,.slice A0_3 l0_3.length c0_3]) (ok:=(fun k_ => (P0_3_ k_ ∨ w.heap.size≤k_)∧k_≠gb261∧k_≠gb262)) (okp:=(fun k_ => (P0_3_ k_ ∨ w.heap.size≤k_)∧k_≠gb261∧k_≠gb262)) ?hr ?hp (fun _ hk => hk) ((show ∀ k_,w4.heap.size≤k_→(fun k_ => (P0_3_ k_ ∨ w.heap.size≤k_)∧k_≠gb261∧k_≠gb262) k_ from fun k_ hk => ⟨(.inr (Nat.le_trans (below_size (up_h HB)) hk)),Kd.freshB (up_b BK261) k_ hk,Kd.freshB (up_b BK262) k_ hk⟩) _ (Nat.le_refl _)) (Below.refl _ _) (Nat.le_refl _) (by simp) ?_;(case hd => rfl);(case hg => rfl);(case hr => first|(go_simp;done)|(go_simp;rfl));(case hp => exact (Reps.c4 (show Kd.FK k24 _ _ (⟨a0_0,a0_1,a0_2,l0_3⟩:S24) [.int .i64 a0_0,.int .i64 a0_1,.string a0_2,.slice A0_3 l0_3.length c0_3] from (k24_mkF _ _ (⟨a0_0,a0_1,a0_2,l0_3⟩:S24) (Kd.V_reads' (Kd.V_mono (ok':=(fun k_ => (P0_3_ k_ ∨ w.heap.size≤k_)∧k_≠gb261∧k_≠gb262)) (HO0_3.out) (fun k_ hk => ⟨hk.1.1,⟨hk.1.2,hk.2⟩⟩))).2.1 (Kd.V_F (Kd.V_mono (ok':=(fun k_ => (P0_3_ k_ ∨ w.heap.size≤k_)∧k_≠gb261∧k_≠gb262)) (HO0_3.out) (fun k_ hk => ⟨hk.1.1,⟨hk.1.2,hk.2⟩⟩))))) (Reps.none _ _)));intro v264 w7 ho8 hb hg_ hnew_;clear hg_ hnew_;(first|rw [← Ny263.out] at ho8|(simp only [Int.reduceToNat] at ho8;rw [← Ny263.out] at ho8));have HO265:=Aside0.mk (Kd.N_lower ho8 (below_size (up_h HB)));replace HO0_3:=Aside0.mk (Kd.V_elder' (up_v HO0_3) (by first|exact Kd.N_base ho8|exact Kd.N_base (Kd.R_N ho8)) hb);replace BK261:=ca_b BK261 hb;replace BK262:=ca_b BK262 hb;replace HB:=ca_h HB hb;clear hb ho8;obtain ⟨Ao9,co9,eo9⟩:=Kd.N_slice HO265.out;subst eo9)|((with_reducible refine gate_callee (f:=58) rfl ?_);refine goesL_ (some 7) rfl rfl Tryd.func58 (by kernel_rfl) rfl #[.agg #[.int .i64 4,.int .i64 0,.string (⟨#[]⟩:ByteArray),.slice Ao9 y263.length co9],.agg #[.int .i64 0,.int .i64 0,.string (⟨#[]⟩:ByteArray),.slice none 0 0]] rfl (by (try simp only [List.map_toArray,List.map_cons,List.map_nil]);first|done|rfl|(simp only [List.length_drop,List.length_take];rfl)|(simp only [gt_iff_lt,Int.ofNat_lt];rfl)) ?_;(refine (fns_right.calls k 4 0 (⟨#[]⟩:ByteArray) (fun k_ => ((P0_3_ k_ ∨ w.heap.size≤k_)∧(k_≠gb261∧k_≠gb262))) _ _ y263 0 0 (⟨#[]⟩:ByteArray) (fun k_ => False) _ _ ([]:List (S24)) t266 t267 t268 t269 _ ?side1 ?side2 ?side3 A2.out).mono ?_);(case side1 => exact LaidW.below HLT.out (up_h HB));(case side2 => exact Kd.N_V (HO265.out));(case side3 => exact Kd.V_nil _ _ _ _ _);rintro e w10 ⟨v270,rfl,ho0,hb⟩;refine ⟨_,rfl,?_⟩;have HO271:=Aside0.mk (Kd.V_lower (Kd.V_mono (ok':=fun k_ => (P0_3_ k_ ∨ w.heap.size≤k_)∧k_≠gb261∧k_≠gb262) ho0 (fun k_ hk_ => ⟨Or.elim hk_ (fun hs_ => Or.elim hs_ (fun hs_ => hs_.1) (fun hs_ => (hs_).elim)) (fun hn_ => (.inr (Nat.le_trans (below_size (up_h HB)) hn_))),Or.elim hk_ (fun hs_ => Or.elim hs_ (fun hs_ => hs_.2.1) (fun hs_ => (hs_).elim)) (fun hn_ => (Kd.freshB (up_b BK261) k_ hn_)),Or.elim hk_ (fun hs_ => Or.elim hs_ (fun hs_ => hs_.2.2) (fun hs_ => (hs_).elim)) (fun hn_ => (Kd.freshB (up_b BK262) k_ hn_))⟩)) (below_size (up_h HB)));replace HO0_3:=ca_v HO0_3 hb;replace HO265:=ca_n HO265 hb;replace BK261:=ca_b BK261 hb;replace BK262:=ca_b BK262 hb;replace HB:=ca_h HB hb;(try clear hb);(try clear hb2);(try clear hk);(try clear hi);(try clear ho0);obtain ⟨hcz11_0,hcz11_1,hcz11_2,hcz11_3,hfz11_0,hfz11_1,hfz11_2,hfz11_3⟩:=bk4 BK262;obtain ⟨Ao12,co12,eo12⟩:=Kd.V_slice HO271.out;subst eo12))
 refine bodyPost_ret (results_cell_row rfl _ _ gb262 24 #[.int .i64 t266,.int .i64 t267,.string t268,.slice Ao12 t269.length co12] (0,0) _ rfl (pu4 BK262) Tryd.underlying24 rfl (by kernel_rfl)) rfl ?_
 exact ⟨_,by first|rfl|(simp [errW_none,errW_some] <;> rfl)|(simp [*,errW_none,errW_some] <;> rfl),by (with_reducible repeat (first|apply Kd.V_alloc|apply Kd.V_drewN|apply Kd.V_drew));exact Kd.V_mono (fa4_v HO271 (fun _ hk => hk.2.2)) (fun _ hk => hk.1.1),by repeat (first|(with_reducible first|exact HB.out|apply below_alloc|apply pw_below_drewN|apply below_drew1|refine below_set ?_ GE261.out|refine below_set ?_ GE262.out)|exact HB.out)⟩

def fns_ones_5.f (a0_0:Int) (a0_1:Int) (a0_2:ByteArray) (l0_3:List (S24)):Option (Int × Int × ByteArray × (List (S24))):=(fns_integer.f a0_0).bind fun bt274 => (some (bt274.1,bt274.2.1,bt274.2.2.1,bt274.2.2.2))
set_option maxHeartbeats 8000000 in
set_option maxRecDepth 100000 in
theorem fns_ones_5.calls (a0_0:Int) (a0_1:Int) (a0_2:ByteArray) (A0_3:Option Addr) (c0_3:Nat) (l0_3:List (S24)) (r1:Int) (r2:Int) (r3:ByteArray) (r4:List (S24)) (w:World) (hr0_3:Kd.C k24 w A0_3 l0_3.length l0_3) (hc0_3:l0_3.length≤c0_3) (h:fns_ones_5.f a0_0 a0_1 a0_2 l0_3=some (r1,r2,r3,r4)) :
  Calls Tryd.prog 59 #[.agg #[.int .i64 a0_0,.int .i64 a0_1,.string a0_2,.slice A0_3 l0_3.length c0_3]] w fun e w' => ∃ v3_:Value,e=.returned (.agg #[.int .i64 r1,.int .i64 r2,.string r3,v3_])∧Kd.R k24 24 w' w.heap.size (fun _ => True) v3_ r4∧Below w.heap.size w w':=by
 have hu24:=Tryd.underlying24
 have HR0_3:=Aside0.mk hr0_3
 have HC0_3:=Aside0.mk hc0_3
 clear hr0_3 hc0_3
 have HB:=Aside0.mk (Below.refl w.heap.size w)
 have H:((fns_integer.f a0_0).bind fun bt274 => (some (bt274.1,bt274.2.1,bt274.2.2.1,bt274.2.2.2)))=some (r1,r2,r3,r4):=h
 clear h
 replace H:=Option.bind_eq_some_iff.mp H
 obtain ⟨⟨t274,t275,t276,t277⟩,A20,H⟩:=H
 replace H:(some (t274,t275,t276,t277))=some (r1,r2,r3,r4):=H
 have A2:=Aside0.mk A20
 clear A20
 simp only [Option.some.injEq,Prod.mk.injEq] at H
 obtain ⟨rfl,rfl,rfl,rfl⟩:=H
 go_enter Tryd.func59,Tryd.ntmps59
 go_wp2_with (first|((with_reducible refine gate_dst (N:=1) rfl ?_);refine box_event ?hg (N:=1) ?hd (cs:=#[.int .i64 a0_0,.int .i64 a0_1,.string a0_2,.slice A0_3 l0_3.length c0_3]) (t:=24) ?hr ?_;(case hd => rfl);(case hg => rfl);(case hr => first|(go_simp;done)|(go_simp;rfl));intro gb272 hg w3 hbox hb;have BK272:=Aside0.mk (hbox);have GW272:=bx_g (up_h HB) hg;have GE272:=bx_g (up_h HB) hg;replace HB:=ca_h HB hb;clear hb hbox hg)|((with_reducible refine gate_dst (N:=2) rfl ?_);refine box_event ?hg (N:=2) ?hd (cs:=#[.int .i64 0,.int .i64 0,.string (⟨#[]⟩:ByteArray),.slice none 0 0]) (t:=24) ?hr ?_;(case hd => rfl);(case hg => rfl);(case hr => first|(go_simp;done)|(go_simp;rfl));intro gb273 hg w4 hbox hb;have BK273:=Aside0.mk (hbox);have GW273:=bx_g (up_h HB) hg;have GE273:=bx_g (up_h HB) hg;have NB272_273:=bx_n (up_b BK272) hg;have NB273_272:=bx_m (up_b BK272) hg;replace BK272:=ca_b BK272 hb;replace HB:=ca_h HB hb;clear hb hbox hg;have hnb5:=NB272_273.out;have hnc5:=NB273_272.out;obtain ⟨hcz6_0,hcz6_1,hcz6_2,hcz6_3,hfz6_0,hfz6_1,hfz6_2,hfz6_3⟩:=bk4 BK272)|((with_reducible refine gate_callee (f:=45) rfl ?_);refine goesL_ (some 5) rfl rfl Tryd.func45 (by kernel_rfl) rfl #[.int .i64 a0_0] rfl (by (try simp only [List.map_toArray,List.map_cons,List.map_nil]);first|done|rfl|(simp only [List.length_drop,List.length_take];rfl)|(simp only [gt_iff_lt,Int.ofNat_lt];rfl)) ?_;(with_reducible refine (fns_integer.calls a0_0 t274 t275 t276 t277 _ A2.out).mono ?_);rintro e w7 ⟨v278,rfl,ho0,hb⟩;refine ⟨_,rfl,?_⟩;have HO279:=Aside0.mk (Kd.R_lower (Kd.R_newB (Kd.R_newB ho0 (g:=gb272) (o:=.cells #[.int .i64 a0_0,.int .i64 a0_1,.string a0_2,.slice A0_3 l0_3.length c0_3] 24 (0,0)) (up_b BK272)) (g:=gb273) (o:=.cells #[.int .i64 0,.int .i64 0,.string (⟨#[]⟩:ByteArray),.slice none 0 0] 24 (0,0)) (up_b BK273)) (below_size (up_h HB)));replace BK272:=ca_b BK272 hb;replace BK273:=ca_b BK273 hb;replace HB:=ca_h HB hb;(try clear hb);(try clear hb2);(try clear hk);(try clear hi);(try clear ho0);obtain ⟨hcz8_0,hcz8_1,hcz8_2,hcz8_3,hfz8_0,hfz8_1,hfz8_2,hfz8_3⟩:=bk4 BK273;obtain ⟨Ao9,co9,eo9⟩:=Kd.R_slice HO279.out;subst eo9))
 refine bodyPost_ret (results_cell_row rfl _ _ gb273 24 #[.int .i64 t274,.int .i64 t275,.string t276,.slice Ao9 t277.length co9] (0,0) _ rfl (pu4 BK273) Tryd.underlying24 rfl (by kernel_rfl)) rfl ?_
 exact ⟨_,by first|rfl|(simp [errW_none,errW_some] <;> rfl)|(simp [*,errW_none,errW_some] <;> rfl),by (with_reducible repeat (first|apply Kd.R_alloc|apply Kd.R_drewN|apply Kd.R_drew));exact Kd.R_mono (fa4_r HO279 (fun _ hk => hk.2)) (fun _ hk => trivial),by repeat (first|(with_reducible first|exact HB.out|apply below_alloc|apply pw_below_drewN|apply below_drew1|refine below_set ?_ GE272.out|refine below_set ?_ GE273.out)|exact HB.out)⟩

def fns_ones_6.f (a0:Int):Option (Int):=some (wrap64 (Int.tdiv a0 2))
set_option maxHeartbeats 8000000 in
set_option maxRecDepth 100000 in
theorem fns_ones_6.calls (a0:Int) (r:Int) (w:World) (h:fns_ones_6.f a0=some r) :
  Calls Tryd.prog 60 #[.int .i64 a0] w fun e w' => e=.returned (.int .i64 r)∧Drawn0 w w':=by
 have H:(some (wrap64 (Int.tdiv a0 2)))=some r:=h
 clear h
 obtain rfl:=Option.some.inj H
 go_enter Tryd.func60,Tryd.ntmps60
 go_wp2
 go_ret
 exact ⟨by first|rfl|(simp;done)|(simp [*];done),by repeat (first|exact Drawn0.refl _|apply Drawn0.step)⟩

end Go.Proofs.YtgmmoagclkmeaaaDoor.XH
