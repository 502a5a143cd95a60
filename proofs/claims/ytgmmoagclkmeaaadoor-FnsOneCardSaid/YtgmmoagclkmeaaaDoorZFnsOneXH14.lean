-- cut down by bundle.py (the session's own program) from the texts YtgmmoagclkmeaaaDoorXH14, to what this claim names
import Derived.Test.YtgmmoagclkmeaaaDoorZFnsOneXH0
import Derived.Test.YtgmmoagclkmeaaaDoorZFnsOneXH4
-- laid by xprint.py (the session's own program) out of the translation; Lean checks it
namespace Go.Proofs.YtgmmoagclkmeaaaDoor.XH
open Go.RowKit Go.Proofs.YtgmmoagclkmeaaaDoorW.PrintWords Go.Proofs.YtgmmoagclkmeaaaDoorW.PrintLast Go.Proofs.YtgmmoagclkmeaaaDoorW.PrintMore
attribute [local go_sem] max2_int min2_int max_two min_two max_three min_three max_four min_four   -- for this text's walks alone
set_option linter.unusedVariables false
set_option linter.unusedSimpArgs false

def fns_ask.f (q:Int) (a1_0:Int) (a1_1:Int) (a1_2:ByteArray) (l1_3:List S24):Option Bool :=
 if q=0 then fns_questions_1.f a1_0 a1_1 a1_2 l1_3 else if q=1 then fns_questions_2.f a1_0 a1_1 a1_2 l1_3 else if q=2 then fns_isInt.f a1_0 a1_1 a1_2 l1_3 else if q=3 then fns_questions_3.f a1_0 a1_1 a1_2 l1_3
 else if q=4 then fns_questions_4.f a1_0 a1_1 a1_2 l1_3 else if q=5 then fns_questions_5.f a1_0 a1_1 a1_2 l1_3 else if q=6 then fns_isColl.f a1_0 a1_1 a1_2 l1_3 else fns_questions_6.f a1_0 a1_1 a1_2 l1_3
def fns_Is.f (k:Nat) (a0:Int) (a1_0:Int) (a1_1:Int) (a1_2:ByteArray) (l1_3:List S24):Option (Bool × Int):=(fns_fit.f k a0 a1_0 a1_1 a1_2 l1_3).bind fun e => if e=0 then (fns_ask.f a0 a1_0 a1_1 a1_2 l1_3).bind fun b => some (b,0) else some (false,e)
theorem fns_Is.mono:∀ a0 a1 a2 a3 a4 k,LeO (fns_Is.f k a0 a1 a2 a3 a4) (fns_Is.f (k+1) a0 a1 a2 a3 a4):=by
 intro a0 a1 a2 a3 a4 k
 unfold fns_Is.f
 exact LeO.bind (fns_fit.mono _ _ _ _ _ _) (fun _ => LeO.refl _)
def askFid (q:Int):Nat:=if q=0 then 33 else if q=1 then 34 else if q=2 then 35 else if q=3 then 36 else if q=4 then 37 else if q=5 then 38 else if q=6 then 39 else 40
theorem ask_calls (q:Int) (a0_0:Int) (a0_1:Int) (a0_2:ByteArray) (A0_3:Option Addr) (c0_3:Nat) (l0_3:List S24) (r:Bool) (w:World) (hr0_3:Kd.C k24 w A0_3 l0_3.length l0_3) (hc0_3:l0_3.length≤c0_3) (h:fns_ask.f q a0_0 a0_1 a0_2 l0_3=some r) :
  Calls Tryd.prog (askFid q) #[.agg #[.int .i64 a0_0,.int .i64 a0_1,.string a0_2,.slice A0_3 l0_3.length c0_3]] w fun e w' => e=.returned (.bool r)∧Below w.heap.size w w':=by
 unfold fns_ask.f at h
 unfold askFid
 by_cases c0:q=0
 ·rw [if_pos c0] at h ⊢;exact fns_questions_1.calls _ _ _ _ _ _ _ _ hr0_3 hc0_3 h
 rw [if_neg c0] at h ⊢
 by_cases c1:q=1
 ·rw [if_pos c1] at h ⊢;exact fns_questions_2.calls _ _ _ _ _ _ _ _ hr0_3 hc0_3 h
 rw [if_neg c1] at h ⊢
 by_cases c2:q=2
 ·rw [if_pos c2] at h ⊢;exact fns_isInt.calls _ _ _ _ _ _ _ _ hr0_3 hc0_3 h
 rw [if_neg c2] at h ⊢
 by_cases c3:q=3
 ·rw [if_pos c3] at h ⊢;exact fns_questions_3.calls _ _ _ _ _ _ _ _ hr0_3 hc0_3 h
 rw [if_neg c3] at h ⊢
 by_cases c4:q=4
 ·rw [if_pos c4] at h ⊢;exact fns_questions_4.calls _ _ _ _ _ _ _ _ hr0_3 hc0_3 h
 rw [if_neg c4] at h ⊢
 by_cases c5:q=5
 ·rw [if_pos c5] at h ⊢;exact fns_questions_5.calls _ _ _ _ _ _ _ _ hr0_3 hc0_3 h
 rw [if_neg c5] at h ⊢
 by_cases c6:q=6
 ·rw [if_pos c6] at h ⊢;exact fns_isColl.calls _ _ _ _ _ _ _ _ hr0_3 hc0_3 h
 rw [if_neg c6] at h ⊢
 exact fns_questions_6.calls _ _ _ _ _ _ _ _ hr0_3 hc0_3 h
def askTab:Array Value:=#[.func (.func 33) #[] #[],.func (.func 34) #[] #[],.func (.func 35) #[] #[],.func (.func 36) #[] #[],.func (.func 37) #[] #[],.func (.func 38) #[] #[],.func (.func 39) #[] #[],.func (.func 40) #[] #[]]
set_option maxRecDepth 100000 in
theorem fns_questions.calls (w:World):Calls Tryd.prog 20 #[] w fun e w' => e=.returned (.slice (some ⟨w.heap.size,0,none⟩) 8 8)∧w'=w.alloc (.cells askTab 52):=by
 go_enter Tryd.func20,Tryd.ntmps20
 go_wp2
 go_ret
 exact ⟨rfl,rfl⟩
theorem fit_zero (k:Nat) (a0:Int) (a1_0:Int) (a1_1:Int) (a1_2:ByteArray) (l1_3:List S24) (h:fns_fit.f k a0 a1_0 a1_1 a1_2 l1_3=some 0):0≤a0∧a0≤7:=by
 unfold fns_fit.f fns_known.f at h
 by_cases c:a0 ≥ 0
 ·rw [if_pos c,Option.bind_some] at h
  by_cases d:a0≤7
  ·exact ⟨c,d⟩
  ·rw [decide_eq_false d,if_neg (by decide)] at h;cases h
 ·rw [if_neg c,Option.bind_some,if_neg (by decide)] at h;cases h
set_option maxHeartbeats 1600000 in
set_option maxRecDepth 100000 in
theorem fns_Is.calls3 (k:Nat) (a0:Int) (a1_0:Int) (a1_1:Int) (a1_2:ByteArray) (A1_3:Option Addr) (c1_3:Nat) (l1_3:List S24) (r1:Bool) (r2:Int) (w:World) (hL:LaidW w) (hr1_3:Kd.C k24 w A1_3 l1_3.length l1_3) (hc1_3:l1_3.length≤c1_3) (h:fns_Is.f k a0 a1_0 a1_1 a1_2 l1_3=some (r1,r2)) (hq:a0=3:=by rfl) :
  Calls Tryd.prog 8 #[.int .i64 a0,.agg #[.int .i64 a1_0,.int .i64 a1_1,.string a1_2,.slice A1_3 l1_3.length c1_3]] w fun e w' => e=.returned (.tuple #[.bool r1,.int .i64 r2])∧Below w.heap.size w w':=by
 have HQ3:=Aside0.mk hq
 clear hq
 have HLT:=Aside0.mk hL
 have HR:=Aside0.mk hr1_3
 have HC:=Aside0.mk hc1_3
 clear hL hr1_3 hc1_3
 obtain ⟨e0,he,h⟩:=Option.bind_eq_some_iff.1 h
 have HE:=Aside0.mk he
 by_cases c0:e0=0
 ·subst c0
  rw [if_pos rfl] at h
  obtain ⟨h0,h7⟩:=fit_zero k a0 a1_0 a1_1 a1_2 l1_3 he
  obtain ⟨b,hb,h⟩:=Option.bind_eq_some_iff.1 h
  simp only [Option.some.injEq,Prod.mk.injEq] at h
  obtain ⟨rfl,rfl⟩:=h
  have HQ:=Aside0.mk hb
  clear hb he
  go_enter Tryd.func8,Tryd.ntmps8
  go_wp2_with (go_at_call 19;refine (fns_fit.calls k a0 a1_0 a1_1 a1_2 A1_3 c1_3 l1_3 0 _ (LaidW.below HLT.out ((Below.refl _ w).alloc (Nat.le_refl _) _)) (Kd.C_alloc HR.out _) HC.out HE.out).mono ?_;rintro e w2 ⟨rfl,hb2⟩;have HB2:=Aside0.mk hb2;clear hb2)
  have hz:w.heap.size < w2.heap.size:=by have:=HB2.out.size;simp at this;omega
  have d0:w2.cell? ⟨w.heap.size,0,none⟩=some (.int .i64 a1_0):=(HB2.out.cell (by simp)).trans (World.cell?_alloc_new w _ _ 0)
  have d1:w2.cell? ⟨w.heap.size,1,none⟩=some (.int .i64 a1_1):=(HB2.out.cell (by simp)).trans (World.cell?_alloc_new w _ _ 1)
  have d2:w2.cell? ⟨w.heap.size,2,none⟩=some (.string a1_2):=(HB2.out.cell (by simp)).trans (World.cell?_alloc_new w _ _ 2)
  have d3:w2.cell? ⟨w.heap.size,3,none⟩=some (.slice A1_3 l1_3.length c1_3):=(HB2.out.cell (by simp)).trans (World.cell?_alloc_new w _ _ 3)
  have HB3:=Aside0.mk (((Below.refl w.heap.size w).alloc (Nat.le_refl _) (.cells #[.int .i64 a1_0,.int .i64 a1_1,.string a1_2,.slice A1_3 l1_3.length c1_3] 24)).trans (HB2.out.mono (by simp)))
  have HR3:=Aside0.mk (Kd.C_below (Kd.C_alloc HR.out _) HB2.out)
  clear HB2 HR HE
  clear h0 h7
  have hq:=HQ3.out
  clear HQ3
  subst hq
  have ht:∀ W:World,(W.alloc (.cells askTab 52)).cell? ⟨W.heap.size,3,none⟩=some (.func (.func 36) #[] #[]):=fun W => World.cell?_alloc_new W _ _ 3
  refine start_ (n:=9) (S:=(fun w' => w'.cell? ⟨w.heap.size,0,none⟩=some (.int .i64 a1_0)∧w'.cell? ⟨w.heap.size,1,none⟩=some (.int .i64 a1_1)∧w'.cell? ⟨w.heap.size,2,none⟩=some (.string a1_2)∧w'.cell? ⟨w.heap.size,3,none⟩=some (.slice A1_3 l1_3.length c1_3))) (ds:=[]) #[false,false,false,false,false,false,false,false,false] (by kernel_rfl) rfl rfl ?_ (fun hHeld => ?_)
  ·(try dsimp only);(first|((refine ⟨(hb4.cell ?_).trans ?_,(hb4.cell ?_).trans ?_,(hb4.cell ?_).trans ?_,(hb4.cell ?_).trans ?_⟩) <;> first|(simp;omega)|go_keep)|go_keep)
  refine pure_ (i:=1) (N:=some 14) (v:=?_) (a':=?_) #[false,true,false,false,false,false,false,false,false] rfl rfl (by kernel_rfl) (fun _ _ _ h => h) (Or.inl ⟨by rfl,?_⟩) ?_ ?_
  rotate_left
  ·(intro w';go_simp;with_reducible rfl)
  rotate_left
  ·(first|(simp only [Act.put,List.setIfInBounds_toArray,List.set_cons_zero,List.set_cons_succ];rfl)|rfl)
  refine take_ (i:=5) (N:=some 18) (v:=?_) (a':=?_) #[false,true,false,false,false,true,false,false,false] rfl rfl (by kernel_rfl) (fun _ _ _ h => h) (Or.inl ⟨by rfl,?_⟩) hHeld ?_ ?_
  rotate_left
  ·(rintro w' ⟨s0,s1,s2,s3⟩;go_simp;with_reducible rfl)
  rotate_left
  ·(first|(simp only [Act.put,List.setIfInBounds_toArray,List.set_cons_zero,List.set_cons_succ];rfl)|rfl)
  refine one_ (i:=0) (N:=some 13) #[true,true,false,false,false,true,false,false,false] rfl rfl (by kernel_rfl) (by simp) (fun K hK => ?_)
  go_simp
  (go_at_call 20;refine (fns_questions.calls _).mono ?_;rintro e w3 ⟨rfl,rfl⟩)
  (try go_wp2_with fail)
  refine hK.out _ _ ?_ (fun hHeld => ?_)
  ·(try dsimp only);(first|((refine ⟨(hb4.cell ?_).trans ?_,(hb4.cell ?_).trans ?_,(hb4.cell ?_).trans ?_,(hb4.cell ?_).trans ?_⟩) <;> first|(simp;omega)|go_keep)|go_keep)
  clear hK K
  refine norm_ (a':=?_) ?_ ?_
  rotate_left
  ·(first|(simp only [Act.put,List.setIfInBounds_toArray,List.set_cons_zero,List.set_cons_succ];rfl)|rfl)
  refine pure_ (i:=2) (N:=some 15) (v:=?_) (a':=?_) #[true,true,true,false,false,true,false,false,false] rfl rfl (by kernel_rfl) (fun _ _ _ h => h) (Or.inl ⟨by rfl,?_⟩) ?_ ?_
  rotate_left
  ·(intro w';go_simp;with_reducible rfl)
  rotate_left
  ·(first|(simp only [Act.put,List.setIfInBounds_toArray,List.set_cons_zero,List.set_cons_succ];rfl)|rfl)
  refine pure_ (i:=3) (N:=some 16) (v:=?_) (a':=?_) #[true,true,true,true,false,true,false,false,false] rfl rfl (by kernel_rfl) (fun _ _ _ h => h) (Or.inl ⟨by rfl,?_⟩) ?_ ?_
  rotate_left
  ·(intro w';go_simp;with_reducible rfl)
  rotate_left
  ·(first|(simp only [Act.put,List.setIfInBounds_toArray,List.set_cons_zero,List.set_cons_succ];rfl)|rfl)
  refine one_ (i:=4) (N:=some 17) #[true,true,true,true,true,true,false,false,false] rfl rfl (by kernel_rfl) (by simp) (fun K hK => ?_)
  go_simp
  refine hK.out _ _ ?_ (fun hHeld => ?_)
  ·(try dsimp only);(first|((refine ⟨(hb4.cell ?_).trans ?_,(hb4.cell ?_).trans ?_,(hb4.cell ?_).trans ?_,(hb4.cell ?_).trans ?_⟩) <;> first|(simp;omega)|go_keep)|go_keep)
  clear hK K
  refine norm_ (a':=?_) ?_ ?_
  rotate_left
  ·(first|(simp only [Act.put,List.setIfInBounds_toArray,List.set_cons_zero,List.set_cons_succ];rfl)|rfl)
  refine one_ (i:=6) (N:=some 19) #[true,true,true,true,true,true,true,false,false] rfl rfl (by kernel_rfl) (by simp) (fun K hK => ?_)
  go_simp
  (go_at_call 36;refine (ask_calls 3 a1_0 a1_1 a1_2 A1_3 c1_3 l1_3 b _ (Kd.C_below HR3.out (by repeat (first|exact Below.refl _ _|apply below_alloc|apply pw_below_drewN|apply below_drew1))) HC.out HQ.out).mono ?_;rintro e w4 ⟨rfl,hb4⟩)
  (try go_wp2_with fail)
  refine hK.out _ _ ?_ (fun hHeld => ?_)
  ·(try dsimp only);(first|((refine ⟨(hb4.cell ?_).trans ?_,(hb4.cell ?_).trans ?_,(hb4.cell ?_).trans ?_,(hb4.cell ?_).trans ?_⟩) <;> first|(simp;omega)|go_keep)|go_keep)
  clear hK K
  refine norm_ (a':=?_) ?_ ?_
  rotate_left
  ·(first|(simp only [Act.put,List.setIfInBounds_toArray,List.set_cons_zero,List.set_cons_succ];rfl)|rfl)
  refine pure_ (i:=7) (N:=some 4) (v:=?_) (a':=?_) #[true,true,true,true,true,true,true,true,false] rfl rfl (by kernel_rfl) (fun _ _ _ h => h) (Or.inl ⟨by rfl,?_⟩) ?_ ?_
  rotate_left
  ·(intro w';go_simp;with_reducible rfl)
  rotate_left
  ·(first|(simp only [Act.put,List.setIfInBounds_toArray,List.set_cons_zero,List.set_cons_succ];rfl)|rfl)
  refine pure_ (i:=8) (N:=some 5) (v:=?_) (a':=?_) #[true,true,true,true,true,true,true,true,true] rfl rfl (by kernel_rfl) (fun _ _ _ h => h) (Or.inl ⟨by rfl,?_⟩) ?_ ?_
  rotate_left
  ·(intro w';go_simp;with_reducible rfl)
  rotate_left
  ·(first|(simp only [Act.put,List.setIfInBounds_toArray,List.set_cons_zero,List.set_cons_succ];rfl)|rfl)
  refine done_ (by kernel_rfl) ?_
  go_wp2
  go_ret2
  exact ⟨rfl,below_step (by repeat (first|(with_reducible first|exact HB3.out|apply below_alloc|apply pw_below_drewN|apply below_drew1)|exact HB3.out)) hb4⟩
 ·rw [if_neg c0] at h
  simp only [Option.some.injEq,Prod.mk.injEq] at h
  obtain ⟨rfl,rfl⟩:=h
  have e1:(e0 != 0)=true:=bne_iff_ne.2 c0
  go_enter Tryd.func8,Tryd.ntmps8
  go_wp2_with (go_at_call 19;refine (fns_fit.calls k a0 a1_0 a1_1 a1_2 A1_3 c1_3 l1_3 e0 _ (LaidW.below HLT.out ((Below.refl _ w).alloc (Nat.le_refl _) _)) (Kd.C_alloc HR.out _) HC.out HE.out).mono ?_;rintro e w2 ⟨rfl,hb2⟩;have HB2:=Aside0.mk hb2;clear hb2)
  go_ret2
  exact ⟨rfl,((Below.refl w.heap.size w).alloc (Nat.le_refl _) _).trans (HB2.out.mono (by simp))⟩

end Go.Proofs.YtgmmoagclkmeaaaDoor.XH
