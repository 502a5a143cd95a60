-- cut down by bundle.py (the session's own program) from the texts YtgmmoagclkmeaaaDoorXH2, to what this claim names
import Derived.Test.YtgmmoagclkmeaaaDoorZFnsOneXH0
import Derived.Test.YtgmmoagclkmeaaaDoorZFnsOneXH1
-- laid by xprint.py (the session's own program) out of the translation; Lean checks it
namespace Go.Proofs.YtgmmoagclkmeaaaDoor.XH
open Go.RowKit Go.Proofs.YtgmmoagclkmeaaaDoorW.PrintWords Go.Proofs.YtgmmoagclkmeaaaDoorW.PrintLast Go.Proofs.YtgmmoagclkmeaaaDoorW.PrintMore
attribute [local go_sem] max2_int min2_int max_two min_two max_three min_three max_four min_four   -- for this text's walks alone
set_option linter.unusedVariables false
set_option linter.unusedSimpArgs false

def cmpI (x y:Int):Int:=if x < y then -1 else if x > y then 1 else 0
mutual
def cmpV:S24→S24→Int
 | ⟨k,n,t,l⟩,b =>
  if k=b.f0 then (if k=1 ∨ k=2 then cmpI n b.f1 else if k=3 then Lib.compareBytes t.data.toList b.f2.data.toList else if k=4 ∨ k=5 ∨ k=6 then cmpL l b.f3 else 0) else cmpI k b.f0
def cmpL:List S24→List S24→Int
 | [],[] => 0
 | [],_ :: _ => -1
 | _ :: _,[] => 1
 | a :: l,b :: m => if cmpV a b=0 then cmpL l m else cmpV a b
end
def value_Compare.f (a0_0:Int) (a0_1:Int) (a0_2:ByteArray) (l0_3:List S24) (a1_0:Int) (a1_1:Int) (a1_2:ByteArray) (l1_3:List S24):Option Int:=some (cmpV ⟨a0_0,a0_1,a0_2,l0_3⟩ ⟨a1_0,a1_1,a1_2,l1_3⟩)
theorem cmpL_drop (l m:List S24) (k:Nat) (h1:k < l.length) (h2:k < m.length):cmpL (l.drop k) (m.drop k)=if cmpV l[k] m[k]=0 then cmpL (l.drop (k+1)) (m.drop (k+1)) else cmpV l[k] m[k]:=by
 rw [List.drop_eq_getElem_cons h1,List.drop_eq_getElem_cons h2,cmpL]
def CmpOk (a b:S24):Prop:=∀ (A0:Option Addr) (c0:Nat) (A1:Option Addr) (c1:Nat) (w:World),Kd.C k24 w A0 a.f3.length a.f3→a.f3.length≤c0→Kd.C k24 w A1 b.f3.length b.f3→b.f3.length≤c1 →
  Calls Tryd.prog 43 #[.agg #[.int .i64 a.f0,.int .i64 a.f1,.string a.f2,.slice A0 a.f3.length c0],.agg #[.int .i64 b.f0,.int .i64 b.f1,.string b.f2,.slice A1 b.f3.length c1]] w fun e w' => e=.returned (.int .i64 (cmpV a b))∧Below w.heap.size w w'
def CfRel (l m:List S24) (w:World) (i:Value) (wr:World):Prop:=∃ k:Nat,k≤l.length∧k≤m.length∧i=.int .i64 k∧Below w.heap.size w wr∧cmpL (l.drop k) (m.drop k)=cmpL l m
set_option maxHeartbeats 800000 in
set_option maxRecDepth 100000 in
theorem compareFunc (l m:List S24) (ih:∀ a ∈ l,∀ b,CmpOk a b) (A0:Option Addr) (c0:Nat) (A1:Option Addr) (c1:Nat) (w:World) (hr0:Kd.C k24 w A0 l.length l) (hc0:l.length≤c0) (hr1:Kd.C k24 w A1 m.length m) (hc1:m.length≤c1) :
  Calls Tryd.prog 68 #[.slice A0 l.length c0,.slice A1 m.length c1,.func (.func 43) #[] #[]] w fun e w' => e=.returned (.int .i64 (cmpL l m))∧Below w.heap.size w w':=by
 have hl0:l.length≤9223372036854775807:=Kd.C_max hr0
 have hl1:m.length≤9223372036854775807:=Kd.C_max hr1
 have IH:=Aside0.mk ih
 have HR0:=Aside0.mk hr0
 have HR1:=Aside0.mk hr1
 clear ih hr0 hr1
 go_enter Tryd.func68,Tryd.ntmps68
 go_wp2
 go_loopw [13] (fun i wr => CfRel l m w i wr) (fun i _ => l.length - (intOf i).toNat)
 case atStart => exact ⟨0,Nat.zero_le _,Nat.zero_le _,rfl,Below.refl _ _,rfl⟩
 case round =>
  obtain ⟨k,hk0,hk1,rfl,hb,hu⟩:=hrel
  have HB:=Aside0.mk hb
  have HU:=Aside0.mk hu
  clear hb hu
  by_cases hlt:k < l.length
  ·obtain ⟨ad,A3,c3,rfl,hx,hl3,hr3⟩:=el24 HR0.out HB.out k hlt
   obtain ⟨hx0,hx1,hx2,hx3⟩:=hx
   by_cases hge:k < m.length
   ·obtain ⟨ad2,A4,c4,rfl,hy,hl4,hr4⟩:=el24 HR1.out HB.out k hge
    obtain ⟨hy0,hy1,hy2,hy3⟩:=hy
    have b2:=World.block_lt_of_cell? wr _ hy0
    have hz0:∀ o,(wr.alloc o).cell? (ad2.add (k * 4))=_:=fun o => (World.cell?_alloc_lt wr o _ b2).trans hy0
    have hz1:∀ o,(wr.alloc o).cell? ⟨(ad2.add (k * 4)).block,(ad2.add (k * 4)).off+1,none⟩=_:=fun o => (World.cell?_alloc_lt wr o ⟨(ad2.add (k * 4)).block,(ad2.add (k * 4)).off+1,none⟩ b2).trans hy1
    have hz2:∀ o,(wr.alloc o).cell? ⟨(ad2.add (k * 4)).block,(ad2.add (k * 4)).off+2,none⟩=_:=fun o => (World.cell?_alloc_lt wr o ⟨(ad2.add (k * 4)).block,(ad2.add (k * 4)).off+2,none⟩ b2).trans hy2
    have hz3:∀ o,(wr.alloc o).cell? ⟨(ad2.add (k * 4)).block,(ad2.add (k * 4)).off+3,none⟩=_:=fun o => (World.cell?_alloc_lt wr o ⟨(ad2.add (k * 4)).block,(ad2.add (k * 4)).off+3,none⟩ b2).trans hy3
    clear hy0 hy1 hy2 hy3 b2
    have hg:decide (m.length≤k)=false:=decide_eq_false (by omega)
    have hm:rd_T24 l (k:Int) ∈ l:=by rw [rd_get24 l k hlt];exact List.getElem_mem _
    by_cases hq:cmpV (rd_T24 l (k:Int)) (rd_T24 m (k:Int))=0
    ·have hq2:(cmpV (rd_T24 l (k:Int)) (rd_T24 m (k:Int)) != 0)=false:=by rw [hq];rfl
     have HQ:=Aside0.mk hq
     clear hq
     go_wp2_with (go_at_call 43;refine ((IH.out _ hm _) _ _ _ _ _ (Kd.C_alloc (Kd.C_alloc hr3 _) _) hl3 (Kd.C_alloc (Kd.C_alloc hr4 _) _) hl4).mono ?_;rintro e w2 ⟨rfl,hb2⟩;have HB2:=Aside0.mk (HB.out.trans (((((Below.refl _ wr).alloc (Nat.le_refl _) _).alloc (by simp) _).trans (hb2.mono (by simp;omega))).mono HB.out.size));clear hb2)
     go_roundw
     case rel =>
      refine ⟨k+1,by omega,by omega,by go_num,HB2.out,?_⟩
      have hq:=HQ.out
      rw [rd_get24 l k hlt,rd_get24 m k hge] at hq
      rw [← HU.out,cmpL_drop l m k hlt hge,if_pos hq]
     case measure => simp [intOf];omega
    ·have hq2:(cmpV (rd_T24 l (k:Int)) (rd_T24 m (k:Int)) != 0)=true:=by rw [bne_iff_ne];exact hq
     have HQ:=Aside0.mk hq
     clear hq
     go_wp2_with (go_at_call 43;refine ((IH.out _ hm _) _ _ _ _ _ (Kd.C_alloc (Kd.C_alloc hr3 _) _) hl3 (Kd.C_alloc (Kd.C_alloc hr4 _) _) hl4).mono ?_;rintro e w2 ⟨rfl,hb2⟩;have HB2:=Aside0.mk (HB.out.trans (((((Below.refl _ wr).alloc (Nat.le_refl _) _).alloc (by simp) _).trans (hb2.mono (by simp;omega))).mono HB.out.size));clear hb2)
     go_ret
     refine ⟨?_,HB2.out⟩
     have hq:=HQ.out
     rw [rd_get24 l k hlt,rd_get24 m k hge] at hq
     rw [← HU.out,cmpL_drop l m k hlt hge,if_neg hq,rd_get24 l k hlt,rd_get24 m k hge]
     rfl
   ·have hg:decide (m.length≤k)=true:=decide_eq_true (by omega)
    go_wp2
    go_ret
    refine ⟨?_,HB.out.alloc HB.out.size _⟩
    rw [← HU.out,List.drop_eq_nil_of_le (show m.length≤k by omega),List.drop_eq_getElem_cons hlt,cmpL]
    rfl
  ·obtain rfl:k=l.length:=by omega
   by_cases hlm:l.length < m.length
   ·go_wp2
    go_ret
    refine ⟨?_,HB.out⟩
    rw [← HU.out,List.drop_eq_nil_of_le (Nat.le_refl _),List.drop_eq_getElem_cons hlm,cmpL]
    rfl
   ·go_wp2
    go_ret
    refine ⟨?_,HB.out⟩
    rw [← HU.out,List.drop_eq_nil_of_le (Nat.le_refl _),List.drop_eq_nil_of_le (show m.length≤l.length by omega),cmpL]
    rfl
theorem cmp_int (a b:Int):cmp_Compare_int.f a b=some (cmpI a b):=by
 simp [cmp_Compare_int.f,cmp_isNaN_int.f,cmpI]
 split <;> (try split) <;> rfl
theorem cmp_int64 (a b:Int):cmp_Compare_int64.f a b=some (cmpI a b):=by
 simp [cmp_Compare_int64.f,cmp_isNaN_int64.f,cmpI]
 split <;> (try split) <;> rfl
set_option maxHeartbeats 1600000 in
set_option maxRecDepth 100000 in
theorem cmpOk_step (a b:S24) (ih:∀ x ∈ a.f3,∀ y,CmpOk x y):CmpOk a b:=by
 intro A0 c0 A1 c1 w hr0 hc0 hr1 hc1
 obtain ⟨k0,n0,t0,l0⟩:=a
 obtain ⟨k1,n1,t1,l1⟩:=b
 simp only at hr0 hc0 hr1 hc1 ih ⊢
 have IH:=Aside0.mk ih
 have HR0:=Aside0.mk hr0
 have HR1:=Aside0.mk hr1
 clear ih hr0 hr1
 by_cases hk:k0=k1
 ·subst hk
  by_cases hk:k0=1
  ·subst hk
   have HE:Aside0 (cmpV ⟨1,n0,t0,l0⟩ ⟨1,n1,t1,l1⟩=cmpI n0 n1):=⟨by simp [cmpV]⟩
   rw [HE.out]
   go_enter Tryd.func43,Tryd.ntmps43
   go_wp2_with (go_at_call 66;refine (cmp_Compare_int64.calls n0 n1 _ _ (cmp_int64 n0 n1)).mono ?_;rintro e w2 ⟨rfl,⟨nd,rfl⟩⟩)
   go_ret
   exact ⟨rfl,pw_below_drewN (((Below.refl _ w).alloc (Nat.le_refl _) _).alloc (by simp) _) _⟩
  have e1:(k0 == 1)=false:=beq_eq_false_iff_ne.2 hk
  have n1_:=Aside0.mk hk
  clear hk
  by_cases hk:k0=2
  ·subst hk
   have HE:Aside0 (cmpV ⟨2,n0,t0,l0⟩ ⟨2,n1,t1,l1⟩=cmpI n0 n1):=⟨by simp [cmpV]⟩
   rw [HE.out]
   go_enter Tryd.func43,Tryd.ntmps43
   go_wp2_with (go_at_call 66;refine (cmp_Compare_int64.calls n0 n1 _ _ (cmp_int64 n0 n1)).mono ?_;rintro e w2 ⟨rfl,⟨nd,rfl⟩⟩)
   go_ret
   exact ⟨rfl,pw_below_drewN (((Below.refl _ w).alloc (Nat.le_refl _) _).alloc (by simp) _) _⟩
  have e2:(k0 == 2)=false:=beq_eq_false_iff_ne.2 hk
  have n2_:=Aside0.mk hk
  clear hk
  by_cases hk:k0=3
  ·subst hk
   have HE:Aside0 (cmpV ⟨3,n0,t0,l0⟩ ⟨3,n1,t1,l1⟩=Lib.compareBytes t0.data.toList t1.data.toList):=⟨by simp [cmpV]⟩
   rw [HE.out]
   go_enter Tryd.func43,Tryd.ntmps43
   go_wp2_with (go_at_call 67;refine (Tryd.strings_Compare t0 t1 _).mono ?_;rintro e w2 ⟨rfl,rfl⟩)
   go_ret
   exact ⟨rfl,(((Below.refl _ w).alloc (Nat.le_refl _) _).alloc (by simp) _)⟩
  have e3:(k0 == 3)=false:=beq_eq_false_iff_ne.2 hk
  have n3_:=Aside0.mk hk
  clear hk
  by_cases hk:k0=4
  ·subst hk
   have HE:Aside0 (cmpV ⟨4,n0,t0,l0⟩ ⟨4,n1,t1,l1⟩=cmpL l0 l1):=⟨by simp [cmpV]⟩
   rw [HE.out]
   go_enter Tryd.func43,Tryd.ntmps43
   go_wp2_with (go_at_call 68;refine (compareFunc l0 l1 IH.out _ _ _ _ _ (Kd.C_alloc (Kd.C_alloc HR0.out _) _) hc0 (Kd.C_alloc (Kd.C_alloc HR1.out _) _) hc1).mono ?_;rintro e w2 ⟨rfl,hb2⟩)
   go_ret
   exact ⟨rfl,(((Below.refl _ w).alloc (Nat.le_refl _) _).alloc (by simp) _).trans (hb2.mono (by simp;omega))⟩
  have e4:(k0 == 4)=false:=beq_eq_false_iff_ne.2 hk
  have n4_:=Aside0.mk hk
  clear hk
  by_cases hk:k0=5
  ·subst hk
   have HE:Aside0 (cmpV ⟨5,n0,t0,l0⟩ ⟨5,n1,t1,l1⟩=cmpL l0 l1):=⟨by simp [cmpV]⟩
   rw [HE.out]
   go_enter Tryd.func43,Tryd.ntmps43
   go_wp2_with (go_at_call 68;refine (compareFunc l0 l1 IH.out _ _ _ _ _ (Kd.C_alloc (Kd.C_alloc HR0.out _) _) hc0 (Kd.C_alloc (Kd.C_alloc HR1.out _) _) hc1).mono ?_;rintro e w2 ⟨rfl,hb2⟩)
   go_ret
   exact ⟨rfl,(((Below.refl _ w).alloc (Nat.le_refl _) _).alloc (by simp) _).trans (hb2.mono (by simp;omega))⟩
  have e5:(k0 == 5)=false:=beq_eq_false_iff_ne.2 hk
  have n5_:=Aside0.mk hk
  clear hk
  by_cases hk:k0=6
  ·subst hk
   have HE:Aside0 (cmpV ⟨6,n0,t0,l0⟩ ⟨6,n1,t1,l1⟩=cmpL l0 l1):=⟨by simp [cmpV]⟩
   rw [HE.out]
   go_enter Tryd.func43,Tryd.ntmps43
   go_wp2_with (go_at_call 68;refine (compareFunc l0 l1 IH.out _ _ _ _ _ (Kd.C_alloc (Kd.C_alloc HR0.out _) _) hc0 (Kd.C_alloc (Kd.C_alloc HR1.out _) _) hc1).mono ?_;rintro e w2 ⟨rfl,hb2⟩)
   go_ret
   exact ⟨rfl,(((Below.refl _ w).alloc (Nat.le_refl _) _).alloc (by simp) _).trans (hb2.mono (by simp;omega))⟩
  have e6:(k0 == 6)=false:=beq_eq_false_iff_ne.2 hk
  have n6_:=Aside0.mk hk
  clear hk
  have HE:Aside0 (cmpV ⟨k0,n0,t0,l0⟩ ⟨k0,n1,t1,l1⟩=0):=⟨by simp [cmpV,n1_.out,n2_.out,n3_.out,n4_.out,n5_.out,n6_.out]⟩
  rw [HE.out]
  go_enter Tryd.func43,Tryd.ntmps43
  go_wp2_with fail
  go_ret
  exact ⟨rfl,(((Below.refl _ w).alloc (Nat.le_refl _) _).alloc (by simp) _)⟩
 ·have h1:(k0 != k1)=true:=by rw [bne_iff_ne];exact hk
  have HE:Aside0 (cmpV ⟨k0,n0,t0,l0⟩ ⟨k1,n1,t1,l1⟩=cmpI k0 k1):=⟨by simp only [cmpV];rw [if_neg hk]⟩
  clear hk
  rw [HE.out]
  go_enter Tryd.func43,Tryd.ntmps43
  go_wp2_with (go_at_call 65;refine (cmp_Compare_int.calls k0 k1 _ _ (cmp_int k0 k1)).mono ?_;rintro e w2 ⟨rfl,⟨nd,rfl⟩⟩)
  go_ret
  exact ⟨rfl,pw_below_drewN (((Below.refl _ w).alloc (Nat.le_refl _) _).alloc (by simp) _) _⟩
theorem cmpOk_all (n:Nat):∀ a:S24,SizeOf.sizeOf a≤n→∀ b,CmpOk a b:=by
 induction n with
 | zero => intro a h;cases a;simp at h
 | succ n ih =>
  intro a h b
  refine cmpOk_step a b (fun x hx y => ih x ?_ y)
  have h1:=List.sizeOf_lt_of_mem hx
  obtain ⟨k0,n0,t0,l0⟩:=a
  simp at h h1
  omega
theorem value_Compare.calls (a0_0:Int) (a0_1:Int) (a0_2:ByteArray) (A0_3:Option Addr) (c0_3:Nat) (l0_3:List S24) (a1_0:Int) (a1_1:Int) (a1_2:ByteArray) (A1_3:Option Addr) (c1_3:Nat) (l1_3:List S24) (r:Int) (w:World) (hr0_3:Kd.C k24 w A0_3 l0_3.length l0_3) (hc0_3:l0_3.length≤c0_3) (hr1_3:Kd.C k24 w A1_3 l1_3.length l1_3) (hc1_3:l1_3.length≤c1_3) (h:value_Compare.f a0_0 a0_1 a0_2 l0_3 a1_0 a1_1 a1_2 l1_3=some r) :
  Calls Tryd.prog 43 #[.agg #[.int .i64 a0_0,.int .i64 a0_1,.string a0_2,.slice A0_3 l0_3.length c0_3],.agg #[.int .i64 a1_0,.int .i64 a1_1,.string a1_2,.slice A1_3 l1_3.length c1_3]] w fun e w' => e=.returned (.int .i64 r)∧Below w.heap.size w w':=by
 obtain rfl:=Option.some.inj h
 exact cmpOk_all _ ⟨a0_0,a0_1,a0_2,l0_3⟩ (Nat.le_refl _) ⟨a1_0,a1_1,a1_2,l1_3⟩ A0_3 c0_3 A1_3 c1_3 w hr0_3 hc0_3 hr1_3 hc1_3

end Go.Proofs.YtgmmoagclkmeaaaDoor.XH
