-- cut down by bundle.py (the session's own program) from the texts YtgmmoagclkmeaaaDoorXH15, to what this claim names
import Derived.Test.YtgmmoagclkmeaaaDoorZFnsOneXH0
import Derived.Test.YtgmmoagclkmeaaaDoorZFnsOneXH4
import Derived.Test.YtgmmoagclkmeaaaDoorZFnsOneXH11
import Derived.Test.YtgmmoagclkmeaaaDoorZFnsOneXH13
import Derived.Test.YtgmmoagclkmeaaaDoorZFnsOneXH14
-- laid by xprint.py (the session's own program) out of the translation; Lean checks it
namespace Go.Proofs.YtgmmoagclkmeaaaDoor.XH
open Go.RowKit Go.Proofs.YtgmmoagclkmeaaaDoorW.PrintWords Go.Proofs.YtgmmoagclkmeaaaDoorW.PrintLast Go.Proofs.YtgmmoagclkmeaaaDoorW.PrintMore
attribute [local go_sem] max2_int min2_int max_two min_two max_three min_three max_four min_four   -- for this text's walks alone
set_option linter.unusedVariables false
set_option linter.unusedSimpArgs false

def cntFrom (s:ByteArray):Nat→Nat→Nat
 | 0,_ => 0
 | b+1,pos => if pos < s.size then 1+cntFrom s b (pos+(Utf8.decode s pos).2) else 0
set_option maxRecDepth 100000 in
set_option maxHeartbeats 1600000 in
theorem size_list (a0_0 a0_1:Int) (a0_2:ByteArray) (A0_3:Option Addr) (c0_3:Nat) (l0_3:List S24) (w:World) (h3:a0_0≠3) (h6:a0_0≠6) :
  Calls Tryd.prog 55 #[.agg #[.int .i64 a0_0,.int .i64 a0_1,.string a0_2,.slice A0_3 l0_3.length c0_3]] w fun e w' => ∃ A c,e=.returned (.agg #[.int .i64 2,.int .i64 ((l0_3.length:Int)),.string ⟨#[]⟩,.slice A 0 c])∧Kd.C k24 w' A 0 []∧Below w.heap.size w w':=by
 have e3:(a0_0 == 3)=false:=beq_eq_false_iff_ne.2 h3
 have e6:(a0_0 == 6)=false:=beq_eq_false_iff_ne.2 h6
 go_enter Tryd.func55,Tryd.ntmps55
 go_wp2_with (go_at_call 45;refine (fns_integer.calls ((l0_3.length:Int)) 2 ((l0_3.length:Int)) ⟨#[]⟩ [] _ rfl).mono ?_;rintro e w2 ⟨v2,rfl,hr2,hb2⟩;obtain ⟨A,c,rfl,_,hC⟩:=Kd.R_reads hr2;obtain ⟨B1,B2,hB⟩:=two_key _ a0_1 a0_2 _ w w2 hb2;have HB:=Aside0.mk hB;have HK:=Aside0.mk B2;clear hb2 hB hr2 hC;have y0:=blk_cell B2 0;have y1:=blk_cell B2 1;have y2:=blk_cell B2 2;have y3:=blk_cell B2 3;have g0:=blk_frozen B2 0;have g1:=blk_frozen B2 1;have g2:=blk_frozen B2 2;have g3:=blk_frozen B2 3;clear B1 B2)
 refine bodyPost_ret (results_cell_row rfl _ _ (w.heap.size+1) 24 #[.int .i64 2,.int .i64 ((l0_3.length:Int)),.string (⟨#[]⟩:ByteArray),.slice A 0 c] (0,0) _ rfl (by refine blk_put (cs:=#[.int .i64 2,.int .i64 ((l0_3.length:Int)),.string (⟨#[]⟩:ByteArray),.slice none 0 0]) ?_ 3 _ rfl;refine blk_put (cs:=#[.int .i64 2,.int .i64 ((l0_3.length:Int)),.string (⟨#[]⟩:ByteArray),.slice none 0 0]) ?_ 2 _ rfl;refine blk_put (cs:=#[.int .i64 2,.int .i64 0,.string (⟨#[]⟩:ByteArray),.slice none 0 0]) ?_ 1 _ rfl;refine blk_put (cs:=#[.int .i64 0,.int .i64 0,.string (⟨#[]⟩:ByteArray),.slice none 0 0]) ?_ 0 _ rfl;exact HK.out) Tryd.underlying24 rfl (by kernel_rfl)) rfl ?_
 exact ⟨A,c,rfl,C_empty _ _ _,by repeat (first|exact HB.out|refine below_set ?_ (by simp))⟩
set_option maxRecDepth 100000 in
set_option maxHeartbeats 1600000 in
theorem size_map (a0_0 a0_1:Int) (a0_2:ByteArray) (A0_3:Option Addr) (c0_3:Nat) (l0_3:List S24) (w:World) (h6:a0_0=6) (hl:l0_3.length≤9223372036854775807) :
  Calls Tryd.prog 55 #[.agg #[.int .i64 a0_0,.int .i64 a0_1,.string a0_2,.slice A0_3 l0_3.length c0_3]] w fun e w' => ∃ A c,e=.returned (.agg #[.int .i64 2,.int .i64 (Int.tdiv (l0_3.length:Int) 2),.string ⟨#[]⟩,.slice A 0 c])∧Kd.C k24 w' A 0 []∧Below w.heap.size w w':=by
 subst h6
 have hw:IntKind.i64.wrap (Int.tdiv (l0_3.length:Int) 2)=Int.tdiv (l0_3.length:Int) 2:=IntWalk.i64_in _ (by rw [Int.tdiv_eq_ediv_of_nonneg (by omega)];omega)
 go_enter Tryd.func55,Tryd.ntmps55
 go_wp2_with (go_at_call 45;refine (fns_integer.calls (Int.tdiv (l0_3.length:Int) 2) 2 (Int.tdiv (l0_3.length:Int) 2) ⟨#[]⟩ [] _ rfl).mono ?_;rintro e w2 ⟨v2,rfl,hr2,hb2⟩;obtain ⟨A,c,rfl,_,hC⟩:=Kd.R_reads hr2;obtain ⟨B1,B2,hB⟩:=two_key _ a0_1 a0_2 _ w w2 hb2;have HB:=Aside0.mk hB;have HK:=Aside0.mk B2;clear hb2 hB hr2 hC;have y0:=blk_cell B2 0;have y1:=blk_cell B2 1;have y2:=blk_cell B2 2;have y3:=blk_cell B2 3;have g0:=blk_frozen B2 0;have g1:=blk_frozen B2 1;have g2:=blk_frozen B2 2;have g3:=blk_frozen B2 3;clear B1 B2)
 refine bodyPost_ret (results_cell_row rfl _ _ (w.heap.size+1) 24 #[.int .i64 2,.int .i64 (Int.tdiv (l0_3.length:Int) 2),.string (⟨#[]⟩:ByteArray),.slice A 0 c] (0,0) _ rfl (by refine blk_put (cs:=#[.int .i64 2,.int .i64 (Int.tdiv (l0_3.length:Int) 2),.string (⟨#[]⟩:ByteArray),.slice none 0 0]) ?_ 3 _ rfl;refine blk_put (cs:=#[.int .i64 2,.int .i64 (Int.tdiv (l0_3.length:Int) 2),.string (⟨#[]⟩:ByteArray),.slice none 0 0]) ?_ 2 _ rfl;refine blk_put (cs:=#[.int .i64 2,.int .i64 0,.string (⟨#[]⟩:ByteArray),.slice none 0 0]) ?_ 1 _ rfl;refine blk_put (cs:=#[.int .i64 0,.int .i64 0,.string (⟨#[]⟩:ByteArray),.slice none 0 0]) ?_ 0 _ rfl;exact HK.out) Tryd.underlying24 rfl (by kernel_rfl)) rfl ?_
 exact ⟨A,c,rfl,C_empty _ _ _,by repeat (first|exact HB.out|refine below_set ?_ (by simp))⟩
def SzRel (s:ByteArray) (w:World) (v:Value) (wr:World):Prop:=∃ pos b n:Nat,wr.heap[w.heap.size+2]? = some (.stringIter s pos)∧wr.heap[w.heap.size+1]? = some (.cells #[.int .i64 0,.int .i64 0,.string ⟨#[]⟩,.slice none 0 0] 24 (0,0))∧Below w.heap.size w wr∧v=.int .i64 n∧n+cntFrom s b pos=cntFrom s s.size 0∧s.size≤pos+b∧n≤pos
theorem cntFrom_end (s:ByteArray) (b pos:Nat) (h:¬ pos < s.size):cntFrom s b pos=0:=by cases b <;> simp [cntFrom,h]
set_option maxRecDepth 100000 in
set_option maxHeartbeats 1600000 in
theorem size_text (a0_1:Int) (a0_2:ByteArray) (A0_3:Option Addr) (c0_3:Nat) (l0_3:List S24) (w:World) (hz:a0_2.size≤1048576) :
  Calls Tryd.prog 55 #[.agg #[.int .i64 3,.int .i64 a0_1,.string a0_2,.slice A0_3 l0_3.length c0_3]] w fun e w' => ∃ A c,e=.returned (.agg #[.int .i64 2,.int .i64 (cntFrom a0_2 a0_2.size 0:Nat),.string ⟨#[]⟩,.slice A 0 c])∧Kd.C k24 w' A 0 []∧Below w.heap.size w w':=by
 go_enter Tryd.func55,Tryd.ntmps55
 go_wp2
 go_loopw [3] (fun v wr => SzRel a0_2 w v wr) (fun _ wr => a0_2.size - wr.iterPos (w.heap.size+2))
 case atStart =>
  refine ⟨0,a0_2.size,0,?_,?_,?_,rfl,by simp,by omega,by omega⟩
  ·have:=World.iter_heap ((w.alloc (.cells #[.int .i64 3,.int .i64 a0_1,.string a0_2,.slice A0_3 l0_3.length c0_3] 24)).alloc (.cells #[.int .i64 0,.int .i64 0,.string ⟨#[]⟩,.slice none 0 0] 24)) a0_2 0
   simpa using this
  ·have:=blk_alloc (blk_new (w.alloc (.cells #[.int .i64 3,.int .i64 a0_1,.string a0_2,.slice A0_3 l0_3.length c0_3] 24)) (.cells #[.int .i64 0,.int .i64 0,.string ⟨#[]⟩,.slice none 0 0] 24)) (.stringIter a0_2 0)
   rw [show (w.alloc (.cells #[.int .i64 3,.int .i64 a0_1,.string a0_2,.slice A0_3 l0_3.length c0_3] 24)).heap.size=w.heap.size+1 by simp] at this
   exact this
  ·exact below_alloc (below_alloc (below_alloc (Below.refl _ _) _) _) (.stringIter a0_2 0)
 case round =>
  obtain ⟨pos,b,n,hi,hk,hb,rfl,hu,hp,hn⟩:=hrel
  have HI:=Aside0.mk hi
  have HK:=Aside0.mk hk
  have HB:=Aside0.mk hb
  clear hi hk hb
  by_cases hlt:pos < a0_2.size
  ·have hnx:∀ ty,(Instr.next (.pointer (some ⟨w.heap.size+2,0,none⟩)) true ty).run Tryd.prog wr=_:=fun ty => run_next_at ty HI.out hlt
   obtain ⟨b,rfl⟩:∃ m,b=m+1:=⟨b - 1,by omega⟩
   have hwd:=width_pos a0_2 pos hlt
   have hpn:pos < 1048576:=by omega
   have hw:IntKind.i64.wrap ((n:Int)+1)=(n:Int)+1:=IntWalk.i64_in _ (by omega)
   have HI2:=Aside0.mk (putIter_at HI.out a0_2 (pos+(Utf8.decode a0_2 pos).2))
   have HB2:=Aside0.mk (putIter_below (k:=w.heap.size+2) HB.out (by omega) a0_2 (pos+(Utf8.decode a0_2 pos).2))
   have HK2:=Aside0.mk ((show (putIter wr (w.heap.size+2) a0_2 (pos+(Utf8.decode a0_2 pos).2)).heap[w.heap.size+1]? = wr.heap[w.heap.size+1]? from (by unfold putIter;simp only [Array.getElem?_setIfInBounds];rw [if_neg (by omega)])).trans HK.out)
   go_wp2
   go_roundw
   case rel =>
    refine ⟨pos+(Utf8.decode a0_2 pos).2,b,n+1,HI2.out,HK2.out,HB2.out,by go_num,?_,by omega,by omega⟩
    rw [← hu,cntFrom,if_pos hlt];omega
   case measure =>
    rw [show (putIter wr (w.heap.size+2) a0_2 (pos+(Utf8.decode a0_2 pos).2)).iterPos (w.heap.size+2)=pos+(Utf8.decode a0_2 pos).2 from by simp only [World.iterPos,HI2.out],show wr.iterPos (w.heap.size+2)=pos from by simp only [World.iterPos,HI.out]]
    omega
  ·have hnx:∀ ty,(Instr.next (.pointer (some ⟨w.heap.size+2,0,none⟩)) true ty).run Tryd.prog wr=_:=fun ty => run_next_over ty HI.out hlt
   rw [cntFrom_end a0_2 b pos hlt,Nat.add_zero] at hu
   subst hu
   have h1:=blk_lt HK.out
   go_wp2_with (go_at_call 45;refine (fns_integer.calls (cntFrom a0_2 a0_2.size 0:Nat) 2 (cntFrom a0_2 a0_2.size 0:Nat) ⟨#[]⟩ [] _ rfl).mono ?_;rintro e w2 ⟨v2,rfl,hr2,hb2⟩;obtain ⟨A,c,rfl,_,hC⟩:=Kd.R_reads hr2;have HB3:=Aside0.mk (below_step HB.out hb2);have HK3:=Aside0.mk (blk_below HK.out hb2);clear hr2 hb2 hC;have y0:=blk_cell HK3.out 0;have y1:=blk_cell HK3.out 1;have y2:=blk_cell HK3.out 2;have y3:=blk_cell HK3.out 3;have g0:=blk_frozen HK3.out 0;have g1:=blk_frozen HK3.out 1;have g2:=blk_frozen HK3.out 2;have g3:=blk_frozen HK3.out 3)
   refine bodyPost_ret (results_cell_row rfl _ _ (w.heap.size+1) 24 #[.int .i64 2,.int .i64 (cntFrom a0_2 a0_2.size 0:Nat),.string (⟨#[]⟩:ByteArray),.slice A 0 c] (0,0) _ rfl (pu4 HK3) Tryd.underlying24 rfl (by kernel_rfl)) rfl ?_
   exact ⟨A,c,rfl,C_empty _ _ _,by repeat (first|exact HB3.out|refine below_set ?_ (by simp))⟩
def F1Rel (s:ByteArray) (w:World) (wr:World):Prop:=wr.heap[w.heap.size+2]? = some (.stringIter s 0)∧wr.heap[w.heap.size+1]? = some (.cells #[.int .i64 0,.int .i64 0,.string ⟨#[]⟩,.slice none 0 0] 24 (0,0))∧Below w.heap.size w wr
set_option maxRecDepth 100000 in
set_option maxHeartbeats 1600000 in
theorem first_text (a0_1:Int) (a0_2:ByteArray) (A0_3:Option Addr) (c0_3:Nat) (l0_3:List S24) (w:World) (hz:0 < a0_2.size) :
  Calls Tryd.prog 56 #[.agg #[.int .i64 3,.int .i64 a0_1,.string a0_2,.slice A0_3 l0_3.length c0_3]] w fun e w' => e=.returned (.agg #[.int .i64 3,.int .i64 0,.string (Utf8.encode (Utf8.decode a0_2 0).1),.slice none 0 0])∧Below w.heap.size w w':=by
 go_enter Tryd.func56,Tryd.ntmps56
 go_wp2
 go_loopw [4] (fun _ wr => F1Rel a0_2 w wr) (fun _ wr => 0)
 case atStart =>
  refine ⟨?_,?_,?_⟩
  ·have:=World.iter_heap ((w.alloc (.cells #[.int .i64 3,.int .i64 a0_1,.string a0_2,.slice A0_3 l0_3.length c0_3] 24)).alloc (.cells #[.int .i64 0,.int .i64 0,.string ⟨#[]⟩,.slice none 0 0] 24)) a0_2 0
   simpa using this
  ·have:=blk_alloc (blk_new (w.alloc (.cells #[.int .i64 3,.int .i64 a0_1,.string a0_2,.slice A0_3 l0_3.length c0_3] 24)) (.cells #[.int .i64 0,.int .i64 0,.string ⟨#[]⟩,.slice none 0 0] 24)) (.stringIter a0_2 0)
   rw [show (w.alloc (.cells #[.int .i64 3,.int .i64 a0_1,.string a0_2,.slice A0_3 l0_3.length c0_3] 24)).heap.size=w.heap.size+1 by simp] at this
   exact this
  ·exact below_alloc (below_alloc (below_alloc (Below.refl _ _) _) _) (.stringIter a0_2 0)
 case round =>
  obtain ⟨hi,hk,hb⟩:=hrel
  have HK:=Aside0.mk hk
  have HB:=Aside0.mk hb
  have HI:=Aside0.mk hi
  clear hi hk hb
  have hnx:∀ ty,(Instr.next (.pointer (some ⟨w.heap.size+2,0,none⟩)) true ty).run Tryd.prog wr=_:=fun ty => run_next_at ty HI.out hz
  simp only [Nat.zero_add] at hnx
  have HB2:=Aside0.mk (putIter_below (k:=w.heap.size+2) HB.out (by omega) a0_2 (Utf8.decode a0_2 0).2)
  have HK2:=Aside0.mk ((show (putIter wr (w.heap.size+2) a0_2 (Utf8.decode a0_2 0).2).heap[w.heap.size+1]? = wr.heap[w.heap.size+1]? from (by unfold putIter;simp only [Array.getElem?_setIfInBounds];rw [if_neg (by omega)])).trans HK.out)
  generalize hW:putIter wr (w.heap.size+2) a0_2 (Utf8.decode a0_2 0).2=W at hnx HB2 HK2
  have y0:=blk_cell HK2.out 0
  have y1:=blk_cell HK2.out 1
  have y2:=blk_cell HK2.out 2
  have y3:=blk_cell HK2.out 3
  have g0:=blk_frozen HK2.out 0
  have g1:=blk_frozen HK2.out 1
  have g2:=blk_frozen HK2.out 2
  have g3:=blk_frozen HK2.out 3
  go_wp2
  refine bodyPost_ret (results_cell_row rfl _ _ (w.heap.size+1) 24 #[.int .i64 3,.int .i64 0,.string (Utf8.encode (Utf8.decode a0_2 0).1),.slice none 0 0] (0,0) _ rfl (pu4 HK2) Tryd.underlying24 rfl (by kernel_rfl)) rfl ?_
  exact ⟨rfl,by repeat (first|exact HB2.out|refine below_set ?_ (by simp))⟩
set_option maxRecDepth 100000 in
set_option maxHeartbeats 1600000 in
theorem first_none (a0_0 a0_1:Int) (a0_2:ByteArray) (A0_3:Option Addr) (c0_3:Nat) (l0_3:List S24) (w:World) (hr:Kd.C k24 w A0_3 l0_3.length l0_3) (hc:l0_3.length≤c0_3) (h3:a0_0≠3) (hn:l0_3.length=0) :
  Calls Tryd.prog 56 #[.agg #[.int .i64 a0_0,.int .i64 a0_1,.string a0_2,.slice A0_3 l0_3.length c0_3]] w fun e w' => e=.returned (.agg #[.int .i64 0,.int .i64 0,.string ⟨#[]⟩,.slice none 0 0])∧Below w.heap.size w w':=by
 have HR:=Aside0.mk hr
 clear hr
 have e3:(a0_0 == 3)=false:=beq_eq_false_iff_ne.2 h3
 have hlen:¬ 0 < l0_3.length:=by omega
 clear hn
 obtain ⟨b,hq⟩:∃ b,fns_isColl.f a0_0 a0_1 a0_2 l0_3=some b:=by unfold fns_isColl.f;split <;> exact ⟨_,rfl⟩
 by_cases c6:a0_0=6
 ·have e6:(a0_0 == 6)=true:=beq_iff_eq.2 c6
  have hq6:b=true:=by unfold fns_isColl.f at hq;rw [if_pos (by omega)] at hq;rw [← Option.some.inj hq];exact decide_eq_true (by omega)
  subst hq6
  subst c6
  clear h3
  go_enter Tryd.func56,Tryd.ntmps56
  go_wp2_with (go_at_call 39;refine (fns_isColl.calls 6 a0_1 a0_2 A0_3 c0_3 l0_3 true _ (Kd.C_alloc (Kd.C_alloc HR.out _) _) hc hq).mono ?_;rintro e w2 ⟨rfl,hb2⟩;obtain ⟨B1,B2,hB⟩:=two_key _ a0_1 a0_2 _ w w2 hb2;have HB:=Aside0.mk hB;have HK:=Aside0.mk B2;clear hb2 hB;have x0:=blk_cell B1 0;have x1:=blk_cell B1 1;have x2:=blk_cell B1 2;have x3:=blk_cell B1 3;have y0:=blk_cell B2 0;have y1:=blk_cell B2 1;have y2:=blk_cell B2 2;have y3:=blk_cell B2 3;have g0:=blk_frozen B2 0;have g1:=blk_frozen B2 1;have g2:=blk_frozen B2 2;have g3:=blk_frozen B2 3;clear B1 B2)
  refine bodyPost_ret (results_cell_row rfl _ _ (w.heap.size+1) 24 #[.int .i64 0,.int .i64 0,.string (⟨#[]⟩:ByteArray),.slice none 0 0] (0,0) _ rfl (by refine blk_put (cs:=#[.int .i64 0,.int .i64 0,.string (⟨#[]⟩:ByteArray),.slice none 0 0]) ?_ 3 _ rfl;refine blk_put (cs:=#[.int .i64 0,.int .i64 0,.string (⟨#[]⟩:ByteArray),.slice none 0 0]) ?_ 2 _ rfl;refine blk_put (cs:=#[.int .i64 0,.int .i64 0,.string (⟨#[]⟩:ByteArray),.slice none 0 0]) ?_ 1 _ rfl;refine blk_put (cs:=#[.int .i64 0,.int .i64 0,.string (⟨#[]⟩:ByteArray),.slice none 0 0]) ?_ 0 _ rfl;exact HK.out) Tryd.underlying24 rfl (by kernel_rfl)) rfl ?_
  exact ⟨rfl,by repeat (first|exact HB.out|refine below_set ?_ (by simp))⟩
 ·have e6:(a0_0 == 6)=false:=beq_eq_false_iff_ne.2 c6
  clear c6 h3
  cases b with
  | true =>
   go_enter Tryd.func56,Tryd.ntmps56
   go_wp2_with (go_at_call 39;refine (fns_isColl.calls a0_0 a0_1 a0_2 A0_3 c0_3 l0_3 true _ (Kd.C_alloc (Kd.C_alloc HR.out _) _) hc hq).mono ?_;rintro e w2 ⟨rfl,hb2⟩;obtain ⟨B1,B2,hB⟩:=two_key _ a0_1 a0_2 _ w w2 hb2;have HB:=Aside0.mk hB;have HK:=Aside0.mk B2;clear hb2 hB;have x0:=blk_cell B1 0;have x1:=blk_cell B1 1;have x2:=blk_cell B1 2;have x3:=blk_cell B1 3;have y0:=blk_cell B2 0;have y1:=blk_cell B2 1;have y2:=blk_cell B2 2;have y3:=blk_cell B2 3;have g0:=blk_frozen B2 0;have g1:=blk_frozen B2 1;have g2:=blk_frozen B2 2;have g3:=blk_frozen B2 3;clear B1 B2)
   refine bodyPost_ret (results_cell_row rfl _ _ (w.heap.size+1) 24 #[.int .i64 0,.int .i64 0,.string (⟨#[]⟩:ByteArray),.slice none 0 0] (0,0) _ rfl (by refine blk_put (cs:=#[.int .i64 0,.int .i64 0,.string (⟨#[]⟩:ByteArray),.slice none 0 0]) ?_ 3 _ rfl;refine blk_put (cs:=#[.int .i64 0,.int .i64 0,.string (⟨#[]⟩:ByteArray),.slice none 0 0]) ?_ 2 _ rfl;refine blk_put (cs:=#[.int .i64 0,.int .i64 0,.string (⟨#[]⟩:ByteArray),.slice none 0 0]) ?_ 1 _ rfl;refine blk_put (cs:=#[.int .i64 0,.int .i64 0,.string (⟨#[]⟩:ByteArray),.slice none 0 0]) ?_ 0 _ rfl;exact HK.out) Tryd.underlying24 rfl (by kernel_rfl)) rfl ?_
   exact ⟨rfl,by repeat (first|exact HB.out|refine below_set ?_ (by simp))⟩
  | false =>
   go_enter Tryd.func56,Tryd.ntmps56
   go_wp2_with (go_at_call 39;refine (fns_isColl.calls a0_0 a0_1 a0_2 A0_3 c0_3 l0_3 false _ (Kd.C_alloc (Kd.C_alloc HR.out _) _) hc hq).mono ?_;rintro e w2 ⟨rfl,hb2⟩;obtain ⟨B1,B2,hB⟩:=two_key _ a0_1 a0_2 _ w w2 hb2;have HB:=Aside0.mk hB;have HK:=Aside0.mk B2;clear hb2 hB;have x0:=blk_cell B1 0;have x1:=blk_cell B1 1;have x2:=blk_cell B1 2;have x3:=blk_cell B1 3;have y0:=blk_cell B2 0;have y1:=blk_cell B2 1;have y2:=blk_cell B2 2;have y3:=blk_cell B2 3;have g0:=blk_frozen B2 0;have g1:=blk_frozen B2 1;have g2:=blk_frozen B2 2;have g3:=blk_frozen B2 3;clear B1 B2)
   refine bodyPost_ret (results_cell_row rfl _ _ (w.heap.size+1) 24 #[.int .i64 0,.int .i64 0,.string (⟨#[]⟩:ByteArray),.slice none 0 0] (0,0) _ rfl (by refine blk_put (cs:=#[.int .i64 0,.int .i64 0,.string (⟨#[]⟩:ByteArray),.slice none 0 0]) ?_ 3 _ rfl;refine blk_put (cs:=#[.int .i64 0,.int .i64 0,.string (⟨#[]⟩:ByteArray),.slice none 0 0]) ?_ 2 _ rfl;refine blk_put (cs:=#[.int .i64 0,.int .i64 0,.string (⟨#[]⟩:ByteArray),.slice none 0 0]) ?_ 1 _ rfl;refine blk_put (cs:=#[.int .i64 0,.int .i64 0,.string (⟨#[]⟩:ByteArray),.slice none 0 0]) ?_ 0 _ rfl;exact HK.out) Tryd.underlying24 rfl (by kernel_rfl)) rfl ?_
   exact ⟨rfl,by repeat (first|exact HB.out|refine below_set ?_ (by simp))⟩
set_option maxRecDepth 100000 in
set_option maxHeartbeats 1600000 in
theorem first_text0 (a0_1:Int) (a0_2:ByteArray) (A0_3:Option Addr) (c0_3:Nat) (l0_3:List S24) (w:World) (hr:Kd.C k24 w A0_3 l0_3.length l0_3) (hc:l0_3.length≤c0_3) (hn:l0_3.length=0) (hz:¬ 0 < a0_2.size) :
  Calls Tryd.prog 56 #[.agg #[.int .i64 3,.int .i64 a0_1,.string a0_2,.slice A0_3 l0_3.length c0_3]] w fun e w' => e=.returned (.agg #[.int .i64 0,.int .i64 0,.string ⟨#[]⟩,.slice none 0 0])∧Below w.heap.size w w':=by
 have HR:=Aside0.mk hr
 clear hr
 have hlen:¬ 0 < l0_3.length:=by omega
 clear hn
 have hq:fns_isColl.f 3 a0_1 a0_2 l0_3=some false:=by unfold fns_isColl.f;rw [if_neg (by omega)]
 go_enter Tryd.func56,Tryd.ntmps56
 go_wp2
 go_loopw [4] (fun _ wr => F1Rel a0_2 w wr) (fun _ wr => 0)
 case atStart =>
  refine ⟨?_,?_,?_⟩
  ·have:=World.iter_heap ((w.alloc (.cells #[.int .i64 3,.int .i64 a0_1,.string a0_2,.slice A0_3 l0_3.length c0_3] 24)).alloc (.cells #[.int .i64 0,.int .i64 0,.string ⟨#[]⟩,.slice none 0 0] 24)) a0_2 0
   simpa using this
  ·have:=blk_alloc (blk_new (w.alloc (.cells #[.int .i64 3,.int .i64 a0_1,.string a0_2,.slice A0_3 l0_3.length c0_3] 24)) (.cells #[.int .i64 0,.int .i64 0,.string ⟨#[]⟩,.slice none 0 0] 24)) (.stringIter a0_2 0)
   rw [show (w.alloc (.cells #[.int .i64 3,.int .i64 a0_1,.string a0_2,.slice A0_3 l0_3.length c0_3] 24)).heap.size=w.heap.size+1 by simp] at this
   exact this
  ·exact below_alloc (below_alloc (below_alloc (Below.refl _ _) _) _) (.stringIter a0_2 0)
 case round =>
  obtain ⟨hi,hk,hb⟩:=hrel
  have HK:=Aside0.mk hk
  have HB:=Aside0.mk hb
  have HI:=Aside0.mk hi
  clear hi hk hb
  have hnx:∀ ty,(Instr.next (.pointer (some ⟨w.heap.size+2,0,none⟩)) true ty).run Tryd.prog wr=_:=fun ty => run_next_over ty HI.out hz
  have y0:=blk_cell HK.out 0
  have y1:=blk_cell HK.out 1
  have y2:=blk_cell HK.out 2
  have y3:=blk_cell HK.out 3
  have g0:=blk_frozen HK.out 0
  have g1:=blk_frozen HK.out 1
  have g2:=blk_frozen HK.out 2
  have g3:=blk_frozen HK.out 3
  go_wp2
  refine bodyPost_ret (results_cell_row rfl _ _ (w.heap.size+1) 24 #[.int .i64 0,.int .i64 0,.string (⟨#[]⟩:ByteArray),.slice none 0 0] (0,0) _ rfl (by refine blk_put (cs:=#[.int .i64 0,.int .i64 0,.string (⟨#[]⟩:ByteArray),(.slice none 0 0)]) ?_ 3 _ rfl;refine blk_put (cs:=#[.int .i64 0,.int .i64 0,(.string (⟨#[]⟩:ByteArray)),(.slice none 0 0)]) ?_ 2 _ rfl;refine blk_put (cs:=#[.int .i64 0,(.int .i64 0),(.string (⟨#[]⟩:ByteArray)),(.slice none 0 0)]) ?_ 1 _ rfl;refine blk_put (cs:=#[(.int .i64 0),(.int .i64 0),(.string (⟨#[]⟩:ByteArray)),(.slice none 0 0)]) ?_ 0 _ rfl;exact HK.out) Tryd.underlying24 rfl (by kernel_rfl)) rfl ?_
  exact ⟨rfl,by repeat (first|exact HB.out|refine below_set ?_ (by simp))⟩
set_option maxRecDepth 100000 in
set_option maxHeartbeats 1600000 in
theorem first_map (a0_1:Int) (a0_2:ByteArray) (A0_3:Option Addr) (c0_3:Nat) (l0_3:List S24) (w:World) (P:Nat→Prop) (hv:Kd.V k24 24 w w.heap.size P (.slice A0_3 l0_3.length c0_3) l0_3) (h2:2≤l0_3.length) :
  Calls Tryd.prog 56 #[.agg #[.int .i64 6,.int .i64 a0_1,.string a0_2,.slice A0_3 l0_3.length c0_3]] w fun e w' => e=.returned (.agg #[.int .i64 4,.int .i64 0,.string ⟨#[]⟩,.slice A0_3 2 c0_3])∧Below w.heap.size w w':=by
 have hcc:l0_3.length≤c0_3:=(Kd.V_reads' hv).2.1
 have h2c:2≤c0_3:=by omega
 have hlen:0 < l0_3.length:=by omega
 clear hv
 go_enter Tryd.func56,Tryd.ntmps56
 go_wp2
 refine bodyPost_ret (results_cell_row rfl _ _ (w.heap.size+1) 24 #[.int .i64 4,.int .i64 0,.string (⟨#[]⟩:ByteArray),.slice A0_3 2 c0_3] (0,0) _ rfl (by have h1:=blk_new (w.alloc (.cells #[.int .i64 6,.int .i64 a0_1,.string a0_2,.slice A0_3 l0_3.length c0_3] 24)) (.cells #[.int .i64 4,.int .i64 0,.string ⟨#[]⟩,.slice A0_3 2 c0_3] 24);rwa [show (w.alloc (.cells #[.int .i64 6,.int .i64 a0_1,.string a0_2,.slice A0_3 l0_3.length c0_3] 24)).heap.size=w.heap.size+1 by simp] at h1) Tryd.underlying24 rfl (by kernel_rfl)) rfl ?_
 exact ⟨rfl,below_alloc (below_alloc (Below.refl _ _) _) _⟩
set_option maxRecDepth 100000 in
set_option maxHeartbeats 1600000 in
theorem first_item (a0_0 a0_1:Int) (a0_2:ByteArray) (A0_3:Option Addr) (c0_3:Nat) (l0_3:List S24) (w:World) (P:Nat→Prop) (hv:Kd.V k24 24 w w.heap.size P (.slice A0_3 l0_3.length c0_3) l0_3) (h4:4≤a0_0∧a0_0≤5) (hn:0 < l0_3.length) :
  Calls Tryd.prog 56 #[.agg #[.int .i64 a0_0,.int .i64 a0_1,.string a0_2,.slice A0_3 l0_3.length c0_3]] w fun e w' => ∃ v3:Value,e=.returned (.agg #[.int .i64 (rd_T24 l0_3 0).f0,.int .i64 (rd_T24 l0_3 0).f1,.string (rd_T24 l0_3 0).f2,v3])∧Kd.V k24 24 w' w.heap.size (fun k => P k ∨ w.heap.size≤k) v3 (rd_T24 l0_3 0).f3∧Below w.heap.size w w':=by
 obtain ⟨_,hc,hf⟩:=Kd.V_at hv
 have HR:=Aside0.mk (Kd.F_now hf)
 have e3:(a0_0 == 3)=false:=beq_eq_false_iff_ne.2 (by omega)
 have e6:(a0_0 == 6)=false:=beq_eq_false_iff_ne.2 (by omega)
 have hq:fns_isColl.f a0_0 a0_1 a0_2 l0_3=some true:=by unfold fns_isColl.f;rw [if_pos (by omega),decide_eq_true (show a0_0≤6 by omega)]
 have HVL:=Aside0.mk hf
 clear hf hv h4
 go_enter Tryd.func56,Tryd.ntmps56
 go_wp2_with (go_at_call 39;refine (fns_isColl.calls a0_0 a0_1 a0_2 A0_3 c0_3 l0_3 true _ (Kd.C_alloc (Kd.C_alloc HR.out _) _) hc hq).mono ?_;rintro e w2 ⟨rfl,hb2⟩;obtain ⟨B1,B2,hB⟩:=two_key _ a0_1 a0_2 _ w w2 hb2;have HB:=Aside0.mk hB;have HK:=Aside0.mk B2;clear hb2;have x0:=blk_cell B1 0;have x1:=blk_cell B1 1;have x2:=blk_cell B1 2;have x3:=blk_cell B1 3;have y0:=blk_cell B2 0;have y1:=blk_cell B2 1;have y2:=blk_cell B2 2;have y3:=blk_cell B2 3;have g0:=blk_frozen B2 0;have g1:=blk_frozen B2 1;have g2:=blk_frozen B2 2;have g3:=blk_frozen B2 3;clear B1 B2;obtain ⟨ad',A3',c3',hA',hcs,hl3',hF3'⟩:=vel HVL.out hB 0 hn;have HF':=Aside0.mk hF3';have HL3':=Aside0.mk hl3';subst hA';simp only [Nat.zero_mul,Addr.add_zero'] at hcs;obtain ⟨d0,d1,d2,d3⟩:=hcs;clear hF3' hl3' hB)
 refine bodyPost_ret (results_cell_row rfl _ _ (w.heap.size+1) 24 #[.int .i64 (rd_T24 l0_3 0).f0,.int .i64 (rd_T24 l0_3 0).f1,.string (rd_T24 l0_3 0).f2,.slice A3' (rd_T24 l0_3 0).f3.length c3'] (0,0) _ rfl (by refine blk_put (cs:=#[.int .i64 (rd_T24 l0_3 0).f0,.int .i64 (rd_T24 l0_3 0).f1,.string (rd_T24 l0_3 0).f2,(.slice none 0 0)]) ?_ 3 _ rfl;refine blk_put (cs:=#[.int .i64 (rd_T24 l0_3 0).f0,.int .i64 (rd_T24 l0_3 0).f1,(.string (⟨#[]⟩:ByteArray)),(.slice none 0 0)]) ?_ 2 _ rfl;refine blk_put (cs:=#[.int .i64 (rd_T24 l0_3 0).f0,(.int .i64 0),(.string (⟨#[]⟩:ByteArray)),(.slice none 0 0)]) ?_ 1 _ rfl;refine blk_put (cs:=#[(.int .i64 0),(.int .i64 0),(.string (⟨#[]⟩:ByteArray)),(.slice none 0 0)]) ?_ 0 _ rfl;exact HK.out) Tryd.underlying24 rfl (by kernel_rfl)) rfl ?_
 exact ⟨_,rfl,v_end HL3'.out HF'.out (by repeat (first|exact HB.out|refine below_set ?_ (by simp)))⟩
def fns_first.f (a0_0:Int) (a0_1:Int) (a0_2:ByteArray) (l0_3:List S24):Option (Int × Int × ByteArray × List S24) :=
 if a0_0=3 then (if 0 < a0_2.size then some (3,0,Utf8.encode (Utf8.decode a0_2 0).1,[]) else if l0_3.length=0 then some (0,0,⟨#[]⟩,[]) else none)
 else if l0_3.length=0 then some (0,0,⟨#[]⟩,[])
 else if a0_0=6 then (if 2≤l0_3.length then some (4,0,⟨#[]⟩,l0_3.take 2) else none)
 else if 4≤a0_0∧a0_0≤5 then some ((rd_T24 l0_3 0).f0,(rd_T24 l0_3 0).f1,(rd_T24 l0_3 0).f2,(rd_T24 l0_3 0).f3) else none
theorem fns_first.calls (a0_0 a0_1:Int) (a0_2:ByteArray) (A0_3:Option Addr) (c0_3:Nat) (l0_3:List S24) (P0_3_:Nat→Prop) (r1 r2:Int) (r3:ByteArray) (r4:List S24) (w:World) (hs0_3:Kd.V k24 24 w w.heap.size (fun k_ => P0_3_ k_) (.slice A0_3 l0_3.length c0_3) l0_3) (h:fns_first.f a0_0 a0_1 a0_2 l0_3=some (r1,r2,r3,r4)) :
  Calls Tryd.prog 56 #[.agg #[.int .i64 a0_0,.int .i64 a0_1,.string a0_2,.slice A0_3 l0_3.length c0_3]] w fun e w' => ∃ v3_:Value,e=.returned (.agg #[.int .i64 r1,.int .i64 r2,.string r3,v3_])∧Kd.V k24 24 w' w.heap.size (fun k_ => P0_3_ k_ ∨ w.heap.size≤k_) v3_ r4∧Below w.heap.size w w':=by
 obtain ⟨_,hc,hf⟩:=Kd.V_at hs0_3
 have hr:=Kd.F_now hf
 unfold fns_first.f at h
 by_cases c3:a0_0=3
 ·rw [if_pos c3] at h
  subst c3
  by_cases hz:0 < a0_2.size
  ·rw [if_pos hz] at h
   simp only [Option.some.injEq,Prod.mk.injEq] at h
   obtain ⟨rfl,rfl,rfl,rfl⟩:=h
   exact (first_text a0_1 a0_2 A0_3 c0_3 l0_3 w hz).mono fun e w' ⟨he,hb⟩ => ⟨_,he,Kd.V_nil _ _ _ _ _,hb⟩
  ·rw [if_neg hz] at h
   by_cases hn:l0_3.length=0
   ·rw [if_pos hn] at h
    simp only [Option.some.injEq,Prod.mk.injEq] at h
    obtain ⟨rfl,rfl,rfl,rfl⟩:=h
    exact (first_text0 a0_1 a0_2 A0_3 c0_3 l0_3 w hr hc hn hz).mono fun e w' ⟨he,hb⟩ => ⟨_,he,Kd.V_nil _ _ _ _ _,hb⟩
   ·rw [if_neg hn] at h;cases h
 rw [if_neg c3] at h
 by_cases hn:l0_3.length=0
 ·rw [if_pos hn] at h
  simp only [Option.some.injEq,Prod.mk.injEq] at h
  obtain ⟨rfl,rfl,rfl,rfl⟩:=h
  exact (first_none a0_0 a0_1 a0_2 A0_3 c0_3 l0_3 w hr hc c3 hn).mono fun e w' ⟨he,hb⟩ => ⟨_,he,Kd.V_nil _ _ _ _ _,hb⟩
 rw [if_neg hn] at h
 by_cases c6:a0_0=6
 ·rw [if_pos c6] at h
  subst c6
  by_cases h2:2≤l0_3.length
  ·rw [if_pos h2] at h
   simp only [Option.some.injEq,Prod.mk.injEq] at h
   obtain ⟨rfl,rfl,rfl,rfl⟩:=h
   refine (first_map a0_1 a0_2 A0_3 c0_3 l0_3 w P0_3_ hs0_3 h2).mono fun e w' ⟨he,hb⟩ => ⟨_,he,?_,hb⟩
   have hl:(l0_3.take 2).length=2:=by rw [List.length_take];omega
   have hF:Kd.F k24 w' (fun k_ => P0_3_ k_ ∨ w.heap.size≤k_) A0_3 2 (l0_3.take 2):=Kd.F_mono (Kd.F_below (Kd.F_imp hf (fun W' hW => c_take hW h2)) hb) (fun _ h => Or.inl h)
   have:=Kd.V_mk (e:=24) (base:=w.heap.size) (c:=c0_3) (xs:=l0_3.take 2) (by rw [hl];omega) (by rw [hl];exact hF)
   rwa [hl] at this
  ·rw [if_neg h2] at h;cases h
 rw [if_neg c6] at h
 by_cases h4:4≤a0_0∧a0_0≤5
 ·rw [if_pos h4] at h
  simp only [Option.some.injEq,Prod.mk.injEq] at h
  obtain ⟨rfl,rfl,rfl,rfl⟩:=h
  exact first_item a0_0 a0_1 a0_2 A0_3 c0_3 l0_3 w P0_3_ hs0_3 h4 (by omega)
 ·rw [if_neg h4] at h;cases h
theorem num_key (a0_0 a0_1:Int) (a0_2:ByteArray) (A0_3:Option Addr) (c0_3:Nat) (l0_3:List S24) (b fid:Nat) (w W:World) (hb:w.cell? ⟨b,0,none⟩=some (.func (.func fid) #[] #[]))
  (h:Below ((w.alloc (.cells #[.int .i64 a0_0,.int .i64 a0_1,.string a0_2,.slice A0_3 l0_3.length c0_3] 24)).alloc (.cells #[.int .i64 0,.int .i64 0,.string ⟨#[]⟩,.slice none 0 0] 24)).heap.size ((w.alloc (.cells #[.int .i64 a0_0,.int .i64 a0_1,.string a0_2,.slice A0_3 l0_3.length c0_3] 24)).alloc (.cells #[.int .i64 0,.int .i64 0,.string ⟨#[]⟩,.slice none 0 0] 24)) W) :
  W.cell? ⟨b,0,none⟩=some (.func (.func fid) #[] #[])∧W.cell? ⟨w.heap.size,0,none⟩=some (.int .i64 a0_0)∧W.cell? ⟨w.heap.size,1,none⟩=some (.int .i64 a0_1)∧W.cell? ⟨w.heap.size,2,none⟩=some (.string a0_2)∧W.cell? ⟨w.heap.size,3,none⟩=some (.slice A0_3 l0_3.length c0_3)∧W.frozen? ⟨w.heap.size,1,none⟩=false∧W.cell? ⟨w.heap.size+1,0,none⟩=some (.int .i64 0)∧W.cell? ⟨w.heap.size+1,1,none⟩=some (.int .i64 0)∧W.cell? ⟨w.heap.size+1,2,none⟩=some (.string ⟨#[]⟩)∧W.cell? ⟨w.heap.size+1,3,none⟩=some (.slice none 0 0)∧W.frozen? ⟨w.heap.size+1,0,none⟩=false∧W.frozen? ⟨w.heap.size+1,1,none⟩=false∧W.frozen? ⟨w.heap.size+1,2,none⟩=false∧W.frozen? ⟨w.heap.size+1,3,none⟩=false∧W.heap[w.heap.size+1]? = some (.cells #[.int .i64 0,.int .i64 0,.string ⟨#[]⟩,.slice none 0 0] 24 (0,0))∧Below w.heap.size w W:=by
 have hlt:b < w.heap.size:=World.block_lt_of_cell? w _ hb
 have B1:=blk_below (blk_alloc (blk_new w (.cells #[.int .i64 a0_0,.int .i64 a0_1,.string a0_2,.slice A0_3 l0_3.length c0_3] 24)) (.cells #[.int .i64 0,.int .i64 0,.string ⟨#[]⟩,.slice none 0 0] 24)) h
 have B2:=blk_below (blk_new (w.alloc (.cells #[.int .i64 a0_0,.int .i64 a0_1,.string a0_2,.slice A0_3 l0_3.length c0_3] 24)) (.cells #[.int .i64 0,.int .i64 0,.string ⟨#[]⟩,.slice none 0 0] 24)) h
 rw [show (w.alloc (.cells #[.int .i64 a0_0,.int .i64 a0_1,.string a0_2,.slice A0_3 l0_3.length c0_3] 24)).heap.size=w.heap.size+1 by simp] at B2
 have hB:Below w.heap.size w W:=below_step (below_alloc (below_alloc (Below.refl _ _) _) _) h
 exact ⟨(hB.cell (p:=⟨b,0,none⟩) hlt).trans hb,blk_cell B1 0,blk_cell B1 1,blk_cell B1 2,blk_cell B1 3,blk_frozen B1 1,blk_cell B2 0,blk_cell B2 1,blk_cell B2 2,blk_cell B2 3,blk_frozen B2 0,blk_frozen B2 1,blk_frozen B2 2,blk_frozen B2 3,B2,hB⟩
set_option maxRecDepth 100000 in
set_option maxHeartbeats 1600000 in
theorem number_2 (a0_0 a0_1:Int) (a0_2:ByteArray) (A0_3:Option Addr) (c0_3:Nat) (l0_3:List S24) (b:Nat) (w:World) (hr:Kd.C k24 w A0_3 l0_3.length l0_3) (hc:l0_3.length≤c0_3) (hb:w.cell? ⟨b,0,none⟩=some (.func (.func 53) #[] #[])) :
  Calls Tryd.prog 70 #[.agg #[.int .i64 a0_0,.int .i64 a0_1,.string a0_2,.slice A0_3 l0_3.length c0_3],.pointer (some ⟨b,0,none⟩)] w fun e w' => e=.returned (.agg #[.int .i64 a0_0,.int .i64 (if a0_0=2 then wrap64 (a0_1+1) else a0_1),.string a0_2,.slice A0_3 l0_3.length c0_3])∧Below w.heap.size w w':=by
 have HR:=Aside0.mk hr
 clear hr
 have hlt:b < w.heap.size:=World.block_lt_of_cell? w _ hb
 by_cases c:a0_0=2
 ·subst c
  rw [if_pos rfl]
  go_enter Tryd.func70,Tryd.ntmps70
  go_wp2_with (first|(go_at_call 35;refine (fns_isInt.calls 2 a0_1 a0_2 A0_3 c0_3 l0_3 true _ (Kd.C_alloc (Kd.C_alloc HR.out _) _) hc rfl).mono ?_;rintro e w2 ⟨rfl,hb2⟩;obtain ⟨d0,x0,x1,x2,x3,f1,y0,y1,y2,y3,g0,g1,g2,g3,B2,hB⟩:=num_key _ a0_1 a0_2 A0_3 c0_3 l0_3 b 53 w w2 hb hb2;have HB:=Aside0.mk hB;have HK:=Aside0.mk B2;clear hb2 hB B2)|(go_at_call 53;refine (fns_ones_2.calls a0_1 _ _ rfl).mono ?_;rintro e w3 ⟨rfl,⟨nd,rfl⟩⟩))
  refine bodyPost_ret (results_cell_row rfl _ _ (w.heap.size+1) 24 #[.int .i64 2,.int .i64 (wrap64 (a0_1+1)),.string a0_2,.slice A0_3 l0_3.length c0_3] (0,0) _ rfl (by refine blk_put (cs:=#[.int .i64 2,.int .i64 (wrap64 (a0_1+1)),.string a0_2,.slice none 0 0]) ?_ 3 _ rfl;refine blk_put (cs:=#[.int .i64 2,.int .i64 (wrap64 (a0_1+1)),.string (⟨#[]⟩:ByteArray),.slice none 0 0]) ?_ 2 _ rfl;refine blk_put (cs:=#[.int .i64 2,.int .i64 0,.string (⟨#[]⟩:ByteArray),.slice none 0 0]) ?_ 1 _ rfl;refine blk_put (cs:=#[.int .i64 0,.int .i64 0,.string (⟨#[]⟩:ByteArray),.slice none 0 0]) ?_ 0 _ rfl;refine blk_far ?_ (by simp) _;exact blk_drewN HK.out nd) Tryd.underlying24 rfl (by kernel_rfl)) rfl ?_
  exact ⟨rfl,by repeat (first|exact HB.out|apply pw_below_drewN|refine below_set ?_ (by simp))⟩
 ·rw [if_neg c]
  have hI:fns_isInt.f a0_0 a0_1 a0_2 l0_3=some false:=by unfold fns_isInt.f;rw [beq_eq_false_iff_ne.2 c]
  go_enter Tryd.func70,Tryd.ntmps70
  go_wp2_with (go_at_call 35;refine (fns_isInt.calls a0_0 a0_1 a0_2 A0_3 c0_3 l0_3 false _ (Kd.C_alloc (Kd.C_alloc HR.out _) _) hc hI).mono ?_;rintro e w2 ⟨rfl,hb2⟩;obtain ⟨d0,x0,x1,x2,x3,f1,y0,y1,y2,y3,g0,g1,g2,g3,B2,hB⟩:=num_key _ a0_1 a0_2 A0_3 c0_3 l0_3 b 53 w w2 hb hb2;have HB:=Aside0.mk hB;have HK:=Aside0.mk B2;clear hb2 hB B2)
  refine bodyPost_ret (results_cell_row rfl _ _ (w.heap.size+1) 24 #[.int .i64 a0_0,.int .i64 (a0_1),.string a0_2,.slice A0_3 l0_3.length c0_3] (0,0) _ rfl (by refine blk_put (cs:=#[.int .i64 a0_0,.int .i64 (a0_1),.string a0_2,.slice none 0 0]) ?_ 3 _ rfl;refine blk_put (cs:=#[.int .i64 a0_0,.int .i64 (a0_1),.string (⟨#[]⟩:ByteArray),.slice none 0 0]) ?_ 2 _ rfl;refine blk_put (cs:=#[.int .i64 a0_0,.int .i64 0,.string (⟨#[]⟩:ByteArray),.slice none 0 0]) ?_ 1 _ rfl;refine blk_put (cs:=#[.int .i64 0,.int .i64 0,.string (⟨#[]⟩:ByteArray),.slice none 0 0]) ?_ 0 _ rfl;exact HK.out) Tryd.underlying24 rfl (by kernel_rfl)) rfl ?_
  exact ⟨rfl,by repeat (first|exact HB.out|apply pw_below_drewN|refine below_set ?_ (by simp))⟩
set_option maxRecDepth 100000 in
set_option maxHeartbeats 1600000 in
theorem number_3 (a0_0 a0_1:Int) (a0_2:ByteArray) (A0_3:Option Addr) (c0_3:Nat) (l0_3:List S24) (b:Nat) (w:World) (hr:Kd.C k24 w A0_3 l0_3.length l0_3) (hc:l0_3.length≤c0_3) (hb:w.cell? ⟨b,0,none⟩=some (.func (.func 54) #[] #[])) :
  Calls Tryd.prog 70 #[.agg #[.int .i64 a0_0,.int .i64 a0_1,.string a0_2,.slice A0_3 l0_3.length c0_3],.pointer (some ⟨b,0,none⟩)] w fun e w' => e=.returned (.agg #[.int .i64 a0_0,.int .i64 (if a0_0=2 then wrap64 (-a0_1) else a0_1),.string a0_2,.slice A0_3 l0_3.length c0_3])∧Below w.heap.size w w':=by
 have HR:=Aside0.mk hr
 clear hr
 have hlt:b < w.heap.size:=World.block_lt_of_cell? w _ hb
 by_cases c:a0_0=2
 ·subst c
  rw [if_pos rfl]
  go_enter Tryd.func70,Tryd.ntmps70
  go_wp2_with (first|(go_at_call 35;refine (fns_isInt.calls 2 a0_1 a0_2 A0_3 c0_3 l0_3 true _ (Kd.C_alloc (Kd.C_alloc HR.out _) _) hc rfl).mono ?_;rintro e w2 ⟨rfl,hb2⟩;obtain ⟨d0,x0,x1,x2,x3,f1,y0,y1,y2,y3,g0,g1,g2,g3,B2,hB⟩:=num_key _ a0_1 a0_2 A0_3 c0_3 l0_3 b 54 w w2 hb hb2;have HB:=Aside0.mk hB;have HK:=Aside0.mk B2;clear hb2 hB B2)|(go_at_call 54;refine (fns_ones_3.calls a0_1 _ _ rfl).mono ?_;rintro e w3 ⟨rfl,⟨nd,rfl⟩⟩))
  refine bodyPost_ret (results_cell_row rfl _ _ (w.heap.size+1) 24 #[.int .i64 2,.int .i64 (wrap64 (-a0_1)),.string a0_2,.slice A0_3 l0_3.length c0_3] (0,0) _ rfl (by refine blk_put (cs:=#[.int .i64 2,.int .i64 (wrap64 (-a0_1)),.string a0_2,.slice none 0 0]) ?_ 3 _ rfl;refine blk_put (cs:=#[.int .i64 2,.int .i64 (wrap64 (-a0_1)),.string (⟨#[]⟩:ByteArray),.slice none 0 0]) ?_ 2 _ rfl;refine blk_put (cs:=#[.int .i64 2,.int .i64 0,.string (⟨#[]⟩:ByteArray),.slice none 0 0]) ?_ 1 _ rfl;refine blk_put (cs:=#[.int .i64 0,.int .i64 0,.string (⟨#[]⟩:ByteArray),.slice none 0 0]) ?_ 0 _ rfl;refine blk_far ?_ (by simp) _;exact blk_drewN HK.out nd) Tryd.underlying24 rfl (by kernel_rfl)) rfl ?_
  exact ⟨rfl,by repeat (first|exact HB.out|apply pw_below_drewN|refine below_set ?_ (by simp))⟩
 ·rw [if_neg c]
  have hI:fns_isInt.f a0_0 a0_1 a0_2 l0_3=some false:=by unfold fns_isInt.f;rw [beq_eq_false_iff_ne.2 c]
  go_enter Tryd.func70,Tryd.ntmps70
  go_wp2_with (go_at_call 35;refine (fns_isInt.calls a0_0 a0_1 a0_2 A0_3 c0_3 l0_3 false _ (Kd.C_alloc (Kd.C_alloc HR.out _) _) hc hI).mono ?_;rintro e w2 ⟨rfl,hb2⟩;obtain ⟨d0,x0,x1,x2,x3,f1,y0,y1,y2,y3,g0,g1,g2,g3,B2,hB⟩:=num_key _ a0_1 a0_2 A0_3 c0_3 l0_3 b 54 w w2 hb hb2;have HB:=Aside0.mk hB;have HK:=Aside0.mk B2;clear hb2 hB B2)
  refine bodyPost_ret (results_cell_row rfl _ _ (w.heap.size+1) 24 #[.int .i64 a0_0,.int .i64 (a0_1),.string a0_2,.slice A0_3 l0_3.length c0_3] (0,0) _ rfl (by refine blk_put (cs:=#[.int .i64 a0_0,.int .i64 (a0_1),.string a0_2,.slice none 0 0]) ?_ 3 _ rfl;refine blk_put (cs:=#[.int .i64 a0_0,.int .i64 (a0_1),.string (⟨#[]⟩:ByteArray),.slice none 0 0]) ?_ 2 _ rfl;refine blk_put (cs:=#[.int .i64 a0_0,.int .i64 0,.string (⟨#[]⟩:ByteArray),.slice none 0 0]) ?_ 1 _ rfl;refine blk_put (cs:=#[.int .i64 0,.int .i64 0,.string (⟨#[]⟩:ByteArray),.slice none 0 0]) ?_ 0 _ rfl;exact HK.out) Tryd.underlying24 rfl (by kernel_rfl)) rfl ?_
  exact ⟨rfl,by repeat (first|exact HB.out|apply pw_below_drewN|refine below_set ?_ (by simp))⟩
set_option maxRecDepth 100000 in
set_option maxHeartbeats 1600000 in
theorem number_6 (a0_0 a0_1:Int) (a0_2:ByteArray) (A0_3:Option Addr) (c0_3:Nat) (l0_3:List S24) (b:Nat) (w:World) (hr:Kd.C k24 w A0_3 l0_3.length l0_3) (hc:l0_3.length≤c0_3) (hb:w.cell? ⟨b,0,none⟩=some (.func (.func 60) #[] #[])) :
  Calls Tryd.prog 70 #[.agg #[.int .i64 a0_0,.int .i64 a0_1,.string a0_2,.slice A0_3 l0_3.length c0_3],.pointer (some ⟨b,0,none⟩)] w fun e w' => e=.returned (.agg #[.int .i64 a0_0,.int .i64 (if a0_0=2 then wrap64 (Int.tdiv a0_1 2) else a0_1),.string a0_2,.slice A0_3 l0_3.length c0_3])∧Below w.heap.size w w':=by
 have HR:=Aside0.mk hr
 clear hr
 have hlt:b < w.heap.size:=World.block_lt_of_cell? w _ hb
 by_cases c:a0_0=2
 ·subst c
  rw [if_pos rfl]
  go_enter Tryd.func70,Tryd.ntmps70
  go_wp2_with (first|(go_at_call 35;refine (fns_isInt.calls 2 a0_1 a0_2 A0_3 c0_3 l0_3 true _ (Kd.C_alloc (Kd.C_alloc HR.out _) _) hc rfl).mono ?_;rintro e w2 ⟨rfl,hb2⟩;obtain ⟨d0,x0,x1,x2,x3,f1,y0,y1,y2,y3,g0,g1,g2,g3,B2,hB⟩:=num_key _ a0_1 a0_2 A0_3 c0_3 l0_3 b 60 w w2 hb hb2;have HB:=Aside0.mk hB;have HK:=Aside0.mk B2;clear hb2 hB B2)|(go_at_call 60;refine (fns_ones_6.calls a0_1 _ _ rfl).mono ?_;rintro e w3 ⟨rfl,⟨nd,rfl⟩⟩))
  refine bodyPost_ret (results_cell_row rfl _ _ (w.heap.size+1) 24 #[.int .i64 2,.int .i64 (wrap64 (Int.tdiv a0_1 2)),.string a0_2,.slice A0_3 l0_3.length c0_3] (0,0) _ rfl (by refine blk_put (cs:=#[.int .i64 2,.int .i64 (wrap64 (Int.tdiv a0_1 2)),.string a0_2,.slice none 0 0]) ?_ 3 _ rfl;refine blk_put (cs:=#[.int .i64 2,.int .i64 (wrap64 (Int.tdiv a0_1 2)),.string (⟨#[]⟩:ByteArray),.slice none 0 0]) ?_ 2 _ rfl;refine blk_put (cs:=#[.int .i64 2,.int .i64 0,.string (⟨#[]⟩:ByteArray),.slice none 0 0]) ?_ 1 _ rfl;refine blk_put (cs:=#[.int .i64 0,.int .i64 0,.string (⟨#[]⟩:ByteArray),.slice none 0 0]) ?_ 0 _ rfl;refine blk_far ?_ (by simp) _;exact blk_drewN HK.out nd) Tryd.underlying24 rfl (by kernel_rfl)) rfl ?_
  exact ⟨rfl,by repeat (first|exact HB.out|apply pw_below_drewN|refine below_set ?_ (by simp))⟩
 ·rw [if_neg c]
  have hI:fns_isInt.f a0_0 a0_1 a0_2 l0_3=some false:=by unfold fns_isInt.f;rw [beq_eq_false_iff_ne.2 c]
  go_enter Tryd.func70,Tryd.ntmps70
  go_wp2_with (go_at_call 35;refine (fns_isInt.calls a0_0 a0_1 a0_2 A0_3 c0_3 l0_3 false _ (Kd.C_alloc (Kd.C_alloc HR.out _) _) hc hI).mono ?_;rintro e w2 ⟨rfl,hb2⟩;obtain ⟨d0,x0,x1,x2,x3,f1,y0,y1,y2,y3,g0,g1,g2,g3,B2,hB⟩:=num_key _ a0_1 a0_2 A0_3 c0_3 l0_3 b 60 w w2 hb hb2;have HB:=Aside0.mk hB;have HK:=Aside0.mk B2;clear hb2 hB B2)
  refine bodyPost_ret (results_cell_row rfl _ _ (w.heap.size+1) 24 #[.int .i64 a0_0,.int .i64 (a0_1),.string a0_2,.slice A0_3 l0_3.length c0_3] (0,0) _ rfl (by refine blk_put (cs:=#[.int .i64 a0_0,.int .i64 (a0_1),.string a0_2,.slice none 0 0]) ?_ 3 _ rfl;refine blk_put (cs:=#[.int .i64 a0_0,.int .i64 (a0_1),.string (⟨#[]⟩:ByteArray),.slice none 0 0]) ?_ 2 _ rfl;refine blk_put (cs:=#[.int .i64 a0_0,.int .i64 0,.string (⟨#[]⟩:ByteArray),.slice none 0 0]) ?_ 1 _ rfl;refine blk_put (cs:=#[.int .i64 0,.int .i64 0,.string (⟨#[]⟩:ByteArray),.slice none 0 0]) ?_ 0 _ rfl;exact HK.out) Tryd.underlying24 rfl (by kernel_rfl)) rfl ?_
  exact ⟨rfl,by repeat (first|exact HB.out|apply pw_below_drewN|refine below_set ?_ (by simp))⟩
def onesTab (b:Nat):Array Value:=#[.func (.func 51) #[] #[],.func (.func 70) #[] #[.pointer (some ⟨b,0,none⟩)],.func (.func 70) #[] #[.pointer (some ⟨b+1,0,none⟩)],.func (.func 55) #[] #[],.func (.func 56) #[] #[],.func (.func 57) #[] #[],.func (.func 59) #[] #[],.func (.func 70) #[] #[.pointer (some ⟨b+1+1,0,none⟩)]]
def onesW (w:World):World:=(((w.alloc (.cells #[.func (.func 53) #[] #[]] 71)).alloc (.cells #[.func (.func 54) #[] #[]] 71)).alloc (.cells #[.func (.func 60) #[] #[]] 71)).alloc (.cells (onesTab w.heap.size) 62)
set_option maxRecDepth 100000 in
set_option maxHeartbeats 1600000 in
theorem fns_ones.calls (w:World):Calls Tryd.prog 29 #[] w fun e w' => e=.returned (.slice (some ⟨w.heap.size+1+1+1,0,none⟩) 8 8)∧w'=onesW w:=by
 go_enter Tryd.func29,Tryd.ntmps29
 go_wp2_with go_in
 go_ret
 exact ⟨rfl,rfl⟩
theorem onesW_below (w:World):Below w.heap.size w (onesW w):=below_alloc (below_alloc (below_alloc (below_alloc (Below.refl _ _) _) _) _) _
theorem fns_ones.callsB (w:World):Calls Tryd.prog 29 #[] w fun e w' => e=.returned (.slice (some ⟨w.heap.size+1+1+1,0,none⟩) 8 8)∧w'=(((w.alloc (.cells #[.func (.func 53) #[] #[]] 71)).alloc (.cells #[.func (.func 54) #[] #[]] 71)).alloc (.cells #[.func (.func 60) #[] #[]] 71)).alloc (.cells (onesTab w.heap.size) 62)∧Below w.heap.size w w':=(fns_ones.calls w).mono fun e w' ⟨he,hw⟩ => ⟨he,hw,by rw [hw];exact onesW_below w⟩
theorem onesW_size (w:World):(onesW w).heap.size=w.heap.size+4:=by simp [onesW]
theorem onesW_box (w:World):(onesW w).cell? ⟨w.heap.size,0,none⟩=some (.func (.func 53) #[] #[])∧(onesW w).cell? ⟨w.heap.size+1,0,none⟩=some (.func (.func 54) #[] #[])∧(onesW w).cell? ⟨w.heap.size+1+1,0,none⟩=some (.func (.func 60) #[] #[]):=by
 have h1:=blk_alloc (blk_alloc (blk_alloc (blk_new w (.cells #[.func (.func 53) #[] #[]] 71)) (.cells #[.func (.func 54) #[] #[]] 71)) (.cells #[.func (.func 60) #[] #[]] 71)) (.cells (onesTab w.heap.size) 62)
 have h2:=blk_alloc (blk_alloc (blk_new (w.alloc (.cells #[.func (.func 53) #[] #[]] 71)) (.cells #[.func (.func 54) #[] #[]] 71)) (.cells #[.func (.func 60) #[] #[]] 71)) (.cells (onesTab w.heap.size) 62)
 have h3:=blk_alloc (blk_new ((w.alloc (.cells #[.func (.func 53) #[] #[]] 71)).alloc (.cells #[.func (.func 54) #[] #[]] 71)) (.cells #[.func (.func 60) #[] #[]] 71)) (.cells (onesTab w.heap.size) 62)
 simp only [World.size_alloc] at h2 h3
 exact ⟨blk_cell h1 0,blk_cell h2 0,blk_cell h3 0⟩
theorem onesW_tab (w:World):(onesW w).heap[w.heap.size+1+1+1]? = some (.cells (onesTab w.heap.size) 62 (0,0)):=by
 have h:=blk_new (((w.alloc (.cells #[.func (.func 53) #[] #[]] 71)).alloc (.cells #[.func (.func 54) #[] #[]] 71)).alloc (.cells #[.func (.func 60) #[] #[]] 71)) (.cells (onesTab w.heap.size) 62)
 simp only [World.size_alloc] at h
 exact h
def szDo (a0_0:Int) (a0_2:ByteArray) (l0_3:List S24):Option Int:=if a0_0=3 then (if a0_2.size≤1048576 then some (cntFrom a0_2 a0_2.size 0:Nat) else none) else if a0_0=6 then (if l0_3.length≤9223372036854775807 then some (Int.tdiv (l0_3.length:Int) 2) else none) else some (l0_3.length:Int)
def fns_do.f (k:Nat) (q:Int) (a0_0:Int) (a0_1:Int) (a0_2:ByteArray) (l0_3:List S24):Option (Int × Int × ByteArray × List S24) :=
 if q=0 then some (a0_0,a0_1,a0_2,l0_3)
 else if q=1 then some (a0_0,(if a0_0=2 then wrap64 (a0_1+1) else a0_1),a0_2,l0_3)
 else if q=2 then some (a0_0,(if a0_0=2 then wrap64 (-a0_1) else a0_1),a0_2,l0_3)
 else if q=3 then (szDo a0_0 a0_2 l0_3).bind fun n => some (2,n,⟨#[]⟩,[])
 else if q=4 then fns_first.f a0_0 a0_1 a0_2 l0_3
 else if q=5 then fns_ones_4.f k a0_0 a0_1 a0_2 l0_3
 else if q=6 then fns_ones_5.f a0_0 a0_1 a0_2 l0_3
 else some (a0_0,(if a0_0=2 then wrap64 (Int.tdiv a0_1 2) else a0_1),a0_2,l0_3)
theorem fns_do.mono:∀ q a0 a1 a2 a3 k,LeO (fns_do.f k q a0 a1 a2 a3) (fns_do.f (k+1) q a0 a1 a2 a3):=by
 intro q a0 a1 a2 a3 k
 unfold fns_do.f
 repeat' first
  | exact fns_ones_4.mono _ _ _ _ _
  | exact LeO.refl _
  | refine LeO.ite ?_ ?_
def DoPost (P:Nat→Prop) (r1 r2:Int) (r3:ByteArray) (r4:List S24) (w:World) (e:Ending) (w':World):Prop:=∃ v3_:Value,e=.returned (.agg #[.int .i64 r1,.int .i64 r2,.string r3,v3_])∧Kd.V k24 24 w' w.heap.size (fun k_ => P k_ ∨ w.heap.size≤k_) v3_ r4∧Below w.heap.size w w'
theorem DoPost.same {P:Nat→Prop} {r1 r2:Int} {r3:ByteArray} {l:List S24} {A:Option Addr} {c:Nat} {w w':World} {e:Ending} (hv:Kd.V k24 24 w w.heap.size (fun k_ => P k_) (.slice A l.length c) l) (he:e=.returned (.agg #[.int .i64 r1,.int .i64 r2,.string r3,.slice A l.length c])) (hb:Below w.heap.size w w'):DoPost P r1 r2 r3 l w e w' :=
 ⟨_,he,Kd.V_mono (Kd.V_below hv hb) (fun _ h => Or.inl h),hb⟩
theorem DoPost.none_ {P:Nat→Prop} {r1 r2:Int} {r3:ByteArray} {A:Option Addr} {c:Nat} {w w':World} {e:Ending} (he:e=.returned (.agg #[.int .i64 r1,.int .i64 r2,.string r3,.slice A 0 c])) (hb:Below w.heap.size w w'):DoPost P r1 r2 r3 [] w e w' :=
 ⟨_,he,⟨A,c,rfl,Nat.zero_le _,fun W' _ => C_empty _ _ _⟩,hb⟩
theorem do_0 (k:Nat) (a0_0 a0_1:Int) (a0_2:ByteArray) (A0_3:Option Addr) (c0_3:Nat) (l0_3:List S24) (P:Nat→Prop) (r1 r2:Int) (r3:ByteArray) (r4:List S24) (w:World) (hL:LaidW w) (hs:Kd.V k24 24 w w.heap.size (fun k_ => P k_) (.slice A0_3 l0_3.length c0_3) l0_3) (h:fns_do.f k 0 a0_0 a0_1 a0_2 l0_3=some (r1,r2,r3,r4)) :
  Calls Tryd.prog 51 #[.agg #[.int .i64 a0_0,.int .i64 a0_1,.string a0_2,.slice A0_3 l0_3.length c0_3]] w (DoPost P r1 r2 r3 r4 w):=by
 unfold fns_do.f at h
 rw [if_pos rfl] at h
 replace h:fns_ones_1.f a0_0 a0_1 a0_2 l0_3=some (r1,r2,r3,r4):=h
 exact fns_ones_1.calls a0_0 a0_1 a0_2 P A0_3 c0_3 l0_3 r1 r2 r3 r4 w hs h
theorem do_1 (k:Nat) (a0_0 a0_1:Int) (a0_2:ByteArray) (A0_3:Option Addr) (c0_3:Nat) (l0_3:List S24) (P:Nat→Prop) (r1 r2:Int) (r3:ByteArray) (r4:List S24) (w:World) (hL:LaidW w) (hs:Kd.V k24 24 w w.heap.size (fun k_ => P k_) (.slice A0_3 l0_3.length c0_3) l0_3) (b:Nat) (hb:w.cell? ⟨b,0,none⟩=some (.func (.func 53) #[] #[])) (h:fns_do.f k 1 a0_0 a0_1 a0_2 l0_3=some (r1,r2,r3,r4)) :
  Calls Tryd.prog 70 #[.agg #[.int .i64 a0_0,.int .i64 a0_1,.string a0_2,.slice A0_3 l0_3.length c0_3],.pointer (some ⟨b,0,none⟩)] w (DoPost P r1 r2 r3 r4 w):=by
 unfold fns_do.f at h
 rw [if_neg (by decide),if_pos rfl] at h
 simp only [Option.some.injEq,Prod.mk.injEq] at h
 obtain ⟨rfl,rfl,rfl,rfl⟩:=h
 obtain ⟨_,hc,hf⟩:=Kd.V_at hs
 exact (number_2 a0_0 a0_1 a0_2 A0_3 c0_3 l0_3 b w (Kd.F_now hf) hc hb).mono fun e w' ⟨he,hb⟩ => DoPost.same hs he hb
theorem do_2 (k:Nat) (a0_0 a0_1:Int) (a0_2:ByteArray) (A0_3:Option Addr) (c0_3:Nat) (l0_3:List S24) (P:Nat→Prop) (r1 r2:Int) (r3:ByteArray) (r4:List S24) (w:World) (hL:LaidW w) (hs:Kd.V k24 24 w w.heap.size (fun k_ => P k_) (.slice A0_3 l0_3.length c0_3) l0_3) (b:Nat) (hb:w.cell? ⟨b,0,none⟩=some (.func (.func 54) #[] #[])) (h:fns_do.f k 2 a0_0 a0_1 a0_2 l0_3=some (r1,r2,r3,r4)) :
  Calls Tryd.prog 70 #[.agg #[.int .i64 a0_0,.int .i64 a0_1,.string a0_2,.slice A0_3 l0_3.length c0_3],.pointer (some ⟨b,0,none⟩)] w (DoPost P r1 r2 r3 r4 w):=by
 unfold fns_do.f at h
 rw [if_neg (by decide),if_neg (by decide),if_pos rfl] at h
 simp only [Option.some.injEq,Prod.mk.injEq] at h
 obtain ⟨rfl,rfl,rfl,rfl⟩:=h
 obtain ⟨_,hc,hf⟩:=Kd.V_at hs
 exact (number_3 a0_0 a0_1 a0_2 A0_3 c0_3 l0_3 b w (Kd.F_now hf) hc hb).mono fun e w' ⟨he,hb⟩ => DoPost.same hs he hb
theorem do_3 (k:Nat) (a0_0 a0_1:Int) (a0_2:ByteArray) (A0_3:Option Addr) (c0_3:Nat) (l0_3:List S24) (P:Nat→Prop) (r1 r2:Int) (r3:ByteArray) (r4:List S24) (w:World) (hL:LaidW w) (hs:Kd.V k24 24 w w.heap.size (fun k_ => P k_) (.slice A0_3 l0_3.length c0_3) l0_3) (h:fns_do.f k 3 a0_0 a0_1 a0_2 l0_3=some (r1,r2,r3,r4)) :
  Calls Tryd.prog 55 #[.agg #[.int .i64 a0_0,.int .i64 a0_1,.string a0_2,.slice A0_3 l0_3.length c0_3]] w (DoPost P r1 r2 r3 r4 w):=by
 unfold fns_do.f at h
 rw [if_neg (by decide),if_neg (by decide),if_neg (by decide),if_pos rfl] at h
 obtain ⟨n,hn,h⟩:=Option.bind_eq_some_iff.1 h
 simp only [Option.some.injEq,Prod.mk.injEq] at h
 obtain ⟨rfl,rfl,rfl,rfl⟩:=h
 unfold szDo at hn
 by_cases c3:a0_0=3
 ·rw [if_pos c3] at hn
  subst c3
  by_cases hz:a0_2.size≤1048576
  ·rw [if_pos hz] at hn
   obtain rfl:=Option.some.inj hn
   exact (size_text a0_1 a0_2 A0_3 c0_3 l0_3 w hz).mono fun e w' ⟨A,c,he,_,hb⟩ => DoPost.none_ he hb
  ·rw [if_neg hz] at hn;cases hn
 rw [if_neg c3] at hn
 by_cases c6:a0_0=6
 ·rw [if_pos c6] at hn
  by_cases hz:l0_3.length≤9223372036854775807
  ·rw [if_pos hz] at hn
   obtain rfl:=Option.some.inj hn
   exact (size_map a0_0 a0_1 a0_2 A0_3 c0_3 l0_3 w c6 hz).mono fun e w' ⟨A,c,he,_,hb⟩ => DoPost.none_ he hb
  ·rw [if_neg hz] at hn;cases hn
 rw [if_neg c6] at hn
 obtain rfl:=Option.some.inj hn
 exact (size_list a0_0 a0_1 a0_2 A0_3 c0_3 l0_3 w c3 c6).mono fun e w' ⟨A,c,he,_,hb⟩ => DoPost.none_ he hb
theorem do_4 (k:Nat) (a0_0 a0_1:Int) (a0_2:ByteArray) (A0_3:Option Addr) (c0_3:Nat) (l0_3:List S24) (P:Nat→Prop) (r1 r2:Int) (r3:ByteArray) (r4:List S24) (w:World) (hL:LaidW w) (hs:Kd.V k24 24 w w.heap.size (fun k_ => P k_) (.slice A0_3 l0_3.length c0_3) l0_3) (h:fns_do.f k 4 a0_0 a0_1 a0_2 l0_3=some (r1,r2,r3,r4)) :
  Calls Tryd.prog 56 #[.agg #[.int .i64 a0_0,.int .i64 a0_1,.string a0_2,.slice A0_3 l0_3.length c0_3]] w (DoPost P r1 r2 r3 r4 w):=by
 unfold fns_do.f at h
 rw [if_neg (by decide),if_neg (by decide),if_neg (by decide),if_neg (by decide),if_pos rfl] at h
 exact fns_first.calls a0_0 a0_1 a0_2 A0_3 c0_3 l0_3 P r1 r2 r3 r4 w hs h
theorem do_5 (k:Nat) (a0_0 a0_1:Int) (a0_2:ByteArray) (A0_3:Option Addr) (c0_3:Nat) (l0_3:List S24) (P:Nat→Prop) (r1 r2:Int) (r3:ByteArray) (r4:List S24) (w:World) (hL:LaidW w) (hs:Kd.V k24 24 w w.heap.size (fun k_ => P k_) (.slice A0_3 l0_3.length c0_3) l0_3) (h:fns_do.f k 5 a0_0 a0_1 a0_2 l0_3=some (r1,r2,r3,r4)) :
  Calls Tryd.prog 57 #[.agg #[.int .i64 a0_0,.int .i64 a0_1,.string a0_2,.slice A0_3 l0_3.length c0_3]] w (DoPost P r1 r2 r3 r4 w):=by
 unfold fns_do.f at h
 rw [if_neg (by decide),if_neg (by decide),if_neg (by decide),if_neg (by decide),if_neg (by decide),if_pos rfl] at h
 exact fns_ones_4.calls k a0_0 a0_1 a0_2 P A0_3 c0_3 l0_3 r1 r2 r3 r4 w hL hs h
theorem do_6 (k:Nat) (a0_0 a0_1:Int) (a0_2:ByteArray) (A0_3:Option Addr) (c0_3:Nat) (l0_3:List S24) (P:Nat→Prop) (r1 r2:Int) (r3:ByteArray) (r4:List S24) (w:World) (hL:LaidW w) (hs:Kd.V k24 24 w w.heap.size (fun k_ => P k_) (.slice A0_3 l0_3.length c0_3) l0_3) (h:fns_do.f k 6 a0_0 a0_1 a0_2 l0_3=some (r1,r2,r3,r4)) :
  Calls Tryd.prog 59 #[.agg #[.int .i64 a0_0,.int .i64 a0_1,.string a0_2,.slice A0_3 l0_3.length c0_3]] w (DoPost P r1 r2 r3 r4 w):=by
 unfold fns_do.f at h
 rw [if_neg (by decide),if_neg (by decide),if_neg (by decide),if_neg (by decide),if_neg (by decide),if_neg (by decide),if_pos rfl] at h
 obtain ⟨_,hc,hf⟩:=Kd.V_at hs
 exact (fns_ones_5.calls a0_0 a0_1 a0_2 A0_3 c0_3 l0_3 r1 r2 r3 r4 w (Kd.F_now hf) hc h).mono fun e w' ⟨v3,he,hr,hb⟩ => ⟨v3,he,Kd.V_mono (Kd.R_V (Kd.R_bound hr)) (fun _ hk => Or.inr hk.2.1),hb⟩
theorem do_7 (k:Nat) (a0_0 a0_1:Int) (a0_2:ByteArray) (A0_3:Option Addr) (c0_3:Nat) (l0_3:List S24) (P:Nat→Prop) (r1 r2:Int) (r3:ByteArray) (r4:List S24) (w:World) (hL:LaidW w) (hs:Kd.V k24 24 w w.heap.size (fun k_ => P k_) (.slice A0_3 l0_3.length c0_3) l0_3) (b:Nat) (hb:w.cell? ⟨b,0,none⟩=some (.func (.func 60) #[] #[])) (h:fns_do.f k 7 a0_0 a0_1 a0_2 l0_3=some (r1,r2,r3,r4)) :
  Calls Tryd.prog 70 #[.agg #[.int .i64 a0_0,.int .i64 a0_1,.string a0_2,.slice A0_3 l0_3.length c0_3],.pointer (some ⟨b,0,none⟩)] w (DoPost P r1 r2 r3 r4 w):=by
 unfold fns_do.f at h
 rw [if_neg (by decide),if_neg (by decide),if_neg (by decide),if_neg (by decide),if_neg (by decide),if_neg (by decide),if_neg (by decide)] at h
 simp only [Option.some.injEq,Prod.mk.injEq] at h
 obtain ⟨rfl,rfl,rfl,rfl⟩:=h
 obtain ⟨_,hc,hf⟩:=Kd.V_at hs
 exact (number_6 a0_0 a0_1 a0_2 A0_3 c0_3 l0_3 b w (Kd.F_now hf) hc hb).mono fun e w' ⟨he,hb⟩ => DoPost.same hs he hb
theorem r_far4 {w5:World} {a b g:Nat} {v:Value} {xs:List S24} (h:Kd.R k24 24 w5 b (fun _ => True) v xs) (hg:g < b) (ha:a≤b) (u0 u1 u2 u3:Value) :
  Kd.R k24 24 ((((w5.setCell ⟨g,0,none⟩ u0).setCell ⟨g,1,none⟩ u1).setCell ⟨g,2,none⟩ u2).setCell ⟨g,3,none⟩ u3) a (fun _ => True) v xs:=by
 have h1:=Kd.R_mono (ok':=fun k => k≠g) (Kd.R_bound h) (fun k hk => by have:=hk.2.1;omega)
 exact Kd.R_mono (Kd.R_lower (Kd.R_far (p:=⟨g,3,none⟩) (Kd.R_far (p:=⟨g,2,none⟩) (Kd.R_far (p:=⟨g,1,none⟩) (Kd.R_far (p:=⟨g,0,none⟩) h1 (fun _ hk => hk) u0) (fun _ hk => hk) u1) (fun _ hk => hk) u2) (fun _ hk => hk) u3) ha) (fun _ _ => trivial)
set_option maxRecDepth 100000 in
set_option maxHeartbeats 1600000 in
theorem one_0 (k:Nat) (a1_0 a1_1:Int) (a1_2:ByteArray) (A1_3:Option Addr) (c1_3:Nat) (l1_3:List S24) (r1 r2:Int) (r3:ByteArray) (r4:List S24) (s1 s2:Int) (s3:ByteArray) (s4:List S24) (w:World) (hL:LaidW w) (hr1_3:Kd.C k24 w A1_3 l1_3.length l1_3) (hc1_3:l1_3.length≤c1_3) (h1:fns_fit.f k 0 a1_0 a1_1 a1_2 l1_3=some 0) (h2:fns_do.f k 0 a1_0 a1_1 a1_2 l1_3=some (s1,s2,s3,s4)) (h3:own_Value.f s1 s2 s3 s4=some (r1,r2,r3,r4)) :
  Calls Tryd.prog 14 #[.int .i64 0,.agg #[.int .i64 a1_0,.int .i64 a1_1,.string a1_2,.slice A1_3 l1_3.length c1_3]] w fun e w' => ∃ v3_:Value,e=.returned (.tuple #[.agg #[.int .i64 r1,.int .i64 r2,.string r3,v3_],.int .i64 0])∧Kd.R k24 24 w' w.heap.size (fun _ => True) v3_ r4∧Below w.heap.size w w':=by
 have HLT:=Aside0.mk hL
 have HR:=Aside0.mk hr1_3
 have HC:=Aside0.mk hc1_3
 have HE:=Aside0.mk h1
 have HD:=Aside0.mk h2
 have HO:=Aside0.mk h3
 have HF:=Aside0.mk (Kd.C_F k24_heap hr1_3)
 clear hL hr1_3 hc1_3 h1 h2 h3
 go_enter Tryd.func14,Tryd.ntmps14
 go_wp2_with (go_at_call 19;refine (fns_fit.calls k 0 a1_0 a1_1 a1_2 A1_3 c1_3 l1_3 0 _ (LaidW.below HLT.out (below_alloc (below_alloc (Below.refl _ _) _) _)) (Kd.C_alloc (Kd.C_alloc HR.out _) _) HC.out HE.out).mono ?_;rintro e w2 ⟨rfl,hb2⟩;obtain ⟨B1,B2,hB⟩:=two_key _ a1_1 a1_2 _ w w2 hb2;have HB3:=Aside0.mk hB;have HK:=Aside0.mk B2;have hz:w.heap.size+1 < w2.heap.size:=blk_lt B2;clear hb2;have x0:w2.cell? ⟨w.heap.size,0,none⟩=some (.int .i64 a1_0):=(blk_cell B1 0).trans rfl;have x1:w2.cell? ⟨w.heap.size,1,none⟩=some (.int .i64 a1_1):=(blk_cell B1 1).trans rfl;have x2:w2.cell? ⟨w.heap.size,2,none⟩=some (.string a1_2):=(blk_cell B1 2).trans rfl;have x3:w2.cell? ⟨w.heap.size,3,none⟩=some (.slice A1_3 l1_3.length c1_3):=(blk_cell B1 3).trans rfl;clear B1 B2 hB)
 have ht:∀ (W:World) (o1 o2 o3:Obj) (b:Nat),((((W.alloc o1).alloc o2).alloc o3).alloc (.cells (onesTab b) 62)).cell? ⟨W.heap.size+1+1+1,0,none⟩=some (.func (.func 51) #[] #[]):=fun W o1 o2 o3 b => by have h:=World.cell?_alloc_new (((W.alloc o1).alloc o2).alloc o3) (onesTab b) 62 0;simp only [World.size_alloc] at h;exact h
 refine start_ (n:=10) (S:=(fun w' => w'.cell? ⟨w.heap.size,0,none⟩=some (.int .i64 a1_0)∧w'.cell? ⟨w.heap.size,1,none⟩=some (.int .i64 a1_1)∧w'.cell? ⟨w.heap.size,2,none⟩=some (.string a1_2)∧w'.cell? ⟨w.heap.size,3,none⟩=some (.slice A1_3 l1_3.length c1_3))) (ds:=[]) #[false,false,false,false,false,false,false,false,false,false] (by kernel_rfl) rfl rfl ?_ (fun hHeld => ?_)
 ·(try dsimp only);(first|((with_reducible refine ⟨(hb5.cell ?_).trans ?_,(hb5.cell ?_).trans ?_,(hb5.cell ?_).trans ?_,(hb5.cell ?_).trans ?_⟩) <;> first|(simp;omega)|omega|go_keep)|((with_reducible refine ⟨(hb4.cell ?_).trans ?_,(hb4.cell ?_).trans ?_,(hb4.cell ?_).trans ?_,(hb4.cell ?_).trans ?_⟩) <;> first|(simp;omega)|omega|go_keep)|((fail_if_success (have h_:=hb4));((refine ⟨(hb3.cell ?_).trans ?_,(hb3.cell ?_).trans ?_,(hb3.cell ?_).trans ?_,(hb3.cell ?_).trans ?_⟩) <;> first|(simp;omega)|omega|go_keep))|go_keep)
 refine pure_ (i:=1) (N:=some 15) (v:=?_) (a':=?_) #[false,true,false,false,false,false,false,false,false,false] rfl rfl (by kernel_rfl) (fun _ _ _ h => h) (Or.inl ⟨by rfl,?_⟩) ?_ ?_
 rotate_left
 ·(intro w';go_simp;with_reducible rfl)
 rotate_left
 ·(first|(simp only [Act.put,List.setIfInBounds_toArray,List.set_cons_zero,List.set_cons_succ];rfl)|rfl)
 refine take_ (i:=5) (N:=some 19) (v:=?_) (a':=?_) #[false,true,false,false,false,true,false,false,false,false] rfl rfl (by kernel_rfl) (fun _ _ _ h => h) (Or.inl ⟨by rfl,?_⟩) hHeld ?_ ?_
 rotate_left
 ·(rintro w' ⟨s0,s1,s2,s3⟩;go_simp;with_reducible rfl)
 rotate_left
 ·(first|(simp only [Act.put,List.setIfInBounds_toArray,List.set_cons_zero,List.set_cons_succ];rfl)|rfl)
 refine one_ (i:=0) (N:=some 14) #[true,true,false,false,false,true,false,false,false,false] rfl rfl (by kernel_rfl) (by simp) (fun K hK => ?_)
 go_simp
 (go_at_call 29;refine (fns_ones.callsB _).mono ?_;rintro e w3 ⟨rfl,rfl,hb3⟩)
 (try go_wp2_with fail)
 refine hK.out _ _ ?_ (fun hHeld => ?_)
 ·(try dsimp only);(first|((with_reducible refine ⟨(hb5.cell ?_).trans ?_,(hb5.cell ?_).trans ?_,(hb5.cell ?_).trans ?_,(hb5.cell ?_).trans ?_⟩) <;> first|(simp;omega)|omega|go_keep)|((with_reducible refine ⟨(hb4.cell ?_).trans ?_,(hb4.cell ?_).trans ?_,(hb4.cell ?_).trans ?_,(hb4.cell ?_).trans ?_⟩) <;> first|(simp;omega)|omega|go_keep)|((fail_if_success (have h_:=hb4));((refine ⟨(hb3.cell ?_).trans ?_,(hb3.cell ?_).trans ?_,(hb3.cell ?_).trans ?_,(hb3.cell ?_).trans ?_⟩) <;> first|(simp;omega)|omega|go_keep))|go_keep)
 clear hK K
 refine norm_ (a':=?_) ?_ ?_
 rotate_left
 ·(first|(simp only [Act.put,List.setIfInBounds_toArray,List.set_cons_zero,List.set_cons_succ];rfl)|rfl)
 refine pure_ (i:=2) (N:=some 16) (v:=?_) (a':=?_) #[true,true,true,false,false,true,false,false,false,false] rfl rfl (by kernel_rfl) (fun _ _ _ h => h) (Or.inl ⟨by rfl,?_⟩) ?_ ?_
 rotate_left
 ·(intro w';go_simp;with_reducible rfl)
 rotate_left
 ·(first|(simp only [Act.put,List.setIfInBounds_toArray,List.set_cons_zero,List.set_cons_succ];rfl)|rfl)
 refine pure_ (i:=3) (N:=some 17) (v:=?_) (a':=?_) #[true,true,true,true,false,true,false,false,false,false] rfl rfl (by kernel_rfl) (fun _ _ _ h => h) (Or.inl ⟨by rfl,?_⟩) ?_ ?_
 rotate_left
 ·(intro w';go_simp;with_reducible rfl)
 rotate_left
 ·(first|(simp only [Act.put,List.setIfInBounds_toArray,List.set_cons_zero,List.set_cons_succ];rfl)|rfl)
 refine one_ (i:=4) (N:=some 18) #[true,true,true,true,true,true,false,false,false,false] rfl rfl (by kernel_rfl) (by simp) (fun K hK => ?_)
 go_simp
 refine hK.out _ _ ?_ (fun hHeld => ?_)
 ·(try dsimp only);(first|((with_reducible refine ⟨(hb5.cell ?_).trans ?_,(hb5.cell ?_).trans ?_,(hb5.cell ?_).trans ?_,(hb5.cell ?_).trans ?_⟩) <;> first|(simp;omega)|omega|go_keep)|((with_reducible refine ⟨(hb4.cell ?_).trans ?_,(hb4.cell ?_).trans ?_,(hb4.cell ?_).trans ?_,(hb4.cell ?_).trans ?_⟩) <;> first|(simp;omega)|omega|go_keep)|((fail_if_success (have h_:=hb4));((refine ⟨(hb3.cell ?_).trans ?_,(hb3.cell ?_).trans ?_,(hb3.cell ?_).trans ?_,(hb3.cell ?_).trans ?_⟩) <;> first|(simp;omega)|omega|go_keep))|go_keep)
 clear hK K
 refine norm_ (a':=?_) ?_ ?_
 rotate_left
 ·(first|(simp only [Act.put,List.setIfInBounds_toArray,List.set_cons_zero,List.set_cons_succ];rfl)|rfl)
 refine one_ (i:=6) (N:=some 20) #[true,true,true,true,true,true,true,false,false,false] rfl rfl (by kernel_rfl) (by simp) (fun K hK => ?_)
 go_simp
 (go_at_call 51;refine (do_0 k a1_0 a1_1 a1_2 A1_3 c1_3 l1_3 (fun k_ => k_ < w.heap.size) s1 s2 s3 s4 _ (LaidW.below HLT.out (by repeat (first|(with_reducible first|exact HB3.out|apply below_alloc|apply pw_below_drewN|apply below_drew1)|exact HB3.out|apply below_alloc))) (Kd.V_mk HC.out (Kd.F_below HF.out (by repeat (first|(with_reducible first|exact HB3.out|apply below_alloc|apply pw_below_drewN|apply below_drew1)|exact HB3.out|apply below_alloc)))) HD.out).mono ?_;rintro e w4 ⟨v4,rfl,hv4,hb4⟩;obtain ⟨A4,c4,rfl⟩:=Kd.V_slice hv4;have HK4:Aside0 (w4.heap[w.heap.size+1]? = some (.cells #[.int .i64 0,.int .i64 0,.string ⟨#[]⟩,.slice none 0 0] 24 (0,0))):=Aside0.mk (blk_below (by repeat (first|exact HK.out|refine blk_drewN ?_ _|refine blk_drew ?_|refine blk_alloc ?_ _)) hb4);have hz4:w.heap.size+1 < w4.heap.size:=blk_lt HK4.out;have HB4:Aside0 (Below w.heap.size w w4):=Aside0.mk (below_step (by repeat (first|(with_reducible first|exact HB3.out|apply below_alloc|apply pw_below_drewN|apply below_drew1)|exact HB3.out|apply below_alloc)) hb4))
 (try go_wp2_with fail)
 refine hK.out _ _ ?_ (fun hHeld => ?_)
 ·(try dsimp only);(first|((with_reducible refine ⟨(hb5.cell ?_).trans ?_,(hb5.cell ?_).trans ?_,(hb5.cell ?_).trans ?_,(hb5.cell ?_).trans ?_⟩) <;> first|(simp;omega)|omega|go_keep)|((with_reducible refine ⟨(hb4.cell ?_).trans ?_,(hb4.cell ?_).trans ?_,(hb4.cell ?_).trans ?_,(hb4.cell ?_).trans ?_⟩) <;> first|(simp;omega)|omega|go_keep)|((fail_if_success (have h_:=hb4));((refine ⟨(hb3.cell ?_).trans ?_,(hb3.cell ?_).trans ?_,(hb3.cell ?_).trans ?_,(hb3.cell ?_).trans ?_⟩) <;> first|(simp;omega)|omega|go_keep))|go_keep)
 clear hK K
 refine norm_ (a':=?_) ?_ ?_
 rotate_left
 ·(first|(simp only [Act.put,List.setIfInBounds_toArray,List.set_cons_zero,List.set_cons_succ];rfl)|rfl)
 refine one_ (i:=7) (N:=some 21) #[true,true,true,true,true,true,true,true,false,false] rfl rfl (by kernel_rfl) (by simp) (fun K hK => ?_)
 go_simp
 (go_at_call 27;refine (own_Value.calls s1 s2 s3 A4 c4 s4 r1 r2 r3 r4 _ (Kd.V_reads' hv4).2.2 (Kd.V_reads' hv4).2.1 HO.out).mono ?_;rintro e w5 ⟨v5,rfl,hr5,hb5⟩;obtain ⟨A5,c5,rfl⟩:=Kd.R_slice hr5;have HK5:Aside0 (w5.heap[w.heap.size+1]? = some (.cells #[.int .i64 0,.int .i64 0,.string ⟨#[]⟩,.slice none 0 0] 24 (0,0))):=Aside0.mk (blk_below (by repeat (first|exact HK4.out|refine blk_drewN ?_ _|refine blk_drew ?_|refine blk_alloc ?_ _)) hb5);have HB5:Aside0 (Below w.heap.size w w5):=Aside0.mk (below_step (by repeat (first|exact HB4.out|apply pw_below_drewN|apply below_drew1)) hb5);have y0':w5.cell? ⟨w.heap.size+1,0,none⟩=some (.int .i64 0):=(blk_cell HK5.out 0).trans rfl;have y1':w5.cell? ⟨w.heap.size+1,1,none⟩=some (.int .i64 0):=(blk_cell HK5.out 1).trans rfl;have y2':w5.cell? ⟨w.heap.size+1,2,none⟩=some (.string ⟨#[]⟩):=(blk_cell HK5.out 2).trans rfl;have y3':w5.cell? ⟨w.heap.size+1,3,none⟩=some (.slice none 0 0):=(blk_cell HK5.out 3).trans rfl;have g0':w5.frozen? ⟨w.heap.size+1,0,none⟩=false:=blk_frozen HK5.out 0;have g1':w5.frozen? ⟨w.heap.size+1,1,none⟩=false:=blk_frozen HK5.out 1;have g2':w5.frozen? ⟨w.heap.size+1,2,none⟩=false:=blk_frozen HK5.out 2;have g3':w5.frozen? ⟨w.heap.size+1,3,none⟩=false:=blk_frozen HK5.out 3;have HR5:=Aside0.mk hr5;have hz5:w.heap.size+1 < w5.heap.size:=blk_lt HK5.out;clear hr5)
 (try go_wp2_with fail)
 refine hK.out _ _ ?_ (fun hHeld => ?_)
 ·(try dsimp only);(first|((with_reducible refine ⟨(hb5.cell ?_).trans ?_,(hb5.cell ?_).trans ?_,(hb5.cell ?_).trans ?_,(hb5.cell ?_).trans ?_⟩) <;> first|(simp;omega)|omega|go_keep)|((with_reducible refine ⟨(hb4.cell ?_).trans ?_,(hb4.cell ?_).trans ?_,(hb4.cell ?_).trans ?_,(hb4.cell ?_).trans ?_⟩) <;> first|(simp;omega)|omega|go_keep)|((fail_if_success (have h_:=hb4));((refine ⟨(hb3.cell ?_).trans ?_,(hb3.cell ?_).trans ?_,(hb3.cell ?_).trans ?_,(hb3.cell ?_).trans ?_⟩) <;> first|(simp;omega)|omega|go_keep))|go_keep)
 clear hK K
 refine norm_ (a':=?_) ?_ ?_
 rotate_left
 ·(first|(simp only [Act.put,List.setIfInBounds_toArray,List.set_cons_zero,List.set_cons_succ];rfl)|rfl)
 refine one_ (i:=8) (N:=none) #[true,true,true,true,true,true,true,true,true,false] rfl rfl (by kernel_rfl) (by simp) (fun K hK => ?_)
 go_simp
 refine hK.out _ _ ?_ (fun hHeld => ?_)
 ·(try dsimp only);(first|((with_reducible refine ⟨(hb5.cell ?_).trans ?_,(hb5.cell ?_).trans ?_,(hb5.cell ?_).trans ?_,(hb5.cell ?_).trans ?_⟩) <;> first|(simp;omega)|omega|go_keep)|((with_reducible refine ⟨(hb4.cell ?_).trans ?_,(hb4.cell ?_).trans ?_,(hb4.cell ?_).trans ?_,(hb4.cell ?_).trans ?_⟩) <;> first|(simp;omega)|omega|go_keep)|((fail_if_success (have h_:=hb4));((refine ⟨(hb3.cell ?_).trans ?_,(hb3.cell ?_).trans ?_,(hb3.cell ?_).trans ?_,(hb3.cell ?_).trans ?_⟩) <;> first|(simp;omega)|omega|go_keep))|go_keep)
 clear hK K
 refine norm_ (a':=?_) ?_ ?_
 rotate_left
 ·(first|(simp only [Act.put,List.setIfInBounds_toArray,List.set_cons_zero,List.set_cons_succ];rfl)|rfl)
 refine pure_ (i:=9) (N:=some 5) (v:=?_) (a':=?_) #[true,true,true,true,true,true,true,true,true,true] rfl rfl (by kernel_rfl) (fun _ _ _ h => h) (Or.inl ⟨by rfl,?_⟩) ?_ ?_
 rotate_left
 ·(intro w';go_simp;with_reducible rfl)
 rotate_left
 ·(first|(simp only [Act.put,List.setIfInBounds_toArray,List.set_cons_zero,List.set_cons_succ];rfl)|rfl)
 refine done_ (by kernel_rfl) ?_
 go_wp2
 refine bodyPost_ret (results_ct rfl _ _ (w.heap.size+1) 24 #[.int .i64 r1,.int .i64 r2,.string r3,.slice A5 r4.length c5] (0,0) _ rfl (pu4 HK5) Tryd.underlying24 rfl (by kernel_rfl)) rfl ?_
 exact ⟨_,rfl,r_far4 HR5.out hz4 (by omega) _ _ _ _,by repeat (first|exact HB5.out|refine below_set ?_ (by simp))⟩
set_option maxRecDepth 100000 in
set_option maxHeartbeats 1600000 in
theorem one_1 (k:Nat) (a1_0 a1_1:Int) (a1_2:ByteArray) (A1_3:Option Addr) (c1_3:Nat) (l1_3:List S24) (r1 r2:Int) (r3:ByteArray) (r4:List S24) (s1 s2:Int) (s3:ByteArray) (s4:List S24) (w:World) (hL:LaidW w) (hr1_3:Kd.C k24 w A1_3 l1_3.length l1_3) (hc1_3:l1_3.length≤c1_3) (h1:fns_fit.f k 1 a1_0 a1_1 a1_2 l1_3=some 0) (h2:fns_do.f k 1 a1_0 a1_1 a1_2 l1_3=some (s1,s2,s3,s4)) (h3:own_Value.f s1 s2 s3 s4=some (r1,r2,r3,r4)) :
  Calls Tryd.prog 14 #[.int .i64 1,.agg #[.int .i64 a1_0,.int .i64 a1_1,.string a1_2,.slice A1_3 l1_3.length c1_3]] w fun e w' => ∃ v3_:Value,e=.returned (.tuple #[.agg #[.int .i64 r1,.int .i64 r2,.string r3,v3_],.int .i64 0])∧Kd.R k24 24 w' w.heap.size (fun _ => True) v3_ r4∧Below w.heap.size w w':=by
 have HLT:=Aside0.mk hL
 have HR:=Aside0.mk hr1_3
 have HC:=Aside0.mk hc1_3
 have HE:=Aside0.mk h1
 have HD:=Aside0.mk h2
 have HO:=Aside0.mk h3
 have HF:=Aside0.mk (Kd.C_F k24_heap hr1_3)
 clear hL hr1_3 hc1_3 h1 h2 h3
 go_enter Tryd.func14,Tryd.ntmps14
 go_wp2_with (go_at_call 19;refine (fns_fit.calls k 1 a1_0 a1_1 a1_2 A1_3 c1_3 l1_3 0 _ (LaidW.below HLT.out (below_alloc (below_alloc (Below.refl _ _) _) _)) (Kd.C_alloc (Kd.C_alloc HR.out _) _) HC.out HE.out).mono ?_;rintro e w2 ⟨rfl,hb2⟩;obtain ⟨B1,B2,hB⟩:=two_key _ a1_1 a1_2 _ w w2 hb2;have HB3:=Aside0.mk hB;have HK:=Aside0.mk B2;have hz:w.heap.size+1 < w2.heap.size:=blk_lt B2;clear hb2;have x0:w2.cell? ⟨w.heap.size,0,none⟩=some (.int .i64 a1_0):=(blk_cell B1 0).trans rfl;have x1:w2.cell? ⟨w.heap.size,1,none⟩=some (.int .i64 a1_1):=(blk_cell B1 1).trans rfl;have x2:w2.cell? ⟨w.heap.size,2,none⟩=some (.string a1_2):=(blk_cell B1 2).trans rfl;have x3:w2.cell? ⟨w.heap.size,3,none⟩=some (.slice A1_3 l1_3.length c1_3):=(blk_cell B1 3).trans rfl;clear B1 B2 hB)
 have ht:∀ (W:World) (o1 o2 o3:Obj) (b:Nat),((((W.alloc o1).alloc o2).alloc o3).alloc (.cells (onesTab b) 62)).cell? ⟨W.heap.size+1+1+1,1,none⟩=some (.func (.func 70) #[] #[.pointer (some ⟨b,0,none⟩)]):=fun W o1 o2 o3 b => by have h:=World.cell?_alloc_new (((W.alloc o1).alloc o2).alloc o3) (onesTab b) 62 1;simp only [World.size_alloc] at h;exact h
 refine start_ (n:=10) (S:=(fun w' => w'.cell? ⟨w.heap.size,0,none⟩=some (.int .i64 a1_0)∧w'.cell? ⟨w.heap.size,1,none⟩=some (.int .i64 a1_1)∧w'.cell? ⟨w.heap.size,2,none⟩=some (.string a1_2)∧w'.cell? ⟨w.heap.size,3,none⟩=some (.slice A1_3 l1_3.length c1_3))) (ds:=[]) #[false,false,false,false,false,false,false,false,false,false] (by kernel_rfl) rfl rfl ?_ (fun hHeld => ?_)
 ·(try dsimp only);(first|((with_reducible refine ⟨(hb5.cell ?_).trans ?_,(hb5.cell ?_).trans ?_,(hb5.cell ?_).trans ?_,(hb5.cell ?_).trans ?_⟩) <;> first|(simp;omega)|omega|go_keep)|((with_reducible refine ⟨(hb4.cell ?_).trans ?_,(hb4.cell ?_).trans ?_,(hb4.cell ?_).trans ?_,(hb4.cell ?_).trans ?_⟩) <;> first|(simp;omega)|omega|go_keep)|((fail_if_success (have h_:=hb4));((refine ⟨(hb3.cell ?_).trans ?_,(hb3.cell ?_).trans ?_,(hb3.cell ?_).trans ?_,(hb3.cell ?_).trans ?_⟩) <;> first|(simp;omega)|omega|go_keep))|go_keep)
 refine pure_ (i:=1) (N:=some 15) (v:=?_) (a':=?_) #[false,true,false,false,false,false,false,false,false,false] rfl rfl (by kernel_rfl) (fun _ _ _ h => h) (Or.inl ⟨by rfl,?_⟩) ?_ ?_
 rotate_left
 ·(intro w';go_simp;with_reducible rfl)
 rotate_left
 ·(first|(simp only [Act.put,List.setIfInBounds_toArray,List.set_cons_zero,List.set_cons_succ];rfl)|rfl)
 refine take_ (i:=5) (N:=some 19) (v:=?_) (a':=?_) #[false,true,false,false,false,true,false,false,false,false] rfl rfl (by kernel_rfl) (fun _ _ _ h => h) (Or.inl ⟨by rfl,?_⟩) hHeld ?_ ?_
 rotate_left
 ·(rintro w' ⟨s0,s1,s2,s3⟩;go_simp;with_reducible rfl)
 rotate_left
 ·(first|(simp only [Act.put,List.setIfInBounds_toArray,List.set_cons_zero,List.set_cons_succ];rfl)|rfl)
 refine one_ (i:=0) (N:=some 14) #[true,true,false,false,false,true,false,false,false,false] rfl rfl (by kernel_rfl) (by simp) (fun K hK => ?_)
 go_simp
 (go_at_call 29;refine (fns_ones.callsB _).mono ?_;rintro e w3 ⟨rfl,rfl,hb3⟩)
 (try go_wp2_with fail)
 refine hK.out _ _ ?_ (fun hHeld => ?_)
 ·(try dsimp only);(first|((with_reducible refine ⟨(hb5.cell ?_).trans ?_,(hb5.cell ?_).trans ?_,(hb5.cell ?_).trans ?_,(hb5.cell ?_).trans ?_⟩) <;> first|(simp;omega)|omega|go_keep)|((with_reducible refine ⟨(hb4.cell ?_).trans ?_,(hb4.cell ?_).trans ?_,(hb4.cell ?_).trans ?_,(hb4.cell ?_).trans ?_⟩) <;> first|(simp;omega)|omega|go_keep)|((fail_if_success (have h_:=hb4));((refine ⟨(hb3.cell ?_).trans ?_,(hb3.cell ?_).trans ?_,(hb3.cell ?_).trans ?_,(hb3.cell ?_).trans ?_⟩) <;> first|(simp;omega)|omega|go_keep))|go_keep)
 clear hK K
 refine norm_ (a':=?_) ?_ ?_
 rotate_left
 ·(first|(simp only [Act.put,List.setIfInBounds_toArray,List.set_cons_zero,List.set_cons_succ];rfl)|rfl)
 refine pure_ (i:=2) (N:=some 16) (v:=?_) (a':=?_) #[true,true,true,false,false,true,false,false,false,false] rfl rfl (by kernel_rfl) (fun _ _ _ h => h) (Or.inl ⟨by rfl,?_⟩) ?_ ?_
 rotate_left
 ·(intro w';go_simp;with_reducible rfl)
 rotate_left
 ·(first|(simp only [Act.put,List.setIfInBounds_toArray,List.set_cons_zero,List.set_cons_succ];rfl)|rfl)
 refine pure_ (i:=3) (N:=some 17) (v:=?_) (a':=?_) #[true,true,true,true,false,true,false,false,false,false] rfl rfl (by kernel_rfl) (fun _ _ _ h => h) (Or.inl ⟨by rfl,?_⟩) ?_ ?_
 rotate_left
 ·(intro w';go_simp;with_reducible rfl)
 rotate_left
 ·(first|(simp only [Act.put,List.setIfInBounds_toArray,List.set_cons_zero,List.set_cons_succ];rfl)|rfl)
 refine one_ (i:=4) (N:=some 18) #[true,true,true,true,true,true,false,false,false,false] rfl rfl (by kernel_rfl) (by simp) (fun K hK => ?_)
 go_simp
 refine hK.out _ _ ?_ (fun hHeld => ?_)
 ·(try dsimp only);(first|((with_reducible refine ⟨(hb5.cell ?_).trans ?_,(hb5.cell ?_).trans ?_,(hb5.cell ?_).trans ?_,(hb5.cell ?_).trans ?_⟩) <;> first|(simp;omega)|omega|go_keep)|((with_reducible refine ⟨(hb4.cell ?_).trans ?_,(hb4.cell ?_).trans ?_,(hb4.cell ?_).trans ?_,(hb4.cell ?_).trans ?_⟩) <;> first|(simp;omega)|omega|go_keep)|((fail_if_success (have h_:=hb4));((refine ⟨(hb3.cell ?_).trans ?_,(hb3.cell ?_).trans ?_,(hb3.cell ?_).trans ?_,(hb3.cell ?_).trans ?_⟩) <;> first|(simp;omega)|omega|go_keep))|go_keep)
 clear hK K
 refine norm_ (a':=?_) ?_ ?_
 rotate_left
 ·(first|(simp only [Act.put,List.setIfInBounds_toArray,List.set_cons_zero,List.set_cons_succ];rfl)|rfl)
 refine one_ (i:=6) (N:=some 20) #[true,true,true,true,true,true,true,false,false,false] rfl rfl (by kernel_rfl) (by simp) (fun K hK => ?_)
 go_simp
 (go_at_call 70;refine (do_1 k a1_0 a1_1 a1_2 A1_3 c1_3 l1_3 (fun k_ => k_ < w.heap.size) s1 s2 s3 s4 _ (LaidW.below HLT.out (by repeat (first|(with_reducible first|exact HB3.out|apply below_alloc|apply pw_below_drewN|apply below_drew1)|exact HB3.out|apply below_alloc))) (Kd.V_mk HC.out (Kd.F_below HF.out (by repeat (first|(with_reducible first|exact HB3.out|apply below_alloc|apply pw_below_drewN|apply below_drew1)|exact HB3.out|apply below_alloc)))) w2.heap.size (by have h_:=(onesW_box w2).1;exact h_) HD.out).mono ?_;rintro e w4 ⟨v4,rfl,hv4,hb4⟩;obtain ⟨A4,c4,rfl⟩:=Kd.V_slice hv4;have HK4:Aside0 (w4.heap[w.heap.size+1]? = some (.cells #[.int .i64 0,.int .i64 0,.string ⟨#[]⟩,.slice none 0 0] 24 (0,0))):=Aside0.mk (blk_below (by repeat (first|exact HK.out|refine blk_drewN ?_ _|refine blk_drew ?_|refine blk_alloc ?_ _)) hb4);have hz4:w.heap.size+1 < w4.heap.size:=blk_lt HK4.out;have HB4:Aside0 (Below w.heap.size w w4):=Aside0.mk (below_step (by repeat (first|(with_reducible first|exact HB3.out|apply below_alloc|apply pw_below_drewN|apply below_drew1)|exact HB3.out|apply below_alloc)) hb4))
 (try go_wp2_with fail)
 refine hK.out _ _ ?_ (fun hHeld => ?_)
 ·(try dsimp only);(first|((with_reducible refine ⟨(hb5.cell ?_).trans ?_,(hb5.cell ?_).trans ?_,(hb5.cell ?_).trans ?_,(hb5.cell ?_).trans ?_⟩) <;> first|(simp;omega)|omega|go_keep)|((with_reducible refine ⟨(hb4.cell ?_).trans ?_,(hb4.cell ?_).trans ?_,(hb4.cell ?_).trans ?_,(hb4.cell ?_).trans ?_⟩) <;> first|(simp;omega)|omega|go_keep)|((fail_if_success (have h_:=hb4));((refine ⟨(hb3.cell ?_).trans ?_,(hb3.cell ?_).trans ?_,(hb3.cell ?_).trans ?_,(hb3.cell ?_).trans ?_⟩) <;> first|(simp;omega)|omega|go_keep))|go_keep)
 clear hK K
 refine norm_ (a':=?_) ?_ ?_
 rotate_left
 ·(first|(simp only [Act.put,List.setIfInBounds_toArray,List.set_cons_zero,List.set_cons_succ];rfl)|rfl)
 refine one_ (i:=7) (N:=some 21) #[true,true,true,true,true,true,true,true,false,false] rfl rfl (by kernel_rfl) (by simp) (fun K hK => ?_)
 go_simp
 (go_at_call 27;refine (own_Value.calls s1 s2 s3 A4 c4 s4 r1 r2 r3 r4 _ (Kd.V_reads' hv4).2.2 (Kd.V_reads' hv4).2.1 HO.out).mono ?_;rintro e w5 ⟨v5,rfl,hr5,hb5⟩;obtain ⟨A5,c5,rfl⟩:=Kd.R_slice hr5;have HK5:Aside0 (w5.heap[w.heap.size+1]? = some (.cells #[.int .i64 0,.int .i64 0,.string ⟨#[]⟩,.slice none 0 0] 24 (0,0))):=Aside0.mk (blk_below (by repeat (first|exact HK4.out|refine blk_drewN ?_ _|refine blk_drew ?_|refine blk_alloc ?_ _)) hb5);have HB5:Aside0 (Below w.heap.size w w5):=Aside0.mk (below_step (by repeat (first|exact HB4.out|apply pw_below_drewN|apply below_drew1)) hb5);have y0':w5.cell? ⟨w.heap.size+1,0,none⟩=some (.int .i64 0):=(blk_cell HK5.out 0).trans rfl;have y1':w5.cell? ⟨w.heap.size+1,1,none⟩=some (.int .i64 0):=(blk_cell HK5.out 1).trans rfl;have y2':w5.cell? ⟨w.heap.size+1,2,none⟩=some (.string ⟨#[]⟩):=(blk_cell HK5.out 2).trans rfl;have y3':w5.cell? ⟨w.heap.size+1,3,none⟩=some (.slice none 0 0):=(blk_cell HK5.out 3).trans rfl;have g0':w5.frozen? ⟨w.heap.size+1,0,none⟩=false:=blk_frozen HK5.out 0;have g1':w5.frozen? ⟨w.heap.size+1,1,none⟩=false:=blk_frozen HK5.out 1;have g2':w5.frozen? ⟨w.heap.size+1,2,none⟩=false:=blk_frozen HK5.out 2;have g3':w5.frozen? ⟨w.heap.size+1,3,none⟩=false:=blk_frozen HK5.out 3;have HR5:=Aside0.mk hr5;have hz5:w.heap.size+1 < w5.heap.size:=blk_lt HK5.out;clear hr5)
 (try go_wp2_with fail)
 refine hK.out _ _ ?_ (fun hHeld => ?_)
 ·(try dsimp only);(first|((with_reducible refine ⟨(hb5.cell ?_).trans ?_,(hb5.cell ?_).trans ?_,(hb5.cell ?_).trans ?_,(hb5.cell ?_).trans ?_⟩) <;> first|(simp;omega)|omega|go_keep)|((with_reducible refine ⟨(hb4.cell ?_).trans ?_,(hb4.cell ?_).trans ?_,(hb4.cell ?_).trans ?_,(hb4.cell ?_).trans ?_⟩) <;> first|(simp;omega)|omega|go_keep)|((fail_if_success (have h_:=hb4));((refine ⟨(hb3.cell ?_).trans ?_,(hb3.cell ?_).trans ?_,(hb3.cell ?_).trans ?_,(hb3.cell ?_).trans ?_⟩) <;> first|(simp;omega)|omega|go_keep))|go_keep)
 clear hK K
 refine norm_ (a':=?_) ?_ ?_
 rotate_left
 ·(first|(simp only [Act.put,List.setIfInBounds_toArray,List.set_cons_zero,List.set_cons_succ];rfl)|rfl)
 refine one_ (i:=8) (N:=none) #[true,true,true,true,true,true,true,true,true,false] rfl rfl (by kernel_rfl) (by simp) (fun K hK => ?_)
 go_simp
 refine hK.out _ _ ?_ (fun hHeld => ?_)
 ·(try dsimp only);(first|((with_reducible refine ⟨(hb5.cell ?_).trans ?_,(hb5.cell ?_).trans ?_,(hb5.cell ?_).trans ?_,(hb5.cell ?_).trans ?_⟩) <;> first|(simp;omega)|omega|go_keep)|((with_reducible refine ⟨(hb4.cell ?_).trans ?_,(hb4.cell ?_).trans ?_,(hb4.cell ?_).trans ?_,(hb4.cell ?_).trans ?_⟩) <;> first|(simp;omega)|omega|go_keep)|((fail_if_success (have h_:=hb4));((refine ⟨(hb3.cell ?_).trans ?_,(hb3.cell ?_).trans ?_,(hb3.cell ?_).trans ?_,(hb3.cell ?_).trans ?_⟩) <;> first|(simp;omega)|omega|go_keep))|go_keep)
 clear hK K
 refine norm_ (a':=?_) ?_ ?_
 rotate_left
 ·(first|(simp only [Act.put,List.setIfInBounds_toArray,List.set_cons_zero,List.set_cons_succ];rfl)|rfl)
 refine pure_ (i:=9) (N:=some 5) (v:=?_) (a':=?_) #[true,true,true,true,true,true,true,true,true,true] rfl rfl (by kernel_rfl) (fun _ _ _ h => h) (Or.inl ⟨by rfl,?_⟩) ?_ ?_
 rotate_left
 ·(intro w';go_simp;with_reducible rfl)
 rotate_left
 ·(first|(simp only [Act.put,List.setIfInBounds_toArray,List.set_cons_zero,List.set_cons_succ];rfl)|rfl)
 refine done_ (by kernel_rfl) ?_
 go_wp2
 refine bodyPost_ret (results_ct rfl _ _ (w.heap.size+1) 24 #[.int .i64 r1,.int .i64 r2,.string r3,.slice A5 r4.length c5] (0,0) _ rfl (pu4 HK5) Tryd.underlying24 rfl (by kernel_rfl)) rfl ?_
 exact ⟨_,rfl,r_far4 HR5.out hz4 (by omega) _ _ _ _,by repeat (first|exact HB5.out|refine below_set ?_ (by simp))⟩
set_option maxRecDepth 100000 in
set_option maxHeartbeats 1600000 in
theorem one_2 (k:Nat) (a1_0 a1_1:Int) (a1_2:ByteArray) (A1_3:Option Addr) (c1_3:Nat) (l1_3:List S24) (r1 r2:Int) (r3:ByteArray) (r4:List S24) (s1 s2:Int) (s3:ByteArray) (s4:List S24) (w:World) (hL:LaidW w) (hr1_3:Kd.C k24 w A1_3 l1_3.length l1_3) (hc1_3:l1_3.length≤c1_3) (h1:fns_fit.f k 2 a1_0 a1_1 a1_2 l1_3=some 0) (h2:fns_do.f k 2 a1_0 a1_1 a1_2 l1_3=some (s1,s2,s3,s4)) (h3:own_Value.f s1 s2 s3 s4=some (r1,r2,r3,r4)) :
  Calls Tryd.prog 14 #[.int .i64 2,.agg #[.int .i64 a1_0,.int .i64 a1_1,.string a1_2,.slice A1_3 l1_3.length c1_3]] w fun e w' => ∃ v3_:Value,e=.returned (.tuple #[.agg #[.int .i64 r1,.int .i64 r2,.string r3,v3_],.int .i64 0])∧Kd.R k24 24 w' w.heap.size (fun _ => True) v3_ r4∧Below w.heap.size w w':=by
 have HLT:=Aside0.mk hL
 have HR:=Aside0.mk hr1_3
 have HC:=Aside0.mk hc1_3
 have HE:=Aside0.mk h1
 have HD:=Aside0.mk h2
 have HO:=Aside0.mk h3
 have HF:=Aside0.mk (Kd.C_F k24_heap hr1_3)
 clear hL hr1_3 hc1_3 h1 h2 h3
 go_enter Tryd.func14,Tryd.ntmps14
 go_wp2_with (go_at_call 19;refine (fns_fit.calls k 2 a1_0 a1_1 a1_2 A1_3 c1_3 l1_3 0 _ (LaidW.below HLT.out (below_alloc (below_alloc (Below.refl _ _) _) _)) (Kd.C_alloc (Kd.C_alloc HR.out _) _) HC.out HE.out).mono ?_;rintro e w2 ⟨rfl,hb2⟩;obtain ⟨B1,B2,hB⟩:=two_key _ a1_1 a1_2 _ w w2 hb2;have HB3:=Aside0.mk hB;have HK:=Aside0.mk B2;have hz:w.heap.size+1 < w2.heap.size:=blk_lt B2;clear hb2;have x0:w2.cell? ⟨w.heap.size,0,none⟩=some (.int .i64 a1_0):=(blk_cell B1 0).trans rfl;have x1:w2.cell? ⟨w.heap.size,1,none⟩=some (.int .i64 a1_1):=(blk_cell B1 1).trans rfl;have x2:w2.cell? ⟨w.heap.size,2,none⟩=some (.string a1_2):=(blk_cell B1 2).trans rfl;have x3:w2.cell? ⟨w.heap.size,3,none⟩=some (.slice A1_3 l1_3.length c1_3):=(blk_cell B1 3).trans rfl;clear B1 B2 hB)
 have ht:∀ (W:World) (o1 o2 o3:Obj) (b:Nat),((((W.alloc o1).alloc o2).alloc o3).alloc (.cells (onesTab b) 62)).cell? ⟨W.heap.size+1+1+1,2,none⟩=some (.func (.func 70) #[] #[.pointer (some ⟨b+1,0,none⟩)]):=fun W o1 o2 o3 b => by have h:=World.cell?_alloc_new (((W.alloc o1).alloc o2).alloc o3) (onesTab b) 62 2;simp only [World.size_alloc] at h;exact h
 refine start_ (n:=10) (S:=(fun w' => w'.cell? ⟨w.heap.size,0,none⟩=some (.int .i64 a1_0)∧w'.cell? ⟨w.heap.size,1,none⟩=some (.int .i64 a1_1)∧w'.cell? ⟨w.heap.size,2,none⟩=some (.string a1_2)∧w'.cell? ⟨w.heap.size,3,none⟩=some (.slice A1_3 l1_3.length c1_3))) (ds:=[]) #[false,false,false,false,false,false,false,false,false,false] (by kernel_rfl) rfl rfl ?_ (fun hHeld => ?_)
 ·(try dsimp only);(first|((with_reducible refine ⟨(hb5.cell ?_).trans ?_,(hb5.cell ?_).trans ?_,(hb5.cell ?_).trans ?_,(hb5.cell ?_).trans ?_⟩) <;> first|(simp;omega)|omega|go_keep)|((with_reducible refine ⟨(hb4.cell ?_).trans ?_,(hb4.cell ?_).trans ?_,(hb4.cell ?_).trans ?_,(hb4.cell ?_).trans ?_⟩) <;> first|(simp;omega)|omega|go_keep)|((fail_if_success (have h_:=hb4));((refine ⟨(hb3.cell ?_).trans ?_,(hb3.cell ?_).trans ?_,(hb3.cell ?_).trans ?_,(hb3.cell ?_).trans ?_⟩) <;> first|(simp;omega)|omega|go_keep))|go_keep)
 refine pure_ (i:=1) (N:=some 15) (v:=?_) (a':=?_) #[false,true,false,false,false,false,false,false,false,false] rfl rfl (by kernel_rfl) (fun _ _ _ h => h) (Or.inl ⟨by rfl,?_⟩) ?_ ?_
 rotate_left
 ·(intro w';go_simp;with_reducible rfl)
 rotate_left
 ·(first|(simp only [Act.put,List.setIfInBounds_toArray,List.set_cons_zero,List.set_cons_succ];rfl)|rfl)
 refine take_ (i:=5) (N:=some 19) (v:=?_) (a':=?_) #[false,true,false,false,false,true,false,false,false,false] rfl rfl (by kernel_rfl) (fun _ _ _ h => h) (Or.inl ⟨by rfl,?_⟩) hHeld ?_ ?_
 rotate_left
 ·(rintro w' ⟨s0,s1,s2,s3⟩;go_simp;with_reducible rfl)
 rotate_left
 ·(first|(simp only [Act.put,List.setIfInBounds_toArray,List.set_cons_zero,List.set_cons_succ];rfl)|rfl)
 refine one_ (i:=0) (N:=some 14) #[true,true,false,false,false,true,false,false,false,false] rfl rfl (by kernel_rfl) (by simp) (fun K hK => ?_)
 go_simp
 (go_at_call 29;refine (fns_ones.callsB _).mono ?_;rintro e w3 ⟨rfl,rfl,hb3⟩)
 (try go_wp2_with fail)
 refine hK.out _ _ ?_ (fun hHeld => ?_)
 ·(try dsimp only);(first|((with_reducible refine ⟨(hb5.cell ?_).trans ?_,(hb5.cell ?_).trans ?_,(hb5.cell ?_).trans ?_,(hb5.cell ?_).trans ?_⟩) <;> first|(simp;omega)|omega|go_keep)|((with_reducible refine ⟨(hb4.cell ?_).trans ?_,(hb4.cell ?_).trans ?_,(hb4.cell ?_).trans ?_,(hb4.cell ?_).trans ?_⟩) <;> first|(simp;omega)|omega|go_keep)|((fail_if_success (have h_:=hb4));((refine ⟨(hb3.cell ?_).trans ?_,(hb3.cell ?_).trans ?_,(hb3.cell ?_).trans ?_,(hb3.cell ?_).trans ?_⟩) <;> first|(simp;omega)|omega|go_keep))|go_keep)
 clear hK K
 refine norm_ (a':=?_) ?_ ?_
 rotate_left
 ·(first|(simp only [Act.put,List.setIfInBounds_toArray,List.set_cons_zero,List.set_cons_succ];rfl)|rfl)
 refine pure_ (i:=2) (N:=some 16) (v:=?_) (a':=?_) #[true,true,true,false,false,true,false,false,false,false] rfl rfl (by kernel_rfl) (fun _ _ _ h => h) (Or.inl ⟨by rfl,?_⟩) ?_ ?_
 rotate_left
 ·(intro w';go_simp;with_reducible rfl)
 rotate_left
 ·(first|(simp only [Act.put,List.setIfInBounds_toArray,List.set_cons_zero,List.set_cons_succ];rfl)|rfl)
 refine pure_ (i:=3) (N:=some 17) (v:=?_) (a':=?_) #[true,true,true,true,false,true,false,false,false,false] rfl rfl (by kernel_rfl) (fun _ _ _ h => h) (Or.inl ⟨by rfl,?_⟩) ?_ ?_
 rotate_left
 ·(intro w';go_simp;with_reducible rfl)
 rotate_left
 ·(first|(simp only [Act.put,List.setIfInBounds_toArray,List.set_cons_zero,List.set_cons_succ];rfl)|rfl)
 refine one_ (i:=4) (N:=some 18) #[true,true,true,true,true,true,false,false,false,false] rfl rfl (by kernel_rfl) (by simp) (fun K hK => ?_)
 go_simp
 refine hK.out _ _ ?_ (fun hHeld => ?_)
 ·(try dsimp only);(first|((with_reducible refine ⟨(hb5.cell ?_).trans ?_,(hb5.cell ?_).trans ?_,(hb5.cell ?_).trans ?_,(hb5.cell ?_).trans ?_⟩) <;> first|(simp;omega)|omega|go_keep)|((with_reducible refine ⟨(hb4.cell ?_).trans ?_,(hb4.cell ?_).trans ?_,(hb4.cell ?_).trans ?_,(hb4.cell ?_).trans ?_⟩) <;> first|(simp;omega)|omega|go_keep)|((fail_if_success (have h_:=hb4));((refine ⟨(hb3.cell ?_).trans ?_,(hb3.cell ?_).trans ?_,(hb3.cell ?_).trans ?_,(hb3.cell ?_).trans ?_⟩) <;> first|(simp;omega)|omega|go_keep))|go_keep)
 clear hK K
 refine norm_ (a':=?_) ?_ ?_
 rotate_left
 ·(first|(simp only [Act.put,List.setIfInBounds_toArray,List.set_cons_zero,List.set_cons_succ];rfl)|rfl)
 refine one_ (i:=6) (N:=some 20) #[true,true,true,true,true,true,true,false,false,false] rfl rfl (by kernel_rfl) (by simp) (fun K hK => ?_)
 go_simp
 (go_at_call 70;refine (do_2 k a1_0 a1_1 a1_2 A1_3 c1_3 l1_3 (fun k_ => k_ < w.heap.size) s1 s2 s3 s4 _ (LaidW.below HLT.out (by repeat (first|(with_reducible first|exact HB3.out|apply below_alloc|apply pw_below_drewN|apply below_drew1)|exact HB3.out|apply below_alloc))) (Kd.V_mk HC.out (Kd.F_below HF.out (by repeat (first|(with_reducible first|exact HB3.out|apply below_alloc|apply pw_below_drewN|apply below_drew1)|exact HB3.out|apply below_alloc)))) (w2.heap.size+1) (by have h_:=(onesW_box w2).2.1;exact h_) HD.out).mono ?_;rintro e w4 ⟨v4,rfl,hv4,hb4⟩;obtain ⟨A4,c4,rfl⟩:=Kd.V_slice hv4;have HK4:Aside0 (w4.heap[w.heap.size+1]? = some (.cells #[.int .i64 0,.int .i64 0,.string ⟨#[]⟩,.slice none 0 0] 24 (0,0))):=Aside0.mk (blk_below (by repeat (first|exact HK.out|refine blk_drewN ?_ _|refine blk_drew ?_|refine blk_alloc ?_ _)) hb4);have hz4:w.heap.size+1 < w4.heap.size:=blk_lt HK4.out;have HB4:Aside0 (Below w.heap.size w w4):=Aside0.mk (below_step (by repeat (first|(with_reducible first|exact HB3.out|apply below_alloc|apply pw_below_drewN|apply below_drew1)|exact HB3.out|apply below_alloc)) hb4))
 (try go_wp2_with fail)
 refine hK.out _ _ ?_ (fun hHeld => ?_)
 ·(try dsimp only);(first|((with_reducible refine ⟨(hb5.cell ?_).trans ?_,(hb5.cell ?_).trans ?_,(hb5.cell ?_).trans ?_,(hb5.cell ?_).trans ?_⟩) <;> first|(simp;omega)|omega|go_keep)|((with_reducible refine ⟨(hb4.cell ?_).trans ?_,(hb4.cell ?_).trans ?_,(hb4.cell ?_).trans ?_,(hb4.cell ?_).trans ?_⟩) <;> first|(simp;omega)|omega|go_keep)|((fail_if_success (have h_:=hb4));((refine ⟨(hb3.cell ?_).trans ?_,(hb3.cell ?_).trans ?_,(hb3.cell ?_).trans ?_,(hb3.cell ?_).trans ?_⟩) <;> first|(simp;omega)|omega|go_keep))|go_keep)
 clear hK K
 refine norm_ (a':=?_) ?_ ?_
 rotate_left
 ·(first|(simp only [Act.put,List.setIfInBounds_toArray,List.set_cons_zero,List.set_cons_succ];rfl)|rfl)
 refine one_ (i:=7) (N:=some 21) #[true,true,true,true,true,true,true,true,false,false] rfl rfl (by kernel_rfl) (by simp) (fun K hK => ?_)
 go_simp
 (go_at_call 27;refine (own_Value.calls s1 s2 s3 A4 c4 s4 r1 r2 r3 r4 _ (Kd.V_reads' hv4).2.2 (Kd.V_reads' hv4).2.1 HO.out).mono ?_;rintro e w5 ⟨v5,rfl,hr5,hb5⟩;obtain ⟨A5,c5,rfl⟩:=Kd.R_slice hr5;have HK5:Aside0 (w5.heap[w.heap.size+1]? = some (.cells #[.int .i64 0,.int .i64 0,.string ⟨#[]⟩,.slice none 0 0] 24 (0,0))):=Aside0.mk (blk_below (by repeat (first|exact HK4.out|refine blk_drewN ?_ _|refine blk_drew ?_|refine blk_alloc ?_ _)) hb5);have HB5:Aside0 (Below w.heap.size w w5):=Aside0.mk (below_step (by repeat (first|exact HB4.out|apply pw_below_drewN|apply below_drew1)) hb5);have y0':w5.cell? ⟨w.heap.size+1,0,none⟩=some (.int .i64 0):=(blk_cell HK5.out 0).trans rfl;have y1':w5.cell? ⟨w.heap.size+1,1,none⟩=some (.int .i64 0):=(blk_cell HK5.out 1).trans rfl;have y2':w5.cell? ⟨w.heap.size+1,2,none⟩=some (.string ⟨#[]⟩):=(blk_cell HK5.out 2).trans rfl;have y3':w5.cell? ⟨w.heap.size+1,3,none⟩=some (.slice none 0 0):=(blk_cell HK5.out 3).trans rfl;have g0':w5.frozen? ⟨w.heap.size+1,0,none⟩=false:=blk_frozen HK5.out 0;have g1':w5.frozen? ⟨w.heap.size+1,1,none⟩=false:=blk_frozen HK5.out 1;have g2':w5.frozen? ⟨w.heap.size+1,2,none⟩=false:=blk_frozen HK5.out 2;have g3':w5.frozen? ⟨w.heap.size+1,3,none⟩=false:=blk_frozen HK5.out 3;have HR5:=Aside0.mk hr5;have hz5:w.heap.size+1 < w5.heap.size:=blk_lt HK5.out;clear hr5)
 (try go_wp2_with fail)
 refine hK.out _ _ ?_ (fun hHeld => ?_)
 ·(try dsimp only);(first|((with_reducible refine ⟨(hb5.cell ?_).trans ?_,(hb5.cell ?_).trans ?_,(hb5.cell ?_).trans ?_,(hb5.cell ?_).trans ?_⟩) <;> first|(simp;omega)|omega|go_keep)|((with_reducible refine ⟨(hb4.cell ?_).trans ?_,(hb4.cell ?_).trans ?_,(hb4.cell ?_).trans ?_,(hb4.cell ?_).trans ?_⟩) <;> first|(simp;omega)|omega|go_keep)|((fail_if_success (have h_:=hb4));((refine ⟨(hb3.cell ?_).trans ?_,(hb3.cell ?_).trans ?_,(hb3.cell ?_).trans ?_,(hb3.cell ?_).trans ?_⟩) <;> first|(simp;omega)|omega|go_keep))|go_keep)
 clear hK K
 refine norm_ (a':=?_) ?_ ?_
 rotate_left
 ·(first|(simp only [Act.put,List.setIfInBounds_toArray,List.set_cons_zero,List.set_cons_succ];rfl)|rfl)
 refine one_ (i:=8) (N:=none) #[true,true,true,true,true,true,true,true,true,false] rfl rfl (by kernel_rfl) (by simp) (fun K hK => ?_)
 go_simp
 refine hK.out _ _ ?_ (fun hHeld => ?_)
 ·(try dsimp only);(first|((with_reducible refine ⟨(hb5.cell ?_).trans ?_,(hb5.cell ?_).trans ?_,(hb5.cell ?_).trans ?_,(hb5.cell ?_).trans ?_⟩) <;> first|(simp;omega)|omega|go_keep)|((with_reducible refine ⟨(hb4.cell ?_).trans ?_,(hb4.cell ?_).trans ?_,(hb4.cell ?_).trans ?_,(hb4.cell ?_).trans ?_⟩) <;> first|(simp;omega)|omega|go_keep)|((fail_if_success (have h_:=hb4));((refine ⟨(hb3.cell ?_).trans ?_,(hb3.cell ?_).trans ?_,(hb3.cell ?_).trans ?_,(hb3.cell ?_).trans ?_⟩) <;> first|(simp;omega)|omega|go_keep))|go_keep)
 clear hK K
 refine norm_ (a':=?_) ?_ ?_
 rotate_left
 ·(first|(simp only [Act.put,List.setIfInBounds_toArray,List.set_cons_zero,List.set_cons_succ];rfl)|rfl)
 refine pure_ (i:=9) (N:=some 5) (v:=?_) (a':=?_) #[true,true,true,true,true,true,true,true,true,true] rfl rfl (by kernel_rfl) (fun _ _ _ h => h) (Or.inl ⟨by rfl,?_⟩) ?_ ?_
 rotate_left
 ·(intro w';go_simp;with_reducible rfl)
 rotate_left
 ·(first|(simp only [Act.put,List.setIfInBounds_toArray,List.set_cons_zero,List.set_cons_succ];rfl)|rfl)
 refine done_ (by kernel_rfl) ?_
 go_wp2
 refine bodyPost_ret (results_ct rfl _ _ (w.heap.size+1) 24 #[.int .i64 r1,.int .i64 r2,.string r3,.slice A5 r4.length c5] (0,0) _ rfl (pu4 HK5) Tryd.underlying24 rfl (by kernel_rfl)) rfl ?_
 exact ⟨_,rfl,r_far4 HR5.out hz4 (by omega) _ _ _ _,by repeat (first|exact HB5.out|refine below_set ?_ (by simp))⟩
set_option maxRecDepth 100000 in
set_option maxHeartbeats 1600000 in
theorem one_3 (k:Nat) (a1_0 a1_1:Int) (a1_2:ByteArray) (A1_3:Option Addr) (c1_3:Nat) (l1_3:List S24) (r1 r2:Int) (r3:ByteArray) (r4:List S24) (s1 s2:Int) (s3:ByteArray) (s4:List S24) (w:World) (hL:LaidW w) (hr1_3:Kd.C k24 w A1_3 l1_3.length l1_3) (hc1_3:l1_3.length≤c1_3) (h1:fns_fit.f k 3 a1_0 a1_1 a1_2 l1_3=some 0) (h2:fns_do.f k 3 a1_0 a1_1 a1_2 l1_3=some (s1,s2,s3,s4)) (h3:own_Value.f s1 s2 s3 s4=some (r1,r2,r3,r4)) :
  Calls Tryd.prog 14 #[.int .i64 3,.agg #[.int .i64 a1_0,.int .i64 a1_1,.string a1_2,.slice A1_3 l1_3.length c1_3]] w fun e w' => ∃ v3_:Value,e=.returned (.tuple #[.agg #[.int .i64 r1,.int .i64 r2,.string r3,v3_],.int .i64 0])∧Kd.R k24 24 w' w.heap.size (fun _ => True) v3_ r4∧Below w.heap.size w w':=by
 have HLT:=Aside0.mk hL
 have HR:=Aside0.mk hr1_3
 have HC:=Aside0.mk hc1_3
 have HE:=Aside0.mk h1
 have HD:=Aside0.mk h2
 have HO:=Aside0.mk h3
 have HF:=Aside0.mk (Kd.C_F k24_heap hr1_3)
 clear hL hr1_3 hc1_3 h1 h2 h3
 go_enter Tryd.func14,Tryd.ntmps14
 go_wp2_with (go_at_call 19;refine (fns_fit.calls k 3 a1_0 a1_1 a1_2 A1_3 c1_3 l1_3 0 _ (LaidW.below HLT.out (below_alloc (below_alloc (Below.refl _ _) _) _)) (Kd.C_alloc (Kd.C_alloc HR.out _) _) HC.out HE.out).mono ?_;rintro e w2 ⟨rfl,hb2⟩;obtain ⟨B1,B2,hB⟩:=two_key _ a1_1 a1_2 _ w w2 hb2;have HB3:=Aside0.mk hB;have HK:=Aside0.mk B2;have hz:w.heap.size+1 < w2.heap.size:=blk_lt B2;clear hb2;have x0:w2.cell? ⟨w.heap.size,0,none⟩=some (.int .i64 a1_0):=(blk_cell B1 0).trans rfl;have x1:w2.cell? ⟨w.heap.size,1,none⟩=some (.int .i64 a1_1):=(blk_cell B1 1).trans rfl;have x2:w2.cell? ⟨w.heap.size,2,none⟩=some (.string a1_2):=(blk_cell B1 2).trans rfl;have x3:w2.cell? ⟨w.heap.size,3,none⟩=some (.slice A1_3 l1_3.length c1_3):=(blk_cell B1 3).trans rfl;clear B1 B2 hB)
 have ht:∀ (W:World) (o1 o2 o3:Obj) (b:Nat),((((W.alloc o1).alloc o2).alloc o3).alloc (.cells (onesTab b) 62)).cell? ⟨W.heap.size+1+1+1,3,none⟩=some (.func (.func 55) #[] #[]):=fun W o1 o2 o3 b => by have h:=World.cell?_alloc_new (((W.alloc o1).alloc o2).alloc o3) (onesTab b) 62 3;simp only [World.size_alloc] at h;exact h
 refine start_ (n:=10) (S:=(fun w' => w'.cell? ⟨w.heap.size,0,none⟩=some (.int .i64 a1_0)∧w'.cell? ⟨w.heap.size,1,none⟩=some (.int .i64 a1_1)∧w'.cell? ⟨w.heap.size,2,none⟩=some (.string a1_2)∧w'.cell? ⟨w.heap.size,3,none⟩=some (.slice A1_3 l1_3.length c1_3))) (ds:=[]) #[false,false,false,false,false,false,false,false,false,false] (by kernel_rfl) rfl rfl ?_ (fun hHeld => ?_)
 ·(try dsimp only);(first|((with_reducible refine ⟨(hb5.cell ?_).trans ?_,(hb5.cell ?_).trans ?_,(hb5.cell ?_).trans ?_,(hb5.cell ?_).trans ?_⟩) <;> first|(simp;omega)|omega|go_keep)|((with_reducible refine ⟨(hb4.cell ?_).trans ?_,(hb4.cell ?_).trans ?_,(hb4.cell ?_).trans ?_,(hb4.cell ?_).trans ?_⟩) <;> first|(simp;omega)|omega|go_keep)|((fail_if_success (have h_:=hb4));((refine ⟨(hb3.cell ?_).trans ?_,(hb3.cell ?_).trans ?_,(hb3.cell ?_).trans ?_,(hb3.cell ?_).trans ?_⟩) <;> first|(simp;omega)|omega|go_keep))|go_keep)
 refine pure_ (i:=1) (N:=some 15) (v:=?_) (a':=?_) #[false,true,false,false,false,false,false,false,false,false] rfl rfl (by kernel_rfl) (fun _ _ _ h => h) (Or.inl ⟨by rfl,?_⟩) ?_ ?_
 rotate_left
 ·(intro w';go_simp;with_reducible rfl)
 rotate_left
 ·(first|(simp only [Act.put,List.setIfInBounds_toArray,List.set_cons_zero,List.set_cons_succ];rfl)|rfl)
 refine take_ (i:=5) (N:=some 19) (v:=?_) (a':=?_) #[false,true,false,false,false,true,false,false,false,false] rfl rfl (by kernel_rfl) (fun _ _ _ h => h) (Or.inl ⟨by rfl,?_⟩) hHeld ?_ ?_
 rotate_left
 ·(rintro w' ⟨s0,s1,s2,s3⟩;go_simp;with_reducible rfl)
 rotate_left
 ·(first|(simp only [Act.put,List.setIfInBounds_toArray,List.set_cons_zero,List.set_cons_succ];rfl)|rfl)
 refine one_ (i:=0) (N:=some 14) #[true,true,false,false,false,true,false,false,false,false] rfl rfl (by kernel_rfl) (by simp) (fun K hK => ?_)
 go_simp
 (go_at_call 29;refine (fns_ones.callsB _).mono ?_;rintro e w3 ⟨rfl,rfl,hb3⟩)
 (try go_wp2_with fail)
 refine hK.out _ _ ?_ (fun hHeld => ?_)
 ·(try dsimp only);(first|((with_reducible refine ⟨(hb5.cell ?_).trans ?_,(hb5.cell ?_).trans ?_,(hb5.cell ?_).trans ?_,(hb5.cell ?_).trans ?_⟩) <;> first|(simp;omega)|omega|go_keep)|((with_reducible refine ⟨(hb4.cell ?_).trans ?_,(hb4.cell ?_).trans ?_,(hb4.cell ?_).trans ?_,(hb4.cell ?_).trans ?_⟩) <;> first|(simp;omega)|omega|go_keep)|((fail_if_success (have h_:=hb4));((refine ⟨(hb3.cell ?_).trans ?_,(hb3.cell ?_).trans ?_,(hb3.cell ?_).trans ?_,(hb3.cell ?_).trans ?_⟩) <;> first|(simp;omega)|omega|go_keep))|go_keep)
 clear hK K
 refine norm_ (a':=?_) ?_ ?_
 rotate_left
 ·(first|(simp only [Act.put,List.setIfInBounds_toArray,List.set_cons_zero,List.set_cons_succ];rfl)|rfl)
 refine pure_ (i:=2) (N:=some 16) (v:=?_) (a':=?_) #[true,true,true,false,false,true,false,false,false,false] rfl rfl (by kernel_rfl) (fun _ _ _ h => h) (Or.inl ⟨by rfl,?_⟩) ?_ ?_
 rotate_left
 ·(intro w';go_simp;with_reducible rfl)
 rotate_left
 ·(first|(simp only [Act.put,List.setIfInBounds_toArray,List.set_cons_zero,List.set_cons_succ];rfl)|rfl)
 refine pure_ (i:=3) (N:=some 17) (v:=?_) (a':=?_) #[true,true,true,true,false,true,false,false,false,false] rfl rfl (by kernel_rfl) (fun _ _ _ h => h) (Or.inl ⟨by rfl,?_⟩) ?_ ?_
 rotate_left
 ·(intro w';go_simp;with_reducible rfl)
 rotate_left
 ·(first|(simp only [Act.put,List.setIfInBounds_toArray,List.set_cons_zero,List.set_cons_succ];rfl)|rfl)
 refine one_ (i:=4) (N:=some 18) #[true,true,true,true,true,true,false,false,false,false] rfl rfl (by kernel_rfl) (by simp) (fun K hK => ?_)
 go_simp
 refine hK.out _ _ ?_ (fun hHeld => ?_)
 ·(try dsimp only);(first|((with_reducible refine ⟨(hb5.cell ?_).trans ?_,(hb5.cell ?_).trans ?_,(hb5.cell ?_).trans ?_,(hb5.cell ?_).trans ?_⟩) <;> first|(simp;omega)|omega|go_keep)|((with_reducible refine ⟨(hb4.cell ?_).trans ?_,(hb4.cell ?_).trans ?_,(hb4.cell ?_).trans ?_,(hb4.cell ?_).trans ?_⟩) <;> first|(simp;omega)|omega|go_keep)|((fail_if_success (have h_:=hb4));((refine ⟨(hb3.cell ?_).trans ?_,(hb3.cell ?_).trans ?_,(hb3.cell ?_).trans ?_,(hb3.cell ?_).trans ?_⟩) <;> first|(simp;omega)|omega|go_keep))|go_keep)
 clear hK K
 refine norm_ (a':=?_) ?_ ?_
 rotate_left
 ·(first|(simp only [Act.put,List.setIfInBounds_toArray,List.set_cons_zero,List.set_cons_succ];rfl)|rfl)
 refine one_ (i:=6) (N:=some 20) #[true,true,true,true,true,true,true,false,false,false] rfl rfl (by kernel_rfl) (by simp) (fun K hK => ?_)
 go_simp
 (go_at_call 55;refine (do_3 k a1_0 a1_1 a1_2 A1_3 c1_3 l1_3 (fun k_ => k_ < w.heap.size) s1 s2 s3 s4 _ (LaidW.below HLT.out (by repeat (first|(with_reducible first|exact HB3.out|apply below_alloc|apply pw_below_drewN|apply below_drew1)|exact HB3.out|apply below_alloc))) (Kd.V_mk HC.out (Kd.F_below HF.out (by repeat (first|(with_reducible first|exact HB3.out|apply below_alloc|apply pw_below_drewN|apply below_drew1)|exact HB3.out|apply below_alloc)))) HD.out).mono ?_;rintro e w4 ⟨v4,rfl,hv4,hb4⟩;obtain ⟨A4,c4,rfl⟩:=Kd.V_slice hv4;have HK4:Aside0 (w4.heap[w.heap.size+1]? = some (.cells #[.int .i64 0,.int .i64 0,.string ⟨#[]⟩,.slice none 0 0] 24 (0,0))):=Aside0.mk (blk_below (by repeat (first|exact HK.out|refine blk_drewN ?_ _|refine blk_drew ?_|refine blk_alloc ?_ _)) hb4);have hz4:w.heap.size+1 < w4.heap.size:=blk_lt HK4.out;have HB4:Aside0 (Below w.heap.size w w4):=Aside0.mk (below_step (by repeat (first|(with_reducible first|exact HB3.out|apply below_alloc|apply pw_below_drewN|apply below_drew1)|exact HB3.out|apply below_alloc)) hb4))
 (try go_wp2_with fail)
 refine hK.out _ _ ?_ (fun hHeld => ?_)
 ·(try dsimp only);(first|((with_reducible refine ⟨(hb5.cell ?_).trans ?_,(hb5.cell ?_).trans ?_,(hb5.cell ?_).trans ?_,(hb5.cell ?_).trans ?_⟩) <;> first|(simp;omega)|omega|go_keep)|((with_reducible refine ⟨(hb4.cell ?_).trans ?_,(hb4.cell ?_).trans ?_,(hb4.cell ?_).trans ?_,(hb4.cell ?_).trans ?_⟩) <;> first|(simp;omega)|omega|go_keep)|((fail_if_success (have h_:=hb4));((refine ⟨(hb3.cell ?_).trans ?_,(hb3.cell ?_).trans ?_,(hb3.cell ?_).trans ?_,(hb3.cell ?_).trans ?_⟩) <;> first|(simp;omega)|omega|go_keep))|go_keep)
 clear hK K
 refine norm_ (a':=?_) ?_ ?_
 rotate_left
 ·(first|(simp only [Act.put,List.setIfInBounds_toArray,List.set_cons_zero,List.set_cons_succ];rfl)|rfl)
 refine one_ (i:=7) (N:=some 21) #[true,true,true,true,true,true,true,true,false,false] rfl rfl (by kernel_rfl) (by simp) (fun K hK => ?_)
 go_simp
 (go_at_call 27;refine (own_Value.calls s1 s2 s3 A4 c4 s4 r1 r2 r3 r4 _ (Kd.V_reads' hv4).2.2 (Kd.V_reads' hv4).2.1 HO.out).mono ?_;rintro e w5 ⟨v5,rfl,hr5,hb5⟩;obtain ⟨A5,c5,rfl⟩:=Kd.R_slice hr5;have HK5:Aside0 (w5.heap[w.heap.size+1]? = some (.cells #[.int .i64 0,.int .i64 0,.string ⟨#[]⟩,.slice none 0 0] 24 (0,0))):=Aside0.mk (blk_below (by repeat (first|exact HK4.out|refine blk_drewN ?_ _|refine blk_drew ?_|refine blk_alloc ?_ _)) hb5);have HB5:Aside0 (Below w.heap.size w w5):=Aside0.mk (below_step (by repeat (first|exact HB4.out|apply pw_below_drewN|apply below_drew1)) hb5);have y0':w5.cell? ⟨w.heap.size+1,0,none⟩=some (.int .i64 0):=(blk_cell HK5.out 0).trans rfl;have y1':w5.cell? ⟨w.heap.size+1,1,none⟩=some (.int .i64 0):=(blk_cell HK5.out 1).trans rfl;have y2':w5.cell? ⟨w.heap.size+1,2,none⟩=some (.string ⟨#[]⟩):=(blk_cell HK5.out 2).trans rfl;have y3':w5.cell? ⟨w.heap.size+1,3,none⟩=some (.slice none 0 0):=(blk_cell HK5.out 3).trans rfl;have g0':w5.frozen? ⟨w.heap.size+1,0,none⟩=false:=blk_frozen HK5.out 0;have g1':w5.frozen? ⟨w.heap.size+1,1,none⟩=false:=blk_frozen HK5.out 1;have g2':w5.frozen? ⟨w.heap.size+1,2,none⟩=false:=blk_frozen HK5.out 2;have g3':w5.frozen? ⟨w.heap.size+1,3,none⟩=false:=blk_frozen HK5.out 3;have HR5:=Aside0.mk hr5;have hz5:w.heap.size+1 < w5.heap.size:=blk_lt HK5.out;clear hr5)
 (try go_wp2_with fail)
 refine hK.out _ _ ?_ (fun hHeld => ?_)
 ·(try dsimp only);(first|((with_reducible refine ⟨(hb5.cell ?_).trans ?_,(hb5.cell ?_).trans ?_,(hb5.cell ?_).trans ?_,(hb5.cell ?_).trans ?_⟩) <;> first|(simp;omega)|omega|go_keep)|((with_reducible refine ⟨(hb4.cell ?_).trans ?_,(hb4.cell ?_).trans ?_,(hb4.cell ?_).trans ?_,(hb4.cell ?_).trans ?_⟩) <;> first|(simp;omega)|omega|go_keep)|((fail_if_success (have h_:=hb4));((refine ⟨(hb3.cell ?_).trans ?_,(hb3.cell ?_).trans ?_,(hb3.cell ?_).trans ?_,(hb3.cell ?_).trans ?_⟩) <;> first|(simp;omega)|omega|go_keep))|go_keep)
 clear hK K
 refine norm_ (a':=?_) ?_ ?_
 rotate_left
 ·(first|(simp only [Act.put,List.setIfInBounds_toArray,List.set_cons_zero,List.set_cons_succ];rfl)|rfl)
 refine one_ (i:=8) (N:=none) #[true,true,true,true,true,true,true,true,true,false] rfl rfl (by kernel_rfl) (by simp) (fun K hK => ?_)
 go_simp
 refine hK.out _ _ ?_ (fun hHeld => ?_)
 ·(try dsimp only);(first|((with_reducible refine ⟨(hb5.cell ?_).trans ?_,(hb5.cell ?_).trans ?_,(hb5.cell ?_).trans ?_,(hb5.cell ?_).trans ?_⟩) <;> first|(simp;omega)|omega|go_keep)|((with_reducible refine ⟨(hb4.cell ?_).trans ?_,(hb4.cell ?_).trans ?_,(hb4.cell ?_).trans ?_,(hb4.cell ?_).trans ?_⟩) <;> first|(simp;omega)|omega|go_keep)|((fail_if_success (have h_:=hb4));((refine ⟨(hb3.cell ?_).trans ?_,(hb3.cell ?_).trans ?_,(hb3.cell ?_).trans ?_,(hb3.cell ?_).trans ?_⟩) <;> first|(simp;omega)|omega|go_keep))|go_keep)
 clear hK K
 refine norm_ (a':=?_) ?_ ?_
 rotate_left
 ·(first|(simp only [Act.put,List.setIfInBounds_toArray,List.set_cons_zero,List.set_cons_succ];rfl)|rfl)
 refine pure_ (i:=9) (N:=some 5) (v:=?_) (a':=?_) #[true,true,true,true,true,true,true,true,true,true] rfl rfl (by kernel_rfl) (fun _ _ _ h => h) (Or.inl ⟨by rfl,?_⟩) ?_ ?_
 rotate_left
 ·(intro w';go_simp;with_reducible rfl)
 rotate_left
 ·(first|(simp only [Act.put,List.setIfInBounds_toArray,List.set_cons_zero,List.set_cons_succ];rfl)|rfl)
 refine done_ (by kernel_rfl) ?_
 go_wp2
 refine bodyPost_ret (results_ct rfl _ _ (w.heap.size+1) 24 #[.int .i64 r1,.int .i64 r2,.string r3,.slice A5 r4.length c5] (0,0) _ rfl (pu4 HK5) Tryd.underlying24 rfl (by kernel_rfl)) rfl ?_
 exact ⟨_,rfl,r_far4 HR5.out hz4 (by omega) _ _ _ _,by repeat (first|exact HB5.out|refine below_set ?_ (by simp))⟩
set_option maxRecDepth 100000 in
set_option maxHeartbeats 1600000 in
theorem one_4 (k:Nat) (a1_0 a1_1:Int) (a1_2:ByteArray) (A1_3:Option Addr) (c1_3:Nat) (l1_3:List S24) (r1 r2:Int) (r3:ByteArray) (r4:List S24) (s1 s2:Int) (s3:ByteArray) (s4:List S24) (w:World) (hL:LaidW w) (hr1_3:Kd.C k24 w A1_3 l1_3.length l1_3) (hc1_3:l1_3.length≤c1_3) (h1:fns_fit.f k 4 a1_0 a1_1 a1_2 l1_3=some 0) (h2:fns_do.f k 4 a1_0 a1_1 a1_2 l1_3=some (s1,s2,s3,s4)) (h3:own_Value.f s1 s2 s3 s4=some (r1,r2,r3,r4)) :
  Calls Tryd.prog 14 #[.int .i64 4,.agg #[.int .i64 a1_0,.int .i64 a1_1,.string a1_2,.slice A1_3 l1_3.length c1_3]] w fun e w' => ∃ v3_:Value,e=.returned (.tuple #[.agg #[.int .i64 r1,.int .i64 r2,.string r3,v3_],.int .i64 0])∧Kd.R k24 24 w' w.heap.size (fun _ => True) v3_ r4∧Below w.heap.size w w':=by
 have HLT:=Aside0.mk hL
 have HR:=Aside0.mk hr1_3
 have HC:=Aside0.mk hc1_3
 have HE:=Aside0.mk h1
 have HD:=Aside0.mk h2
 have HO:=Aside0.mk h3
 have HF:=Aside0.mk (Kd.C_F k24_heap hr1_3)
 clear hL hr1_3 hc1_3 h1 h2 h3
 go_enter Tryd.func14,Tryd.ntmps14
 go_wp2_with (go_at_call 19;refine (fns_fit.calls k 4 a1_0 a1_1 a1_2 A1_3 c1_3 l1_3 0 _ (LaidW.below HLT.out (below_alloc (below_alloc (Below.refl _ _) _) _)) (Kd.C_alloc (Kd.C_alloc HR.out _) _) HC.out HE.out).mono ?_;rintro e w2 ⟨rfl,hb2⟩;obtain ⟨B1,B2,hB⟩:=two_key _ a1_1 a1_2 _ w w2 hb2;have HB3:=Aside0.mk hB;have HK:=Aside0.mk B2;have hz:w.heap.size+1 < w2.heap.size:=blk_lt B2;clear hb2;have x0:w2.cell? ⟨w.heap.size,0,none⟩=some (.int .i64 a1_0):=(blk_cell B1 0).trans rfl;have x1:w2.cell? ⟨w.heap.size,1,none⟩=some (.int .i64 a1_1):=(blk_cell B1 1).trans rfl;have x2:w2.cell? ⟨w.heap.size,2,none⟩=some (.string a1_2):=(blk_cell B1 2).trans rfl;have x3:w2.cell? ⟨w.heap.size,3,none⟩=some (.slice A1_3 l1_3.length c1_3):=(blk_cell B1 3).trans rfl;clear B1 B2 hB)
 have ht:∀ (W:World) (o1 o2 o3:Obj) (b:Nat),((((W.alloc o1).alloc o2).alloc o3).alloc (.cells (onesTab b) 62)).cell? ⟨W.heap.size+1+1+1,4,none⟩=some (.func (.func 56) #[] #[]):=fun W o1 o2 o3 b => by have h:=World.cell?_alloc_new (((W.alloc o1).alloc o2).alloc o3) (onesTab b) 62 4;simp only [World.size_alloc] at h;exact h
 refine start_ (n:=10) (S:=(fun w' => w'.cell? ⟨w.heap.size,0,none⟩=some (.int .i64 a1_0)∧w'.cell? ⟨w.heap.size,1,none⟩=some (.int .i64 a1_1)∧w'.cell? ⟨w.heap.size,2,none⟩=some (.string a1_2)∧w'.cell? ⟨w.heap.size,3,none⟩=some (.slice A1_3 l1_3.length c1_3))) (ds:=[]) #[false,false,false,false,false,false,false,false,false,false] (by kernel_rfl) rfl rfl ?_ (fun hHeld => ?_)
 ·(try dsimp only);(first|((with_reducible refine ⟨(hb5.cell ?_).trans ?_,(hb5.cell ?_).trans ?_,(hb5.cell ?_).trans ?_,(hb5.cell ?_).trans ?_⟩) <;> first|(simp;omega)|omega|go_keep)|((with_reducible refine ⟨(hb4.cell ?_).trans ?_,(hb4.cell ?_).trans ?_,(hb4.cell ?_).trans ?_,(hb4.cell ?_).trans ?_⟩) <;> first|(simp;omega)|omega|go_keep)|((fail_if_success (have h_:=hb4));((refine ⟨(hb3.cell ?_).trans ?_,(hb3.cell ?_).trans ?_,(hb3.cell ?_).trans ?_,(hb3.cell ?_).trans ?_⟩) <;> first|(simp;omega)|omega|go_keep))|go_keep)
 refine pure_ (i:=1) (N:=some 15) (v:=?_) (a':=?_) #[false,true,false,false,false,false,false,false,false,false] rfl rfl (by kernel_rfl) (fun _ _ _ h => h) (Or.inl ⟨by rfl,?_⟩) ?_ ?_
 rotate_left
 ·(intro w';go_simp;with_reducible rfl)
 rotate_left
 ·(first|(simp only [Act.put,List.setIfInBounds_toArray,List.set_cons_zero,List.set_cons_succ];rfl)|rfl)
 refine take_ (i:=5) (N:=some 19) (v:=?_) (a':=?_) #[false,true,false,false,false,true,false,false,false,false] rfl rfl (by kernel_rfl) (fun _ _ _ h => h) (Or.inl ⟨by rfl,?_⟩) hHeld ?_ ?_
 rotate_left
 ·(rintro w' ⟨s0,s1,s2,s3⟩;go_simp;with_reducible rfl)
 rotate_left
 ·(first|(simp only [Act.put,List.setIfInBounds_toArray,List.set_cons_zero,List.set_cons_succ];rfl)|rfl)
 refine one_ (i:=0) (N:=some 14) #[true,true,false,false,false,true,false,false,false,false] rfl rfl (by kernel_rfl) (by simp) (fun K hK => ?_)
 go_simp
 (go_at_call 29;refine (fns_ones.callsB _).mono ?_;rintro e w3 ⟨rfl,rfl,hb3⟩)
 (try go_wp2_with fail)
 refine hK.out _ _ ?_ (fun hHeld => ?_)
 ·(try dsimp only);(first|((with_reducible refine ⟨(hb5.cell ?_).trans ?_,(hb5.cell ?_).trans ?_,(hb5.cell ?_).trans ?_,(hb5.cell ?_).trans ?_⟩) <;> first|(simp;omega)|omega|go_keep)|((with_reducible refine ⟨(hb4.cell ?_).trans ?_,(hb4.cell ?_).trans ?_,(hb4.cell ?_).trans ?_,(hb4.cell ?_).trans ?_⟩) <;> first|(simp;omega)|omega|go_keep)|((fail_if_success (have h_:=hb4));((refine ⟨(hb3.cell ?_).trans ?_,(hb3.cell ?_).trans ?_,(hb3.cell ?_).trans ?_,(hb3.cell ?_).trans ?_⟩) <;> first|(simp;omega)|omega|go_keep))|go_keep)
 clear hK K
 refine norm_ (a':=?_) ?_ ?_
 rotate_left
 ·(first|(simp only [Act.put,List.setIfInBounds_toArray,List.set_cons_zero,List.set_cons_succ];rfl)|rfl)
 refine pure_ (i:=2) (N:=some 16) (v:=?_) (a':=?_) #[true,true,true,false,false,true,false,false,false,false] rfl rfl (by kernel_rfl) (fun _ _ _ h => h) (Or.inl ⟨by rfl,?_⟩) ?_ ?_
 rotate_left
 ·(intro w';go_simp;with_reducible rfl)
 rotate_left
 ·(first|(simp only [Act.put,List.setIfInBounds_toArray,List.set_cons_zero,List.set_cons_succ];rfl)|rfl)
 refine pure_ (i:=3) (N:=some 17) (v:=?_) (a':=?_) #[true,true,true,true,false,true,false,false,false,false] rfl rfl (by kernel_rfl) (fun _ _ _ h => h) (Or.inl ⟨by rfl,?_⟩) ?_ ?_
 rotate_left
 ·(intro w';go_simp;with_reducible rfl)
 rotate_left
 ·(first|(simp only [Act.put,List.setIfInBounds_toArray,List.set_cons_zero,List.set_cons_succ];rfl)|rfl)
 refine one_ (i:=4) (N:=some 18) #[true,true,true,true,true,true,false,false,false,false] rfl rfl (by kernel_rfl) (by simp) (fun K hK => ?_)
 go_simp
 refine hK.out _ _ ?_ (fun hHeld => ?_)
 ·(try dsimp only);(first|((with_reducible refine ⟨(hb5.cell ?_).trans ?_,(hb5.cell ?_).trans ?_,(hb5.cell ?_).trans ?_,(hb5.cell ?_).trans ?_⟩) <;> first|(simp;omega)|omega|go_keep)|((with_reducible refine ⟨(hb4.cell ?_).trans ?_,(hb4.cell ?_).trans ?_,(hb4.cell ?_).trans ?_,(hb4.cell ?_).trans ?_⟩) <;> first|(simp;omega)|omega|go_keep)|((fail_if_success (have h_:=hb4));((refine ⟨(hb3.cell ?_).trans ?_,(hb3.cell ?_).trans ?_,(hb3.cell ?_).trans ?_,(hb3.cell ?_).trans ?_⟩) <;> first|(simp;omega)|omega|go_keep))|go_keep)
 clear hK K
 refine norm_ (a':=?_) ?_ ?_
 rotate_left
 ·(first|(simp only [Act.put,List.setIfInBounds_toArray,List.set_cons_zero,List.set_cons_succ];rfl)|rfl)
 refine one_ (i:=6) (N:=some 20) #[true,true,true,true,true,true,true,false,false,false] rfl rfl (by kernel_rfl) (by simp) (fun K hK => ?_)
 go_simp
 (go_at_call 56;refine (do_4 k a1_0 a1_1 a1_2 A1_3 c1_3 l1_3 (fun k_ => k_ < w.heap.size) s1 s2 s3 s4 _ (LaidW.below HLT.out (by repeat (first|(with_reducible first|exact HB3.out|apply below_alloc|apply pw_below_drewN|apply below_drew1)|exact HB3.out|apply below_alloc))) (Kd.V_mk HC.out (Kd.F_below HF.out (by repeat (first|(with_reducible first|exact HB3.out|apply below_alloc|apply pw_below_drewN|apply below_drew1)|exact HB3.out|apply below_alloc)))) HD.out).mono ?_;rintro e w4 ⟨v4,rfl,hv4,hb4⟩;obtain ⟨A4,c4,rfl⟩:=Kd.V_slice hv4;have HK4:Aside0 (w4.heap[w.heap.size+1]? = some (.cells #[.int .i64 0,.int .i64 0,.string ⟨#[]⟩,.slice none 0 0] 24 (0,0))):=Aside0.mk (blk_below (by repeat (first|exact HK.out|refine blk_drewN ?_ _|refine blk_drew ?_|refine blk_alloc ?_ _)) hb4);have hz4:w.heap.size+1 < w4.heap.size:=blk_lt HK4.out;have HB4:Aside0 (Below w.heap.size w w4):=Aside0.mk (below_step (by repeat (first|(with_reducible first|exact HB3.out|apply below_alloc|apply pw_below_drewN|apply below_drew1)|exact HB3.out|apply below_alloc)) hb4))
 (try go_wp2_with fail)
 refine hK.out _ _ ?_ (fun hHeld => ?_)
 ·(try dsimp only);(first|((with_reducible refine ⟨(hb5.cell ?_).trans ?_,(hb5.cell ?_).trans ?_,(hb5.cell ?_).trans ?_,(hb5.cell ?_).trans ?_⟩) <;> first|(simp;omega)|omega|go_keep)|((with_reducible refine ⟨(hb4.cell ?_).trans ?_,(hb4.cell ?_).trans ?_,(hb4.cell ?_).trans ?_,(hb4.cell ?_).trans ?_⟩) <;> first|(simp;omega)|omega|go_keep)|((fail_if_success (have h_:=hb4));((refine ⟨(hb3.cell ?_).trans ?_,(hb3.cell ?_).trans ?_,(hb3.cell ?_).trans ?_,(hb3.cell ?_).trans ?_⟩) <;> first|(simp;omega)|omega|go_keep))|go_keep)
 clear hK K
 refine norm_ (a':=?_) ?_ ?_
 rotate_left
 ·(first|(simp only [Act.put,List.setIfInBounds_toArray,List.set_cons_zero,List.set_cons_succ];rfl)|rfl)
 refine one_ (i:=7) (N:=some 21) #[true,true,true,true,true,true,true,true,false,false] rfl rfl (by kernel_rfl) (by simp) (fun K hK => ?_)
 go_simp
 (go_at_call 27;refine (own_Value.calls s1 s2 s3 A4 c4 s4 r1 r2 r3 r4 _ (Kd.V_reads' hv4).2.2 (Kd.V_reads' hv4).2.1 HO.out).mono ?_;rintro e w5 ⟨v5,rfl,hr5,hb5⟩;obtain ⟨A5,c5,rfl⟩:=Kd.R_slice hr5;have HK5:Aside0 (w5.heap[w.heap.size+1]? = some (.cells #[.int .i64 0,.int .i64 0,.string ⟨#[]⟩,.slice none 0 0] 24 (0,0))):=Aside0.mk (blk_below (by repeat (first|exact HK4.out|refine blk_drewN ?_ _|refine blk_drew ?_|refine blk_alloc ?_ _)) hb5);have HB5:Aside0 (Below w.heap.size w w5):=Aside0.mk (below_step (by repeat (first|exact HB4.out|apply pw_below_drewN|apply below_drew1)) hb5);have y0':w5.cell? ⟨w.heap.size+1,0,none⟩=some (.int .i64 0):=(blk_cell HK5.out 0).trans rfl;have y1':w5.cell? ⟨w.heap.size+1,1,none⟩=some (.int .i64 0):=(blk_cell HK5.out 1).trans rfl;have y2':w5.cell? ⟨w.heap.size+1,2,none⟩=some (.string ⟨#[]⟩):=(blk_cell HK5.out 2).trans rfl;have y3':w5.cell? ⟨w.heap.size+1,3,none⟩=some (.slice none 0 0):=(blk_cell HK5.out 3).trans rfl;have g0':w5.frozen? ⟨w.heap.size+1,0,none⟩=false:=blk_frozen HK5.out 0;have g1':w5.frozen? ⟨w.heap.size+1,1,none⟩=false:=blk_frozen HK5.out 1;have g2':w5.frozen? ⟨w.heap.size+1,2,none⟩=false:=blk_frozen HK5.out 2;have g3':w5.frozen? ⟨w.heap.size+1,3,none⟩=false:=blk_frozen HK5.out 3;have HR5:=Aside0.mk hr5;have hz5:w.heap.size+1 < w5.heap.size:=blk_lt HK5.out;clear hr5)
 (try go_wp2_with fail)
 refine hK.out _ _ ?_ (fun hHeld => ?_)
 ·(try dsimp only);(first|((with_reducible refine ⟨(hb5.cell ?_).trans ?_,(hb5.cell ?_).trans ?_,(hb5.cell ?_).trans ?_,(hb5.cell ?_).trans ?_⟩) <;> first|(simp;omega)|omega|go_keep)|((with_reducible refine ⟨(hb4.cell ?_).trans ?_,(hb4.cell ?_).trans ?_,(hb4.cell ?_).trans ?_,(hb4.cell ?_).trans ?_⟩) <;> first|(simp;omega)|omega|go_keep)|((fail_if_success (have h_:=hb4));((refine ⟨(hb3.cell ?_).trans ?_,(hb3.cell ?_).trans ?_,(hb3.cell ?_).trans ?_,(hb3.cell ?_).trans ?_⟩) <;> first|(simp;omega)|omega|go_keep))|go_keep)
 clear hK K
 refine norm_ (a':=?_) ?_ ?_
 rotate_left
 ·(first|(simp only [Act.put,List.setIfInBounds_toArray,List.set_cons_zero,List.set_cons_succ];rfl)|rfl)
 refine one_ (i:=8) (N:=none) #[true,true,true,true,true,true,true,true,true,false] rfl rfl (by kernel_rfl) (by simp) (fun K hK => ?_)
 go_simp
 refine hK.out _ _ ?_ (fun hHeld => ?_)
 ·(try dsimp only);(first|((with_reducible refine ⟨(hb5.cell ?_).trans ?_,(hb5.cell ?_).trans ?_,(hb5.cell ?_).trans ?_,(hb5.cell ?_).trans ?_⟩) <;> first|(simp;omega)|omega|go_keep)|((with_reducible refine ⟨(hb4.cell ?_).trans ?_,(hb4.cell ?_).trans ?_,(hb4.cell ?_).trans ?_,(hb4.cell ?_).trans ?_⟩) <;> first|(simp;omega)|omega|go_keep)|((fail_if_success (have h_:=hb4));((refine ⟨(hb3.cell ?_).trans ?_,(hb3.cell ?_).trans ?_,(hb3.cell ?_).trans ?_,(hb3.cell ?_).trans ?_⟩) <;> first|(simp;omega)|omega|go_keep))|go_keep)
 clear hK K
 refine norm_ (a':=?_) ?_ ?_
 rotate_left
 ·(first|(simp only [Act.put,List.setIfInBounds_toArray,List.set_cons_zero,List.set_cons_succ];rfl)|rfl)
 refine pure_ (i:=9) (N:=some 5) (v:=?_) (a':=?_) #[true,true,true,true,true,true,true,true,true,true] rfl rfl (by kernel_rfl) (fun _ _ _ h => h) (Or.inl ⟨by rfl,?_⟩) ?_ ?_
 rotate_left
 ·(intro w';go_simp;with_reducible rfl)
 rotate_left
 ·(first|(simp only [Act.put,List.setIfInBounds_toArray,List.set_cons_zero,List.set_cons_succ];rfl)|rfl)
 refine done_ (by kernel_rfl) ?_
 go_wp2
 refine bodyPost_ret (results_ct rfl _ _ (w.heap.size+1) 24 #[.int .i64 r1,.int .i64 r2,.string r3,.slice A5 r4.length c5] (0,0) _ rfl (pu4 HK5) Tryd.underlying24 rfl (by kernel_rfl)) rfl ?_
 exact ⟨_,rfl,r_far4 HR5.out hz4 (by omega) _ _ _ _,by repeat (first|exact HB5.out|refine below_set ?_ (by simp))⟩
set_option maxRecDepth 100000 in
set_option maxHeartbeats 1600000 in
theorem one_5 (k:Nat) (a1_0 a1_1:Int) (a1_2:ByteArray) (A1_3:Option Addr) (c1_3:Nat) (l1_3:List S24) (r1 r2:Int) (r3:ByteArray) (r4:List S24) (s1 s2:Int) (s3:ByteArray) (s4:List S24) (w:World) (hL:LaidW w) (hr1_3:Kd.C k24 w A1_3 l1_3.length l1_3) (hc1_3:l1_3.length≤c1_3) (h1:fns_fit.f k 5 a1_0 a1_1 a1_2 l1_3=some 0) (h2:fns_do.f k 5 a1_0 a1_1 a1_2 l1_3=some (s1,s2,s3,s4)) (h3:own_Value.f s1 s2 s3 s4=some (r1,r2,r3,r4)) :
  Calls Tryd.prog 14 #[.int .i64 5,.agg #[.int .i64 a1_0,.int .i64 a1_1,.string a1_2,.slice A1_3 l1_3.length c1_3]] w fun e w' => ∃ v3_:Value,e=.returned (.tuple #[.agg #[.int .i64 r1,.int .i64 r2,.string r3,v3_],.int .i64 0])∧Kd.R k24 24 w' w.heap.size (fun _ => True) v3_ r4∧Below w.heap.size w w':=by
 have HLT:=Aside0.mk hL
 have HR:=Aside0.mk hr1_3
 have HC:=Aside0.mk hc1_3
 have HE:=Aside0.mk h1
 have HD:=Aside0.mk h2
 have HO:=Aside0.mk h3
 have HF:=Aside0.mk (Kd.C_F k24_heap hr1_3)
 clear hL hr1_3 hc1_3 h1 h2 h3
 go_enter Tryd.func14,Tryd.ntmps14
 go_wp2_with (go_at_call 19;refine (fns_fit.calls k 5 a1_0 a1_1 a1_2 A1_3 c1_3 l1_3 0 _ (LaidW.below HLT.out (below_alloc (below_alloc (Below.refl _ _) _) _)) (Kd.C_alloc (Kd.C_alloc HR.out _) _) HC.out HE.out).mono ?_;rintro e w2 ⟨rfl,hb2⟩;obtain ⟨B1,B2,hB⟩:=two_key _ a1_1 a1_2 _ w w2 hb2;have HB3:=Aside0.mk hB;have HK:=Aside0.mk B2;have hz:w.heap.size+1 < w2.heap.size:=blk_lt B2;clear hb2;have x0:w2.cell? ⟨w.heap.size,0,none⟩=some (.int .i64 a1_0):=(blk_cell B1 0).trans rfl;have x1:w2.cell? ⟨w.heap.size,1,none⟩=some (.int .i64 a1_1):=(blk_cell B1 1).trans rfl;have x2:w2.cell? ⟨w.heap.size,2,none⟩=some (.string a1_2):=(blk_cell B1 2).trans rfl;have x3:w2.cell? ⟨w.heap.size,3,none⟩=some (.slice A1_3 l1_3.length c1_3):=(blk_cell B1 3).trans rfl;clear B1 B2 hB)
 have ht:∀ (W:World) (o1 o2 o3:Obj) (b:Nat),((((W.alloc o1).alloc o2).alloc o3).alloc (.cells (onesTab b) 62)).cell? ⟨W.heap.size+1+1+1,5,none⟩=some (.func (.func 57) #[] #[]):=fun W o1 o2 o3 b => by have h:=World.cell?_alloc_new (((W.alloc o1).alloc o2).alloc o3) (onesTab b) 62 5;simp only [World.size_alloc] at h;exact h
 refine start_ (n:=10) (S:=(fun w' => w'.cell? ⟨w.heap.size,0,none⟩=some (.int .i64 a1_0)∧w'.cell? ⟨w.heap.size,1,none⟩=some (.int .i64 a1_1)∧w'.cell? ⟨w.heap.size,2,none⟩=some (.string a1_2)∧w'.cell? ⟨w.heap.size,3,none⟩=some (.slice A1_3 l1_3.length c1_3))) (ds:=[]) #[false,false,false,false,false,false,false,false,false,false] (by kernel_rfl) rfl rfl ?_ (fun hHeld => ?_)
 ·(try dsimp only);(first|((with_reducible refine ⟨(hb5.cell ?_).trans ?_,(hb5.cell ?_).trans ?_,(hb5.cell ?_).trans ?_,(hb5.cell ?_).trans ?_⟩) <;> first|(simp;omega)|omega|go_keep)|((with_reducible refine ⟨(hb4.cell ?_).trans ?_,(hb4.cell ?_).trans ?_,(hb4.cell ?_).trans ?_,(hb4.cell ?_).trans ?_⟩) <;> first|(simp;omega)|omega|go_keep)|((fail_if_success (have h_:=hb4));((refine ⟨(hb3.cell ?_).trans ?_,(hb3.cell ?_).trans ?_,(hb3.cell ?_).trans ?_,(hb3.cell ?_).trans ?_⟩) <;> first|(simp;omega)|omega|go_keep))|go_keep)
 refine pure_ (i:=1) (N:=some 15) (v:=?_) (a':=?_) #[false,true,false,false,false,false,false,false,false,false] rfl rfl (by kernel_rfl) (fun _ _ _ h => h) (Or.inl ⟨by rfl,?_⟩) ?_ ?_
 rotate_left
 ·(intro w';go_simp;with_reducible rfl)
 rotate_left
 ·(first|(simp only [Act.put,List.setIfInBounds_toArray,List.set_cons_zero,List.set_cons_succ];rfl)|rfl)
 refine take_ (i:=5) (N:=some 19) (v:=?_) (a':=?_) #[false,true,false,false,false,true,false,false,false,false] rfl rfl (by kernel_rfl) (fun _ _ _ h => h) (Or.inl ⟨by rfl,?_⟩) hHeld ?_ ?_
 rotate_left
 ·(rintro w' ⟨s0,s1,s2,s3⟩;go_simp;with_reducible rfl)
 rotate_left
 ·(first|(simp only [Act.put,List.setIfInBounds_toArray,List.set_cons_zero,List.set_cons_succ];rfl)|rfl)
 refine one_ (i:=0) (N:=some 14) #[true,true,false,false,false,true,false,false,false,false] rfl rfl (by kernel_rfl) (by simp) (fun K hK => ?_)
 go_simp
 (go_at_call 29;refine (fns_ones.callsB _).mono ?_;rintro e w3 ⟨rfl,rfl,hb3⟩)
 (try go_wp2_with fail)
 refine hK.out _ _ ?_ (fun hHeld => ?_)
 ·(try dsimp only);(first|((with_reducible refine ⟨(hb5.cell ?_).trans ?_,(hb5.cell ?_).trans ?_,(hb5.cell ?_).trans ?_,(hb5.cell ?_).trans ?_⟩) <;> first|(simp;omega)|omega|go_keep)|((with_reducible refine ⟨(hb4.cell ?_).trans ?_,(hb4.cell ?_).trans ?_,(hb4.cell ?_).trans ?_,(hb4.cell ?_).trans ?_⟩) <;> first|(simp;omega)|omega|go_keep)|((fail_if_success (have h_:=hb4));((refine ⟨(hb3.cell ?_).trans ?_,(hb3.cell ?_).trans ?_,(hb3.cell ?_).trans ?_,(hb3.cell ?_).trans ?_⟩) <;> first|(simp;omega)|omega|go_keep))|go_keep)
 clear hK K
 refine norm_ (a':=?_) ?_ ?_
 rotate_left
 ·(first|(simp only [Act.put,List.setIfInBounds_toArray,List.set_cons_zero,List.set_cons_succ];rfl)|rfl)
 refine pure_ (i:=2) (N:=some 16) (v:=?_) (a':=?_) #[true,true,true,false,false,true,false,false,false,false] rfl rfl (by kernel_rfl) (fun _ _ _ h => h) (Or.inl ⟨by rfl,?_⟩) ?_ ?_
 rotate_left
 ·(intro w';go_simp;with_reducible rfl)
 rotate_left
 ·(first|(simp only [Act.put,List.setIfInBounds_toArray,List.set_cons_zero,List.set_cons_succ];rfl)|rfl)
 refine pure_ (i:=3) (N:=some 17) (v:=?_) (a':=?_) #[true,true,true,true,false,true,false,false,false,false] rfl rfl (by kernel_rfl) (fun _ _ _ h => h) (Or.inl ⟨by rfl,?_⟩) ?_ ?_
 rotate_left
 ·(intro w';go_simp;with_reducible rfl)
 rotate_left
 ·(first|(simp only [Act.put,List.setIfInBounds_toArray,List.set_cons_zero,List.set_cons_succ];rfl)|rfl)
 refine one_ (i:=4) (N:=some 18) #[true,true,true,true,true,true,false,false,false,false] rfl rfl (by kernel_rfl) (by simp) (fun K hK => ?_)
 go_simp
 refine hK.out _ _ ?_ (fun hHeld => ?_)
 ·(try dsimp only);(first|((with_reducible refine ⟨(hb5.cell ?_).trans ?_,(hb5.cell ?_).trans ?_,(hb5.cell ?_).trans ?_,(hb5.cell ?_).trans ?_⟩) <;> first|(simp;omega)|omega|go_keep)|((with_reducible refine ⟨(hb4.cell ?_).trans ?_,(hb4.cell ?_).trans ?_,(hb4.cell ?_).trans ?_,(hb4.cell ?_).trans ?_⟩) <;> first|(simp;omega)|omega|go_keep)|((fail_if_success (have h_:=hb4));((refine ⟨(hb3.cell ?_).trans ?_,(hb3.cell ?_).trans ?_,(hb3.cell ?_).trans ?_,(hb3.cell ?_).trans ?_⟩) <;> first|(simp;omega)|omega|go_keep))|go_keep)
 clear hK K
 refine norm_ (a':=?_) ?_ ?_
 rotate_left
 ·(first|(simp only [Act.put,List.setIfInBounds_toArray,List.set_cons_zero,List.set_cons_succ];rfl)|rfl)
 refine one_ (i:=6) (N:=some 20) #[true,true,true,true,true,true,true,false,false,false] rfl rfl (by kernel_rfl) (by simp) (fun K hK => ?_)
 go_simp
 (go_at_call 57;refine (do_5 k a1_0 a1_1 a1_2 A1_3 c1_3 l1_3 (fun k_ => k_ < w.heap.size) s1 s2 s3 s4 _ (LaidW.below HLT.out (by repeat (first|(with_reducible first|exact HB3.out|apply below_alloc|apply pw_below_drewN|apply below_drew1)|exact HB3.out|apply below_alloc))) (Kd.V_mk HC.out (Kd.F_below HF.out (by repeat (first|(with_reducible first|exact HB3.out|apply below_alloc|apply pw_below_drewN|apply below_drew1)|exact HB3.out|apply below_alloc)))) HD.out).mono ?_;rintro e w4 ⟨v4,rfl,hv4,hb4⟩;obtain ⟨A4,c4,rfl⟩:=Kd.V_slice hv4;have HK4:Aside0 (w4.heap[w.heap.size+1]? = some (.cells #[.int .i64 0,.int .i64 0,.string ⟨#[]⟩,.slice none 0 0] 24 (0,0))):=Aside0.mk (blk_below (by repeat (first|exact HK.out|refine blk_drewN ?_ _|refine blk_drew ?_|refine blk_alloc ?_ _)) hb4);have hz4:w.heap.size+1 < w4.heap.size:=blk_lt HK4.out;have HB4:Aside0 (Below w.heap.size w w4):=Aside0.mk (below_step (by repeat (first|(with_reducible first|exact HB3.out|apply below_alloc|apply pw_below_drewN|apply below_drew1)|exact HB3.out|apply below_alloc)) hb4))
 (try go_wp2_with fail)
 refine hK.out _ _ ?_ (fun hHeld => ?_)
 ·(try dsimp only);(first|((with_reducible refine ⟨(hb5.cell ?_).trans ?_,(hb5.cell ?_).trans ?_,(hb5.cell ?_).trans ?_,(hb5.cell ?_).trans ?_⟩) <;> first|(simp;omega)|omega|go_keep)|((with_reducible refine ⟨(hb4.cell ?_).trans ?_,(hb4.cell ?_).trans ?_,(hb4.cell ?_).trans ?_,(hb4.cell ?_).trans ?_⟩) <;> first|(simp;omega)|omega|go_keep)|((fail_if_success (have h_:=hb4));((refine ⟨(hb3.cell ?_).trans ?_,(hb3.cell ?_).trans ?_,(hb3.cell ?_).trans ?_,(hb3.cell ?_).trans ?_⟩) <;> first|(simp;omega)|omega|go_keep))|go_keep)
 clear hK K
 refine norm_ (a':=?_) ?_ ?_
 rotate_left
 ·(first|(simp only [Act.put,List.setIfInBounds_toArray,List.set_cons_zero,List.set_cons_succ];rfl)|rfl)
 refine one_ (i:=7) (N:=some 21) #[true,true,true,true,true,true,true,true,false,false] rfl rfl (by kernel_rfl) (by simp) (fun K hK => ?_)
 go_simp
 (go_at_call 27;refine (own_Value.calls s1 s2 s3 A4 c4 s4 r1 r2 r3 r4 _ (Kd.V_reads' hv4).2.2 (Kd.V_reads' hv4).2.1 HO.out).mono ?_;rintro e w5 ⟨v5,rfl,hr5,hb5⟩;obtain ⟨A5,c5,rfl⟩:=Kd.R_slice hr5;have HK5:Aside0 (w5.heap[w.heap.size+1]? = some (.cells #[.int .i64 0,.int .i64 0,.string ⟨#[]⟩,.slice none 0 0] 24 (0,0))):=Aside0.mk (blk_below (by repeat (first|exact HK4.out|refine blk_drewN ?_ _|refine blk_drew ?_|refine blk_alloc ?_ _)) hb5);have HB5:Aside0 (Below w.heap.size w w5):=Aside0.mk (below_step (by repeat (first|exact HB4.out|apply pw_below_drewN|apply below_drew1)) hb5);have y0':w5.cell? ⟨w.heap.size+1,0,none⟩=some (.int .i64 0):=(blk_cell HK5.out 0).trans rfl;have y1':w5.cell? ⟨w.heap.size+1,1,none⟩=some (.int .i64 0):=(blk_cell HK5.out 1).trans rfl;have y2':w5.cell? ⟨w.heap.size+1,2,none⟩=some (.string ⟨#[]⟩):=(blk_cell HK5.out 2).trans rfl;have y3':w5.cell? ⟨w.heap.size+1,3,none⟩=some (.slice none 0 0):=(blk_cell HK5.out 3).trans rfl;have g0':w5.frozen? ⟨w.heap.size+1,0,none⟩=false:=blk_frozen HK5.out 0;have g1':w5.frozen? ⟨w.heap.size+1,1,none⟩=false:=blk_frozen HK5.out 1;have g2':w5.frozen? ⟨w.heap.size+1,2,none⟩=false:=blk_frozen HK5.out 2;have g3':w5.frozen? ⟨w.heap.size+1,3,none⟩=false:=blk_frozen HK5.out 3;have HR5:=Aside0.mk hr5;have hz5:w.heap.size+1 < w5.heap.size:=blk_lt HK5.out;clear hr5)
 (try go_wp2_with fail)
 refine hK.out _ _ ?_ (fun hHeld => ?_)
 ·(try dsimp only);(first|((with_reducible refine ⟨(hb5.cell ?_).trans ?_,(hb5.cell ?_).trans ?_,(hb5.cell ?_).trans ?_,(hb5.cell ?_).trans ?_⟩) <;> first|(simp;omega)|omega|go_keep)|((with_reducible refine ⟨(hb4.cell ?_).trans ?_,(hb4.cell ?_).trans ?_,(hb4.cell ?_).trans ?_,(hb4.cell ?_).trans ?_⟩) <;> first|(simp;omega)|omega|go_keep)|((fail_if_success (have h_:=hb4));((refine ⟨(hb3.cell ?_).trans ?_,(hb3.cell ?_).trans ?_,(hb3.cell ?_).trans ?_,(hb3.cell ?_).trans ?_⟩) <;> first|(simp;omega)|omega|go_keep))|go_keep)
 clear hK K
 refine norm_ (a':=?_) ?_ ?_
 rotate_left
 ·(first|(simp only [Act.put,List.setIfInBounds_toArray,List.set_cons_zero,List.set_cons_succ];rfl)|rfl)
 refine one_ (i:=8) (N:=none) #[true,true,true,true,true,true,true,true,true,false] rfl rfl (by kernel_rfl) (by simp) (fun K hK => ?_)
 go_simp
 refine hK.out _ _ ?_ (fun hHeld => ?_)
 ·(try dsimp only);(first|((with_reducible refine ⟨(hb5.cell ?_).trans ?_,(hb5.cell ?_).trans ?_,(hb5.cell ?_).trans ?_,(hb5.cell ?_).trans ?_⟩) <;> first|(simp;omega)|omega|go_keep)|((with_reducible refine ⟨(hb4.cell ?_).trans ?_,(hb4.cell ?_).trans ?_,(hb4.cell ?_).trans ?_,(hb4.cell ?_).trans ?_⟩) <;> first|(simp;omega)|omega|go_keep)|((fail_if_success (have h_:=hb4));((refine ⟨(hb3.cell ?_).trans ?_,(hb3.cell ?_).trans ?_,(hb3.cell ?_).trans ?_,(hb3.cell ?_).trans ?_⟩) <;> first|(simp;omega)|omega|go_keep))|go_keep)
 clear hK K
 refine norm_ (a':=?_) ?_ ?_
 rotate_left
 ·(first|(simp only [Act.put,List.setIfInBounds_toArray,List.set_cons_zero,List.set_cons_succ];rfl)|rfl)
 refine pure_ (i:=9) (N:=some 5) (v:=?_) (a':=?_) #[true,true,true,true,true,true,true,true,true,true] rfl rfl (by kernel_rfl) (fun _ _ _ h => h) (Or.inl ⟨by rfl,?_⟩) ?_ ?_
 rotate_left
 ·(intro w';go_simp;with_reducible rfl)
 rotate_left
 ·(first|(simp only [Act.put,List.setIfInBounds_toArray,List.set_cons_zero,List.set_cons_succ];rfl)|rfl)
 refine done_ (by kernel_rfl) ?_
 go_wp2
 refine bodyPost_ret (results_ct rfl _ _ (w.heap.size+1) 24 #[.int .i64 r1,.int .i64 r2,.string r3,.slice A5 r4.length c5] (0,0) _ rfl (pu4 HK5) Tryd.underlying24 rfl (by kernel_rfl)) rfl ?_
 exact ⟨_,rfl,r_far4 HR5.out hz4 (by omega) _ _ _ _,by repeat (first|exact HB5.out|refine below_set ?_ (by simp))⟩
set_option maxRecDepth 100000 in
set_option maxHeartbeats 1600000 in
theorem one_6 (k:Nat) (a1_0 a1_1:Int) (a1_2:ByteArray) (A1_3:Option Addr) (c1_3:Nat) (l1_3:List S24) (r1 r2:Int) (r3:ByteArray) (r4:List S24) (s1 s2:Int) (s3:ByteArray) (s4:List S24) (w:World) (hL:LaidW w) (hr1_3:Kd.C k24 w A1_3 l1_3.length l1_3) (hc1_3:l1_3.length≤c1_3) (h1:fns_fit.f k 6 a1_0 a1_1 a1_2 l1_3=some 0) (h2:fns_do.f k 6 a1_0 a1_1 a1_2 l1_3=some (s1,s2,s3,s4)) (h3:own_Value.f s1 s2 s3 s4=some (r1,r2,r3,r4)) :
  Calls Tryd.prog 14 #[.int .i64 6,.agg #[.int .i64 a1_0,.int .i64 a1_1,.string a1_2,.slice A1_3 l1_3.length c1_3]] w fun e w' => ∃ v3_:Value,e=.returned (.tuple #[.agg #[.int .i64 r1,.int .i64 r2,.string r3,v3_],.int .i64 0])∧Kd.R k24 24 w' w.heap.size (fun _ => True) v3_ r4∧Below w.heap.size w w':=by
 have HLT:=Aside0.mk hL
 have HR:=Aside0.mk hr1_3
 have HC:=Aside0.mk hc1_3
 have HE:=Aside0.mk h1
 have HD:=Aside0.mk h2
 have HO:=Aside0.mk h3
 have HF:=Aside0.mk (Kd.C_F k24_heap hr1_3)
 clear hL hr1_3 hc1_3 h1 h2 h3
 go_enter Tryd.func14,Tryd.ntmps14
 go_wp2_with (go_at_call 19;refine (fns_fit.calls k 6 a1_0 a1_1 a1_2 A1_3 c1_3 l1_3 0 _ (LaidW.below HLT.out (below_alloc (below_alloc (Below.refl _ _) _) _)) (Kd.C_alloc (Kd.C_alloc HR.out _) _) HC.out HE.out).mono ?_;rintro e w2 ⟨rfl,hb2⟩;obtain ⟨B1,B2,hB⟩:=two_key _ a1_1 a1_2 _ w w2 hb2;have HB3:=Aside0.mk hB;have HK:=Aside0.mk B2;have hz:w.heap.size+1 < w2.heap.size:=blk_lt B2;clear hb2;have x0:w2.cell? ⟨w.heap.size,0,none⟩=some (.int .i64 a1_0):=(blk_cell B1 0).trans rfl;have x1:w2.cell? ⟨w.heap.size,1,none⟩=some (.int .i64 a1_1):=(blk_cell B1 1).trans rfl;have x2:w2.cell? ⟨w.heap.size,2,none⟩=some (.string a1_2):=(blk_cell B1 2).trans rfl;have x3:w2.cell? ⟨w.heap.size,3,none⟩=some (.slice A1_3 l1_3.length c1_3):=(blk_cell B1 3).trans rfl;clear B1 B2 hB)
 have ht:∀ (W:World) (o1 o2 o3:Obj) (b:Nat),((((W.alloc o1).alloc o2).alloc o3).alloc (.cells (onesTab b) 62)).cell? ⟨W.heap.size+1+1+1,6,none⟩=some (.func (.func 59) #[] #[]):=fun W o1 o2 o3 b => by have h:=World.cell?_alloc_new (((W.alloc o1).alloc o2).alloc o3) (onesTab b) 62 6;simp only [World.size_alloc] at h;exact h
 refine start_ (n:=10) (S:=(fun w' => w'.cell? ⟨w.heap.size,0,none⟩=some (.int .i64 a1_0)∧w'.cell? ⟨w.heap.size,1,none⟩=some (.int .i64 a1_1)∧w'.cell? ⟨w.heap.size,2,none⟩=some (.string a1_2)∧w'.cell? ⟨w.heap.size,3,none⟩=some (.slice A1_3 l1_3.length c1_3))) (ds:=[]) #[false,false,false,false,false,false,false,false,false,false] (by kernel_rfl) rfl rfl ?_ (fun hHeld => ?_)
 ·(try dsimp only);(first|((with_reducible refine ⟨(hb5.cell ?_).trans ?_,(hb5.cell ?_).trans ?_,(hb5.cell ?_).trans ?_,(hb5.cell ?_).trans ?_⟩) <;> first|(simp;omega)|omega|go_keep)|((with_reducible refine ⟨(hb4.cell ?_).trans ?_,(hb4.cell ?_).trans ?_,(hb4.cell ?_).trans ?_,(hb4.cell ?_).trans ?_⟩) <;> first|(simp;omega)|omega|go_keep)|((fail_if_success (have h_:=hb4));((refine ⟨(hb3.cell ?_).trans ?_,(hb3.cell ?_).trans ?_,(hb3.cell ?_).trans ?_,(hb3.cell ?_).trans ?_⟩) <;> first|(simp;omega)|omega|go_keep))|go_keep)
 refine pure_ (i:=1) (N:=some 15) (v:=?_) (a':=?_) #[false,true,false,false,false,false,false,false,false,false] rfl rfl (by kernel_rfl) (fun _ _ _ h => h) (Or.inl ⟨by rfl,?_⟩) ?_ ?_
 rotate_left
 ·(intro w';go_simp;with_reducible rfl)
 rotate_left
 ·(first|(simp only [Act.put,List.setIfInBounds_toArray,List.set_cons_zero,List.set_cons_succ];rfl)|rfl)
 refine take_ (i:=5) (N:=some 19) (v:=?_) (a':=?_) #[false,true,false,false,false,true,false,false,false,false] rfl rfl (by kernel_rfl) (fun _ _ _ h => h) (Or.inl ⟨by rfl,?_⟩) hHeld ?_ ?_
 rotate_left
 ·(rintro w' ⟨s0,s1,s2,s3⟩;go_simp;with_reducible rfl)
 rotate_left
 ·(first|(simp only [Act.put,List.setIfInBounds_toArray,List.set_cons_zero,List.set_cons_succ];rfl)|rfl)
 refine one_ (i:=0) (N:=some 14) #[true,true,false,false,false,true,false,false,false,false] rfl rfl (by kernel_rfl) (by simp) (fun K hK => ?_)
 go_simp
 (go_at_call 29;refine (fns_ones.callsB _).mono ?_;rintro e w3 ⟨rfl,rfl,hb3⟩)
 (try go_wp2_with fail)
 refine hK.out _ _ ?_ (fun hHeld => ?_)
 ·(try dsimp only);(first|((with_reducible refine ⟨(hb5.cell ?_).trans ?_,(hb5.cell ?_).trans ?_,(hb5.cell ?_).trans ?_,(hb5.cell ?_).trans ?_⟩) <;> first|(simp;omega)|omega|go_keep)|((with_reducible refine ⟨(hb4.cell ?_).trans ?_,(hb4.cell ?_).trans ?_,(hb4.cell ?_).trans ?_,(hb4.cell ?_).trans ?_⟩) <;> first|(simp;omega)|omega|go_keep)|((fail_if_success (have h_:=hb4));((refine ⟨(hb3.cell ?_).trans ?_,(hb3.cell ?_).trans ?_,(hb3.cell ?_).trans ?_,(hb3.cell ?_).trans ?_⟩) <;> first|(simp;omega)|omega|go_keep))|go_keep)
 clear hK K
 refine norm_ (a':=?_) ?_ ?_
 rotate_left
 ·(first|(simp only [Act.put,List.setIfInBounds_toArray,List.set_cons_zero,List.set_cons_succ];rfl)|rfl)
 refine pure_ (i:=2) (N:=some 16) (v:=?_) (a':=?_) #[true,true,true,false,false,true,false,false,false,false] rfl rfl (by kernel_rfl) (fun _ _ _ h => h) (Or.inl ⟨by rfl,?_⟩) ?_ ?_
 rotate_left
 ·(intro w';go_simp;with_reducible rfl)
 rotate_left
 ·(first|(simp only [Act.put,List.setIfInBounds_toArray,List.set_cons_zero,List.set_cons_succ];rfl)|rfl)
 refine pure_ (i:=3) (N:=some 17) (v:=?_) (a':=?_) #[true,true,true,true,false,true,false,false,false,false] rfl rfl (by kernel_rfl) (fun _ _ _ h => h) (Or.inl ⟨by rfl,?_⟩) ?_ ?_
 rotate_left
 ·(intro w';go_simp;with_reducible rfl)
 rotate_left
 ·(first|(simp only [Act.put,List.setIfInBounds_toArray,List.set_cons_zero,List.set_cons_succ];rfl)|rfl)
 refine one_ (i:=4) (N:=some 18) #[true,true,true,true,true,true,false,false,false,false] rfl rfl (by kernel_rfl) (by simp) (fun K hK => ?_)
 go_simp
 refine hK.out _ _ ?_ (fun hHeld => ?_)
 ·(try dsimp only);(first|((with_reducible refine ⟨(hb5.cell ?_).trans ?_,(hb5.cell ?_).trans ?_,(hb5.cell ?_).trans ?_,(hb5.cell ?_).trans ?_⟩) <;> first|(simp;omega)|omega|go_keep)|((with_reducible refine ⟨(hb4.cell ?_).trans ?_,(hb4.cell ?_).trans ?_,(hb4.cell ?_).trans ?_,(hb4.cell ?_).trans ?_⟩) <;> first|(simp;omega)|omega|go_keep)|((fail_if_success (have h_:=hb4));((refine ⟨(hb3.cell ?_).trans ?_,(hb3.cell ?_).trans ?_,(hb3.cell ?_).trans ?_,(hb3.cell ?_).trans ?_⟩) <;> first|(simp;omega)|omega|go_keep))|go_keep)
 clear hK K
 refine norm_ (a':=?_) ?_ ?_
 rotate_left
 ·(first|(simp only [Act.put,List.setIfInBounds_toArray,List.set_cons_zero,List.set_cons_succ];rfl)|rfl)
 refine one_ (i:=6) (N:=some 20) #[true,true,true,true,true,true,true,false,false,false] rfl rfl (by kernel_rfl) (by simp) (fun K hK => ?_)
 go_simp
 (go_at_call 59;refine (do_6 k a1_0 a1_1 a1_2 A1_3 c1_3 l1_3 (fun k_ => k_ < w.heap.size) s1 s2 s3 s4 _ (LaidW.below HLT.out (by repeat (first|(with_reducible first|exact HB3.out|apply below_alloc|apply pw_below_drewN|apply below_drew1)|exact HB3.out|apply below_alloc))) (Kd.V_mk HC.out (Kd.F_below HF.out (by repeat (first|(with_reducible first|exact HB3.out|apply below_alloc|apply pw_below_drewN|apply below_drew1)|exact HB3.out|apply below_alloc)))) HD.out).mono ?_;rintro e w4 ⟨v4,rfl,hv4,hb4⟩;obtain ⟨A4,c4,rfl⟩:=Kd.V_slice hv4;have HK4:Aside0 (w4.heap[w.heap.size+1]? = some (.cells #[.int .i64 0,.int .i64 0,.string ⟨#[]⟩,.slice none 0 0] 24 (0,0))):=Aside0.mk (blk_below (by repeat (first|exact HK.out|refine blk_drewN ?_ _|refine blk_drew ?_|refine blk_alloc ?_ _)) hb4);have hz4:w.heap.size+1 < w4.heap.size:=blk_lt HK4.out;have HB4:Aside0 (Below w.heap.size w w4):=Aside0.mk (below_step (by repeat (first|(with_reducible first|exact HB3.out|apply below_alloc|apply pw_below_drewN|apply below_drew1)|exact HB3.out|apply below_alloc)) hb4))
 (try go_wp2_with fail)
 refine hK.out _ _ ?_ (fun hHeld => ?_)
 ·(try dsimp only);(first|((with_reducible refine ⟨(hb5.cell ?_).trans ?_,(hb5.cell ?_).trans ?_,(hb5.cell ?_).trans ?_,(hb5.cell ?_).trans ?_⟩) <;> first|(simp;omega)|omega|go_keep)|((with_reducible refine ⟨(hb4.cell ?_).trans ?_,(hb4.cell ?_).trans ?_,(hb4.cell ?_).trans ?_,(hb4.cell ?_).trans ?_⟩) <;> first|(simp;omega)|omega|go_keep)|((fail_if_success (have h_:=hb4));((refine ⟨(hb3.cell ?_).trans ?_,(hb3.cell ?_).trans ?_,(hb3.cell ?_).trans ?_,(hb3.cell ?_).trans ?_⟩) <;> first|(simp;omega)|omega|go_keep))|go_keep)
 clear hK K
 refine norm_ (a':=?_) ?_ ?_
 rotate_left
 ·(first|(simp only [Act.put,List.setIfInBounds_toArray,List.set_cons_zero,List.set_cons_succ];rfl)|rfl)
 refine one_ (i:=7) (N:=some 21) #[true,true,true,true,true,true,true,true,false,false] rfl rfl (by kernel_rfl) (by simp) (fun K hK => ?_)
 go_simp
 (go_at_call 27;refine (own_Value.calls s1 s2 s3 A4 c4 s4 r1 r2 r3 r4 _ (Kd.V_reads' hv4).2.2 (Kd.V_reads' hv4).2.1 HO.out).mono ?_;rintro e w5 ⟨v5,rfl,hr5,hb5⟩;obtain ⟨A5,c5,rfl⟩:=Kd.R_slice hr5;have HK5:Aside0 (w5.heap[w.heap.size+1]? = some (.cells #[.int .i64 0,.int .i64 0,.string ⟨#[]⟩,.slice none 0 0] 24 (0,0))):=Aside0.mk (blk_below (by repeat (first|exact HK4.out|refine blk_drewN ?_ _|refine blk_drew ?_|refine blk_alloc ?_ _)) hb5);have HB5:Aside0 (Below w.heap.size w w5):=Aside0.mk (below_step (by repeat (first|exact HB4.out|apply pw_below_drewN|apply below_drew1)) hb5);have y0':w5.cell? ⟨w.heap.size+1,0,none⟩=some (.int .i64 0):=(blk_cell HK5.out 0).trans rfl;have y1':w5.cell? ⟨w.heap.size+1,1,none⟩=some (.int .i64 0):=(blk_cell HK5.out 1).trans rfl;have y2':w5.cell? ⟨w.heap.size+1,2,none⟩=some (.string ⟨#[]⟩):=(blk_cell HK5.out 2).trans rfl;have y3':w5.cell? ⟨w.heap.size+1,3,none⟩=some (.slice none 0 0):=(blk_cell HK5.out 3).trans rfl;have g0':w5.frozen? ⟨w.heap.size+1,0,none⟩=false:=blk_frozen HK5.out 0;have g1':w5.frozen? ⟨w.heap.size+1,1,none⟩=false:=blk_frozen HK5.out 1;have g2':w5.frozen? ⟨w.heap.size+1,2,none⟩=false:=blk_frozen HK5.out 2;have g3':w5.frozen? ⟨w.heap.size+1,3,none⟩=false:=blk_frozen HK5.out 3;have HR5:=Aside0.mk hr5;have hz5:w.heap.size+1 < w5.heap.size:=blk_lt HK5.out;clear hr5)
 (try go_wp2_with fail)
 refine hK.out _ _ ?_ (fun hHeld => ?_)
 ·(try dsimp only);(first|((with_reducible refine ⟨(hb5.cell ?_).trans ?_,(hb5.cell ?_).trans ?_,(hb5.cell ?_).trans ?_,(hb5.cell ?_).trans ?_⟩) <;> first|(simp;omega)|omega|go_keep)|((with_reducible refine ⟨(hb4.cell ?_).trans ?_,(hb4.cell ?_).trans ?_,(hb4.cell ?_).trans ?_,(hb4.cell ?_).trans ?_⟩) <;> first|(simp;omega)|omega|go_keep)|((fail_if_success (have h_:=hb4));((refine ⟨(hb3.cell ?_).trans ?_,(hb3.cell ?_).trans ?_,(hb3.cell ?_).trans ?_,(hb3.cell ?_).trans ?_⟩) <;> first|(simp;omega)|omega|go_keep))|go_keep)
 clear hK K
 refine norm_ (a':=?_) ?_ ?_
 rotate_left
 ·(first|(simp only [Act.put,List.setIfInBounds_toArray,List.set_cons_zero,List.set_cons_succ];rfl)|rfl)
 refine one_ (i:=8) (N:=none) #[true,true,true,true,true,true,true,true,true,false] rfl rfl (by kernel_rfl) (by simp) (fun K hK => ?_)
 go_simp
 refine hK.out _ _ ?_ (fun hHeld => ?_)
 ·(try dsimp only);(first|((with_reducible refine ⟨(hb5.cell ?_).trans ?_,(hb5.cell ?_).trans ?_,(hb5.cell ?_).trans ?_,(hb5.cell ?_).trans ?_⟩) <;> first|(simp;omega)|omega|go_keep)|((with_reducible refine ⟨(hb4.cell ?_).trans ?_,(hb4.cell ?_).trans ?_,(hb4.cell ?_).trans ?_,(hb4.cell ?_).trans ?_⟩) <;> first|(simp;omega)|omega|go_keep)|((fail_if_success (have h_:=hb4));((refine ⟨(hb3.cell ?_).trans ?_,(hb3.cell ?_).trans ?_,(hb3.cell ?_).trans ?_,(hb3.cell ?_).trans ?_⟩) <;> first|(simp;omega)|omega|go_keep))|go_keep)
 clear hK K
 refine norm_ (a':=?_) ?_ ?_
 rotate_left
 ·(first|(simp only [Act.put,List.setIfInBounds_toArray,List.set_cons_zero,List.set_cons_succ];rfl)|rfl)
 refine pure_ (i:=9) (N:=some 5) (v:=?_) (a':=?_) #[true,true,true,true,true,true,true,true,true,true] rfl rfl (by kernel_rfl) (fun _ _ _ h => h) (Or.inl ⟨by rfl,?_⟩) ?_ ?_
 rotate_left
 ·(intro w';go_simp;with_reducible rfl)
 rotate_left
 ·(first|(simp only [Act.put,List.setIfInBounds_toArray,List.set_cons_zero,List.set_cons_succ];rfl)|rfl)
 refine done_ (by kernel_rfl) ?_
 go_wp2
 refine bodyPost_ret (results_ct rfl _ _ (w.heap.size+1) 24 #[.int .i64 r1,.int .i64 r2,.string r3,.slice A5 r4.length c5] (0,0) _ rfl (pu4 HK5) Tryd.underlying24 rfl (by kernel_rfl)) rfl ?_
 exact ⟨_,rfl,r_far4 HR5.out hz4 (by omega) _ _ _ _,by repeat (first|exact HB5.out|refine below_set ?_ (by simp))⟩
set_option maxRecDepth 100000 in
set_option maxHeartbeats 1600000 in
theorem one_7 (k:Nat) (a1_0 a1_1:Int) (a1_2:ByteArray) (A1_3:Option Addr) (c1_3:Nat) (l1_3:List S24) (r1 r2:Int) (r3:ByteArray) (r4:List S24) (s1 s2:Int) (s3:ByteArray) (s4:List S24) (w:World) (hL:LaidW w) (hr1_3:Kd.C k24 w A1_3 l1_3.length l1_3) (hc1_3:l1_3.length≤c1_3) (h1:fns_fit.f k 7 a1_0 a1_1 a1_2 l1_3=some 0) (h2:fns_do.f k 7 a1_0 a1_1 a1_2 l1_3=some (s1,s2,s3,s4)) (h3:own_Value.f s1 s2 s3 s4=some (r1,r2,r3,r4)) :
  Calls Tryd.prog 14 #[.int .i64 7,.agg #[.int .i64 a1_0,.int .i64 a1_1,.string a1_2,.slice A1_3 l1_3.length c1_3]] w fun e w' => ∃ v3_:Value,e=.returned (.tuple #[.agg #[.int .i64 r1,.int .i64 r2,.string r3,v3_],.int .i64 0])∧Kd.R k24 24 w' w.heap.size (fun _ => True) v3_ r4∧Below w.heap.size w w':=by
 have HLT:=Aside0.mk hL
 have HR:=Aside0.mk hr1_3
 have HC:=Aside0.mk hc1_3
 have HE:=Aside0.mk h1
 have HD:=Aside0.mk h2
 have HO:=Aside0.mk h3
 have HF:=Aside0.mk (Kd.C_F k24_heap hr1_3)
 clear hL hr1_3 hc1_3 h1 h2 h3
 go_enter Tryd.func14,Tryd.ntmps14
 go_wp2_with (go_at_call 19;refine (fns_fit.calls k 7 a1_0 a1_1 a1_2 A1_3 c1_3 l1_3 0 _ (LaidW.below HLT.out (below_alloc (below_alloc (Below.refl _ _) _) _)) (Kd.C_alloc (Kd.C_alloc HR.out _) _) HC.out HE.out).mono ?_;rintro e w2 ⟨rfl,hb2⟩;obtain ⟨B1,B2,hB⟩:=two_key _ a1_1 a1_2 _ w w2 hb2;have HB3:=Aside0.mk hB;have HK:=Aside0.mk B2;have hz:w.heap.size+1 < w2.heap.size:=blk_lt B2;clear hb2;have x0:w2.cell? ⟨w.heap.size,0,none⟩=some (.int .i64 a1_0):=(blk_cell B1 0).trans rfl;have x1:w2.cell? ⟨w.heap.size,1,none⟩=some (.int .i64 a1_1):=(blk_cell B1 1).trans rfl;have x2:w2.cell? ⟨w.heap.size,2,none⟩=some (.string a1_2):=(blk_cell B1 2).trans rfl;have x3:w2.cell? ⟨w.heap.size,3,none⟩=some (.slice A1_3 l1_3.length c1_3):=(blk_cell B1 3).trans rfl;clear B1 B2 hB)
 have ht:∀ (W:World) (o1 o2 o3:Obj) (b:Nat),((((W.alloc o1).alloc o2).alloc o3).alloc (.cells (onesTab b) 62)).cell? ⟨W.heap.size+1+1+1,7,none⟩=some (.func (.func 70) #[] #[.pointer (some ⟨b+1+1,0,none⟩)]):=fun W o1 o2 o3 b => by have h:=World.cell?_alloc_new (((W.alloc o1).alloc o2).alloc o3) (onesTab b) 62 7;simp only [World.size_alloc] at h;exact h
 refine start_ (n:=10) (S:=(fun w' => w'.cell? ⟨w.heap.size,0,none⟩=some (.int .i64 a1_0)∧w'.cell? ⟨w.heap.size,1,none⟩=some (.int .i64 a1_1)∧w'.cell? ⟨w.heap.size,2,none⟩=some (.string a1_2)∧w'.cell? ⟨w.heap.size,3,none⟩=some (.slice A1_3 l1_3.length c1_3))) (ds:=[]) #[false,false,false,false,false,false,false,false,false,false] (by kernel_rfl) rfl rfl ?_ (fun hHeld => ?_)
 ·(try dsimp only);(first|((with_reducible refine ⟨(hb5.cell ?_).trans ?_,(hb5.cell ?_).trans ?_,(hb5.cell ?_).trans ?_,(hb5.cell ?_).trans ?_⟩) <;> first|(simp;omega)|omega|go_keep)|((with_reducible refine ⟨(hb4.cell ?_).trans ?_,(hb4.cell ?_).trans ?_,(hb4.cell ?_).trans ?_,(hb4.cell ?_).trans ?_⟩) <;> first|(simp;omega)|omega|go_keep)|((fail_if_success (have h_:=hb4));((refine ⟨(hb3.cell ?_).trans ?_,(hb3.cell ?_).trans ?_,(hb3.cell ?_).trans ?_,(hb3.cell ?_).trans ?_⟩) <;> first|(simp;omega)|omega|go_keep))|go_keep)
 refine pure_ (i:=1) (N:=some 15) (v:=?_) (a':=?_) #[false,true,false,false,false,false,false,false,false,false] rfl rfl (by kernel_rfl) (fun _ _ _ h => h) (Or.inl ⟨by rfl,?_⟩) ?_ ?_
 rotate_left
 ·(intro w';go_simp;with_reducible rfl)
 rotate_left
 ·(first|(simp only [Act.put,List.setIfInBounds_toArray,List.set_cons_zero,List.set_cons_succ];rfl)|rfl)
 refine take_ (i:=5) (N:=some 19) (v:=?_) (a':=?_) #[false,true,false,false,false,true,false,false,false,false] rfl rfl (by kernel_rfl) (fun _ _ _ h => h) (Or.inl ⟨by rfl,?_⟩) hHeld ?_ ?_
 rotate_left
 ·(rintro w' ⟨s0,s1,s2,s3⟩;go_simp;with_reducible rfl)
 rotate_left
 ·(first|(simp only [Act.put,List.setIfInBounds_toArray,List.set_cons_zero,List.set_cons_succ];rfl)|rfl)
 refine one_ (i:=0) (N:=some 14) #[true,true,false,false,false,true,false,false,false,false] rfl rfl (by kernel_rfl) (by simp) (fun K hK => ?_)
 go_simp
 (go_at_call 29;refine (fns_ones.callsB _).mono ?_;rintro e w3 ⟨rfl,rfl,hb3⟩)
 (try go_wp2_with fail)
 refine hK.out _ _ ?_ (fun hHeld => ?_)
 ·(try dsimp only);(first|((with_reducible refine ⟨(hb5.cell ?_).trans ?_,(hb5.cell ?_).trans ?_,(hb5.cell ?_).trans ?_,(hb5.cell ?_).trans ?_⟩) <;> first|(simp;omega)|omega|go_keep)|((with_reducible refine ⟨(hb4.cell ?_).trans ?_,(hb4.cell ?_).trans ?_,(hb4.cell ?_).trans ?_,(hb4.cell ?_).trans ?_⟩) <;> first|(simp;omega)|omega|go_keep)|((fail_if_success (have h_:=hb4));((refine ⟨(hb3.cell ?_).trans ?_,(hb3.cell ?_).trans ?_,(hb3.cell ?_).trans ?_,(hb3.cell ?_).trans ?_⟩) <;> first|(simp;omega)|omega|go_keep))|go_keep)
 clear hK K
 refine norm_ (a':=?_) ?_ ?_
 rotate_left
 ·(first|(simp only [Act.put,List.setIfInBounds_toArray,List.set_cons_zero,List.set_cons_succ];rfl)|rfl)
 refine pure_ (i:=2) (N:=some 16) (v:=?_) (a':=?_) #[true,true,true,false,false,true,false,false,false,false] rfl rfl (by kernel_rfl) (fun _ _ _ h => h) (Or.inl ⟨by rfl,?_⟩) ?_ ?_
 rotate_left
 ·(intro w';go_simp;with_reducible rfl)
 rotate_left
 ·(first|(simp only [Act.put,List.setIfInBounds_toArray,List.set_cons_zero,List.set_cons_succ];rfl)|rfl)
 refine pure_ (i:=3) (N:=some 17) (v:=?_) (a':=?_) #[true,true,true,true,false,true,false,false,false,false] rfl rfl (by kernel_rfl) (fun _ _ _ h => h) (Or.inl ⟨by rfl,?_⟩) ?_ ?_
 rotate_left
 ·(intro w';go_simp;with_reducible rfl)
 rotate_left
 ·(first|(simp only [Act.put,List.setIfInBounds_toArray,List.set_cons_zero,List.set_cons_succ];rfl)|rfl)
 refine one_ (i:=4) (N:=some 18) #[true,true,true,true,true,true,false,false,false,false] rfl rfl (by kernel_rfl) (by simp) (fun K hK => ?_)
 go_simp
 refine hK.out _ _ ?_ (fun hHeld => ?_)
 ·(try dsimp only);(first|((with_reducible refine ⟨(hb5.cell ?_).trans ?_,(hb5.cell ?_).trans ?_,(hb5.cell ?_).trans ?_,(hb5.cell ?_).trans ?_⟩) <;> first|(simp;omega)|omega|go_keep)|((with_reducible refine ⟨(hb4.cell ?_).trans ?_,(hb4.cell ?_).trans ?_,(hb4.cell ?_).trans ?_,(hb4.cell ?_).trans ?_⟩) <;> first|(simp;omega)|omega|go_keep)|((fail_if_success (have h_:=hb4));((refine ⟨(hb3.cell ?_).trans ?_,(hb3.cell ?_).trans ?_,(hb3.cell ?_).trans ?_,(hb3.cell ?_).trans ?_⟩) <;> first|(simp;omega)|omega|go_keep))|go_keep)
 clear hK K
 refine norm_ (a':=?_) ?_ ?_
 rotate_left
 ·(first|(simp only [Act.put,List.setIfInBounds_toArray,List.set_cons_zero,List.set_cons_succ];rfl)|rfl)
 refine one_ (i:=6) (N:=some 20) #[true,true,true,true,true,true,true,false,false,false] rfl rfl (by kernel_rfl) (by simp) (fun K hK => ?_)
 go_simp
 (go_at_call 70;refine (do_7 k a1_0 a1_1 a1_2 A1_3 c1_3 l1_3 (fun k_ => k_ < w.heap.size) s1 s2 s3 s4 _ (LaidW.below HLT.out (by repeat (first|(with_reducible first|exact HB3.out|apply below_alloc|apply pw_below_drewN|apply below_drew1)|exact HB3.out|apply below_alloc))) (Kd.V_mk HC.out (Kd.F_below HF.out (by repeat (first|(with_reducible first|exact HB3.out|apply below_alloc|apply pw_below_drewN|apply below_drew1)|exact HB3.out|apply below_alloc)))) (w2.heap.size+1+1) (by have h_:=(onesW_box w2).2.2;exact h_) HD.out).mono ?_;rintro e w4 ⟨v4,rfl,hv4,hb4⟩;obtain ⟨A4,c4,rfl⟩:=Kd.V_slice hv4;have HK4:Aside0 (w4.heap[w.heap.size+1]? = some (.cells #[.int .i64 0,.int .i64 0,.string ⟨#[]⟩,.slice none 0 0] 24 (0,0))):=Aside0.mk (blk_below (by repeat (first|exact HK.out|refine blk_drewN ?_ _|refine blk_drew ?_|refine blk_alloc ?_ _)) hb4);have hz4:w.heap.size+1 < w4.heap.size:=blk_lt HK4.out;have HB4:Aside0 (Below w.heap.size w w4):=Aside0.mk (below_step (by repeat (first|(with_reducible first|exact HB3.out|apply below_alloc|apply pw_below_drewN|apply below_drew1)|exact HB3.out|apply below_alloc)) hb4))
 (try go_wp2_with fail)
 refine hK.out _ _ ?_ (fun hHeld => ?_)
 ·(try dsimp only);(first|((with_reducible refine ⟨(hb5.cell ?_).trans ?_,(hb5.cell ?_).trans ?_,(hb5.cell ?_).trans ?_,(hb5.cell ?_).trans ?_⟩) <;> first|(simp;omega)|omega|go_keep)|((with_reducible refine ⟨(hb4.cell ?_).trans ?_,(hb4.cell ?_).trans ?_,(hb4.cell ?_).trans ?_,(hb4.cell ?_).trans ?_⟩) <;> first|(simp;omega)|omega|go_keep)|((fail_if_success (have h_:=hb4));((refine ⟨(hb3.cell ?_).trans ?_,(hb3.cell ?_).trans ?_,(hb3.cell ?_).trans ?_,(hb3.cell ?_).trans ?_⟩) <;> first|(simp;omega)|omega|go_keep))|go_keep)
 clear hK K
 refine norm_ (a':=?_) ?_ ?_
 rotate_left
 ·(first|(simp only [Act.put,List.setIfInBounds_toArray,List.set_cons_zero,List.set_cons_succ];rfl)|rfl)
 refine one_ (i:=7) (N:=some 21) #[true,true,true,true,true,true,true,true,false,false] rfl rfl (by kernel_rfl) (by simp) (fun K hK => ?_)
 go_simp
 (go_at_call 27;refine (own_Value.calls s1 s2 s3 A4 c4 s4 r1 r2 r3 r4 _ (Kd.V_reads' hv4).2.2 (Kd.V_reads' hv4).2.1 HO.out).mono ?_;rintro e w5 ⟨v5,rfl,hr5,hb5⟩;obtain ⟨A5,c5,rfl⟩:=Kd.R_slice hr5;have HK5:Aside0 (w5.heap[w.heap.size+1]? = some (.cells #[.int .i64 0,.int .i64 0,.string ⟨#[]⟩,.slice none 0 0] 24 (0,0))):=Aside0.mk (blk_below (by repeat (first|exact HK4.out|refine blk_drewN ?_ _|refine blk_drew ?_|refine blk_alloc ?_ _)) hb5);have HB5:Aside0 (Below w.heap.size w w5):=Aside0.mk (below_step (by repeat (first|exact HB4.out|apply pw_below_drewN|apply below_drew1)) hb5);have y0':w5.cell? ⟨w.heap.size+1,0,none⟩=some (.int .i64 0):=(blk_cell HK5.out 0).trans rfl;have y1':w5.cell? ⟨w.heap.size+1,1,none⟩=some (.int .i64 0):=(blk_cell HK5.out 1).trans rfl;have y2':w5.cell? ⟨w.heap.size+1,2,none⟩=some (.string ⟨#[]⟩):=(blk_cell HK5.out 2).trans rfl;have y3':w5.cell? ⟨w.heap.size+1,3,none⟩=some (.slice none 0 0):=(blk_cell HK5.out 3).trans rfl;have g0':w5.frozen? ⟨w.heap.size+1,0,none⟩=false:=blk_frozen HK5.out 0;have g1':w5.frozen? ⟨w.heap.size+1,1,none⟩=false:=blk_frozen HK5.out 1;have g2':w5.frozen? ⟨w.heap.size+1,2,none⟩=false:=blk_frozen HK5.out 2;have g3':w5.frozen? ⟨w.heap.size+1,3,none⟩=false:=blk_frozen HK5.out 3;have HR5:=Aside0.mk hr5;have hz5:w.heap.size+1 < w5.heap.size:=blk_lt HK5.out;clear hr5)
 (try go_wp2_with fail)
 refine hK.out _ _ ?_ (fun hHeld => ?_)
 ·(try dsimp only);(first|((with_reducible refine ⟨(hb5.cell ?_).trans ?_,(hb5.cell ?_).trans ?_,(hb5.cell ?_).trans ?_,(hb5.cell ?_).trans ?_⟩) <;> first|(simp;omega)|omega|go_keep)|((with_reducible refine ⟨(hb4.cell ?_).trans ?_,(hb4.cell ?_).trans ?_,(hb4.cell ?_).trans ?_,(hb4.cell ?_).trans ?_⟩) <;> first|(simp;omega)|omega|go_keep)|((fail_if_success (have h_:=hb4));((refine ⟨(hb3.cell ?_).trans ?_,(hb3.cell ?_).trans ?_,(hb3.cell ?_).trans ?_,(hb3.cell ?_).trans ?_⟩) <;> first|(simp;omega)|omega|go_keep))|go_keep)
 clear hK K
 refine norm_ (a':=?_) ?_ ?_
 rotate_left
 ·(first|(simp only [Act.put,List.setIfInBounds_toArray,List.set_cons_zero,List.set_cons_succ];rfl)|rfl)
 refine one_ (i:=8) (N:=none) #[true,true,true,true,true,true,true,true,true,false] rfl rfl (by kernel_rfl) (by simp) (fun K hK => ?_)
 go_simp
 refine hK.out _ _ ?_ (fun hHeld => ?_)
 ·(try dsimp only);(first|((with_reducible refine ⟨(hb5.cell ?_).trans ?_,(hb5.cell ?_).trans ?_,(hb5.cell ?_).trans ?_,(hb5.cell ?_).trans ?_⟩) <;> first|(simp;omega)|omega|go_keep)|((with_reducible refine ⟨(hb4.cell ?_).trans ?_,(hb4.cell ?_).trans ?_,(hb4.cell ?_).trans ?_,(hb4.cell ?_).trans ?_⟩) <;> first|(simp;omega)|omega|go_keep)|((fail_if_success (have h_:=hb4));((refine ⟨(hb3.cell ?_).trans ?_,(hb3.cell ?_).trans ?_,(hb3.cell ?_).trans ?_,(hb3.cell ?_).trans ?_⟩) <;> first|(simp;omega)|omega|go_keep))|go_keep)
 clear hK K
 refine norm_ (a':=?_) ?_ ?_
 rotate_left
 ·(first|(simp only [Act.put,List.setIfInBounds_toArray,List.set_cons_zero,List.set_cons_succ];rfl)|rfl)
 refine pure_ (i:=9) (N:=some 5) (v:=?_) (a':=?_) #[true,true,true,true,true,true,true,true,true,true] rfl rfl (by kernel_rfl) (fun _ _ _ h => h) (Or.inl ⟨by rfl,?_⟩) ?_ ?_
 rotate_left
 ·(intro w';go_simp;with_reducible rfl)
 rotate_left
 ·(first|(simp only [Act.put,List.setIfInBounds_toArray,List.set_cons_zero,List.set_cons_succ];rfl)|rfl)
 refine done_ (by kernel_rfl) ?_
 go_wp2
 refine bodyPost_ret (results_ct rfl _ _ (w.heap.size+1) 24 #[.int .i64 r1,.int .i64 r2,.string r3,.slice A5 r4.length c5] (0,0) _ rfl (pu4 HK5) Tryd.underlying24 rfl (by kernel_rfl)) rfl ?_
 exact ⟨_,rfl,r_far4 HR5.out hz4 (by omega) _ _ _ _,by repeat (first|exact HB5.out|refine below_set ?_ (by simp))⟩
def fns_One.f (k:Nat) (a0:Int) (a1_0:Int) (a1_1:Int) (a1_2:ByteArray) (l1_3:List S24):Option (Int × Int × ByteArray × List S24 × Int) :=
 (fns_fit.f k a0 a1_0 a1_1 a1_2 l1_3).bind fun e => if e=0 then (fns_do.f k a0 a1_0 a1_1 a1_2 l1_3).bind fun s => (own_Value.f s.1 s.2.1 s.2.2.1 s.2.2.2).bind fun r => some (r.1,r.2.1,r.2.2.1,r.2.2.2,0) else some (0,0,⟨#[]⟩,[],e)
theorem fns_One.mono:∀ a0 a1 a2 a3 a4 k,LeO (fns_One.f k a0 a1 a2 a3 a4) (fns_One.f (k+1) a0 a1 a2 a3 a4):=by
 intro a0 a1 a2 a3 a4 k
 unfold fns_One.f
 exact LeO.bind (fns_fit.mono _ _ _ _ _ _) (fun _ => LeO.ite (LeO.bind (fns_do.mono _ _ _ _ _ _) (fun _ => LeO.refl _)) (LeO.refl _))
set_option maxRecDepth 100000 in
set_option maxHeartbeats 1600000 in
theorem fns_One.calls (k:Nat) (a0:Int) (a1_0:Int) (a1_1:Int) (a1_2:ByteArray) (A1_3:Option Addr) (c1_3:Nat) (l1_3:List S24) (r1 r2:Int) (r3:ByteArray) (r4:List S24) (r5:Int) (w:World) (hL:LaidW w) (hr1_3:Kd.C k24 w A1_3 l1_3.length l1_3) (hc1_3:l1_3.length≤c1_3) (h:fns_One.f k a0 a1_0 a1_1 a1_2 l1_3=some (r1,r2,r3,r4,r5)) :
  Calls Tryd.prog 14 #[.int .i64 a0,.agg #[.int .i64 a1_0,.int .i64 a1_1,.string a1_2,.slice A1_3 l1_3.length c1_3]] w fun e w' => ∃ v3_:Value,e=.returned (.tuple #[.agg #[.int .i64 r1,.int .i64 r2,.string r3,v3_],.int .i64 r5])∧Kd.R k24 24 w' w.heap.size (fun _ => True) v3_ r4∧Below w.heap.size w w':=by
 unfold fns_One.f at h
 obtain ⟨e0,he,h⟩:=Option.bind_eq_some_iff.1 h
 by_cases c0:e0=0
 ·subst c0
  rw [if_pos rfl] at h
  obtain ⟨h0,h7⟩:=fit_zero k a0 a1_0 a1_1 a1_2 l1_3 he
  obtain ⟨⟨s1,s2,s3,s4⟩,hd,h⟩:=Option.bind_eq_some_iff.1 h
  obtain ⟨⟨t1,t2,t3,t4⟩,ho,h⟩:=Option.bind_eq_some_iff.1 h
  simp only [Option.some.injEq,Prod.mk.injEq] at h
  obtain ⟨rfl,rfl,rfl,rfl,rfl⟩:=h
  have hcase:a0=0 ∨ a0=1 ∨ a0=2 ∨ a0=3 ∨ a0=4 ∨ a0=5 ∨ a0=6 ∨ a0=7:=by omega
  clear h0 h7
  rcases hcase with rfl|rfl|rfl|rfl|rfl|rfl|rfl|rfl
  ·exact one_0 k a1_0 a1_1 a1_2 A1_3 c1_3 l1_3 _ _ _ _ s1 s2 s3 s4 w hL hr1_3 hc1_3 he hd ho
  ·exact one_1 k a1_0 a1_1 a1_2 A1_3 c1_3 l1_3 _ _ _ _ s1 s2 s3 s4 w hL hr1_3 hc1_3 he hd ho
  ·exact one_2 k a1_0 a1_1 a1_2 A1_3 c1_3 l1_3 _ _ _ _ s1 s2 s3 s4 w hL hr1_3 hc1_3 he hd ho
  ·exact one_3 k a1_0 a1_1 a1_2 A1_3 c1_3 l1_3 _ _ _ _ s1 s2 s3 s4 w hL hr1_3 hc1_3 he hd ho
  ·exact one_4 k a1_0 a1_1 a1_2 A1_3 c1_3 l1_3 _ _ _ _ s1 s2 s3 s4 w hL hr1_3 hc1_3 he hd ho
  ·exact one_5 k a1_0 a1_1 a1_2 A1_3 c1_3 l1_3 _ _ _ _ s1 s2 s3 s4 w hL hr1_3 hc1_3 he hd ho
  ·exact one_6 k a1_0 a1_1 a1_2 A1_3 c1_3 l1_3 _ _ _ _ s1 s2 s3 s4 w hL hr1_3 hc1_3 he hd ho
  ·exact one_7 k a1_0 a1_1 a1_2 A1_3 c1_3 l1_3 _ _ _ _ s1 s2 s3 s4 w hL hr1_3 hc1_3 he hd ho
 ·rw [if_neg c0] at h
  simp only [Option.some.injEq,Prod.mk.injEq] at h
  obtain ⟨rfl,rfl,rfl,rfl,rfl⟩:=h
  have HLT:=Aside0.mk hL
  have HR:=Aside0.mk hr1_3
  have HC:=Aside0.mk hc1_3
  have HE:=Aside0.mk he
  have e1:(e0 != 0)=true:=bne_iff_ne.2 c0
  clear hL hr1_3 hc1_3 he
  go_enter Tryd.func14,Tryd.ntmps14
  go_wp2_with (go_at_call 19;refine (fns_fit.calls k a0 a1_0 a1_1 a1_2 A1_3 c1_3 l1_3 e0 _ (LaidW.below HLT.out (below_alloc (below_alloc (Below.refl _ _) _) _)) (Kd.C_alloc (Kd.C_alloc HR.out _) _) HC.out HE.out).mono ?_;rintro e w2 ⟨rfl,hb2⟩;obtain ⟨B1,B2,hB⟩:=two_key _ a1_1 a1_2 _ w w2 hb2;have HB3:=Aside0.mk hB;have HK:=Aside0.mk B2;clear hb2;have x0:=blk_cell B1 0;have x1:=blk_cell B1 1;have x2:=blk_cell B1 2;have x3:=blk_cell B1 3;have y0:=blk_cell B2 0;have y1:=blk_cell B2 1;have y2:=blk_cell B2 2;have y3:=blk_cell B2 3;have g0:=blk_frozen B2 0;have g1:=blk_frozen B2 1;have g2:=blk_frozen B2 2;have g3:=blk_frozen B2 3;clear B1 B2 hB)
  refine bodyPost_ret (results_ct rfl _ _ (w.heap.size+1) 24 #[.int .i64 0,.int .i64 0,.string (⟨#[]⟩:ByteArray),.slice none 0 0] (0,0) _ rfl (by refine blk_put (cs:=#[.int .i64 0,.int .i64 0,.string (⟨#[]⟩:ByteArray),(.slice none 0 0)]) ?_ 3 _ rfl;refine blk_put (cs:=#[.int .i64 0,.int .i64 0,(.string (⟨#[]⟩:ByteArray)),(.slice none 0 0)]) ?_ 2 _ rfl;refine blk_put (cs:=#[.int .i64 0,(.int .i64 0),(.string (⟨#[]⟩:ByteArray)),(.slice none 0 0)]) ?_ 1 _ rfl;refine blk_put (cs:=#[(.int .i64 0),(.int .i64 0),(.string (⟨#[]⟩:ByteArray)),(.slice none 0 0)]) ?_ 0 _ rfl;exact HK.out) Tryd.underlying24 rfl (by kernel_rfl)) rfl ?_
  exact ⟨_,rfl,Kd.R_nil _ _ _ _ _,by repeat (first|exact HB3.out|refine below_set ?_ (by simp))⟩
set_option maxRecDepth 100000 in
set_option maxHeartbeats 1600000 in
theorem fns_One.calls4 (k:Nat) (a0:Int) (a1_0:Int) (a1_1:Int) (a1_2:ByteArray) (A1_3:Option Addr) (c1_3:Nat) (l1_3:List S24) (r1 r2:Int) (r3:ByteArray) (r4:List S24) (r5:Int) (w:World) (hL:LaidW w) (hr1_3:Kd.C k24 w A1_3 l1_3.length l1_3) (hc1_3:l1_3.length≤c1_3) (h:fns_One.f k a0 a1_0 a1_1 a1_2 l1_3=some (r1,r2,r3,r4,r5)) (hq:a0=4:=by rfl) :
  Calls Tryd.prog 14 #[.int .i64 a0,.agg #[.int .i64 a1_0,.int .i64 a1_1,.string a1_2,.slice A1_3 l1_3.length c1_3]] w fun e w' => ∃ v3_:Value,e=.returned (.tuple #[.agg #[.int .i64 r1,.int .i64 r2,.string r3,v3_],.int .i64 r5])∧Kd.R k24 24 w' w.heap.size (fun _ => True) v3_ r4∧Below w.heap.size w w':=by
 have HQ3:=Aside0.mk hq
 clear hq
 unfold fns_One.f at h
 obtain ⟨e0,he,h⟩:=Option.bind_eq_some_iff.1 h
 by_cases c0:e0=0
 ·subst c0
  rw [if_pos rfl] at h
  obtain ⟨h0,h7⟩:=fit_zero k a0 a1_0 a1_1 a1_2 l1_3 he
  obtain ⟨⟨s1,s2,s3,s4⟩,hd,h⟩:=Option.bind_eq_some_iff.1 h
  obtain ⟨⟨t1,t2,t3,t4⟩,ho,h⟩:=Option.bind_eq_some_iff.1 h
  simp only [Option.some.injEq,Prod.mk.injEq] at h
  obtain ⟨rfl,rfl,rfl,rfl,rfl⟩:=h
  clear h0 h7
  have hq:=HQ3.out
  clear HQ3
  subst hq
  exact one_4 k a1_0 a1_1 a1_2 A1_3 c1_3 l1_3 _ _ _ _ s1 s2 s3 s4 w hL hr1_3 hc1_3 he hd ho
 ·rw [if_neg c0] at h
  simp only [Option.some.injEq,Prod.mk.injEq] at h
  obtain ⟨rfl,rfl,rfl,rfl,rfl⟩:=h
  have HLT:=Aside0.mk hL
  have HR:=Aside0.mk hr1_3
  have HC:=Aside0.mk hc1_3
  have HE:=Aside0.mk he
  have e1:(e0 != 0)=true:=bne_iff_ne.2 c0
  clear hL hr1_3 hc1_3 he
  go_enter Tryd.func14,Tryd.ntmps14
  go_wp2_with (go_at_call 19;refine (fns_fit.calls k a0 a1_0 a1_1 a1_2 A1_3 c1_3 l1_3 e0 _ (LaidW.below HLT.out (below_alloc (below_alloc (Below.refl _ _) _) _)) (Kd.C_alloc (Kd.C_alloc HR.out _) _) HC.out HE.out).mono ?_;rintro e w2 ⟨rfl,hb2⟩;obtain ⟨B1,B2,hB⟩:=two_key _ a1_1 a1_2 _ w w2 hb2;have HB3:=Aside0.mk hB;have HK:=Aside0.mk B2;clear hb2;have x0:=blk_cell B1 0;have x1:=blk_cell B1 1;have x2:=blk_cell B1 2;have x3:=blk_cell B1 3;have y0:=blk_cell B2 0;have y1:=blk_cell B2 1;have y2:=blk_cell B2 2;have y3:=blk_cell B2 3;have g0:=blk_frozen B2 0;have g1:=blk_frozen B2 1;have g2:=blk_frozen B2 2;have g3:=blk_frozen B2 3;clear B1 B2 hB)
  refine bodyPost_ret (results_ct rfl _ _ (w.heap.size+1) 24 #[.int .i64 0,.int .i64 0,.string (⟨#[]⟩:ByteArray),.slice none 0 0] (0,0) _ rfl (by refine blk_put (cs:=#[.int .i64 0,.int .i64 0,.string (⟨#[]⟩:ByteArray),(.slice none 0 0)]) ?_ 3 _ rfl;refine blk_put (cs:=#[.int .i64 0,.int .i64 0,(.string (⟨#[]⟩:ByteArray)),(.slice none 0 0)]) ?_ 2 _ rfl;refine blk_put (cs:=#[.int .i64 0,(.int .i64 0),(.string (⟨#[]⟩:ByteArray)),(.slice none 0 0)]) ?_ 1 _ rfl;refine blk_put (cs:=#[(.int .i64 0),(.int .i64 0),(.string (⟨#[]⟩:ByteArray)),(.slice none 0 0)]) ?_ 0 _ rfl;exact HK.out) Tryd.underlying24 rfl (by kernel_rfl)) rfl ?_
  exact ⟨_,rfl,Kd.R_nil _ _ _ _ _,by repeat (first|exact HB3.out|refine below_set ?_ (by simp))⟩
def times_l (k:Nat) (q:Int):Nat→Int→Int→ByteArray→List S24→Option (Int × Int × ByteArray × List S24)
 | 0,a0,a1,a2,l => some (a0,a1,a2,l)
 | m+1,a0,a1,a2,l => (fns_do.f k q a0 a1 a2 l).bind fun s => times_l k q m s.1 s.2.1 s.2.2.1 s.2.2.2
theorem cell4_far {W:World} {b g:Nat} {v:Value} (h:W.cell? ⟨b,0,none⟩=some v) (hg:b≠g) {u0 u1 u2 u3:Value} :
  ((((W.setCell ⟨g,0,none⟩ u0).setCell ⟨g,1,none⟩ u1).setCell ⟨g,2,none⟩ u2).setCell ⟨g,3,none⟩ u3).cell? ⟨b,0,none⟩=some v:=by
 have h1:=fun (W:World) (j:Nat) (u:Value) => Below.heap_setCell W ⟨g,j,none⟩ u b hg
 unfold World.cell? at h ⊢
 simp only [h1]
 exact h
def TRel (k:Nat) (q:Int) (n:Nat) (r1 r2:Int) (r3:ByteArray) (r4:List S24) (w:World) (B:Nat) (wr:World) (j:Nat) (c0 c1:Int) (c2:ByteArray) (A:Option Addr) (cc:Nat) (cl:List S24):Prop :=
 wr.heap[w.heap.size]? = some (.cells #[.int .i64 c0,.int .i64 c1,.string c2,.slice A cl.length cc] 24 (0,0)) ∧
 wr.heap[w.heap.size+1]? = some (.cells #[.int .i64 0,.int .i64 0,.string ⟨#[]⟩,.slice none 0 0] 24 (0,0)) ∧
 Below w.heap.size w wr∧Kd.V k24 24 wr wr.heap.size (fun k_ => k_≠w.heap.size∧k_≠w.heap.size+1∧(B≤k_ ∨ k_ < w.heap.size)) (.slice A cl.length cc) cl ∧
 j≤n∧times_l k q (n - j) c0 c1 c2 cl=some (r1,r2,r3,r4)∧w.heap.size+2≤B∧B < wr.heap.size
theorem v_store {W:World} {P:Nat→Prop} {b b' g:Nat} {v:Value} {xs:List S24} (h:Kd.V k24 24 W b P v xs) (hg:∀ k,P k→k≠g) (u0 u1 u2 u3:Value) :
  Kd.V k24 24 ((((W.setCell ⟨g,0,none⟩ u0).setCell ⟨g,1,none⟩ u1).setCell ⟨g,2,none⟩ u2).setCell ⟨g,3,none⟩ u3) b' P v xs :=
 Kd.V_far (p:=⟨g,3,none⟩) (Kd.V_far (p:=⟨g,2,none⟩) (Kd.V_far (p:=⟨g,1,none⟩) (Kd.V_far (p:=⟨g,0,none⟩) h hg u0) hg u1) hg u2) hg u3
set_option maxRecDepth 100000 in
set_option maxHeartbeats 1600000 in
theorem times_0 (k n:Nat) (a1_0 a1_1:Int) (a1_2:ByteArray) (A1_3:Option Addr) (c1_3:Nat) (l1_3:List S24) (r1 r2:Int) (r3:ByteArray) (r4:List S24) (s1 s2:Int) (s3:ByteArray) (s4:List S24) (w:World) (hL:LaidW w) (hr1_3:Kd.C k24 w A1_3 l1_3.length l1_3) (hc1_3:l1_3.length≤c1_3) (hn:n≤65536) (h1:value_Check.f k a1_0 a1_1 a1_2 l1_3=some 0) (h2:times_l k 0 n a1_0 a1_1 a1_2 l1_3=some (s1,s2,s3,s4)) (h3:own_Value.f s1 s2 s3 s4=some (r1,r2,r3,r4)) :
  Calls Tryd.prog 17 #[.int .i64 0,.int .i64 n,.agg #[.int .i64 a1_0,.int .i64 a1_1,.string a1_2,.slice A1_3 l1_3.length c1_3]] w fun e w' => ∃ v3_:Value,e=.returned (.tuple #[.agg #[.int .i64 r1,.int .i64 r2,.string r3,v3_],.int .i64 0])∧Kd.R k24 24 w' w.heap.size (fun _ => True) v3_ r4∧Below w.heap.size w w':=by
 have HLT:=Aside0.mk hL
 have HR:=Aside0.mk hr1_3
 have HC:=Aside0.mk hc1_3
 have HE:=Aside0.mk h1
 have HD:=Aside0.mk h2
 have HO:=Aside0.mk h3
 have HF:=Aside0.mk (Kd.C_F k24_heap hr1_3)
 clear hL hr1_3 hc1_3 h1 h2 h3
 have hn0:¬ (n:Int) < 0:=by omega
 have hn1:¬ (65536:Int) < (n:Int):=by omega
 go_enter Tryd.func17,Tryd.ntmps17
 go_wp2_with (first
  | (go_at_call 32;refine (fns_known.calls 0 true _ rfl).mono ?_;rintro e w1 ⟨rfl,⟨nd,rfl⟩⟩)
  | (go_at_call 15;refine (value_Check.calls k a1_0 a1_1 a1_2 A1_3 c1_3 l1_3 0 _ (LaidW.below HLT.out (by repeat (first|exact Below.refl _ _|apply below_alloc|apply pw_below_drewN))) (by repeat (first|exact HR.out|refine Kd.C_alloc ?_ _|refine Kd.C_drewN ?_ _)) HC.out HE.out).mono ?_;rintro e w2 ⟨rfl,hb2⟩;obtain ⟨B1,B2,hB⟩:=two_key _ a1_1 a1_2 _ w w2 ⟨hb2.os,hb2.tape,hb2.output,hb2.size,hb2.block⟩;have HB2:=Aside0.mk hB;have HK1:=Aside0.mk B1;have HK2:=Aside0.mk B2;clear hb2 B1 B2 hB)
  | (go_at_call 29;refine (fns_ones.calls _).mono ?_;rintro e w3 ⟨rfl,hw3⟩;have hs3:w2.heap.size < w3.heap.size:=(by rw [hw3,onesW_size];omega);have HB3:Aside0 (Below w.heap.size w w3):=⟨by rw [hw3];exact below_step HB2.out (onesW_below _)⟩;have HJ1:Aside0 (w3.heap[w.heap.size]? = some (.cells #[.int .i64 a1_0,.int .i64 a1_1,.string a1_2,.slice A1_3 l1_3.length c1_3] 24 (0,0))):=⟨by rw [hw3];exact blk_below HK1.out (onesW_below _)⟩;have HJ2:Aside0 (w3.heap[w.heap.size+1]? = some (.cells #[.int .i64 0,.int .i64 0,.string ⟨#[]⟩,.slice none 0 0] 24 (0,0))):=⟨by rw [hw3];exact blk_below HK2.out (onesW_below _)⟩;have ht:w3.cell? ⟨w2.heap.size+1+1+1,0,none⟩=some (.func (.func 51) #[] #[]):=(by rw [hw3];exact (blk_cell (onesW_tab w2) 0).trans rfl);clear hw3))
 have hw2:w.heap.size+2≤w2.heap.size:=blk_lt HK2.out
 have HVI:=Aside0.mk (show Kd.V k24 24 w3 w3.heap.size (fun k_ => k_≠w.heap.size∧k_≠w.heap.size+1∧(w2.heap.size≤k_ ∨ k_ < w.heap.size)) (.slice A1_3 l1_3.length c1_3) l1_3 from Kd.V_mk HC.out (Kd.F_mono (Kd.F_below HF.out HB3.out) (fun k hk => ⟨by omega,by omega,Or.inr hk⟩)))
 clear HB2 HK1 HK2 HF HE HR
 have hnn:(0:Int)≤(n:Int):=Int.natCast_nonneg _
 go_loopw [33] (fun v wr => ∃ (j:Nat) (c0 c1:Int) (c2:ByteArray) (A:Option Addr) (cc:Nat) (cl:List S24),v=.int .i64 j∧TRel k 0 n s1 s2 s3 s4 w w2.heap.size wr j c0 c1 c2 A cc cl) (fun v _ => n - (intOf v).toNat)
 case atStart => exact ⟨0,a1_0,a1_1,a1_2,A1_3,c1_3,l1_3,rfl,⟨HJ1.out,HJ2.out,HB3.out,HVI.out,Nat.zero_le _,by rw [Nat.sub_zero];exact HD.out,hw2,hs3⟩⟩
 case round =>
  clear HJ1 HJ2 HB3 HVI HD ht
  obtain ⟨j,c0,c1,c2,A,cc,cl,rfl,⟨hk1,hk2,hb,hv,hj,hl,hw2',hBs⟩⟩:=hrel
  have HK1:=Aside0.mk hk1
  have HK2:=Aside0.mk hk2
  have HB:=Aside0.mk hb
  have HV:=Aside0.mk hv
  have x0:wr.cell? ⟨w.heap.size,0,none⟩=some (.int .i64 c0):=(blk_cell hk1 0).trans rfl
  have x1:wr.cell? ⟨w.heap.size,1,none⟩=some (.int .i64 c1):=(blk_cell hk1 1).trans rfl
  have x2:wr.cell? ⟨w.heap.size,2,none⟩=some (.string c2):=(blk_cell hk1 2).trans rfl
  have x3:wr.cell? ⟨w.heap.size,3,none⟩=some (.slice A cl.length cc):=(blk_cell hk1 3).trans rfl
  clear hk1 hk2 hb hv
  by_cases hlt:j < n
  ·obtain ⟨m,hm⟩:∃ m,n - j=m+1:=⟨n - j - 1,by omega⟩
   rw [hm] at hl
   simp only [times_l] at hl
   obtain ⟨⟨d0,d1,d2,d3⟩,hd,hl⟩:=Option.bind_eq_some_iff.1 hl
   have HD:=Aside0.mk hd
   have HL:=Aside0.mk hl
   clear hd hl
   have hw:IntKind.i64.wrap ((j:Int)+1)=(j:Int)+1:=IntWalk.i64_in _ (by omega)
   have hlt':(j:Int) < (n:Int):=by omega
   go_wp2_with (first
    | (go_at_call 51;refine (do_0 k c0 c1 c2 A cc cl (fun k_ => k_≠w.heap.size∧k_≠w.heap.size+1∧(w2.heap.size≤k_ ∨ k_ < w.heap.size)) d0 d1 d2 d3 _ (LaidW.below HLT.out HB.out) HV.out HD.out).mono ?_;rintro e w4 ⟨v4,rfl,hv4,hb4⟩;obtain ⟨A4,c4,rfl⟩:=Kd.V_slice hv4;have K1:Aside0 (w4.heap[w.heap.size]? = some (.cells #[.int .i64 c0,.int .i64 c1,.string c2,.slice A cl.length cc] 24 (0,0))):=⟨blk_below HK1.out hb4⟩;have K2:Aside0 (w4.heap[w.heap.size+1]? = some (.cells #[.int .i64 0,.int .i64 0,.string ⟨#[]⟩,.slice none 0 0] 24 (0,0))):=⟨blk_below HK2.out hb4⟩;have B4:Aside0 (Below w.heap.size w w4):=⟨below_step HB.out hb4⟩;have V4:=Aside0.mk hv4;have z4:=hb4.size;clear hv4 hb4;have e0:w4.cell? ⟨w.heap.size,0,none⟩=some (.int .i64 c0):=(blk_cell K1.out 0).trans rfl;have e1:w4.cell? ⟨w.heap.size,1,none⟩=some (.int .i64 c1):=(blk_cell K1.out 1).trans rfl;have e2:w4.cell? ⟨w.heap.size,2,none⟩=some (.string c2):=(blk_cell K1.out 2).trans rfl;have e3:w4.cell? ⟨w.heap.size,3,none⟩=some (.slice A cl.length cc):=(blk_cell K1.out 3).trans rfl;have f0:w4.frozen? ⟨w.heap.size,0,none⟩=false:=blk_frozen K1.out 0;have f1:w4.frozen? ⟨w.heap.size,1,none⟩=false:=blk_frozen K1.out 1;have f2:w4.frozen? ⟨w.heap.size,2,none⟩=false:=blk_frozen K1.out 2;have f3:w4.frozen? ⟨w.heap.size,3,none⟩=false:=blk_frozen K1.out 3))
   go_roundw
   case rel =>
    refine ⟨j+1,d0,d1,d2,A4,c4,d3,by go_num,⟨?_,?_,?_,?_,by omega,?_,hw2',?_⟩⟩
    ·refine blk_put (cs:=#[.int .i64 d0,.int .i64 d1,.string d2,.slice A cl.length cc]) ?_ 3 _ rfl
     refine blk_put (cs:=#[.int .i64 d0,.int .i64 d1,.string c2,.slice A cl.length cc]) ?_ 2 _ rfl
     refine blk_put (cs:=#[.int .i64 d0,.int .i64 c1,.string c2,.slice A cl.length cc]) ?_ 1 _ rfl
     refine blk_put (cs:=#[.int .i64 c0,.int .i64 c1,.string c2,.slice A cl.length cc]) ?_ 0 _ rfl
     exact K1.out
    ·refine blk_far ?_ (by simp) _
     refine blk_far ?_ (by simp) _
     refine blk_far ?_ (by simp) _
     refine blk_far ?_ (by simp) _
     exact K2.out
    ·repeat (first|exact B4.out|refine below_set ?_ (by simp))
    ·exact v_store (Kd.V_mono V4.out (fun k hk => by rcases hk with hk|hk;exact hk;exact ⟨by omega,by omega,Or.inl (by omega)⟩)) (fun k hk => hk.1) _ _ _ _
    ·rw [show n - (j+1)=m by omega];exact HL.out
    ·simp;omega
   case measure => simp [intOf];omega
  ·obtain rfl:j=n:=by omega
   rw [Nat.sub_self] at hl
   simp only [times_l,Option.some.injEq,Prod.mk.injEq] at hl
   obtain ⟨rfl,rfl,rfl,rfl⟩:=hl
   go_wp2_with (go_at_call 27;refine (own_Value.calls c0 c1 c2 A cc cl r1 r2 r3 r4 _ (Kd.V_reads' HV.out).2.2 (Kd.V_reads' HV.out).2.1 HO.out).mono ?_;rintro e w5 ⟨v5,rfl,hr5,hb5⟩;obtain ⟨A5,c5,rfl⟩:=Kd.R_slice hr5;have HK5:Aside0 (w5.heap[w.heap.size+1]? = some (.cells #[.int .i64 0,.int .i64 0,.string ⟨#[]⟩,.slice none 0 0] 24 (0,0))):=⟨blk_below HK2.out hb5⟩;have HB5:Aside0 (Below w.heap.size w w5):=⟨below_step HB.out hb5⟩;have HR5:=Aside0.mk hr5;clear hr5 hb5;have y0:w5.cell? ⟨w.heap.size+1,0,none⟩=some (.int .i64 0):=(blk_cell HK5.out 0).trans rfl;have y1:w5.cell? ⟨w.heap.size+1,1,none⟩=some (.int .i64 0):=(blk_cell HK5.out 1).trans rfl;have y2:w5.cell? ⟨w.heap.size+1,2,none⟩=some (.string ⟨#[]⟩):=(blk_cell HK5.out 2).trans rfl;have y3:w5.cell? ⟨w.heap.size+1,3,none⟩=some (.slice none 0 0):=(blk_cell HK5.out 3).trans rfl;have g0:w5.frozen? ⟨w.heap.size+1,0,none⟩=false:=blk_frozen HK5.out 0;have g1:w5.frozen? ⟨w.heap.size+1,1,none⟩=false:=blk_frozen HK5.out 1;have g2:w5.frozen? ⟨w.heap.size+1,2,none⟩=false:=blk_frozen HK5.out 2;have g3:w5.frozen? ⟨w.heap.size+1,3,none⟩=false:=blk_frozen HK5.out 3)
   refine bodyPost_ret (results_ct rfl _ _ (w.heap.size+1) 24 #[.int .i64 r1,.int .i64 r2,.string r3,.slice A5 r4.length c5] (0,0) _ rfl (pu4 HK5) Tryd.underlying24 rfl (by kernel_rfl)) rfl ?_
   exact ⟨_,rfl,r_far4 HR5.out (by omega) (by omega) _ _ _ _,by repeat (first|exact HB5.out|refine below_set ?_ (by simp))⟩
set_option maxRecDepth 100000 in
set_option maxHeartbeats 1600000 in
theorem times_1 (k n:Nat) (a1_0 a1_1:Int) (a1_2:ByteArray) (A1_3:Option Addr) (c1_3:Nat) (l1_3:List S24) (r1 r2:Int) (r3:ByteArray) (r4:List S24) (s1 s2:Int) (s3:ByteArray) (s4:List S24) (w:World) (hL:LaidW w) (hr1_3:Kd.C k24 w A1_3 l1_3.length l1_3) (hc1_3:l1_3.length≤c1_3) (hn:n≤65536) (h1:value_Check.f k a1_0 a1_1 a1_2 l1_3=some 0) (h2:times_l k 1 n a1_0 a1_1 a1_2 l1_3=some (s1,s2,s3,s4)) (h3:own_Value.f s1 s2 s3 s4=some (r1,r2,r3,r4)) :
  Calls Tryd.prog 17 #[.int .i64 1,.int .i64 n,.agg #[.int .i64 a1_0,.int .i64 a1_1,.string a1_2,.slice A1_3 l1_3.length c1_3]] w fun e w' => ∃ v3_:Value,e=.returned (.tuple #[.agg #[.int .i64 r1,.int .i64 r2,.string r3,v3_],.int .i64 0])∧Kd.R k24 24 w' w.heap.size (fun _ => True) v3_ r4∧Below w.heap.size w w':=by
 have HLT:=Aside0.mk hL
 have HR:=Aside0.mk hr1_3
 have HC:=Aside0.mk hc1_3
 have HE:=Aside0.mk h1
 have HD:=Aside0.mk h2
 have HO:=Aside0.mk h3
 have HF:=Aside0.mk (Kd.C_F k24_heap hr1_3)
 clear hL hr1_3 hc1_3 h1 h2 h3
 have hn0:¬ (n:Int) < 0:=by omega
 have hn1:¬ (65536:Int) < (n:Int):=by omega
 go_enter Tryd.func17,Tryd.ntmps17
 go_wp2_with (first
  | (go_at_call 32;refine (fns_known.calls 1 true _ rfl).mono ?_;rintro e w1 ⟨rfl,⟨nd,rfl⟩⟩)
  | (go_at_call 15;refine (value_Check.calls k a1_0 a1_1 a1_2 A1_3 c1_3 l1_3 0 _ (LaidW.below HLT.out (by repeat (first|exact Below.refl _ _|apply below_alloc|apply pw_below_drewN))) (by repeat (first|exact HR.out|refine Kd.C_alloc ?_ _|refine Kd.C_drewN ?_ _)) HC.out HE.out).mono ?_;rintro e w2 ⟨rfl,hb2⟩;obtain ⟨B1,B2,hB⟩:=two_key _ a1_1 a1_2 _ w w2 ⟨hb2.os,hb2.tape,hb2.output,hb2.size,hb2.block⟩;have HB2:=Aside0.mk hB;have HK1:=Aside0.mk B1;have HK2:=Aside0.mk B2;clear hb2 B1 B2 hB)
  | (go_at_call 29;refine (fns_ones.calls _).mono ?_;rintro e w3 ⟨rfl,hw3⟩;have hs3:w2.heap.size < w3.heap.size:=(by rw [hw3,onesW_size];omega);have HB3:Aside0 (Below w.heap.size w w3):=⟨by rw [hw3];exact below_step HB2.out (onesW_below _)⟩;have HJ1:Aside0 (w3.heap[w.heap.size]? = some (.cells #[.int .i64 a1_0,.int .i64 a1_1,.string a1_2,.slice A1_3 l1_3.length c1_3] 24 (0,0))):=⟨by rw [hw3];exact blk_below HK1.out (onesW_below _)⟩;have HJ2:Aside0 (w3.heap[w.heap.size+1]? = some (.cells #[.int .i64 0,.int .i64 0,.string ⟨#[]⟩,.slice none 0 0] 24 (0,0))):=⟨by rw [hw3];exact blk_below HK2.out (onesW_below _)⟩;have ht:w3.cell? ⟨w2.heap.size+1+1+1,1,none⟩=some (.func (.func 70) #[] #[.pointer (some ⟨w2.heap.size,0,none⟩)]):=(by rw [hw3];exact (blk_cell (onesW_tab w2) 1).trans rfl);have hbx:w3.cell? ⟨w2.heap.size,0,none⟩=some (.func (.func 53) #[] #[]):=(by rw [hw3];exact (onesW_box w2).1);clear hw3))
 have hw2:w.heap.size+2≤w2.heap.size:=blk_lt HK2.out
 have HVI:=Aside0.mk (show Kd.V k24 24 w3 w3.heap.size (fun k_ => k_≠w.heap.size∧k_≠w.heap.size+1∧(w2.heap.size≤k_ ∨ k_ < w.heap.size)) (.slice A1_3 l1_3.length c1_3) l1_3 from Kd.V_mk HC.out (Kd.F_mono (Kd.F_below HF.out HB3.out) (fun k hk => ⟨by omega,by omega,Or.inr hk⟩)))
 clear HB2 HK1 HK2 HF HE HR
 have hnn:(0:Int)≤(n:Int):=Int.natCast_nonneg _
 go_loopw [33] (fun v wr => ∃ (j:Nat) (c0 c1:Int) (c2:ByteArray) (A:Option Addr) (cc:Nat) (cl:List S24),v=.int .i64 j∧TRel k 1 n s1 s2 s3 s4 w w2.heap.size wr j c0 c1 c2 A cc cl∧wr.cell? ⟨w2.heap.size,0,none⟩=some (.func (.func 53) #[] #[])) (fun v _ => n - (intOf v).toNat)
 case atStart => exact ⟨0,a1_0,a1_1,a1_2,A1_3,c1_3,l1_3,rfl,⟨HJ1.out,HJ2.out,HB3.out,HVI.out,Nat.zero_le _,by rw [Nat.sub_zero];exact HD.out,hw2,hs3⟩,hbx⟩
 case round =>
  clear HJ1 HJ2 HB3 HVI HD ht hbx
  obtain ⟨j,c0,c1,c2,A,cc,cl,rfl,⟨hk1,hk2,hb,hv,hj,hl,hw2',hBs⟩,hbx⟩:=hrel
  have HK1:=Aside0.mk hk1
  have HK2:=Aside0.mk hk2
  have HB:=Aside0.mk hb
  have HV:=Aside0.mk hv
  have x0:wr.cell? ⟨w.heap.size,0,none⟩=some (.int .i64 c0):=(blk_cell hk1 0).trans rfl
  have x1:wr.cell? ⟨w.heap.size,1,none⟩=some (.int .i64 c1):=(blk_cell hk1 1).trans rfl
  have x2:wr.cell? ⟨w.heap.size,2,none⟩=some (.string c2):=(blk_cell hk1 2).trans rfl
  have x3:wr.cell? ⟨w.heap.size,3,none⟩=some (.slice A cl.length cc):=(blk_cell hk1 3).trans rfl
  clear hk1 hk2 hb hv
  by_cases hlt:j < n
  ·obtain ⟨m,hm⟩:∃ m,n - j=m+1:=⟨n - j - 1,by omega⟩
   rw [hm] at hl
   simp only [times_l] at hl
   obtain ⟨⟨d0,d1,d2,d3⟩,hd,hl⟩:=Option.bind_eq_some_iff.1 hl
   have HD:=Aside0.mk hd
   have HL:=Aside0.mk hl
   clear hd hl
   have hw:IntKind.i64.wrap ((j:Int)+1)=(j:Int)+1:=IntWalk.i64_in _ (by omega)
   have hlt':(j:Int) < (n:Int):=by omega
   go_wp2_with (first
    | (go_at_call 70;refine (do_1 k c0 c1 c2 A cc cl (fun k_ => k_≠w.heap.size∧k_≠w.heap.size+1∧(w2.heap.size≤k_ ∨ k_ < w.heap.size)) d0 d1 d2 d3 _ (LaidW.below HLT.out HB.out) HV.out (w2.heap.size) hbx HD.out).mono ?_;rintro e w4 ⟨v4,rfl,hv4,hb4⟩;obtain ⟨A4,c4,rfl⟩:=Kd.V_slice hv4;have K1:Aside0 (w4.heap[w.heap.size]? = some (.cells #[.int .i64 c0,.int .i64 c1,.string c2,.slice A cl.length cc] 24 (0,0))):=⟨blk_below HK1.out hb4⟩;have K2:Aside0 (w4.heap[w.heap.size+1]? = some (.cells #[.int .i64 0,.int .i64 0,.string ⟨#[]⟩,.slice none 0 0] 24 (0,0))):=⟨blk_below HK2.out hb4⟩;have B4:Aside0 (Below w.heap.size w w4):=⟨below_step HB.out hb4⟩;have V4:=Aside0.mk hv4;have z4:=hb4.size;have hbx4:=pw_cell_below hb4 hbx;clear hv4 hb4;have e0:w4.cell? ⟨w.heap.size,0,none⟩=some (.int .i64 c0):=(blk_cell K1.out 0).trans rfl;have e1:w4.cell? ⟨w.heap.size,1,none⟩=some (.int .i64 c1):=(blk_cell K1.out 1).trans rfl;have e2:w4.cell? ⟨w.heap.size,2,none⟩=some (.string c2):=(blk_cell K1.out 2).trans rfl;have e3:w4.cell? ⟨w.heap.size,3,none⟩=some (.slice A cl.length cc):=(blk_cell K1.out 3).trans rfl;have f0:w4.frozen? ⟨w.heap.size,0,none⟩=false:=blk_frozen K1.out 0;have f1:w4.frozen? ⟨w.heap.size,1,none⟩=false:=blk_frozen K1.out 1;have f2:w4.frozen? ⟨w.heap.size,2,none⟩=false:=blk_frozen K1.out 2;have f3:w4.frozen? ⟨w.heap.size,3,none⟩=false:=blk_frozen K1.out 3))
   go_roundw
   case rel =>
    refine ⟨j+1,d0,d1,d2,A4,c4,d3,by go_num,⟨?_,?_,?_,?_,by omega,?_,hw2',?_⟩,cell4_far hbx4 (by simp;omega)⟩
    ·refine blk_put (cs:=#[.int .i64 d0,.int .i64 d1,.string d2,.slice A cl.length cc]) ?_ 3 _ rfl
     refine blk_put (cs:=#[.int .i64 d0,.int .i64 d1,.string c2,.slice A cl.length cc]) ?_ 2 _ rfl
     refine blk_put (cs:=#[.int .i64 d0,.int .i64 c1,.string c2,.slice A cl.length cc]) ?_ 1 _ rfl
     refine blk_put (cs:=#[.int .i64 c0,.int .i64 c1,.string c2,.slice A cl.length cc]) ?_ 0 _ rfl
     exact K1.out
    ·refine blk_far ?_ (by simp) _
     refine blk_far ?_ (by simp) _
     refine blk_far ?_ (by simp) _
     refine blk_far ?_ (by simp) _
     exact K2.out
    ·repeat (first|exact B4.out|refine below_set ?_ (by simp))
    ·exact v_store (Kd.V_mono V4.out (fun k hk => by rcases hk with hk|hk;exact hk;exact ⟨by omega,by omega,Or.inl (by omega)⟩)) (fun k hk => hk.1) _ _ _ _
    ·rw [show n - (j+1)=m by omega];exact HL.out
    ·simp;omega
   case measure => simp [intOf];omega
  ·obtain rfl:j=n:=by omega
   rw [Nat.sub_self] at hl
   simp only [times_l,Option.some.injEq,Prod.mk.injEq] at hl
   obtain ⟨rfl,rfl,rfl,rfl⟩:=hl
   go_wp2_with (go_at_call 27;refine (own_Value.calls c0 c1 c2 A cc cl r1 r2 r3 r4 _ (Kd.V_reads' HV.out).2.2 (Kd.V_reads' HV.out).2.1 HO.out).mono ?_;rintro e w5 ⟨v5,rfl,hr5,hb5⟩;obtain ⟨A5,c5,rfl⟩:=Kd.R_slice hr5;have HK5:Aside0 (w5.heap[w.heap.size+1]? = some (.cells #[.int .i64 0,.int .i64 0,.string ⟨#[]⟩,.slice none 0 0] 24 (0,0))):=⟨blk_below HK2.out hb5⟩;have HB5:Aside0 (Below w.heap.size w w5):=⟨below_step HB.out hb5⟩;have HR5:=Aside0.mk hr5;clear hr5 hb5;have y0:w5.cell? ⟨w.heap.size+1,0,none⟩=some (.int .i64 0):=(blk_cell HK5.out 0).trans rfl;have y1:w5.cell? ⟨w.heap.size+1,1,none⟩=some (.int .i64 0):=(blk_cell HK5.out 1).trans rfl;have y2:w5.cell? ⟨w.heap.size+1,2,none⟩=some (.string ⟨#[]⟩):=(blk_cell HK5.out 2).trans rfl;have y3:w5.cell? ⟨w.heap.size+1,3,none⟩=some (.slice none 0 0):=(blk_cell HK5.out 3).trans rfl;have g0:w5.frozen? ⟨w.heap.size+1,0,none⟩=false:=blk_frozen HK5.out 0;have g1:w5.frozen? ⟨w.heap.size+1,1,none⟩=false:=blk_frozen HK5.out 1;have g2:w5.frozen? ⟨w.heap.size+1,2,none⟩=false:=blk_frozen HK5.out 2;have g3:w5.frozen? ⟨w.heap.size+1,3,none⟩=false:=blk_frozen HK5.out 3)
   refine bodyPost_ret (results_ct rfl _ _ (w.heap.size+1) 24 #[.int .i64 r1,.int .i64 r2,.string r3,.slice A5 r4.length c5] (0,0) _ rfl (pu4 HK5) Tryd.underlying24 rfl (by kernel_rfl)) rfl ?_
   exact ⟨_,rfl,r_far4 HR5.out (by omega) (by omega) _ _ _ _,by repeat (first|exact HB5.out|refine below_set ?_ (by simp))⟩
set_option maxRecDepth 100000 in
set_option maxHeartbeats 1600000 in
theorem times_2 (k n:Nat) (a1_0 a1_1:Int) (a1_2:ByteArray) (A1_3:Option Addr) (c1_3:Nat) (l1_3:List S24) (r1 r2:Int) (r3:ByteArray) (r4:List S24) (s1 s2:Int) (s3:ByteArray) (s4:List S24) (w:World) (hL:LaidW w) (hr1_3:Kd.C k24 w A1_3 l1_3.length l1_3) (hc1_3:l1_3.length≤c1_3) (hn:n≤65536) (h1:value_Check.f k a1_0 a1_1 a1_2 l1_3=some 0) (h2:times_l k 2 n a1_0 a1_1 a1_2 l1_3=some (s1,s2,s3,s4)) (h3:own_Value.f s1 s2 s3 s4=some (r1,r2,r3,r4)) :
  Calls Tryd.prog 17 #[.int .i64 2,.int .i64 n,.agg #[.int .i64 a1_0,.int .i64 a1_1,.string a1_2,.slice A1_3 l1_3.length c1_3]] w fun e w' => ∃ v3_:Value,e=.returned (.tuple #[.agg #[.int .i64 r1,.int .i64 r2,.string r3,v3_],.int .i64 0])∧Kd.R k24 24 w' w.heap.size (fun _ => True) v3_ r4∧Below w.heap.size w w':=by
 have HLT:=Aside0.mk hL
 have HR:=Aside0.mk hr1_3
 have HC:=Aside0.mk hc1_3
 have HE:=Aside0.mk h1
 have HD:=Aside0.mk h2
 have HO:=Aside0.mk h3
 have HF:=Aside0.mk (Kd.C_F k24_heap hr1_3)
 clear hL hr1_3 hc1_3 h1 h2 h3
 have hn0:¬ (n:Int) < 0:=by omega
 have hn1:¬ (65536:Int) < (n:Int):=by omega
 go_enter Tryd.func17,Tryd.ntmps17
 go_wp2_with (first
  | (go_at_call 32;refine (fns_known.calls 2 true _ rfl).mono ?_;rintro e w1 ⟨rfl,⟨nd,rfl⟩⟩)
  | (go_at_call 15;refine (value_Check.calls k a1_0 a1_1 a1_2 A1_3 c1_3 l1_3 0 _ (LaidW.below HLT.out (by repeat (first|exact Below.refl _ _|apply below_alloc|apply pw_below_drewN))) (by repeat (first|exact HR.out|refine Kd.C_alloc ?_ _|refine Kd.C_drewN ?_ _)) HC.out HE.out).mono ?_;rintro e w2 ⟨rfl,hb2⟩;obtain ⟨B1,B2,hB⟩:=two_key _ a1_1 a1_2 _ w w2 ⟨hb2.os,hb2.tape,hb2.output,hb2.size,hb2.block⟩;have HB2:=Aside0.mk hB;have HK1:=Aside0.mk B1;have HK2:=Aside0.mk B2;clear hb2 B1 B2 hB)
  | (go_at_call 29;refine (fns_ones.calls _).mono ?_;rintro e w3 ⟨rfl,hw3⟩;have hs3:w2.heap.size < w3.heap.size:=(by rw [hw3,onesW_size];omega);have HB3:Aside0 (Below w.heap.size w w3):=⟨by rw [hw3];exact below_step HB2.out (onesW_below _)⟩;have HJ1:Aside0 (w3.heap[w.heap.size]? = some (.cells #[.int .i64 a1_0,.int .i64 a1_1,.string a1_2,.slice A1_3 l1_3.length c1_3] 24 (0,0))):=⟨by rw [hw3];exact blk_below HK1.out (onesW_below _)⟩;have HJ2:Aside0 (w3.heap[w.heap.size+1]? = some (.cells #[.int .i64 0,.int .i64 0,.string ⟨#[]⟩,.slice none 0 0] 24 (0,0))):=⟨by rw [hw3];exact blk_below HK2.out (onesW_below _)⟩;have ht:w3.cell? ⟨w2.heap.size+1+1+1,2,none⟩=some (.func (.func 70) #[] #[.pointer (some ⟨w2.heap.size+1,0,none⟩)]):=(by rw [hw3];exact (blk_cell (onesW_tab w2) 2).trans rfl);have hbx:w3.cell? ⟨w2.heap.size+1,0,none⟩=some (.func (.func 54) #[] #[]):=(by rw [hw3];exact (onesW_box w2).2.1);clear hw3))
 have hw2:w.heap.size+2≤w2.heap.size:=blk_lt HK2.out
 have HVI:=Aside0.mk (show Kd.V k24 24 w3 w3.heap.size (fun k_ => k_≠w.heap.size∧k_≠w.heap.size+1∧(w2.heap.size≤k_ ∨ k_ < w.heap.size)) (.slice A1_3 l1_3.length c1_3) l1_3 from Kd.V_mk HC.out (Kd.F_mono (Kd.F_below HF.out HB3.out) (fun k hk => ⟨by omega,by omega,Or.inr hk⟩)))
 clear HB2 HK1 HK2 HF HE HR
 have hnn:(0:Int)≤(n:Int):=Int.natCast_nonneg _
 go_loopw [33] (fun v wr => ∃ (j:Nat) (c0 c1:Int) (c2:ByteArray) (A:Option Addr) (cc:Nat) (cl:List S24),v=.int .i64 j∧TRel k 2 n s1 s2 s3 s4 w w2.heap.size wr j c0 c1 c2 A cc cl∧wr.cell? ⟨w2.heap.size+1,0,none⟩=some (.func (.func 54) #[] #[])) (fun v _ => n - (intOf v).toNat)
 case atStart => exact ⟨0,a1_0,a1_1,a1_2,A1_3,c1_3,l1_3,rfl,⟨HJ1.out,HJ2.out,HB3.out,HVI.out,Nat.zero_le _,by rw [Nat.sub_zero];exact HD.out,hw2,hs3⟩,hbx⟩
 case round =>
  clear HJ1 HJ2 HB3 HVI HD ht hbx
  obtain ⟨j,c0,c1,c2,A,cc,cl,rfl,⟨hk1,hk2,hb,hv,hj,hl,hw2',hBs⟩,hbx⟩:=hrel
  have HK1:=Aside0.mk hk1
  have HK2:=Aside0.mk hk2
  have HB:=Aside0.mk hb
  have HV:=Aside0.mk hv
  have x0:wr.cell? ⟨w.heap.size,0,none⟩=some (.int .i64 c0):=(blk_cell hk1 0).trans rfl
  have x1:wr.cell? ⟨w.heap.size,1,none⟩=some (.int .i64 c1):=(blk_cell hk1 1).trans rfl
  have x2:wr.cell? ⟨w.heap.size,2,none⟩=some (.string c2):=(blk_cell hk1 2).trans rfl
  have x3:wr.cell? ⟨w.heap.size,3,none⟩=some (.slice A cl.length cc):=(blk_cell hk1 3).trans rfl
  clear hk1 hk2 hb hv
  by_cases hlt:j < n
  ·obtain ⟨m,hm⟩:∃ m,n - j=m+1:=⟨n - j - 1,by omega⟩
   rw [hm] at hl
   simp only [times_l] at hl
   obtain ⟨⟨d0,d1,d2,d3⟩,hd,hl⟩:=Option.bind_eq_some_iff.1 hl
   have HD:=Aside0.mk hd
   have HL:=Aside0.mk hl
   clear hd hl
   have hw:IntKind.i64.wrap ((j:Int)+1)=(j:Int)+1:=IntWalk.i64_in _ (by omega)
   have hlt':(j:Int) < (n:Int):=by omega
   go_wp2_with (first
    | (go_at_call 70;refine (do_2 k c0 c1 c2 A cc cl (fun k_ => k_≠w.heap.size∧k_≠w.heap.size+1∧(w2.heap.size≤k_ ∨ k_ < w.heap.size)) d0 d1 d2 d3 _ (LaidW.below HLT.out HB.out) HV.out (w2.heap.size+1) hbx HD.out).mono ?_;rintro e w4 ⟨v4,rfl,hv4,hb4⟩;obtain ⟨A4,c4,rfl⟩:=Kd.V_slice hv4;have K1:Aside0 (w4.heap[w.heap.size]? = some (.cells #[.int .i64 c0,.int .i64 c1,.string c2,.slice A cl.length cc] 24 (0,0))):=⟨blk_below HK1.out hb4⟩;have K2:Aside0 (w4.heap[w.heap.size+1]? = some (.cells #[.int .i64 0,.int .i64 0,.string ⟨#[]⟩,.slice none 0 0] 24 (0,0))):=⟨blk_below HK2.out hb4⟩;have B4:Aside0 (Below w.heap.size w w4):=⟨below_step HB.out hb4⟩;have V4:=Aside0.mk hv4;have z4:=hb4.size;have hbx4:=pw_cell_below hb4 hbx;clear hv4 hb4;have e0:w4.cell? ⟨w.heap.size,0,none⟩=some (.int .i64 c0):=(blk_cell K1.out 0).trans rfl;have e1:w4.cell? ⟨w.heap.size,1,none⟩=some (.int .i64 c1):=(blk_cell K1.out 1).trans rfl;have e2:w4.cell? ⟨w.heap.size,2,none⟩=some (.string c2):=(blk_cell K1.out 2).trans rfl;have e3:w4.cell? ⟨w.heap.size,3,none⟩=some (.slice A cl.length cc):=(blk_cell K1.out 3).trans rfl;have f0:w4.frozen? ⟨w.heap.size,0,none⟩=false:=blk_frozen K1.out 0;have f1:w4.frozen? ⟨w.heap.size,1,none⟩=false:=blk_frozen K1.out 1;have f2:w4.frozen? ⟨w.heap.size,2,none⟩=false:=blk_frozen K1.out 2;have f3:w4.frozen? ⟨w.heap.size,3,none⟩=false:=blk_frozen K1.out 3))
   go_roundw
   case rel =>
    refine ⟨j+1,d0,d1,d2,A4,c4,d3,by go_num,⟨?_,?_,?_,?_,by omega,?_,hw2',?_⟩,cell4_far hbx4 (by simp;omega)⟩
    ·refine blk_put (cs:=#[.int .i64 d0,.int .i64 d1,.string d2,.slice A cl.length cc]) ?_ 3 _ rfl
     refine blk_put (cs:=#[.int .i64 d0,.int .i64 d1,.string c2,.slice A cl.length cc]) ?_ 2 _ rfl
     refine blk_put (cs:=#[.int .i64 d0,.int .i64 c1,.string c2,.slice A cl.length cc]) ?_ 1 _ rfl
     refine blk_put (cs:=#[.int .i64 c0,.int .i64 c1,.string c2,.slice A cl.length cc]) ?_ 0 _ rfl
     exact K1.out
    ·refine blk_far ?_ (by simp) _
     refine blk_far ?_ (by simp) _
     refine blk_far ?_ (by simp) _
     refine blk_far ?_ (by simp) _
     exact K2.out
    ·repeat (first|exact B4.out|refine below_set ?_ (by simp))
    ·exact v_store (Kd.V_mono V4.out (fun k hk => by rcases hk with hk|hk;exact hk;exact ⟨by omega,by omega,Or.inl (by omega)⟩)) (fun k hk => hk.1) _ _ _ _
    ·rw [show n - (j+1)=m by omega];exact HL.out
    ·simp;omega
   case measure => simp [intOf];omega
  ·obtain rfl:j=n:=by omega
   rw [Nat.sub_self] at hl
   simp only [times_l,Option.some.injEq,Prod.mk.injEq] at hl
   obtain ⟨rfl,rfl,rfl,rfl⟩:=hl
   go_wp2_with (go_at_call 27;refine (own_Value.calls c0 c1 c2 A cc cl r1 r2 r3 r4 _ (Kd.V_reads' HV.out).2.2 (Kd.V_reads' HV.out).2.1 HO.out).mono ?_;rintro e w5 ⟨v5,rfl,hr5,hb5⟩;obtain ⟨A5,c5,rfl⟩:=Kd.R_slice hr5;have HK5:Aside0 (w5.heap[w.heap.size+1]? = some (.cells #[.int .i64 0,.int .i64 0,.string ⟨#[]⟩,.slice none 0 0] 24 (0,0))):=⟨blk_below HK2.out hb5⟩;have HB5:Aside0 (Below w.heap.size w w5):=⟨below_step HB.out hb5⟩;have HR5:=Aside0.mk hr5;clear hr5 hb5;have y0:w5.cell? ⟨w.heap.size+1,0,none⟩=some (.int .i64 0):=(blk_cell HK5.out 0).trans rfl;have y1:w5.cell? ⟨w.heap.size+1,1,none⟩=some (.int .i64 0):=(blk_cell HK5.out 1).trans rfl;have y2:w5.cell? ⟨w.heap.size+1,2,none⟩=some (.string ⟨#[]⟩):=(blk_cell HK5.out 2).trans rfl;have y3:w5.cell? ⟨w.heap.size+1,3,none⟩=some (.slice none 0 0):=(blk_cell HK5.out 3).trans rfl;have g0:w5.frozen? ⟨w.heap.size+1,0,none⟩=false:=blk_frozen HK5.out 0;have g1:w5.frozen? ⟨w.heap.size+1,1,none⟩=false:=blk_frozen HK5.out 1;have g2:w5.frozen? ⟨w.heap.size+1,2,none⟩=false:=blk_frozen HK5.out 2;have g3:w5.frozen? ⟨w.heap.size+1,3,none⟩=false:=blk_frozen HK5.out 3)
   refine bodyPost_ret (results_ct rfl _ _ (w.heap.size+1) 24 #[.int .i64 r1,.int .i64 r2,.string r3,.slice A5 r4.length c5] (0,0) _ rfl (pu4 HK5) Tryd.underlying24 rfl (by kernel_rfl)) rfl ?_
   exact ⟨_,rfl,r_far4 HR5.out (by omega) (by omega) _ _ _ _,by repeat (first|exact HB5.out|refine below_set ?_ (by simp))⟩
set_option maxRecDepth 100000 in
set_option maxHeartbeats 1600000 in
theorem times_3 (k n:Nat) (a1_0 a1_1:Int) (a1_2:ByteArray) (A1_3:Option Addr) (c1_3:Nat) (l1_3:List S24) (r1 r2:Int) (r3:ByteArray) (r4:List S24) (s1 s2:Int) (s3:ByteArray) (s4:List S24) (w:World) (hL:LaidW w) (hr1_3:Kd.C k24 w A1_3 l1_3.length l1_3) (hc1_3:l1_3.length≤c1_3) (hn:n≤65536) (h1:value_Check.f k a1_0 a1_1 a1_2 l1_3=some 0) (h2:times_l k 3 n a1_0 a1_1 a1_2 l1_3=some (s1,s2,s3,s4)) (h3:own_Value.f s1 s2 s3 s4=some (r1,r2,r3,r4)) :
  Calls Tryd.prog 17 #[.int .i64 3,.int .i64 n,.agg #[.int .i64 a1_0,.int .i64 a1_1,.string a1_2,.slice A1_3 l1_3.length c1_3]] w fun e w' => ∃ v3_:Value,e=.returned (.tuple #[.agg #[.int .i64 r1,.int .i64 r2,.string r3,v3_],.int .i64 0])∧Kd.R k24 24 w' w.heap.size (fun _ => True) v3_ r4∧Below w.heap.size w w':=by
 have HLT:=Aside0.mk hL
 have HR:=Aside0.mk hr1_3
 have HC:=Aside0.mk hc1_3
 have HE:=Aside0.mk h1
 have HD:=Aside0.mk h2
 have HO:=Aside0.mk h3
 have HF:=Aside0.mk (Kd.C_F k24_heap hr1_3)
 clear hL hr1_3 hc1_3 h1 h2 h3
 have hn0:¬ (n:Int) < 0:=by omega
 have hn1:¬ (65536:Int) < (n:Int):=by omega
 go_enter Tryd.func17,Tryd.ntmps17
 go_wp2_with (first
  | (go_at_call 32;refine (fns_known.calls 3 true _ rfl).mono ?_;rintro e w1 ⟨rfl,⟨nd,rfl⟩⟩)
  | (go_at_call 15;refine (value_Check.calls k a1_0 a1_1 a1_2 A1_3 c1_3 l1_3 0 _ (LaidW.below HLT.out (by repeat (first|exact Below.refl _ _|apply below_alloc|apply pw_below_drewN))) (by repeat (first|exact HR.out|refine Kd.C_alloc ?_ _|refine Kd.C_drewN ?_ _)) HC.out HE.out).mono ?_;rintro e w2 ⟨rfl,hb2⟩;obtain ⟨B1,B2,hB⟩:=two_key _ a1_1 a1_2 _ w w2 ⟨hb2.os,hb2.tape,hb2.output,hb2.size,hb2.block⟩;have HB2:=Aside0.mk hB;have HK1:=Aside0.mk B1;have HK2:=Aside0.mk B2;clear hb2 B1 B2 hB)
  | (go_at_call 29;refine (fns_ones.calls _).mono ?_;rintro e w3 ⟨rfl,hw3⟩;have hs3:w2.heap.size < w3.heap.size:=(by rw [hw3,onesW_size];omega);have HB3:Aside0 (Below w.heap.size w w3):=⟨by rw [hw3];exact below_step HB2.out (onesW_below _)⟩;have HJ1:Aside0 (w3.heap[w.heap.size]? = some (.cells #[.int .i64 a1_0,.int .i64 a1_1,.string a1_2,.slice A1_3 l1_3.length c1_3] 24 (0,0))):=⟨by rw [hw3];exact blk_below HK1.out (onesW_below _)⟩;have HJ2:Aside0 (w3.heap[w.heap.size+1]? = some (.cells #[.int .i64 0,.int .i64 0,.string ⟨#[]⟩,.slice none 0 0] 24 (0,0))):=⟨by rw [hw3];exact blk_below HK2.out (onesW_below _)⟩;have ht:w3.cell? ⟨w2.heap.size+1+1+1,3,none⟩=some (.func (.func 55) #[] #[]):=(by rw [hw3];exact (blk_cell (onesW_tab w2) 3).trans rfl);clear hw3))
 have hw2:w.heap.size+2≤w2.heap.size:=blk_lt HK2.out
 have HVI:=Aside0.mk (show Kd.V k24 24 w3 w3.heap.size (fun k_ => k_≠w.heap.size∧k_≠w.heap.size+1∧(w2.heap.size≤k_ ∨ k_ < w.heap.size)) (.slice A1_3 l1_3.length c1_3) l1_3 from Kd.V_mk HC.out (Kd.F_mono (Kd.F_below HF.out HB3.out) (fun k hk => ⟨by omega,by omega,Or.inr hk⟩)))
 clear HB2 HK1 HK2 HF HE HR
 have hnn:(0:Int)≤(n:Int):=Int.natCast_nonneg _
 go_loopw [33] (fun v wr => ∃ (j:Nat) (c0 c1:Int) (c2:ByteArray) (A:Option Addr) (cc:Nat) (cl:List S24),v=.int .i64 j∧TRel k 3 n s1 s2 s3 s4 w w2.heap.size wr j c0 c1 c2 A cc cl) (fun v _ => n - (intOf v).toNat)
 case atStart => exact ⟨0,a1_0,a1_1,a1_2,A1_3,c1_3,l1_3,rfl,⟨HJ1.out,HJ2.out,HB3.out,HVI.out,Nat.zero_le _,by rw [Nat.sub_zero];exact HD.out,hw2,hs3⟩⟩
 case round =>
  clear HJ1 HJ2 HB3 HVI HD ht
  obtain ⟨j,c0,c1,c2,A,cc,cl,rfl,⟨hk1,hk2,hb,hv,hj,hl,hw2',hBs⟩⟩:=hrel
  have HK1:=Aside0.mk hk1
  have HK2:=Aside0.mk hk2
  have HB:=Aside0.mk hb
  have HV:=Aside0.mk hv
  have x0:wr.cell? ⟨w.heap.size,0,none⟩=some (.int .i64 c0):=(blk_cell hk1 0).trans rfl
  have x1:wr.cell? ⟨w.heap.size,1,none⟩=some (.int .i64 c1):=(blk_cell hk1 1).trans rfl
  have x2:wr.cell? ⟨w.heap.size,2,none⟩=some (.string c2):=(blk_cell hk1 2).trans rfl
  have x3:wr.cell? ⟨w.heap.size,3,none⟩=some (.slice A cl.length cc):=(blk_cell hk1 3).trans rfl
  clear hk1 hk2 hb hv
  by_cases hlt:j < n
  ·obtain ⟨m,hm⟩:∃ m,n - j=m+1:=⟨n - j - 1,by omega⟩
   rw [hm] at hl
   simp only [times_l] at hl
   obtain ⟨⟨d0,d1,d2,d3⟩,hd,hl⟩:=Option.bind_eq_some_iff.1 hl
   have HD:=Aside0.mk hd
   have HL:=Aside0.mk hl
   clear hd hl
   have hw:IntKind.i64.wrap ((j:Int)+1)=(j:Int)+1:=IntWalk.i64_in _ (by omega)
   have hlt':(j:Int) < (n:Int):=by omega
   go_wp2_with (first
    | (go_at_call 55;refine (do_3 k c0 c1 c2 A cc cl (fun k_ => k_≠w.heap.size∧k_≠w.heap.size+1∧(w2.heap.size≤k_ ∨ k_ < w.heap.size)) d0 d1 d2 d3 _ (LaidW.below HLT.out HB.out) HV.out HD.out).mono ?_;rintro e w4 ⟨v4,rfl,hv4,hb4⟩;obtain ⟨A4,c4,rfl⟩:=Kd.V_slice hv4;have K1:Aside0 (w4.heap[w.heap.size]? = some (.cells #[.int .i64 c0,.int .i64 c1,.string c2,.slice A cl.length cc] 24 (0,0))):=⟨blk_below HK1.out hb4⟩;have K2:Aside0 (w4.heap[w.heap.size+1]? = some (.cells #[.int .i64 0,.int .i64 0,.string ⟨#[]⟩,.slice none 0 0] 24 (0,0))):=⟨blk_below HK2.out hb4⟩;have B4:Aside0 (Below w.heap.size w w4):=⟨below_step HB.out hb4⟩;have V4:=Aside0.mk hv4;have z4:=hb4.size;clear hv4 hb4;have e0:w4.cell? ⟨w.heap.size,0,none⟩=some (.int .i64 c0):=(blk_cell K1.out 0).trans rfl;have e1:w4.cell? ⟨w.heap.size,1,none⟩=some (.int .i64 c1):=(blk_cell K1.out 1).trans rfl;have e2:w4.cell? ⟨w.heap.size,2,none⟩=some (.string c2):=(blk_cell K1.out 2).trans rfl;have e3:w4.cell? ⟨w.heap.size,3,none⟩=some (.slice A cl.length cc):=(blk_cell K1.out 3).trans rfl;have f0:w4.frozen? ⟨w.heap.size,0,none⟩=false:=blk_frozen K1.out 0;have f1:w4.frozen? ⟨w.heap.size,1,none⟩=false:=blk_frozen K1.out 1;have f2:w4.frozen? ⟨w.heap.size,2,none⟩=false:=blk_frozen K1.out 2;have f3:w4.frozen? ⟨w.heap.size,3,none⟩=false:=blk_frozen K1.out 3))
   go_roundw
   case rel =>
    refine ⟨j+1,d0,d1,d2,A4,c4,d3,by go_num,⟨?_,?_,?_,?_,by omega,?_,hw2',?_⟩⟩
    ·refine blk_put (cs:=#[.int .i64 d0,.int .i64 d1,.string d2,.slice A cl.length cc]) ?_ 3 _ rfl
     refine blk_put (cs:=#[.int .i64 d0,.int .i64 d1,.string c2,.slice A cl.length cc]) ?_ 2 _ rfl
     refine blk_put (cs:=#[.int .i64 d0,.int .i64 c1,.string c2,.slice A cl.length cc]) ?_ 1 _ rfl
     refine blk_put (cs:=#[.int .i64 c0,.int .i64 c1,.string c2,.slice A cl.length cc]) ?_ 0 _ rfl
     exact K1.out
    ·refine blk_far ?_ (by simp) _
     refine blk_far ?_ (by simp) _
     refine blk_far ?_ (by simp) _
     refine blk_far ?_ (by simp) _
     exact K2.out
    ·repeat (first|exact B4.out|refine below_set ?_ (by simp))
    ·exact v_store (Kd.V_mono V4.out (fun k hk => by rcases hk with hk|hk;exact hk;exact ⟨by omega,by omega,Or.inl (by omega)⟩)) (fun k hk => hk.1) _ _ _ _
    ·rw [show n - (j+1)=m by omega];exact HL.out
    ·simp;omega
   case measure => simp [intOf];omega
  ·obtain rfl:j=n:=by omega
   rw [Nat.sub_self] at hl
   simp only [times_l,Option.some.injEq,Prod.mk.injEq] at hl
   obtain ⟨rfl,rfl,rfl,rfl⟩:=hl
   go_wp2_with (go_at_call 27;refine (own_Value.calls c0 c1 c2 A cc cl r1 r2 r3 r4 _ (Kd.V_reads' HV.out).2.2 (Kd.V_reads' HV.out).2.1 HO.out).mono ?_;rintro e w5 ⟨v5,rfl,hr5,hb5⟩;obtain ⟨A5,c5,rfl⟩:=Kd.R_slice hr5;have HK5:Aside0 (w5.heap[w.heap.size+1]? = some (.cells #[.int .i64 0,.int .i64 0,.string ⟨#[]⟩,.slice none 0 0] 24 (0,0))):=⟨blk_below HK2.out hb5⟩;have HB5:Aside0 (Below w.heap.size w w5):=⟨below_step HB.out hb5⟩;have HR5:=Aside0.mk hr5;clear hr5 hb5;have y0:w5.cell? ⟨w.heap.size+1,0,none⟩=some (.int .i64 0):=(blk_cell HK5.out 0).trans rfl;have y1:w5.cell? ⟨w.heap.size+1,1,none⟩=some (.int .i64 0):=(blk_cell HK5.out 1).trans rfl;have y2:w5.cell? ⟨w.heap.size+1,2,none⟩=some (.string ⟨#[]⟩):=(blk_cell HK5.out 2).trans rfl;have y3:w5.cell? ⟨w.heap.size+1,3,none⟩=some (.slice none 0 0):=(blk_cell HK5.out 3).trans rfl;have g0:w5.frozen? ⟨w.heap.size+1,0,none⟩=false:=blk_frozen HK5.out 0;have g1:w5.frozen? ⟨w.heap.size+1,1,none⟩=false:=blk_frozen HK5.out 1;have g2:w5.frozen? ⟨w.heap.size+1,2,none⟩=false:=blk_frozen HK5.out 2;have g3:w5.frozen? ⟨w.heap.size+1,3,none⟩=false:=blk_frozen HK5.out 3)
   refine bodyPost_ret (results_ct rfl _ _ (w.heap.size+1) 24 #[.int .i64 r1,.int .i64 r2,.string r3,.slice A5 r4.length c5] (0,0) _ rfl (pu4 HK5) Tryd.underlying24 rfl (by kernel_rfl)) rfl ?_
   exact ⟨_,rfl,r_far4 HR5.out (by omega) (by omega) _ _ _ _,by repeat (first|exact HB5.out|refine below_set ?_ (by simp))⟩
set_option maxRecDepth 100000 in
set_option maxHeartbeats 1600000 in
theorem times_4 (k n:Nat) (a1_0 a1_1:Int) (a1_2:ByteArray) (A1_3:Option Addr) (c1_3:Nat) (l1_3:List S24) (r1 r2:Int) (r3:ByteArray) (r4:List S24) (s1 s2:Int) (s3:ByteArray) (s4:List S24) (w:World) (hL:LaidW w) (hr1_3:Kd.C k24 w A1_3 l1_3.length l1_3) (hc1_3:l1_3.length≤c1_3) (hn:n≤65536) (h1:value_Check.f k a1_0 a1_1 a1_2 l1_3=some 0) (h2:times_l k 4 n a1_0 a1_1 a1_2 l1_3=some (s1,s2,s3,s4)) (h3:own_Value.f s1 s2 s3 s4=some (r1,r2,r3,r4)) :
  Calls Tryd.prog 17 #[.int .i64 4,.int .i64 n,.agg #[.int .i64 a1_0,.int .i64 a1_1,.string a1_2,.slice A1_3 l1_3.length c1_3]] w fun e w' => ∃ v3_:Value,e=.returned (.tuple #[.agg #[.int .i64 r1,.int .i64 r2,.string r3,v3_],.int .i64 0])∧Kd.R k24 24 w' w.heap.size (fun _ => True) v3_ r4∧Below w.heap.size w w':=by
 have HLT:=Aside0.mk hL
 have HR:=Aside0.mk hr1_3
 have HC:=Aside0.mk hc1_3
 have HE:=Aside0.mk h1
 have HD:=Aside0.mk h2
 have HO:=Aside0.mk h3
 have HF:=Aside0.mk (Kd.C_F k24_heap hr1_3)
 clear hL hr1_3 hc1_3 h1 h2 h3
 have hn0:¬ (n:Int) < 0:=by omega
 have hn1:¬ (65536:Int) < (n:Int):=by omega
 go_enter Tryd.func17,Tryd.ntmps17
 go_wp2_with (first
  | (go_at_call 32;refine (fns_known.calls 4 true _ rfl).mono ?_;rintro e w1 ⟨rfl,⟨nd,rfl⟩⟩)
  | (go_at_call 15;refine (value_Check.calls k a1_0 a1_1 a1_2 A1_3 c1_3 l1_3 0 _ (LaidW.below HLT.out (by repeat (first|exact Below.refl _ _|apply below_alloc|apply pw_below_drewN))) (by repeat (first|exact HR.out|refine Kd.C_alloc ?_ _|refine Kd.C_drewN ?_ _)) HC.out HE.out).mono ?_;rintro e w2 ⟨rfl,hb2⟩;obtain ⟨B1,B2,hB⟩:=two_key _ a1_1 a1_2 _ w w2 ⟨hb2.os,hb2.tape,hb2.output,hb2.size,hb2.block⟩;have HB2:=Aside0.mk hB;have HK1:=Aside0.mk B1;have HK2:=Aside0.mk B2;clear hb2 B1 B2 hB)
  | (go_at_call 29;refine (fns_ones.calls _).mono ?_;rintro e w3 ⟨rfl,hw3⟩;have hs3:w2.heap.size < w3.heap.size:=(by rw [hw3,onesW_size];omega);have HB3:Aside0 (Below w.heap.size w w3):=⟨by rw [hw3];exact below_step HB2.out (onesW_below _)⟩;have HJ1:Aside0 (w3.heap[w.heap.size]? = some (.cells #[.int .i64 a1_0,.int .i64 a1_1,.string a1_2,.slice A1_3 l1_3.length c1_3] 24 (0,0))):=⟨by rw [hw3];exact blk_below HK1.out (onesW_below _)⟩;have HJ2:Aside0 (w3.heap[w.heap.size+1]? = some (.cells #[.int .i64 0,.int .i64 0,.string ⟨#[]⟩,.slice none 0 0] 24 (0,0))):=⟨by rw [hw3];exact blk_below HK2.out (onesW_below _)⟩;have ht:w3.cell? ⟨w2.heap.size+1+1+1,4,none⟩=some (.func (.func 56) #[] #[]):=(by rw [hw3];exact (blk_cell (onesW_tab w2) 4).trans rfl);clear hw3))
 have hw2:w.heap.size+2≤w2.heap.size:=blk_lt HK2.out
 have HVI:=Aside0.mk (show Kd.V k24 24 w3 w3.heap.size (fun k_ => k_≠w.heap.size∧k_≠w.heap.size+1∧(w2.heap.size≤k_ ∨ k_ < w.heap.size)) (.slice A1_3 l1_3.length c1_3) l1_3 from Kd.V_mk HC.out (Kd.F_mono (Kd.F_below HF.out HB3.out) (fun k hk => ⟨by omega,by omega,Or.inr hk⟩)))
 clear HB2 HK1 HK2 HF HE HR
 have hnn:(0:Int)≤(n:Int):=Int.natCast_nonneg _
 go_loopw [33] (fun v wr => ∃ (j:Nat) (c0 c1:Int) (c2:ByteArray) (A:Option Addr) (cc:Nat) (cl:List S24),v=.int .i64 j∧TRel k 4 n s1 s2 s3 s4 w w2.heap.size wr j c0 c1 c2 A cc cl) (fun v _ => n - (intOf v).toNat)
 case atStart => exact ⟨0,a1_0,a1_1,a1_2,A1_3,c1_3,l1_3,rfl,⟨HJ1.out,HJ2.out,HB3.out,HVI.out,Nat.zero_le _,by rw [Nat.sub_zero];exact HD.out,hw2,hs3⟩⟩
 case round =>
  clear HJ1 HJ2 HB3 HVI HD ht
  obtain ⟨j,c0,c1,c2,A,cc,cl,rfl,⟨hk1,hk2,hb,hv,hj,hl,hw2',hBs⟩⟩:=hrel
  have HK1:=Aside0.mk hk1
  have HK2:=Aside0.mk hk2
  have HB:=Aside0.mk hb
  have HV:=Aside0.mk hv
  have x0:wr.cell? ⟨w.heap.size,0,none⟩=some (.int .i64 c0):=(blk_cell hk1 0).trans rfl
  have x1:wr.cell? ⟨w.heap.size,1,none⟩=some (.int .i64 c1):=(blk_cell hk1 1).trans rfl
  have x2:wr.cell? ⟨w.heap.size,2,none⟩=some (.string c2):=(blk_cell hk1 2).trans rfl
  have x3:wr.cell? ⟨w.heap.size,3,none⟩=some (.slice A cl.length cc):=(blk_cell hk1 3).trans rfl
  clear hk1 hk2 hb hv
  by_cases hlt:j < n
  ·obtain ⟨m,hm⟩:∃ m,n - j=m+1:=⟨n - j - 1,by omega⟩
   rw [hm] at hl
   simp only [times_l] at hl
   obtain ⟨⟨d0,d1,d2,d3⟩,hd,hl⟩:=Option.bind_eq_some_iff.1 hl
   have HD:=Aside0.mk hd
   have HL:=Aside0.mk hl
   clear hd hl
   have hw:IntKind.i64.wrap ((j:Int)+1)=(j:Int)+1:=IntWalk.i64_in _ (by omega)
   have hlt':(j:Int) < (n:Int):=by omega
   go_wp2_with (first
    | (go_at_call 56;refine (do_4 k c0 c1 c2 A cc cl (fun k_ => k_≠w.heap.size∧k_≠w.heap.size+1∧(w2.heap.size≤k_ ∨ k_ < w.heap.size)) d0 d1 d2 d3 _ (LaidW.below HLT.out HB.out) HV.out HD.out).mono ?_;rintro e w4 ⟨v4,rfl,hv4,hb4⟩;obtain ⟨A4,c4,rfl⟩:=Kd.V_slice hv4;have K1:Aside0 (w4.heap[w.heap.size]? = some (.cells #[.int .i64 c0,.int .i64 c1,.string c2,.slice A cl.length cc] 24 (0,0))):=⟨blk_below HK1.out hb4⟩;have K2:Aside0 (w4.heap[w.heap.size+1]? = some (.cells #[.int .i64 0,.int .i64 0,.string ⟨#[]⟩,.slice none 0 0] 24 (0,0))):=⟨blk_below HK2.out hb4⟩;have B4:Aside0 (Below w.heap.size w w4):=⟨below_step HB.out hb4⟩;have V4:=Aside0.mk hv4;have z4:=hb4.size;clear hv4 hb4;have e0:w4.cell? ⟨w.heap.size,0,none⟩=some (.int .i64 c0):=(blk_cell K1.out 0).trans rfl;have e1:w4.cell? ⟨w.heap.size,1,none⟩=some (.int .i64 c1):=(blk_cell K1.out 1).trans rfl;have e2:w4.cell? ⟨w.heap.size,2,none⟩=some (.string c2):=(blk_cell K1.out 2).trans rfl;have e3:w4.cell? ⟨w.heap.size,3,none⟩=some (.slice A cl.length cc):=(blk_cell K1.out 3).trans rfl;have f0:w4.frozen? ⟨w.heap.size,0,none⟩=false:=blk_frozen K1.out 0;have f1:w4.frozen? ⟨w.heap.size,1,none⟩=false:=blk_frozen K1.out 1;have f2:w4.frozen? ⟨w.heap.size,2,none⟩=false:=blk_frozen K1.out 2;have f3:w4.frozen? ⟨w.heap.size,3,none⟩=false:=blk_frozen K1.out 3))
   go_roundw
   case rel =>
    refine ⟨j+1,d0,d1,d2,A4,c4,d3,by go_num,⟨?_,?_,?_,?_,by omega,?_,hw2',?_⟩⟩
    ·refine blk_put (cs:=#[.int .i64 d0,.int .i64 d1,.string d2,.slice A cl.length cc]) ?_ 3 _ rfl
     refine blk_put (cs:=#[.int .i64 d0,.int .i64 d1,.string c2,.slice A cl.length cc]) ?_ 2 _ rfl
     refine blk_put (cs:=#[.int .i64 d0,.int .i64 c1,.string c2,.slice A cl.length cc]) ?_ 1 _ rfl
     refine blk_put (cs:=#[.int .i64 c0,.int .i64 c1,.string c2,.slice A cl.length cc]) ?_ 0 _ rfl
     exact K1.out
    ·refine blk_far ?_ (by simp) _
     refine blk_far ?_ (by simp) _
     refine blk_far ?_ (by simp) _
     refine blk_far ?_ (by simp) _
     exact K2.out
    ·repeat (first|exact B4.out|refine below_set ?_ (by simp))
    ·exact v_store (Kd.V_mono V4.out (fun k hk => by rcases hk with hk|hk;exact hk;exact ⟨by omega,by omega,Or.inl (by omega)⟩)) (fun k hk => hk.1) _ _ _ _
    ·rw [show n - (j+1)=m by omega];exact HL.out
    ·simp;omega
   case measure => simp [intOf];omega
  ·obtain rfl:j=n:=by omega
   rw [Nat.sub_self] at hl
   simp only [times_l,Option.some.injEq,Prod.mk.injEq] at hl
   obtain ⟨rfl,rfl,rfl,rfl⟩:=hl
   go_wp2_with (go_at_call 27;refine (own_Value.calls c0 c1 c2 A cc cl r1 r2 r3 r4 _ (Kd.V_reads' HV.out).2.2 (Kd.V_reads' HV.out).2.1 HO.out).mono ?_;rintro e w5 ⟨v5,rfl,hr5,hb5⟩;obtain ⟨A5,c5,rfl⟩:=Kd.R_slice hr5;have HK5:Aside0 (w5.heap[w.heap.size+1]? = some (.cells #[.int .i64 0,.int .i64 0,.string ⟨#[]⟩,.slice none 0 0] 24 (0,0))):=⟨blk_below HK2.out hb5⟩;have HB5:Aside0 (Below w.heap.size w w5):=⟨below_step HB.out hb5⟩;have HR5:=Aside0.mk hr5;clear hr5 hb5;have y0:w5.cell? ⟨w.heap.size+1,0,none⟩=some (.int .i64 0):=(blk_cell HK5.out 0).trans rfl;have y1:w5.cell? ⟨w.heap.size+1,1,none⟩=some (.int .i64 0):=(blk_cell HK5.out 1).trans rfl;have y2:w5.cell? ⟨w.heap.size+1,2,none⟩=some (.string ⟨#[]⟩):=(blk_cell HK5.out 2).trans rfl;have y3:w5.cell? ⟨w.heap.size+1,3,none⟩=some (.slice none 0 0):=(blk_cell HK5.out 3).trans rfl;have g0:w5.frozen? ⟨w.heap.size+1,0,none⟩=false:=blk_frozen HK5.out 0;have g1:w5.frozen? ⟨w.heap.size+1,1,none⟩=false:=blk_frozen HK5.out 1;have g2:w5.frozen? ⟨w.heap.size+1,2,none⟩=false:=blk_frozen HK5.out 2;have g3:w5.frozen? ⟨w.heap.size+1,3,none⟩=false:=blk_frozen HK5.out 3)
   refine bodyPost_ret (results_ct rfl _ _ (w.heap.size+1) 24 #[.int .i64 r1,.int .i64 r2,.string r3,.slice A5 r4.length c5] (0,0) _ rfl (pu4 HK5) Tryd.underlying24 rfl (by kernel_rfl)) rfl ?_
   exact ⟨_,rfl,r_far4 HR5.out (by omega) (by omega) _ _ _ _,by repeat (first|exact HB5.out|refine below_set ?_ (by simp))⟩
set_option maxRecDepth 100000 in
set_option maxHeartbeats 1600000 in
theorem times_5 (k n:Nat) (a1_0 a1_1:Int) (a1_2:ByteArray) (A1_3:Option Addr) (c1_3:Nat) (l1_3:List S24) (r1 r2:Int) (r3:ByteArray) (r4:List S24) (s1 s2:Int) (s3:ByteArray) (s4:List S24) (w:World) (hL:LaidW w) (hr1_3:Kd.C k24 w A1_3 l1_3.length l1_3) (hc1_3:l1_3.length≤c1_3) (hn:n≤65536) (h1:value_Check.f k a1_0 a1_1 a1_2 l1_3=some 0) (h2:times_l k 5 n a1_0 a1_1 a1_2 l1_3=some (s1,s2,s3,s4)) (h3:own_Value.f s1 s2 s3 s4=some (r1,r2,r3,r4)) :
  Calls Tryd.prog 17 #[.int .i64 5,.int .i64 n,.agg #[.int .i64 a1_0,.int .i64 a1_1,.string a1_2,.slice A1_3 l1_3.length c1_3]] w fun e w' => ∃ v3_:Value,e=.returned (.tuple #[.agg #[.int .i64 r1,.int .i64 r2,.string r3,v3_],.int .i64 0])∧Kd.R k24 24 w' w.heap.size (fun _ => True) v3_ r4∧Below w.heap.size w w':=by
 have HLT:=Aside0.mk hL
 have HR:=Aside0.mk hr1_3
 have HC:=Aside0.mk hc1_3
 have HE:=Aside0.mk h1
 have HD:=Aside0.mk h2
 have HO:=Aside0.mk h3
 have HF:=Aside0.mk (Kd.C_F k24_heap hr1_3)
 clear hL hr1_3 hc1_3 h1 h2 h3
 have hn0:¬ (n:Int) < 0:=by omega
 have hn1:¬ (65536:Int) < (n:Int):=by omega
 go_enter Tryd.func17,Tryd.ntmps17
 go_wp2_with (first
  | (go_at_call 32;refine (fns_known.calls 5 true _ rfl).mono ?_;rintro e w1 ⟨rfl,⟨nd,rfl⟩⟩)
  | (go_at_call 15;refine (value_Check.calls k a1_0 a1_1 a1_2 A1_3 c1_3 l1_3 0 _ (LaidW.below HLT.out (by repeat (first|exact Below.refl _ _|apply below_alloc|apply pw_below_drewN))) (by repeat (first|exact HR.out|refine Kd.C_alloc ?_ _|refine Kd.C_drewN ?_ _)) HC.out HE.out).mono ?_;rintro e w2 ⟨rfl,hb2⟩;obtain ⟨B1,B2,hB⟩:=two_key _ a1_1 a1_2 _ w w2 ⟨hb2.os,hb2.tape,hb2.output,hb2.size,hb2.block⟩;have HB2:=Aside0.mk hB;have HK1:=Aside0.mk B1;have HK2:=Aside0.mk B2;clear hb2 B1 B2 hB)
  | (go_at_call 29;refine (fns_ones.calls _).mono ?_;rintro e w3 ⟨rfl,hw3⟩;have hs3:w2.heap.size < w3.heap.size:=(by rw [hw3,onesW_size];omega);have HB3:Aside0 (Below w.heap.size w w3):=⟨by rw [hw3];exact below_step HB2.out (onesW_below _)⟩;have HJ1:Aside0 (w3.heap[w.heap.size]? = some (.cells #[.int .i64 a1_0,.int .i64 a1_1,.string a1_2,.slice A1_3 l1_3.length c1_3] 24 (0,0))):=⟨by rw [hw3];exact blk_below HK1.out (onesW_below _)⟩;have HJ2:Aside0 (w3.heap[w.heap.size+1]? = some (.cells #[.int .i64 0,.int .i64 0,.string ⟨#[]⟩,.slice none 0 0] 24 (0,0))):=⟨by rw [hw3];exact blk_below HK2.out (onesW_below _)⟩;have ht:w3.cell? ⟨w2.heap.size+1+1+1,5,none⟩=some (.func (.func 57) #[] #[]):=(by rw [hw3];exact (blk_cell (onesW_tab w2) 5).trans rfl);clear hw3))
 have hw2:w.heap.size+2≤w2.heap.size:=blk_lt HK2.out
 have HVI:=Aside0.mk (show Kd.V k24 24 w3 w3.heap.size (fun k_ => k_≠w.heap.size∧k_≠w.heap.size+1∧(w2.heap.size≤k_ ∨ k_ < w.heap.size)) (.slice A1_3 l1_3.length c1_3) l1_3 from Kd.V_mk HC.out (Kd.F_mono (Kd.F_below HF.out HB3.out) (fun k hk => ⟨by omega,by omega,Or.inr hk⟩)))
 clear HB2 HK1 HK2 HF HE HR
 have hnn:(0:Int)≤(n:Int):=Int.natCast_nonneg _
 go_loopw [33] (fun v wr => ∃ (j:Nat) (c0 c1:Int) (c2:ByteArray) (A:Option Addr) (cc:Nat) (cl:List S24),v=.int .i64 j∧TRel k 5 n s1 s2 s3 s4 w w2.heap.size wr j c0 c1 c2 A cc cl) (fun v _ => n - (intOf v).toNat)
 case atStart => exact ⟨0,a1_0,a1_1,a1_2,A1_3,c1_3,l1_3,rfl,⟨HJ1.out,HJ2.out,HB3.out,HVI.out,Nat.zero_le _,by rw [Nat.sub_zero];exact HD.out,hw2,hs3⟩⟩
 case round =>
  clear HJ1 HJ2 HB3 HVI HD ht
  obtain ⟨j,c0,c1,c2,A,cc,cl,rfl,⟨hk1,hk2,hb,hv,hj,hl,hw2',hBs⟩⟩:=hrel
  have HK1:=Aside0.mk hk1
  have HK2:=Aside0.mk hk2
  have HB:=Aside0.mk hb
  have HV:=Aside0.mk hv
  have x0:wr.cell? ⟨w.heap.size,0,none⟩=some (.int .i64 c0):=(blk_cell hk1 0).trans rfl
  have x1:wr.cell? ⟨w.heap.size,1,none⟩=some (.int .i64 c1):=(blk_cell hk1 1).trans rfl
  have x2:wr.cell? ⟨w.heap.size,2,none⟩=some (.string c2):=(blk_cell hk1 2).trans rfl
  have x3:wr.cell? ⟨w.heap.size,3,none⟩=some (.slice A cl.length cc):=(blk_cell hk1 3).trans rfl
  clear hk1 hk2 hb hv
  by_cases hlt:j < n
  ·obtain ⟨m,hm⟩:∃ m,n - j=m+1:=⟨n - j - 1,by omega⟩
   rw [hm] at hl
   simp only [times_l] at hl
   obtain ⟨⟨d0,d1,d2,d3⟩,hd,hl⟩:=Option.bind_eq_some_iff.1 hl
   have HD:=Aside0.mk hd
   have HL:=Aside0.mk hl
   clear hd hl
   have hw:IntKind.i64.wrap ((j:Int)+1)=(j:Int)+1:=IntWalk.i64_in _ (by omega)
   have hlt':(j:Int) < (n:Int):=by omega
   go_wp2_with (first
    | (go_at_call 57;refine (do_5 k c0 c1 c2 A cc cl (fun k_ => k_≠w.heap.size∧k_≠w.heap.size+1∧(w2.heap.size≤k_ ∨ k_ < w.heap.size)) d0 d1 d2 d3 _ (LaidW.below HLT.out HB.out) HV.out HD.out).mono ?_;rintro e w4 ⟨v4,rfl,hv4,hb4⟩;obtain ⟨A4,c4,rfl⟩:=Kd.V_slice hv4;have K1:Aside0 (w4.heap[w.heap.size]? = some (.cells #[.int .i64 c0,.int .i64 c1,.string c2,.slice A cl.length cc] 24 (0,0))):=⟨blk_below HK1.out hb4⟩;have K2:Aside0 (w4.heap[w.heap.size+1]? = some (.cells #[.int .i64 0,.int .i64 0,.string ⟨#[]⟩,.slice none 0 0] 24 (0,0))):=⟨blk_below HK2.out hb4⟩;have B4:Aside0 (Below w.heap.size w w4):=⟨below_step HB.out hb4⟩;have V4:=Aside0.mk hv4;have z4:=hb4.size;clear hv4 hb4;have e0:w4.cell? ⟨w.heap.size,0,none⟩=some (.int .i64 c0):=(blk_cell K1.out 0).trans rfl;have e1:w4.cell? ⟨w.heap.size,1,none⟩=some (.int .i64 c1):=(blk_cell K1.out 1).trans rfl;have e2:w4.cell? ⟨w.heap.size,2,none⟩=some (.string c2):=(blk_cell K1.out 2).trans rfl;have e3:w4.cell? ⟨w.heap.size,3,none⟩=some (.slice A cl.length cc):=(blk_cell K1.out 3).trans rfl;have f0:w4.frozen? ⟨w.heap.size,0,none⟩=false:=blk_frozen K1.out 0;have f1:w4.frozen? ⟨w.heap.size,1,none⟩=false:=blk_frozen K1.out 1;have f2:w4.frozen? ⟨w.heap.size,2,none⟩=false:=blk_frozen K1.out 2;have f3:w4.frozen? ⟨w.heap.size,3,none⟩=false:=blk_frozen K1.out 3))
   go_roundw
   case rel =>
    refine ⟨j+1,d0,d1,d2,A4,c4,d3,by go_num,⟨?_,?_,?_,?_,by omega,?_,hw2',?_⟩⟩
    ·refine blk_put (cs:=#[.int .i64 d0,.int .i64 d1,.string d2,.slice A cl.length cc]) ?_ 3 _ rfl
     refine blk_put (cs:=#[.int .i64 d0,.int .i64 d1,.string c2,.slice A cl.length cc]) ?_ 2 _ rfl
     refine blk_put (cs:=#[.int .i64 d0,.int .i64 c1,.string c2,.slice A cl.length cc]) ?_ 1 _ rfl
     refine blk_put (cs:=#[.int .i64 c0,.int .i64 c1,.string c2,.slice A cl.length cc]) ?_ 0 _ rfl
     exact K1.out
    ·refine blk_far ?_ (by simp) _
     refine blk_far ?_ (by simp) _
     refine blk_far ?_ (by simp) _
     refine blk_far ?_ (by simp) _
     exact K2.out
    ·repeat (first|exact B4.out|refine below_set ?_ (by simp))
    ·exact v_store (Kd.V_mono V4.out (fun k hk => by rcases hk with hk|hk;exact hk;exact ⟨by omega,by omega,Or.inl (by omega)⟩)) (fun k hk => hk.1) _ _ _ _
    ·rw [show n - (j+1)=m by omega];exact HL.out
    ·simp;omega
   case measure => simp [intOf];omega
  ·obtain rfl:j=n:=by omega
   rw [Nat.sub_self] at hl
   simp only [times_l,Option.some.injEq,Prod.mk.injEq] at hl
   obtain ⟨rfl,rfl,rfl,rfl⟩:=hl
   go_wp2_with (go_at_call 27;refine (own_Value.calls c0 c1 c2 A cc cl r1 r2 r3 r4 _ (Kd.V_reads' HV.out).2.2 (Kd.V_reads' HV.out).2.1 HO.out).mono ?_;rintro e w5 ⟨v5,rfl,hr5,hb5⟩;obtain ⟨A5,c5,rfl⟩:=Kd.R_slice hr5;have HK5:Aside0 (w5.heap[w.heap.size+1]? = some (.cells #[.int .i64 0,.int .i64 0,.string ⟨#[]⟩,.slice none 0 0] 24 (0,0))):=⟨blk_below HK2.out hb5⟩;have HB5:Aside0 (Below w.heap.size w w5):=⟨below_step HB.out hb5⟩;have HR5:=Aside0.mk hr5;clear hr5 hb5;have y0:w5.cell? ⟨w.heap.size+1,0,none⟩=some (.int .i64 0):=(blk_cell HK5.out 0).trans rfl;have y1:w5.cell? ⟨w.heap.size+1,1,none⟩=some (.int .i64 0):=(blk_cell HK5.out 1).trans rfl;have y2:w5.cell? ⟨w.heap.size+1,2,none⟩=some (.string ⟨#[]⟩):=(blk_cell HK5.out 2).trans rfl;have y3:w5.cell? ⟨w.heap.size+1,3,none⟩=some (.slice none 0 0):=(blk_cell HK5.out 3).trans rfl;have g0:w5.frozen? ⟨w.heap.size+1,0,none⟩=false:=blk_frozen HK5.out 0;have g1:w5.frozen? ⟨w.heap.size+1,1,none⟩=false:=blk_frozen HK5.out 1;have g2:w5.frozen? ⟨w.heap.size+1,2,none⟩=false:=blk_frozen HK5.out 2;have g3:w5.frozen? ⟨w.heap.size+1,3,none⟩=false:=blk_frozen HK5.out 3)
   refine bodyPost_ret (results_ct rfl _ _ (w.heap.size+1) 24 #[.int .i64 r1,.int .i64 r2,.string r3,.slice A5 r4.length c5] (0,0) _ rfl (pu4 HK5) Tryd.underlying24 rfl (by kernel_rfl)) rfl ?_
   exact ⟨_,rfl,r_far4 HR5.out (by omega) (by omega) _ _ _ _,by repeat (first|exact HB5.out|refine below_set ?_ (by simp))⟩
set_option maxRecDepth 100000 in
set_option maxHeartbeats 1600000 in
theorem times_6 (k n:Nat) (a1_0 a1_1:Int) (a1_2:ByteArray) (A1_3:Option Addr) (c1_3:Nat) (l1_3:List S24) (r1 r2:Int) (r3:ByteArray) (r4:List S24) (s1 s2:Int) (s3:ByteArray) (s4:List S24) (w:World) (hL:LaidW w) (hr1_3:Kd.C k24 w A1_3 l1_3.length l1_3) (hc1_3:l1_3.length≤c1_3) (hn:n≤65536) (h1:value_Check.f k a1_0 a1_1 a1_2 l1_3=some 0) (h2:times_l k 6 n a1_0 a1_1 a1_2 l1_3=some (s1,s2,s3,s4)) (h3:own_Value.f s1 s2 s3 s4=some (r1,r2,r3,r4)) :
  Calls Tryd.prog 17 #[.int .i64 6,.int .i64 n,.agg #[.int .i64 a1_0,.int .i64 a1_1,.string a1_2,.slice A1_3 l1_3.length c1_3]] w fun e w' => ∃ v3_:Value,e=.returned (.tuple #[.agg #[.int .i64 r1,.int .i64 r2,.string r3,v3_],.int .i64 0])∧Kd.R k24 24 w' w.heap.size (fun _ => True) v3_ r4∧Below w.heap.size w w':=by
 have HLT:=Aside0.mk hL
 have HR:=Aside0.mk hr1_3
 have HC:=Aside0.mk hc1_3
 have HE:=Aside0.mk h1
 have HD:=Aside0.mk h2
 have HO:=Aside0.mk h3
 have HF:=Aside0.mk (Kd.C_F k24_heap hr1_3)
 clear hL hr1_3 hc1_3 h1 h2 h3
 have hn0:¬ (n:Int) < 0:=by omega
 have hn1:¬ (65536:Int) < (n:Int):=by omega
 go_enter Tryd.func17,Tryd.ntmps17
 go_wp2_with (first
  | (go_at_call 32;refine (fns_known.calls 6 true _ rfl).mono ?_;rintro e w1 ⟨rfl,⟨nd,rfl⟩⟩)
  | (go_at_call 15;refine (value_Check.calls k a1_0 a1_1 a1_2 A1_3 c1_3 l1_3 0 _ (LaidW.below HLT.out (by repeat (first|exact Below.refl _ _|apply below_alloc|apply pw_below_drewN))) (by repeat (first|exact HR.out|refine Kd.C_alloc ?_ _|refine Kd.C_drewN ?_ _)) HC.out HE.out).mono ?_;rintro e w2 ⟨rfl,hb2⟩;obtain ⟨B1,B2,hB⟩:=two_key _ a1_1 a1_2 _ w w2 ⟨hb2.os,hb2.tape,hb2.output,hb2.size,hb2.block⟩;have HB2:=Aside0.mk hB;have HK1:=Aside0.mk B1;have HK2:=Aside0.mk B2;clear hb2 B1 B2 hB)
  | (go_at_call 29;refine (fns_ones.calls _).mono ?_;rintro e w3 ⟨rfl,hw3⟩;have hs3:w2.heap.size < w3.heap.size:=(by rw [hw3,onesW_size];omega);have HB3:Aside0 (Below w.heap.size w w3):=⟨by rw [hw3];exact below_step HB2.out (onesW_below _)⟩;have HJ1:Aside0 (w3.heap[w.heap.size]? = some (.cells #[.int .i64 a1_0,.int .i64 a1_1,.string a1_2,.slice A1_3 l1_3.length c1_3] 24 (0,0))):=⟨by rw [hw3];exact blk_below HK1.out (onesW_below _)⟩;have HJ2:Aside0 (w3.heap[w.heap.size+1]? = some (.cells #[.int .i64 0,.int .i64 0,.string ⟨#[]⟩,.slice none 0 0] 24 (0,0))):=⟨by rw [hw3];exact blk_below HK2.out (onesW_below _)⟩;have ht:w3.cell? ⟨w2.heap.size+1+1+1,6,none⟩=some (.func (.func 59) #[] #[]):=(by rw [hw3];exact (blk_cell (onesW_tab w2) 6).trans rfl);clear hw3))
 have hw2:w.heap.size+2≤w2.heap.size:=blk_lt HK2.out
 have HVI:=Aside0.mk (show Kd.V k24 24 w3 w3.heap.size (fun k_ => k_≠w.heap.size∧k_≠w.heap.size+1∧(w2.heap.size≤k_ ∨ k_ < w.heap.size)) (.slice A1_3 l1_3.length c1_3) l1_3 from Kd.V_mk HC.out (Kd.F_mono (Kd.F_below HF.out HB3.out) (fun k hk => ⟨by omega,by omega,Or.inr hk⟩)))
 clear HB2 HK1 HK2 HF HE HR
 have hnn:(0:Int)≤(n:Int):=Int.natCast_nonneg _
 go_loopw [33] (fun v wr => ∃ (j:Nat) (c0 c1:Int) (c2:ByteArray) (A:Option Addr) (cc:Nat) (cl:List S24),v=.int .i64 j∧TRel k 6 n s1 s2 s3 s4 w w2.heap.size wr j c0 c1 c2 A cc cl) (fun v _ => n - (intOf v).toNat)
 case atStart => exact ⟨0,a1_0,a1_1,a1_2,A1_3,c1_3,l1_3,rfl,⟨HJ1.out,HJ2.out,HB3.out,HVI.out,Nat.zero_le _,by rw [Nat.sub_zero];exact HD.out,hw2,hs3⟩⟩
 case round =>
  clear HJ1 HJ2 HB3 HVI HD ht
  obtain ⟨j,c0,c1,c2,A,cc,cl,rfl,⟨hk1,hk2,hb,hv,hj,hl,hw2',hBs⟩⟩:=hrel
  have HK1:=Aside0.mk hk1
  have HK2:=Aside0.mk hk2
  have HB:=Aside0.mk hb
  have HV:=Aside0.mk hv
  have x0:wr.cell? ⟨w.heap.size,0,none⟩=some (.int .i64 c0):=(blk_cell hk1 0).trans rfl
  have x1:wr.cell? ⟨w.heap.size,1,none⟩=some (.int .i64 c1):=(blk_cell hk1 1).trans rfl
  have x2:wr.cell? ⟨w.heap.size,2,none⟩=some (.string c2):=(blk_cell hk1 2).trans rfl
  have x3:wr.cell? ⟨w.heap.size,3,none⟩=some (.slice A cl.length cc):=(blk_cell hk1 3).trans rfl
  clear hk1 hk2 hb hv
  by_cases hlt:j < n
  ·obtain ⟨m,hm⟩:∃ m,n - j=m+1:=⟨n - j - 1,by omega⟩
   rw [hm] at hl
   simp only [times_l] at hl
   obtain ⟨⟨d0,d1,d2,d3⟩,hd,hl⟩:=Option.bind_eq_some_iff.1 hl
   have HD:=Aside0.mk hd
   have HL:=Aside0.mk hl
   clear hd hl
   have hw:IntKind.i64.wrap ((j:Int)+1)=(j:Int)+1:=IntWalk.i64_in _ (by omega)
   have hlt':(j:Int) < (n:Int):=by omega
   go_wp2_with (first
    | (go_at_call 59;refine (do_6 k c0 c1 c2 A cc cl (fun k_ => k_≠w.heap.size∧k_≠w.heap.size+1∧(w2.heap.size≤k_ ∨ k_ < w.heap.size)) d0 d1 d2 d3 _ (LaidW.below HLT.out HB.out) HV.out HD.out).mono ?_;rintro e w4 ⟨v4,rfl,hv4,hb4⟩;obtain ⟨A4,c4,rfl⟩:=Kd.V_slice hv4;have K1:Aside0 (w4.heap[w.heap.size]? = some (.cells #[.int .i64 c0,.int .i64 c1,.string c2,.slice A cl.length cc] 24 (0,0))):=⟨blk_below HK1.out hb4⟩;have K2:Aside0 (w4.heap[w.heap.size+1]? = some (.cells #[.int .i64 0,.int .i64 0,.string ⟨#[]⟩,.slice none 0 0] 24 (0,0))):=⟨blk_below HK2.out hb4⟩;have B4:Aside0 (Below w.heap.size w w4):=⟨below_step HB.out hb4⟩;have V4:=Aside0.mk hv4;have z4:=hb4.size;clear hv4 hb4;have e0:w4.cell? ⟨w.heap.size,0,none⟩=some (.int .i64 c0):=(blk_cell K1.out 0).trans rfl;have e1:w4.cell? ⟨w.heap.size,1,none⟩=some (.int .i64 c1):=(blk_cell K1.out 1).trans rfl;have e2:w4.cell? ⟨w.heap.size,2,none⟩=some (.string c2):=(blk_cell K1.out 2).trans rfl;have e3:w4.cell? ⟨w.heap.size,3,none⟩=some (.slice A cl.length cc):=(blk_cell K1.out 3).trans rfl;have f0:w4.frozen? ⟨w.heap.size,0,none⟩=false:=blk_frozen K1.out 0;have f1:w4.frozen? ⟨w.heap.size,1,none⟩=false:=blk_frozen K1.out 1;have f2:w4.frozen? ⟨w.heap.size,2,none⟩=false:=blk_frozen K1.out 2;have f3:w4.frozen? ⟨w.heap.size,3,none⟩=false:=blk_frozen K1.out 3))
   go_roundw
   case rel =>
    refine ⟨j+1,d0,d1,d2,A4,c4,d3,by go_num,⟨?_,?_,?_,?_,by omega,?_,hw2',?_⟩⟩
    ·refine blk_put (cs:=#[.int .i64 d0,.int .i64 d1,.string d2,.slice A cl.length cc]) ?_ 3 _ rfl
     refine blk_put (cs:=#[.int .i64 d0,.int .i64 d1,.string c2,.slice A cl.length cc]) ?_ 2 _ rfl
     refine blk_put (cs:=#[.int .i64 d0,.int .i64 c1,.string c2,.slice A cl.length cc]) ?_ 1 _ rfl
     refine blk_put (cs:=#[.int .i64 c0,.int .i64 c1,.string c2,.slice A cl.length cc]) ?_ 0 _ rfl
     exact K1.out
    ·refine blk_far ?_ (by simp) _
     refine blk_far ?_ (by simp) _
     refine blk_far ?_ (by simp) _
     refine blk_far ?_ (by simp) _
     exact K2.out
    ·repeat (first|exact B4.out|refine below_set ?_ (by simp))
    ·exact v_store (Kd.V_mono V4.out (fun k hk => by rcases hk with hk|hk;exact hk;exact ⟨by omega,by omega,Or.inl (by omega)⟩)) (fun k hk => hk.1) _ _ _ _
    ·rw [show n - (j+1)=m by omega];exact HL.out
    ·simp;omega
   case measure => simp [intOf];omega
  ·obtain rfl:j=n:=by omega
   rw [Nat.sub_self] at hl
   simp only [times_l,Option.some.injEq,Prod.mk.injEq] at hl
   obtain ⟨rfl,rfl,rfl,rfl⟩:=hl
   go_wp2_with (go_at_call 27;refine (own_Value.calls c0 c1 c2 A cc cl r1 r2 r3 r4 _ (Kd.V_reads' HV.out).2.2 (Kd.V_reads' HV.out).2.1 HO.out).mono ?_;rintro e w5 ⟨v5,rfl,hr5,hb5⟩;obtain ⟨A5,c5,rfl⟩:=Kd.R_slice hr5;have HK5:Aside0 (w5.heap[w.heap.size+1]? = some (.cells #[.int .i64 0,.int .i64 0,.string ⟨#[]⟩,.slice none 0 0] 24 (0,0))):=⟨blk_below HK2.out hb5⟩;have HB5:Aside0 (Below w.heap.size w w5):=⟨below_step HB.out hb5⟩;have HR5:=Aside0.mk hr5;clear hr5 hb5;have y0:w5.cell? ⟨w.heap.size+1,0,none⟩=some (.int .i64 0):=(blk_cell HK5.out 0).trans rfl;have y1:w5.cell? ⟨w.heap.size+1,1,none⟩=some (.int .i64 0):=(blk_cell HK5.out 1).trans rfl;have y2:w5.cell? ⟨w.heap.size+1,2,none⟩=some (.string ⟨#[]⟩):=(blk_cell HK5.out 2).trans rfl;have y3:w5.cell? ⟨w.heap.size+1,3,none⟩=some (.slice none 0 0):=(blk_cell HK5.out 3).trans rfl;have g0:w5.frozen? ⟨w.heap.size+1,0,none⟩=false:=blk_frozen HK5.out 0;have g1:w5.frozen? ⟨w.heap.size+1,1,none⟩=false:=blk_frozen HK5.out 1;have g2:w5.frozen? ⟨w.heap.size+1,2,none⟩=false:=blk_frozen HK5.out 2;have g3:w5.frozen? ⟨w.heap.size+1,3,none⟩=false:=blk_frozen HK5.out 3)
   refine bodyPost_ret (results_ct rfl _ _ (w.heap.size+1) 24 #[.int .i64 r1,.int .i64 r2,.string r3,.slice A5 r4.length c5] (0,0) _ rfl (pu4 HK5) Tryd.underlying24 rfl (by kernel_rfl)) rfl ?_
   exact ⟨_,rfl,r_far4 HR5.out (by omega) (by omega) _ _ _ _,by repeat (first|exact HB5.out|refine below_set ?_ (by simp))⟩
set_option maxRecDepth 100000 in
set_option maxHeartbeats 1600000 in
theorem times_7 (k n:Nat) (a1_0 a1_1:Int) (a1_2:ByteArray) (A1_3:Option Addr) (c1_3:Nat) (l1_3:List S24) (r1 r2:Int) (r3:ByteArray) (r4:List S24) (s1 s2:Int) (s3:ByteArray) (s4:List S24) (w:World) (hL:LaidW w) (hr1_3:Kd.C k24 w A1_3 l1_3.length l1_3) (hc1_3:l1_3.length≤c1_3) (hn:n≤65536) (h1:value_Check.f k a1_0 a1_1 a1_2 l1_3=some 0) (h2:times_l k 7 n a1_0 a1_1 a1_2 l1_3=some (s1,s2,s3,s4)) (h3:own_Value.f s1 s2 s3 s4=some (r1,r2,r3,r4)) :
  Calls Tryd.prog 17 #[.int .i64 7,.int .i64 n,.agg #[.int .i64 a1_0,.int .i64 a1_1,.string a1_2,.slice A1_3 l1_3.length c1_3]] w fun e w' => ∃ v3_:Value,e=.returned (.tuple #[.agg #[.int .i64 r1,.int .i64 r2,.string r3,v3_],.int .i64 0])∧Kd.R k24 24 w' w.heap.size (fun _ => True) v3_ r4∧Below w.heap.size w w':=by
 have HLT:=Aside0.mk hL
 have HR:=Aside0.mk hr1_3
 have HC:=Aside0.mk hc1_3
 have HE:=Aside0.mk h1
 have HD:=Aside0.mk h2
 have HO:=Aside0.mk h3
 have HF:=Aside0.mk (Kd.C_F k24_heap hr1_3)
 clear hL hr1_3 hc1_3 h1 h2 h3
 have hn0:¬ (n:Int) < 0:=by omega
 have hn1:¬ (65536:Int) < (n:Int):=by omega
 go_enter Tryd.func17,Tryd.ntmps17
 go_wp2_with (first
  | (go_at_call 32;refine (fns_known.calls 7 true _ rfl).mono ?_;rintro e w1 ⟨rfl,⟨nd,rfl⟩⟩)
  | (go_at_call 15;refine (value_Check.calls k a1_0 a1_1 a1_2 A1_3 c1_3 l1_3 0 _ (LaidW.below HLT.out (by repeat (first|exact Below.refl _ _|apply below_alloc|apply pw_below_drewN))) (by repeat (first|exact HR.out|refine Kd.C_alloc ?_ _|refine Kd.C_drewN ?_ _)) HC.out HE.out).mono ?_;rintro e w2 ⟨rfl,hb2⟩;obtain ⟨B1,B2,hB⟩:=two_key _ a1_1 a1_2 _ w w2 ⟨hb2.os,hb2.tape,hb2.output,hb2.size,hb2.block⟩;have HB2:=Aside0.mk hB;have HK1:=Aside0.mk B1;have HK2:=Aside0.mk B2;clear hb2 B1 B2 hB)
  | (go_at_call 29;refine (fns_ones.calls _).mono ?_;rintro e w3 ⟨rfl,hw3⟩;have hs3:w2.heap.size < w3.heap.size:=(by rw [hw3,onesW_size];omega);have HB3:Aside0 (Below w.heap.size w w3):=⟨by rw [hw3];exact below_step HB2.out (onesW_below _)⟩;have HJ1:Aside0 (w3.heap[w.heap.size]? = some (.cells #[.int .i64 a1_0,.int .i64 a1_1,.string a1_2,.slice A1_3 l1_3.length c1_3] 24 (0,0))):=⟨by rw [hw3];exact blk_below HK1.out (onesW_below _)⟩;have HJ2:Aside0 (w3.heap[w.heap.size+1]? = some (.cells #[.int .i64 0,.int .i64 0,.string ⟨#[]⟩,.slice none 0 0] 24 (0,0))):=⟨by rw [hw3];exact blk_below HK2.out (onesW_below _)⟩;have ht:w3.cell? ⟨w2.heap.size+1+1+1,7,none⟩=some (.func (.func 70) #[] #[.pointer (some ⟨w2.heap.size+1+1,0,none⟩)]):=(by rw [hw3];exact (blk_cell (onesW_tab w2) 7).trans rfl);have hbx:w3.cell? ⟨w2.heap.size+1+1,0,none⟩=some (.func (.func 60) #[] #[]):=(by rw [hw3];exact (onesW_box w2).2.2);clear hw3))
 have hw2:w.heap.size+2≤w2.heap.size:=blk_lt HK2.out
 have HVI:=Aside0.mk (show Kd.V k24 24 w3 w3.heap.size (fun k_ => k_≠w.heap.size∧k_≠w.heap.size+1∧(w2.heap.size≤k_ ∨ k_ < w.heap.size)) (.slice A1_3 l1_3.length c1_3) l1_3 from Kd.V_mk HC.out (Kd.F_mono (Kd.F_below HF.out HB3.out) (fun k hk => ⟨by omega,by omega,Or.inr hk⟩)))
 clear HB2 HK1 HK2 HF HE HR
 have hnn:(0:Int)≤(n:Int):=Int.natCast_nonneg _
 go_loopw [33] (fun v wr => ∃ (j:Nat) (c0 c1:Int) (c2:ByteArray) (A:Option Addr) (cc:Nat) (cl:List S24),v=.int .i64 j∧TRel k 7 n s1 s2 s3 s4 w w2.heap.size wr j c0 c1 c2 A cc cl∧wr.cell? ⟨w2.heap.size+1+1,0,none⟩=some (.func (.func 60) #[] #[])) (fun v _ => n - (intOf v).toNat)
 case atStart => exact ⟨0,a1_0,a1_1,a1_2,A1_3,c1_3,l1_3,rfl,⟨HJ1.out,HJ2.out,HB3.out,HVI.out,Nat.zero_le _,by rw [Nat.sub_zero];exact HD.out,hw2,hs3⟩,hbx⟩
 case round =>
  clear HJ1 HJ2 HB3 HVI HD ht hbx
  obtain ⟨j,c0,c1,c2,A,cc,cl,rfl,⟨hk1,hk2,hb,hv,hj,hl,hw2',hBs⟩,hbx⟩:=hrel
  have HK1:=Aside0.mk hk1
  have HK2:=Aside0.mk hk2
  have HB:=Aside0.mk hb
  have HV:=Aside0.mk hv
  have x0:wr.cell? ⟨w.heap.size,0,none⟩=some (.int .i64 c0):=(blk_cell hk1 0).trans rfl
  have x1:wr.cell? ⟨w.heap.size,1,none⟩=some (.int .i64 c1):=(blk_cell hk1 1).trans rfl
  have x2:wr.cell? ⟨w.heap.size,2,none⟩=some (.string c2):=(blk_cell hk1 2).trans rfl
  have x3:wr.cell? ⟨w.heap.size,3,none⟩=some (.slice A cl.length cc):=(blk_cell hk1 3).trans rfl
  clear hk1 hk2 hb hv
  by_cases hlt:j < n
  ·obtain ⟨m,hm⟩:∃ m,n - j=m+1:=⟨n - j - 1,by omega⟩
   rw [hm] at hl
   simp only [times_l] at hl
   obtain ⟨⟨d0,d1,d2,d3⟩,hd,hl⟩:=Option.bind_eq_some_iff.1 hl
   have HD:=Aside0.mk hd
   have HL:=Aside0.mk hl
   clear hd hl
   have hw:IntKind.i64.wrap ((j:Int)+1)=(j:Int)+1:=IntWalk.i64_in _ (by omega)
   have hlt':(j:Int) < (n:Int):=by omega
   go_wp2_with (first
    | (go_at_call 70;refine (do_7 k c0 c1 c2 A cc cl (fun k_ => k_≠w.heap.size∧k_≠w.heap.size+1∧(w2.heap.size≤k_ ∨ k_ < w.heap.size)) d0 d1 d2 d3 _ (LaidW.below HLT.out HB.out) HV.out (w2.heap.size+1+1) hbx HD.out).mono ?_;rintro e w4 ⟨v4,rfl,hv4,hb4⟩;obtain ⟨A4,c4,rfl⟩:=Kd.V_slice hv4;have K1:Aside0 (w4.heap[w.heap.size]? = some (.cells #[.int .i64 c0,.int .i64 c1,.string c2,.slice A cl.length cc] 24 (0,0))):=⟨blk_below HK1.out hb4⟩;have K2:Aside0 (w4.heap[w.heap.size+1]? = some (.cells #[.int .i64 0,.int .i64 0,.string ⟨#[]⟩,.slice none 0 0] 24 (0,0))):=⟨blk_below HK2.out hb4⟩;have B4:Aside0 (Below w.heap.size w w4):=⟨below_step HB.out hb4⟩;have V4:=Aside0.mk hv4;have z4:=hb4.size;have hbx4:=pw_cell_below hb4 hbx;clear hv4 hb4;have e0:w4.cell? ⟨w.heap.size,0,none⟩=some (.int .i64 c0):=(blk_cell K1.out 0).trans rfl;have e1:w4.cell? ⟨w.heap.size,1,none⟩=some (.int .i64 c1):=(blk_cell K1.out 1).trans rfl;have e2:w4.cell? ⟨w.heap.size,2,none⟩=some (.string c2):=(blk_cell K1.out 2).trans rfl;have e3:w4.cell? ⟨w.heap.size,3,none⟩=some (.slice A cl.length cc):=(blk_cell K1.out 3).trans rfl;have f0:w4.frozen? ⟨w.heap.size,0,none⟩=false:=blk_frozen K1.out 0;have f1:w4.frozen? ⟨w.heap.size,1,none⟩=false:=blk_frozen K1.out 1;have f2:w4.frozen? ⟨w.heap.size,2,none⟩=false:=blk_frozen K1.out 2;have f3:w4.frozen? ⟨w.heap.size,3,none⟩=false:=blk_frozen K1.out 3))
   go_roundw
   case rel =>
    refine ⟨j+1,d0,d1,d2,A4,c4,d3,by go_num,⟨?_,?_,?_,?_,by omega,?_,hw2',?_⟩,cell4_far hbx4 (by simp;omega)⟩
    ·refine blk_put (cs:=#[.int .i64 d0,.int .i64 d1,.string d2,.slice A cl.length cc]) ?_ 3 _ rfl
     refine blk_put (cs:=#[.int .i64 d0,.int .i64 d1,.string c2,.slice A cl.length cc]) ?_ 2 _ rfl
     refine blk_put (cs:=#[.int .i64 d0,.int .i64 c1,.string c2,.slice A cl.length cc]) ?_ 1 _ rfl
     refine blk_put (cs:=#[.int .i64 c0,.int .i64 c1,.string c2,.slice A cl.length cc]) ?_ 0 _ rfl
     exact K1.out
    ·refine blk_far ?_ (by simp) _
     refine blk_far ?_ (by simp) _
     refine blk_far ?_ (by simp) _
     refine blk_far ?_ (by simp) _
     exact K2.out
    ·repeat (first|exact B4.out|refine below_set ?_ (by simp))
    ·exact v_store (Kd.V_mono V4.out (fun k hk => by rcases hk with hk|hk;exact hk;exact ⟨by omega,by omega,Or.inl (by omega)⟩)) (fun k hk => hk.1) _ _ _ _
    ·rw [show n - (j+1)=m by omega];exact HL.out
    ·simp;omega
   case measure => simp [intOf];omega
  ·obtain rfl:j=n:=by omega
   rw [Nat.sub_self] at hl
   simp only [times_l,Option.some.injEq,Prod.mk.injEq] at hl
   obtain ⟨rfl,rfl,rfl,rfl⟩:=hl
   go_wp2_with (go_at_call 27;refine (own_Value.calls c0 c1 c2 A cc cl r1 r2 r3 r4 _ (Kd.V_reads' HV.out).2.2 (Kd.V_reads' HV.out).2.1 HO.out).mono ?_;rintro e w5 ⟨v5,rfl,hr5,hb5⟩;obtain ⟨A5,c5,rfl⟩:=Kd.R_slice hr5;have HK5:Aside0 (w5.heap[w.heap.size+1]? = some (.cells #[.int .i64 0,.int .i64 0,.string ⟨#[]⟩,.slice none 0 0] 24 (0,0))):=⟨blk_below HK2.out hb5⟩;have HB5:Aside0 (Below w.heap.size w w5):=⟨below_step HB.out hb5⟩;have HR5:=Aside0.mk hr5;clear hr5 hb5;have y0:w5.cell? ⟨w.heap.size+1,0,none⟩=some (.int .i64 0):=(blk_cell HK5.out 0).trans rfl;have y1:w5.cell? ⟨w.heap.size+1,1,none⟩=some (.int .i64 0):=(blk_cell HK5.out 1).trans rfl;have y2:w5.cell? ⟨w.heap.size+1,2,none⟩=some (.string ⟨#[]⟩):=(blk_cell HK5.out 2).trans rfl;have y3:w5.cell? ⟨w.heap.size+1,3,none⟩=some (.slice none 0 0):=(blk_cell HK5.out 3).trans rfl;have g0:w5.frozen? ⟨w.heap.size+1,0,none⟩=false:=blk_frozen HK5.out 0;have g1:w5.frozen? ⟨w.heap.size+1,1,none⟩=false:=blk_frozen HK5.out 1;have g2:w5.frozen? ⟨w.heap.size+1,2,none⟩=false:=blk_frozen HK5.out 2;have g3:w5.frozen? ⟨w.heap.size+1,3,none⟩=false:=blk_frozen HK5.out 3)
   refine bodyPost_ret (results_ct rfl _ _ (w.heap.size+1) 24 #[.int .i64 r1,.int .i64 r2,.string r3,.slice A5 r4.length c5] (0,0) _ rfl (pu4 HK5) Tryd.underlying24 rfl (by kernel_rfl)) rfl ?_
   exact ⟨_,rfl,r_far4 HR5.out (by omega) (by omega) _ _ _ _,by repeat (first|exact HB5.out|refine below_set ?_ (by simp))⟩
def fns_Times.f (k:Nat) (a0:Int) (n:Int) (a1_0:Int) (a1_1:Int) (a1_2:ByteArray) (l1_3:List S24):Option (Int × Int × ByteArray × List S24 × Int) :=
 (fns_known.f a0).bind fun b => if b=true then (if n < 0 then some (0,0,⟨#[]⟩,[],1) else if 65536 < n then some (0,0,⟨#[]⟩,[],1) else (value_Check.f k a1_0 a1_1 a1_2 l1_3).bind fun e => if e=0 then (times_l k a0 n.toNat a1_0 a1_1 a1_2 l1_3).bind fun s => (own_Value.f s.1 s.2.1 s.2.2.1 s.2.2.2).bind fun r => some (r.1,r.2.1,r.2.2.1,r.2.2.2,0) else some (0,0,⟨#[]⟩,[],e)) else some (0,0,⟨#[]⟩,[],4)
set_option maxRecDepth 100000 in
set_option maxHeartbeats 1600000 in
theorem fns_Times.calls (k:Nat) (a0 n:Int) (a1_0:Int) (a1_1:Int) (a1_2:ByteArray) (A1_3:Option Addr) (c1_3:Nat) (l1_3:List S24) (r1 r2:Int) (r3:ByteArray) (r4:List S24) (r5:Int) (w:World) (hL:LaidW w) (hr1_3:Kd.C k24 w A1_3 l1_3.length l1_3) (hc1_3:l1_3.length≤c1_3) (h:fns_Times.f k a0 n a1_0 a1_1 a1_2 l1_3=some (r1,r2,r3,r4,r5)) :
  Calls Tryd.prog 17 #[.int .i64 a0,.int .i64 n,.agg #[.int .i64 a1_0,.int .i64 a1_1,.string a1_2,.slice A1_3 l1_3.length c1_3]] w fun e w' => ∃ v3_:Value,e=.returned (.tuple #[.agg #[.int .i64 r1,.int .i64 r2,.string r3,v3_],.int .i64 r5])∧Kd.R k24 24 w' w.heap.size (fun _ => True) v3_ r4∧Below w.heap.size w w':=by
 unfold fns_Times.f at h
 obtain ⟨b,hk,h⟩:=Option.bind_eq_some_iff.1 h
 cases b with
 | false =>
  rw [if_neg (by decide)] at h
  simp only [Option.some.injEq,Prod.mk.injEq] at h
  obtain ⟨rfl,rfl,rfl,rfl,rfl⟩:=h
  go_enter Tryd.func17,Tryd.ntmps17
  go_wp2_with (go_at_call 32;refine (fns_known.calls a0 false _ hk).mono ?_;rintro e w1 ⟨rfl,⟨nd,rfl⟩⟩)
  refine bodyPost_ret (results_ct rfl _ _ (w.heap.size+1) 24 #[.int .i64 0,.int .i64 0,.string (⟨#[]⟩:ByteArray),.slice none 0 0] (0,0) _ rfl (by refine blk_put (cs:=#[.int .i64 0,.int .i64 0,.string (⟨#[]⟩:ByteArray),(.slice none 0 0)]) ?_ 3 _ rfl;refine blk_put (cs:=#[.int .i64 0,.int .i64 0,(.string (⟨#[]⟩:ByteArray)),(.slice none 0 0)]) ?_ 2 _ rfl;refine blk_put (cs:=#[.int .i64 0,(.int .i64 0),(.string (⟨#[]⟩:ByteArray)),(.slice none 0 0)]) ?_ 1 _ rfl;refine blk_put (cs:=#[(.int .i64 0),(.int .i64 0),(.string (⟨#[]⟩:ByteArray)),(.slice none 0 0)]) ?_ 0 _ rfl;exact blk_drewN (by have h1:=blk_new (w.alloc (.cells #[.int .i64 a1_0,.int .i64 a1_1,.string a1_2,.slice A1_3 l1_3.length c1_3] 24)) (.cells #[.int .i64 0,.int .i64 0,.string ⟨#[]⟩,.slice none 0 0] 24);rwa [show (w.alloc (.cells #[.int .i64 a1_0,.int .i64 a1_1,.string a1_2,.slice A1_3 l1_3.length c1_3] 24)).heap.size=w.heap.size+1 by simp] at h1) _) Tryd.underlying24 rfl (by kernel_rfl)) rfl ?_
  exact ⟨_,rfl,Kd.R_nil _ _ _ _ _,by repeat (first|exact below_alloc (below_alloc (Below.refl _ _) _) _|apply pw_below_drewN|refine below_set ?_ (by simp))⟩

 | true =>
  rw [if_pos rfl] at h
  by_cases c0:n < 0
  ·rw [if_pos c0] at h
   simp only [Option.some.injEq,Prod.mk.injEq] at h
   obtain ⟨rfl,rfl,rfl,rfl,rfl⟩:=h
   go_enter Tryd.func17,Tryd.ntmps17
   go_wp2_with (go_at_call 32;refine (fns_known.calls a0 true _ hk).mono ?_;rintro e w1 ⟨rfl,⟨nd,rfl⟩⟩)
   refine bodyPost_ret (results_ct rfl _ _ (w.heap.size+1) 24 #[.int .i64 0,.int .i64 0,.string (⟨#[]⟩:ByteArray),.slice none 0 0] (0,0) _ rfl (by refine blk_put (cs:=#[.int .i64 0,.int .i64 0,.string (⟨#[]⟩:ByteArray),(.slice none 0 0)]) ?_ 3 _ rfl;refine blk_put (cs:=#[.int .i64 0,.int .i64 0,(.string (⟨#[]⟩:ByteArray)),(.slice none 0 0)]) ?_ 2 _ rfl;refine blk_put (cs:=#[.int .i64 0,(.int .i64 0),(.string (⟨#[]⟩:ByteArray)),(.slice none 0 0)]) ?_ 1 _ rfl;refine blk_put (cs:=#[(.int .i64 0),(.int .i64 0),(.string (⟨#[]⟩:ByteArray)),(.slice none 0 0)]) ?_ 0 _ rfl;exact blk_drewN (by have h1:=blk_new (w.alloc (.cells #[.int .i64 a1_0,.int .i64 a1_1,.string a1_2,.slice A1_3 l1_3.length c1_3] 24)) (.cells #[.int .i64 0,.int .i64 0,.string ⟨#[]⟩,.slice none 0 0] 24);rwa [show (w.alloc (.cells #[.int .i64 a1_0,.int .i64 a1_1,.string a1_2,.slice A1_3 l1_3.length c1_3] 24)).heap.size=w.heap.size+1 by simp] at h1) _) Tryd.underlying24 rfl (by kernel_rfl)) rfl ?_
   exact ⟨_,rfl,Kd.R_nil _ _ _ _ _,by repeat (first|exact below_alloc (below_alloc (Below.refl _ _) _) _|apply pw_below_drewN|refine below_set ?_ (by simp))⟩

  rw [if_neg c0] at h
  by_cases c1:65536 < n
  ·rw [if_pos c1] at h
   simp only [Option.some.injEq,Prod.mk.injEq] at h
   obtain ⟨rfl,rfl,rfl,rfl,rfl⟩:=h
   have c0':0≤n:=by omega
   clear c0
   go_enter Tryd.func17,Tryd.ntmps17
   go_wp2_with (go_at_call 32;refine (fns_known.calls a0 true _ hk).mono ?_;rintro e w1 ⟨rfl,⟨nd,rfl⟩⟩)
   refine bodyPost_ret (results_ct rfl _ _ (w.heap.size+1) 24 #[.int .i64 0,.int .i64 0,.string (⟨#[]⟩:ByteArray),.slice none 0 0] (0,0) _ rfl (by refine blk_put (cs:=#[.int .i64 0,.int .i64 0,.string (⟨#[]⟩:ByteArray),(.slice none 0 0)]) ?_ 3 _ rfl;refine blk_put (cs:=#[.int .i64 0,.int .i64 0,(.string (⟨#[]⟩:ByteArray)),(.slice none 0 0)]) ?_ 2 _ rfl;refine blk_put (cs:=#[.int .i64 0,(.int .i64 0),(.string (⟨#[]⟩:ByteArray)),(.slice none 0 0)]) ?_ 1 _ rfl;refine blk_put (cs:=#[(.int .i64 0),(.int .i64 0),(.string (⟨#[]⟩:ByteArray)),(.slice none 0 0)]) ?_ 0 _ rfl;exact blk_drewN (by have h1:=blk_new (w.alloc (.cells #[.int .i64 a1_0,.int .i64 a1_1,.string a1_2,.slice A1_3 l1_3.length c1_3] 24)) (.cells #[.int .i64 0,.int .i64 0,.string ⟨#[]⟩,.slice none 0 0] 24);rwa [show (w.alloc (.cells #[.int .i64 a1_0,.int .i64 a1_1,.string a1_2,.slice A1_3 l1_3.length c1_3] 24)).heap.size=w.heap.size+1 by simp] at h1) _) Tryd.underlying24 rfl (by kernel_rfl)) rfl ?_
   exact ⟨_,rfl,Kd.R_nil _ _ _ _ _,by repeat (first|exact below_alloc (below_alloc (Below.refl _ _) _) _|apply pw_below_drewN|refine below_set ?_ (by simp))⟩

  rw [if_neg c1] at h
  obtain ⟨e0,he,h⟩:=Option.bind_eq_some_iff.1 h
  by_cases ce:e0=0
  ·subst ce
   rw [if_pos rfl] at h
   obtain ⟨⟨s1,s2,s3,s4⟩,hd,h⟩:=Option.bind_eq_some_iff.1 h
   obtain ⟨⟨t1,t2,t3,t4⟩,ho,h⟩:=Option.bind_eq_some_iff.1 h
   simp only [Option.some.injEq,Prod.mk.injEq] at h
   obtain ⟨rfl,rfl,rfl,rfl,rfl⟩:=h
   obtain ⟨m,rfl⟩:∃ m:Nat,n=m:=⟨n.toNat,by omega⟩
   have hcase:a0=0 ∨ a0=1 ∨ a0=2 ∨ a0=3 ∨ a0=4 ∨ a0=5 ∨ a0=6 ∨ a0=7:=by
    unfold fns_known.f at hk
    by_cases c:a0 ≥ 0
    ·rw [if_pos c] at hk
     have:=of_decide_eq_true (Option.some.inj hk)
     omega
    ·rw [if_neg c] at hk;cases hk
   rcases hcase with rfl|rfl|rfl|rfl|rfl|rfl|rfl|rfl
   ·exact times_0 k m a1_0 a1_1 a1_2 A1_3 c1_3 l1_3 _ _ _ _ s1 s2 s3 s4 w hL hr1_3 hc1_3 (by omega) he hd ho
   ·exact times_1 k m a1_0 a1_1 a1_2 A1_3 c1_3 l1_3 _ _ _ _ s1 s2 s3 s4 w hL hr1_3 hc1_3 (by omega) he hd ho
   ·exact times_2 k m a1_0 a1_1 a1_2 A1_3 c1_3 l1_3 _ _ _ _ s1 s2 s3 s4 w hL hr1_3 hc1_3 (by omega) he hd ho
   ·exact times_3 k m a1_0 a1_1 a1_2 A1_3 c1_3 l1_3 _ _ _ _ s1 s2 s3 s4 w hL hr1_3 hc1_3 (by omega) he hd ho
   ·exact times_4 k m a1_0 a1_1 a1_2 A1_3 c1_3 l1_3 _ _ _ _ s1 s2 s3 s4 w hL hr1_3 hc1_3 (by omega) he hd ho
   ·exact times_5 k m a1_0 a1_1 a1_2 A1_3 c1_3 l1_3 _ _ _ _ s1 s2 s3 s4 w hL hr1_3 hc1_3 (by omega) he hd ho
   ·exact times_6 k m a1_0 a1_1 a1_2 A1_3 c1_3 l1_3 _ _ _ _ s1 s2 s3 s4 w hL hr1_3 hc1_3 (by omega) he hd ho
   ·exact times_7 k m a1_0 a1_1 a1_2 A1_3 c1_3 l1_3 _ _ _ _ s1 s2 s3 s4 w hL hr1_3 hc1_3 (by omega) he hd ho
  ·rw [if_neg ce] at h
   simp only [Option.some.injEq,Prod.mk.injEq] at h
   obtain ⟨rfl,rfl,rfl,rfl,rfl⟩:=h
   have HLT:=Aside0.mk hL
   have HR:=Aside0.mk hr1_3
   have HC:=Aside0.mk hc1_3
   have HE:=Aside0.mk he
   have e1:(e0 != 0)=true:=bne_iff_ne.2 ce
   have c0':0≤n:=by omega
   have c1':n≤65536:=by omega
   clear hL hr1_3 hc1_3 he c0 c1
   go_enter Tryd.func17,Tryd.ntmps17
   go_wp2_with (first
    | (go_at_call 32;refine (fns_known.calls a0 true _ hk).mono ?_;rintro e w1 ⟨rfl,⟨nd,rfl⟩⟩)
    | (go_at_call 15;refine (value_Check.calls k a1_0 a1_1 a1_2 A1_3 c1_3 l1_3 e0 _ (LaidW.below HLT.out (by repeat (first|exact Below.refl _ _|apply below_alloc|apply pw_below_drewN))) (by repeat (first|exact HR.out|refine Kd.C_alloc ?_ _|refine Kd.C_drewN ?_ _)) HC.out HE.out).mono ?_;rintro e w2 ⟨rfl,hb2⟩;obtain ⟨B1,B2,hB⟩:=two_key _ a1_1 a1_2 _ w w2 ⟨hb2.os,hb2.tape,hb2.output,hb2.size,hb2.block⟩;have HB2:=Aside0.mk hB;have HK2:=Aside0.mk B2;clear hb2 B1;have y0:w2.cell? ⟨w.heap.size+1,0,none⟩=some (.int .i64 0):=(blk_cell B2 0).trans rfl;have y1:w2.cell? ⟨w.heap.size+1,1,none⟩=some (.int .i64 0):=(blk_cell B2 1).trans rfl;have y2:w2.cell? ⟨w.heap.size+1,2,none⟩=some (.string ⟨#[]⟩):=(blk_cell B2 2).trans rfl;have y3:w2.cell? ⟨w.heap.size+1,3,none⟩=some (.slice none 0 0):=(blk_cell B2 3).trans rfl;have g0:=blk_frozen B2 0;have g1:=blk_frozen B2 1;have g2:=blk_frozen B2 2;have g3:=blk_frozen B2 3;clear B2 hB))
   refine bodyPost_ret (results_ct rfl _ _ (w.heap.size+1) 24 #[.int .i64 0,.int .i64 0,.string (⟨#[]⟩:ByteArray),.slice none 0 0] (0,0) _ rfl (pu4 HK2) Tryd.underlying24 rfl (by kernel_rfl)) rfl ?_
   exact ⟨_,rfl,Kd.R_nil _ _ _ _ _,by repeat (first|exact HB2.out|refine below_set ?_ (by simp))⟩

end Go.Proofs.YtgmmoagclkmeaaaDoor.XH
