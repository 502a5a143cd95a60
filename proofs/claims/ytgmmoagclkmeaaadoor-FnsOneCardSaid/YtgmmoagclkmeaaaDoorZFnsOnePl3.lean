-- cut down by bundle.py (the session's own program) from the texts YtgmmoagclkmeaaaDoorPl3, YtgmmoagclkmeaaaDoorPl1, YtgmmoagclkmeaaaDoorPl2, YtgmmoagclkmeaaaDoorPl4, to what this claim names
import Derived.Test.YtgmmoagclkmeaaaDoorZFnsOneXH0
import Derived.Test.YtgmmoagclkmeaaaDoorZFnsOneXH1
import Derived.Test.YtgmmoagclkmeaaaDoorZFnsOneXH2
import Derived.Test.YtgmmoagclkmeaaaDoorZFnsOneXH3
import Derived.Test.YtgmmoagclkmeaaaDoorZFnsOneXH4
import Derived.Test.YtgmmoagclkmeaaaDoorZFnsOneXH6
import Derived.Test.YtgmmoagclkmeaaaDoorZFnsOneXH7
import Derived.Test.YtgmmoagclkmeaaaDoorZFnsOneXH9
import Derived.Test.YtgmmoagclkmeaaaDoorZFnsOneXH10
import Derived.Lib.DecodeN
section
namespace Go.Proofs.YtgmmoagclkmeaaaDoor.XH
open Go.RowKit Go.Proofs.YtgmmoagclkmeaaaDoorW.PrintWords Go.Proofs.YtgmmoagclkmeaaaDoorW.PrintLast Go.Proofs.YtgmmoagclkmeaaaDoorW.PrintMore
attribute [local go_sem] max2_int min2_int max_two min_two max_three min_three max_four min_four   -- for this text's walks alone
set_option linter.unusedVariables false
set_option linter.unusedSimpArgs false

theorem u8_lt_or (a b:UInt8):a < b ∨ a=b ∨ b < a:=by
 rcases Nat.lt_trichotomy a.toNat b.toNat with h|h|h
 ·exact .inl (UInt8.lt_iff_toNat_lt.2 h)
 ·exact .inr (.inl (UInt8.toNat_inj.1 h))
 ·exact .inr (.inr (UInt8.lt_iff_toNat_lt.2 h))
theorem u8_irr (a:UInt8):¬ a < a:=fun h => Nat.lt_irrefl _ (UInt8.lt_iff_toNat_lt.1 h)
theorem u8_asym {a b:UInt8} (h:a < b):¬ b < a:=fun g => Nat.lt_asymm (UInt8.lt_iff_toNat_lt.1 h) (UInt8.lt_iff_toNat_lt.1 g)
theorem cmp_less:∀ a b:List UInt8,Lib.compareBytes a b=if Op.bytesLess a b=true then -1 else if Op.bytesLess b a=true then 1 else 0
 | [],[] => by simp [Lib.compareBytes,Op.bytesLess]
 | [],_ :: _ => by simp [Lib.compareBytes,Op.bytesLess]
 | _ :: _,[] => by simp [Lib.compareBytes,Op.bytesLess]
 | a :: x,b :: y => by
  simp only [Lib.compareBytes,Op.bytesLess]
  rcases u8_lt_or a b with h|rfl|h
  ·simp [h]
  ·simp [u8_irr,cmp_less x y]
  ·have hn:=u8_asym h
   have he:¬ a=b:=fun e => u8_irr b (e ▸ h)
   simp [h,hn,he]
theorem sign_is (p q:Bool):spinneyref01_sign.f p q=some (if p=true then -1 else if q=true then 1 else 0):=by
 unfold spinneyref01_sign.f
 cases p <;> cases q <;> rfl
theorem rd_at (l:List S24) (i:Nat) (h:i < l.length):rd_T24 l (i:Int)=l[i]:=by
 unfold rd_T24
 simp [List.getD_eq_getElem?_getD,h]
def CmpEv (a b:S24):Prop:=Ev (fun k => spinneyref01_Compare.f k a.f0 a.f1 a.f2 a.f3 b.f0 b.f1 b.f2 b.f3) (cmpV a b)
theorem cmp_loop (l m:List S24) (hl:l.length≤9223372036854775807) (E:∀ a ∈ l,∀ b ∈ m,CmpEv a b) (x0 x1:Int) (x2:ByteArray) (y0 y1:Int) (y2:ByteArray) (d:Nat) :
  ∀ i:Nat,l.length - i=d→i≤l.length→i≤m.length→Ev (fun k => spinneyref01_Compare.l0 k (i:Int) x0 x1 x2 l y0 y1 y2 m) (cmpL (l.drop i) (m.drop i)):=by
 have last:∀ (i:Nat) (r:Int),(if ((l.length:Int) < (m.length:Int)) then (-1:Int) else if ((l.length:Int) > (m.length:Int)) then 1 else 0)=r→Ev (fun k => spinneyref01_Compare.j3 k (i:Int) false x0 x1 x2 l y0 y1 y2 m) r:=by
  intro i r hr
  refine Ev.step (f:=fun _ => some r) (fun k => ?_) (Ev.now _)
  simp only [spinneyref01_Compare.j3]
  rw [if_neg (by decide),sign_is,Option.bind_some]
  simp only [decide_eq_true_eq]
  rw [hr]
 induction d with
 | zero =>
  intro i hd h1 h2
  obtain rfl:i=l.length:=by omega
  refine Ev.step (f:=fun k => spinneyref01_Compare.j3 k (l.length:Int) false x0 x1 x2 l y0 y1 y2 m) (fun k => ?_) (last _ _ ?_)
  ·simp only [spinneyref01_Compare.l0]
   rw [if_neg (by omega)]
  ·rw [List.drop_length]
   by_cases hm:l.length < m.length
   ·rw [if_pos (by omega),List.drop_eq_getElem_cons hm]
    simp only [cmpL]
   ·rw [if_neg (by omega),if_neg (by omega),List.drop_eq_nil_of_le (by omega)]
    simp only [cmpL]
 | succ d ih =>
  intro i hd h1 h2
  have hi:i < l.length:=by omega
  by_cases hm:i < m.length
  ·refine Ev.step (f:=fun k => spinneyref01_Compare.j3 k (i:Int) true x0 x1 x2 l y0 y1 y2 m) (fun k => ?_) ?_
   ·simp only [spinneyref01_Compare.l0]
    rw [if_pos (by omega),show decide ((i:Int) < (m.length:Int))=true from decide_eq_true (by omega)]
   ·refine Ev.step (f:=fun k => (spinneyref01_Compare.f k (l[i]).f0 (l[i]).f1 (l[i]).f2 (l[i]).f3 (m[i]).f0 (m[i]).f1 (m[i]).f2 (m[i]).f3).bind fun t => if t=0 then spinneyref01_Compare.l0 k ((i+1:Nat):Int) x0 x1 x2 l y0 y1 y2 m else some t) (fun k => ?_) ?_
    ·simp only [spinneyref01_Compare.j3]
     rw [if_pos trivial,if_pos (by omega),if_pos (by omega),if_pos (by omega),rd_at l i hi,rd_at m i hm,show wrap64 ((i:Int)+1)=((i+1:Nat):Int) by unfold wrap64;omega]
    ·rw [List.drop_eq_getElem_cons hi,List.drop_eq_getElem_cons hm]
     simp only [cmpL]
     refine (E _ (List.getElem_mem hi) _ (List.getElem_mem hm)).bind (f:=fun k t => if t=0 then spinneyref01_Compare.l0 k ((i+1:Nat):Int) x0 x1 x2 l y0 y1 y2 m else some t) ?_
     by_cases hz:cmpV l[i] m[i]=0
     ·rw [if_pos hz]
      exact Ev.congr (f:=fun k => spinneyref01_Compare.l0 k ((i+1:Nat):Int) x0 x1 x2 l y0 y1 y2 m) (fun k => if_pos hz) (ih (i+1) (by omega) (by omega) (by omega))
     ·rw [if_neg hz]
      exact Ev.congr (f:=fun _ => some _) (fun k => if_neg hz) (Ev.now _)
  ·refine Ev.step (f:=fun k => spinneyref01_Compare.j3 k (i:Int) false x0 x1 x2 l y0 y1 y2 m) (fun k => ?_) (last _ _ ?_)
   ·simp only [spinneyref01_Compare.l0]
    rw [if_pos (by omega),show decide ((i:Int) < (m.length:Int))=false from decide_eq_false (by omega)]
   ·rw [if_neg (by omega),if_pos (by omega),List.drop_eq_getElem_cons hi,show m.drop i=[] from List.drop_eq_nil_of_le (by omega)]
    simp only [cmpL]
theorem cmp_one (k n:Int) (t:ByteArray) (l:List S24) (hl:l.length≤9223372036854775807) (b:S24) (E:∀ a ∈ l,∀ c ∈ b.f3,CmpEv a c):CmpEv ⟨k,n,t,l⟩ b:=by
 obtain ⟨k',n',t',m⟩:=b
 have j1t:Ev (fun i => spinneyref01_Compare.j1 i true k n t l k' n' t' m) (cmpL l m):=by
  refine Ev.step (f:=fun i => spinneyref01_Compare.l0 i ((0:Nat):Int) k n t l k' n' t' m) (fun i => ?_) ?_
  ·simp only [spinneyref01_Compare.j1,if_true];rfl
  ·have:=cmp_loop l m hl E k n t k' n' t' l.length 0 (by omega) (by omega) (by omega)
   simpa using this
 unfold CmpEv
 simp only [cmpV]
 by_cases hk:k=k'
 ·subst hk
  rw [if_pos rfl]
  by_cases h12:k=1 ∨ k=2
  ·rw [if_pos h12]
   refine Ev.step (f:=fun i => spinneyref01_Compare.j0 i k true k n t l k n' t' m) (fun i => ?_) ?_
   ·simp only [spinneyref01_Compare.f,if_true]
    rcases h12 with rfl|rfl
    ·rfl
    ·rfl
   ·refine Ev.step (f:=fun _ => some (cmpI n n')) (fun i => ?_) (Ev.now _)
    simp only [spinneyref01_Compare.j0,if_true]
    rw [sign_is,Option.bind_some]
    simp only [decide_eq_true_eq]
    rfl
  ·rw [if_neg h12]
   refine Ev.step (f:=fun i => spinneyref01_Compare.j0 i k false k n t l k n' t' m) (fun i => ?_) ?_
   ·simp only [spinneyref01_Compare.f,if_true]
    rw [if_neg (by omega),beq_eq_false_iff_ne.2 (show k≠2 by omega)]
   ·by_cases h3:k=3
    ·rw [if_pos h3]
     refine Ev.step (f:=fun _ => some _) (fun i => ?_) (Ev.now _)
     simp only [spinneyref01_Compare.j0]
     rw [if_neg (by decide),if_pos h3,sign_is,Option.bind_some,cmp_less,ByteArray.toList_eq,ByteArray.toList_eq]
    ·rw [if_neg h3]
     by_cases h4:k=4 ∨ k=5 ∨ k=6
     ·rw [if_pos h4]
      refine Ev.step (f:=fun i => spinneyref01_Compare.j1 i true k n t l k n' t' m) (fun i => ?_) j1t
      simp only [spinneyref01_Compare.j0]
      rw [if_neg (by decide),if_neg h3]
      rcases h4 with rfl|rfl|rfl
      ·rfl
      ·rfl
      ·rfl
     ·rw [if_neg h4]
      refine Ev.step (f:=fun i => spinneyref01_Compare.j1 i false k n t l k n' t' m) (fun i => ?_) ?_
      ·simp only [spinneyref01_Compare.j0]
       rw [if_neg (by decide),if_neg h3,if_neg (by omega),if_neg (by omega),beq_eq_false_iff_ne.2 (show k≠6 by omega)]
      ·refine Ev.step (f:=fun _ => some _) (fun i => ?_) (Ev.now _)
       simp only [spinneyref01_Compare.j1]
       rw [if_neg (by decide)]
 ·rw [if_neg hk]
  refine Ev.step (f:=fun _ => some _) (fun i => ?_) (Ev.now _)
  simp only [spinneyref01_Compare.f]
  rw [if_neg hk,sign_is,Option.bind_some]
  unfold cmpI
  simp only [decide_eq_true_eq,if_true]
  by_cases hlt:k < k'
  ·rw [if_pos hlt,if_pos hlt]
  ·rw [if_neg hlt,if_neg hlt,if_pos (by omega)]
mutual
theorem cmp_ev:(a:S24)→WfV a→(b:S24)→CmpEv a b
 | ⟨k,n,t,l⟩,h,b => cmp_one k n t l (by simp only [WfV] at h;exact h.2.2.2.1) b (fun a ha c _ => cmp_evL l (by simp only [WfV] at h;exact h.2.2.2.2) a ha c)
theorem cmp_evL:(l:List S24)→WfL l→∀ a ∈ l,∀ b:S24,CmpEv a b
 | [],_,a,ha,_ => by cases ha
 | x :: l,h,a,ha,b => by
  rcases List.mem_cons.1 ha with e|ha
  ·rw [e];exact cmp_ev x (by simp only [WfL] at h;exact h.1) b
  ·exact cmp_evL l (by simp only [WfL] at h;exact h.2) a ha b
end
end Go.Proofs.YtgmmoagclkmeaaaDoor.XH
end
section
namespace Go.Proofs.YtgmmoagclkmeaaaDoor.XH
open Go.RowKit Go.Proofs.YtgmmoagclkmeaaaDoorW.PrintWords Go.Proofs.YtgmmoagclkmeaaaDoorW.PrintLast Go.Proofs.YtgmmoagclkmeaaaDoorW.PrintMore
attribute [local go_sem] max2_int min2_int max_two min_two max_three min_three max_four min_four   -- for this text's walks alone
set_option linter.unusedVariables false
set_option linter.unusedSimpArgs false

theorem bt_get (s:ByteArray) (p:Nat):bt s (p:Int)=((s.get! p).toNat:Int):=by
 unfold bt
 by_cases h:p < s.size
 ·rw [dif_pos (show ((p:Int)).toNat < s.size by simpa using h)]
  have e:s.get! p=s[p]'h:=by
   obtain ⟨a⟩:=s
   show a[p]! = _
   exact getElem!_pos a p h
  rw [e];simp
 ·rw [dif_neg (show ¬ ((p:Int)).toNat < s.size by simpa using h)]
  have e:s.get! p=0:=by
   obtain ⟨a⟩:=s
   show a[p]! = _
   exact getElem!_neg a p h
  rw [e];rfl
def by_ (s:ByteArray) (p:Nat):Nat:=(s.get! p).toNat
theorem by_lt (s:ByteArray) (p:Nat):by_ s p < 256:=(s.get! p).toNat_lt
theorem bt_by (s:ByteArray) (p:Nat):bt s (p:Int)=(by_ s p:Int):=bt_get s p
theorem w64 {x:Int} (h0:-9223372036854775808≤x) (h1:x≤9223372036854775807):wrap64 x=x:=by unfold wrap64;omega
def rest_ (s:ByteArray) (p n j:Nat):Nat→Bool
 | 0 => true
 | d+1 => if j < n then (128≤by_ s (p+j) && by_ s (p+j)≤191 && rest_ s p n (j+1) d) else true
theorem l0_ev (s:ByteArray) (p n:Nat) (hn:p+n≤s.size) (hS:s.size≤4611686018427387904) (d:Nat):∀ j:Nat,n - j=d→j≤n→Ev (fun k => spinneyref01_utf.l0 k s (p:Int) (n:Int) (j:Int)) (if rest_ s p n j d=true then (n:Int) else 0):=by
 induction d with
 | zero =>
  intro j hd hj
  obtain rfl:j=n:=by omega
  refine Ev.step (f:=fun _ => some _) (fun k => ?_) (Ev.now _)
  simp only [spinneyref01_utf.l0,rest_,if_true]
  rw [if_neg (by omega)]
 | succ d ih =>
  intro j hd hj
  have hlt:j < n:=by omega
  have e1:wrap64 ((p:Int)+(j:Int))=((p+j:Nat):Int):=by rw [w64 (by omega) (by omega)];omega
  have e2:wrap64 ((j:Int)+1)=((j+1:Nat):Int):=by rw [w64 (by omega) (by omega)];omega
  have hb:=by_lt s (p+j)
  by_cases c1:by_ s (p+j) < 128
  ·have e:rest_ s p n j (d+1)=false:=by
    simp only [rest_]
    rw [if_pos hlt,show decide (128≤by_ s (p+j))=false from decide_eq_false (by omega)];rfl
   rw [e,if_neg (by decide)]
   refine Ev.step (f:=fun _ => some _) (fun k => ?_) (Ev.now _)
   simp only [spinneyref01_utf.l0]
   rw [e1,if_pos (by omega),if_pos (by omega),if_pos (by omega),bt_by,if_pos (by omega)]
  ·by_cases c2:by_ s (p+j)≤191
   ·have e:rest_ s p n j (d+1)=rest_ s p n (j+1) d:=by
     conv => lhs;simp only [rest_]
     rw [if_pos hlt,show decide (128≤by_ s (p+j))=true from decide_eq_true (by omega),show decide (by_ s (p+j)≤191)=true from decide_eq_true c2];rfl
    rw [e]
    refine Ev.step (f:=fun k => spinneyref01_utf.l0 k s (p:Int) (n:Int) ((j+1:Nat):Int)) (fun k => ?_) (ih (j+1) (by omega) (by omega))
    simp only [spinneyref01_utf.l0]
    rw [e1,if_pos (by omega),if_pos (by omega),if_pos (by omega),bt_by,if_neg (by omega),if_neg (by omega),e2]
   ·have e:rest_ s p n j (d+1)=false:=by
     simp only [rest_]
     rw [if_pos hlt,show decide (by_ s (p+j)≤191)=false from decide_eq_false c2];simp
    rw [e,if_neg (by decide)]
    refine Ev.step (f:=fun _ => some _) (fun k => ?_) (Ev.now _)
    simp only [spinneyref01_utf.l0]
    rw [e1,if_pos (by omega),if_pos (by omega),if_pos (by omega),bt_by,if_neg (by omega),if_pos (by omega)]
def chk (s:ByteArray) (p n lo hi:Nat):Nat:=if s.size < p+n then 0 else if by_ s (p+1) < lo ∨ hi < by_ s (p+1) then 0 else if rest_ s p n 2 (n - 2)=true then n else 0
theorem j3_ev (s:ByteArray) (p n lo hi:Nat) (h2:2≤n) (hn4:n≤4) (hp:p < s.size) (hS:s.size≤4611686018427387904):Ev (fun k => spinneyref01_utf.j3 k s (p:Int) (n:Int) (lo:Int) (hi:Int)) (chk s p n lo hi:Int):=by
 have e1:wrap64 ((p:Int)+(n:Int))=((p+n:Nat):Int):=by rw [w64 (by omega) (by omega)];omega
 have e2:wrap64 ((p:Int)+1)=((p+1:Nat):Int):=by rw [w64 (by omega) (by omega)];omega
 have jt:Ev (fun k => spinneyref01_utf.j4 k s (p:Int) (n:Int) true) 0:=Ev.step (f:=fun _ => some 0) (fun k => by simp only [spinneyref01_utf.j4,if_true]) (Ev.now _)
 unfold chk
 by_cases c1:s.size < p+n
 ·refine Ev.step (f:=fun k => spinneyref01_utf.j4 k s (p:Int) (n:Int) true) (fun k => ?_) ?_
  ·simp only [spinneyref01_utf.j3]
   rw [e1,if_pos (by omega)]
  ·rw [if_pos c1];exact jt
 ·rw [if_neg c1]
  by_cases c2:by_ s (p+1) < lo
  ·refine Ev.step (f:=fun k => spinneyref01_utf.j4 k s (p:Int) (n:Int) true) (fun k => ?_) ?_
   ·simp only [spinneyref01_utf.j3]
    rw [e1,e2,if_neg (by omega),if_pos (by omega),if_pos (by omega),bt_by,if_pos (by omega)]
   ·rw [if_pos (.inl c2)];exact jt
  ·by_cases c3:hi < by_ s (p+1)
   ·refine Ev.step (f:=fun k => spinneyref01_utf.j4 k s (p:Int) (n:Int) true) (fun k => ?_) ?_
    ·simp only [spinneyref01_utf.j3]
     rw [e1,e2,if_neg (by omega),if_pos (by omega),if_pos (by omega),bt_by,if_neg (by omega),show decide ((by_ s (p+1):Int) > (hi:Int))=true from decide_eq_true (by omega)]
    ·rw [if_pos (.inr c3)];exact jt
   ·refine Ev.step (f:=fun k => spinneyref01_utf.j4 k s (p:Int) (n:Int) false) (fun k => ?_) ?_
    ·simp only [spinneyref01_utf.j3]
     rw [e1,e2,if_neg (by omega),if_pos (by omega),if_pos (by omega),bt_by,if_neg (by omega),show decide ((by_ s (p+1):Int) > (hi:Int))=false from decide_eq_false (by omega)]
    ·rw [if_neg (by omega)]
     have:=l0_ev s p n (by omega) hS (n - 2) 2 rfl h2
     refine Ev.step (f:=fun k => spinneyref01_utf.l0 k s (p:Int) (n:Int) 2) (fun k => by simp only [spinneyref01_utf.j4];rfl) ?_
     have e:(if rest_ s p n 2 (n - 2)=true then (n:Int) else 0)=((if rest_ s p n 2 (n - 2)=true then n else 0:Nat):Int):=by split <;> rfl
     rw [← e];exact this
def utfN (s:ByteArray) (p:Nat):Nat :=
 if by_ s p < 128 then 1
 else if 194≤by_ s p∧by_ s p≤223 then chk s p 2 128 191
 else if by_ s p=224 then chk s p 3 160 191
 else if by_ s p=237 then chk s p 3 128 159
 else if 224≤by_ s p∧by_ s p≤239 then chk s p 3 128 191
 else if by_ s p=240 then chk s p 4 144 191
 else if by_ s p=244 then chk s p 4 128 143
 else if 240≤by_ s p∧by_ s p≤244 then chk s p 4 128 191
 else 0
theorem utf_ev (s:ByteArray) (p:Nat) (hp:p < s.size) (hS:s.size≤4611686018427387904):Ev (fun k => spinneyref01_utf.f k s (p:Int)) (utfN s p:Int):=by
 have hb:=by_lt s p
 have j2:∀ n:Nat,2≤n→n≤4→∀ x:Nat,x=by_ s p→Ev (fun k => spinneyref01_utf.j2 k s (p:Int) (x:Int) (n:Int) 128 191) ((if x=224 then chk s p n 160 191 else if x=237 then chk s p n 128 159 else if x=240 then chk s p n 144 191 else if x=244 then chk s p n 128 143 else chk s p n 128 191:Nat):Int):=by
  intro n h2 h4 x hx
  by_cases c1:x=224
  ·exact Ev.step (f:=fun k => spinneyref01_utf.j3 k s (p:Int) (n:Int) ((160:Nat):Int) ((191:Nat):Int)) (fun k => by simp only [spinneyref01_utf.j2];rw [if_pos (by omega)];rfl) (by rw [if_pos c1];exact j3_ev s p n 160 191 h2 h4 hp hS)
  by_cases c2:x=237
  ·exact Ev.step (f:=fun k => spinneyref01_utf.j3 k s (p:Int) (n:Int) ((128:Nat):Int) ((159:Nat):Int)) (fun k => by simp only [spinneyref01_utf.j2];rw [if_neg (by omega),if_pos (by omega)];rfl) (by rw [if_neg c1,if_pos c2];exact j3_ev s p n 128 159 h2 h4 hp hS)
  by_cases c3:x=240
  ·exact Ev.step (f:=fun k => spinneyref01_utf.j3 k s (p:Int) (n:Int) ((144:Nat):Int) ((191:Nat):Int)) (fun k => by simp only [spinneyref01_utf.j2];rw [if_neg (by omega),if_neg (by omega),if_pos (by omega)];rfl) (by rw [if_neg c1,if_neg c2,if_pos c3];exact j3_ev s p n 144 191 h2 h4 hp hS)
  by_cases c4:x=244
  ·exact Ev.step (f:=fun k => spinneyref01_utf.j3 k s (p:Int) (n:Int) ((128:Nat):Int) ((143:Nat):Int)) (fun k => by simp only [spinneyref01_utf.j2];rw [if_neg (by omega),if_neg (by omega),if_neg (by omega),if_pos (by omega)];rfl) (by rw [if_neg c1,if_neg c2,if_neg c3,if_pos c4];exact j3_ev s p n 128 143 h2 h4 hp hS)
  ·exact Ev.step (f:=fun k => spinneyref01_utf.j3 k s (p:Int) (n:Int) ((128:Nat):Int) ((191:Nat):Int)) (fun k => by simp only [spinneyref01_utf.j2];rw [if_neg (by omega),if_neg (by omega),if_neg (by omega),if_neg (by omega)];rfl) (by rw [if_neg c1,if_neg c2,if_neg c3,if_neg c4];exact j3_ev s p n 128 191 h2 h4 hp hS)
 have hd:∀ k,spinneyref01_utf.f k s (p:Int)=if (by_ s p:Int) < 128 then some 1 else if (by_ s p:Int) ≥ 194 then spinneyref01_utf.j0 k s (p:Int) (by_ s p:Int) 128 191 (decide ((by_ s p:Int)≤223)) else spinneyref01_utf.j0 k s (p:Int) (by_ s p:Int) 128 191 false:=by
  intro k
  unfold spinneyref01_utf.f
  rw [if_pos (by omega),if_pos (by omega),bt_by]
 refine Ev.congr hd ?_
 unfold utfN
 by_cases c1:by_ s p < 128
 ·rw [if_pos c1];exact Ev.congr (f:=fun _ => some 1) (fun k => by rw [if_pos (by omega)]) (Ev.now _)
 rw [if_neg c1]
 by_cases c2:194≤by_ s p∧by_ s p≤223
 ·rw [if_pos c2]
  refine Ev.congr (f:=fun k => spinneyref01_utf.j0 k s (p:Int) (by_ s p:Int) 128 191 true) (fun k => by rw [if_neg (by omega),if_pos (by omega),show decide ((by_ s p:Int)≤223)=true from decide_eq_true (by omega)]) ?_
  have:=j2 2 (by omega) (by omega) _ rfl
  rw [if_neg (by omega),if_neg (by omega),if_neg (by omega),if_neg (by omega)] at this
  exact Ev.step (f:=fun k => spinneyref01_utf.j2 k s (p:Int) (by_ s p:Int) 2 128 191) (fun k => by simp only [spinneyref01_utf.j0,if_true]) this
 rw [if_neg c2]
 have j0f:∀ r:Int,Ev (fun k => if (by_ s p:Int) ≥ 224 then spinneyref01_utf.j1 k s (p:Int) (by_ s p:Int) 128 191 (decide ((by_ s p:Int)≤239)) else spinneyref01_utf.j1 k s (p:Int) (by_ s p:Int) 128 191 false) r →
   Ev (fun k => if (by_ s p:Int) < 128 then some 1 else if (by_ s p:Int) ≥ 194 then spinneyref01_utf.j0 k s (p:Int) (by_ s p:Int) 128 191 (decide ((by_ s p:Int)≤223)) else spinneyref01_utf.j0 k s (p:Int) (by_ s p:Int) 128 191 false) r:=by
  intro r h
  refine Ev.congr (f:=fun k => spinneyref01_utf.j0 k s (p:Int) (by_ s p:Int) 128 191 false) (fun k => ?_) ?_
  ·rw [if_neg (by omega)]
   by_cases c:(by_ s p:Int) ≥ 194
   ·rw [if_pos c,show decide ((by_ s p:Int)≤223)=false from decide_eq_false (by omega)]
   ·rw [if_neg c]
  ·exact Ev.step (fun k => by simp only [spinneyref01_utf.j0];rfl) h
 refine j0f _ ?_
 by_cases c3:224≤by_ s p∧by_ s p≤239
 ·refine Ev.congr (f:=fun k => spinneyref01_utf.j1 k s (p:Int) (by_ s p:Int) 128 191 true) (fun k => by rw [if_pos (by omega),show decide ((by_ s p:Int)≤239)=true from decide_eq_true (by omega)]) ?_
  have:=j2 3 (by omega) (by omega) _ rfl
  rw [if_neg (c:=by_ s p=240) (by omega),if_neg (c:=by_ s p=244) (by omega)] at this
  rw [if_pos c3]
  exact Ev.step (f:=fun k => spinneyref01_utf.j2 k s (p:Int) (by_ s p:Int) 3 128 191) (fun k => by simp only [spinneyref01_utf.j1,if_true]) this
 rw [if_neg (show ¬ by_ s p=224 by omega),if_neg (show ¬ by_ s p=237 by omega),if_neg c3]
 refine Ev.congr (f:=fun k => spinneyref01_utf.j1 k s (p:Int) (by_ s p:Int) 128 191 false) (fun k => ?_) ?_
 ·by_cases c:(by_ s p:Int) ≥ 224
  ·rw [if_pos c,show decide ((by_ s p:Int)≤239)=false from decide_eq_false (by omega)]
  ·rw [if_neg c]
 by_cases c4:240≤by_ s p∧by_ s p≤244
 ·have:=j2 4 (by omega) (by omega) _ rfl
  rw [if_neg (c:=by_ s p=224) (by omega),if_neg (c:=by_ s p=237) (by omega)] at this
  rw [if_pos c4]
  exact Ev.step (f:=fun k => spinneyref01_utf.j2 k s (p:Int) (by_ s p:Int) 4 128 191) (fun k => by simp only [spinneyref01_utf.j1];rw [if_neg (by decide),if_pos (by omega),if_pos (by omega)]) this
 ·rw [if_neg (show ¬ by_ s p=240 by omega),if_neg (show ¬ by_ s p=244 by omega),if_neg c4]
  refine Ev.step (f:=fun _ => some 0) (fun k => ?_) (Ev.now _)
  simp only [spinneyref01_utf.j1]
  rw [if_neg (by decide)]
  by_cases c:(by_ s p:Int) ≥ 240
  ·rw [if_pos c,if_neg (by omega)]
  ·rw [if_neg c]
end Go.Proofs.YtgmmoagclkmeaaaDoor.XH
end
section
namespace Go.Proofs.YtgmmoagclkmeaaaDoor.XH
open Go.RowKit Go.Proofs.YtgmmoagclkmeaaaDoorW.PrintWords Go.Proofs.YtgmmoagclkmeaaaDoorW.PrintLast Go.Proofs.YtgmmoagclkmeaaaDoorW.PrintMore
attribute [local go_sem] max2_int min2_int max_two min_two max_three min_three max_four min_four   -- for this text's walks alone
set_option linter.unusedVariables false
set_option linter.unusedSimpArgs false

def chkN (m b1 b2 b3 n lo hi:Nat):Nat:=if m < n then 0 else if b1 < lo ∨ hi < b1 then 0 else if n ≥ 3∧¬ (128≤b2∧b2≤191) then 0 else if n ≥ 4∧¬ (128≤b3∧b3≤191) then 0 else n
theorem chk_two (s:ByteArray) (p lo hi:Nat) (hp:p < s.size):chk s p 2 lo hi=chkN (s.size - p) (by_ s (p+1)) (by_ s (p+2)) (by_ s (p+3)) 2 lo hi:=by
 unfold chk chkN
 rw [show (if rest_ s p 2 2 (2 - 2)=true then (2:Nat) else 0)=2 from rfl]
 repeat' split
 all_goals omega
theorem chk_three (s:ByteArray) (p lo hi:Nat) (hp:p < s.size):chk s p 3 lo hi=chkN (s.size - p) (by_ s (p+1)) (by_ s (p+2)) (by_ s (p+3)) 3 lo hi:=by
 unfold chk chkN
 have e:(rest_ s p 3 2 (3 - 2)=true)=(128≤by_ s (p+2)∧by_ s (p+2)≤191):=by
  show (rest_ s p 3 2 (0+1)=true)=_
  simp only [rest_]
  rw [if_pos (by decide)]
  simp only [Bool.and_true,Bool.and_eq_true,decide_eq_true_eq]
 rw [show (if rest_ s p 3 2 (3 - 2)=true then (3:Nat) else 0)=if (128≤by_ s (p+2)∧by_ s (p+2)≤191) then 3 else 0 from by simp only [e]]
 repeat' split
 all_goals omega
theorem chk_four (s:ByteArray) (p lo hi:Nat) (hp:p < s.size):chk s p 4 lo hi=chkN (s.size - p) (by_ s (p+1)) (by_ s (p+2)) (by_ s (p+3)) 4 lo hi:=by
 unfold chk chkN
 have e:(rest_ s p 4 2 (4 - 2)=true)=((128≤by_ s (p+2)∧by_ s (p+2)≤191)∧(128≤by_ s (p+3)∧by_ s (p+3)≤191)):=by
  show (rest_ s p 4 2 (0+1+1)=true)=_
  simp only [rest_]
  rw [if_pos (by decide),if_pos (by decide)]
  simp only [Bool.and_true,Bool.and_eq_true,decide_eq_true_eq]
 rw [show (if rest_ s p 4 2 (4 - 2)=true then (4:Nat) else 0)=if ((128≤by_ s (p+2)∧by_ s (p+2)≤191)∧(128≤by_ s (p+3)∧by_ s (p+3)≤191)) then 4 else 0 from by simp only [e]]
 repeat' split
 all_goals omega
def utfB (m b0 b1 b2 b3:Nat):Nat :=
 if b0 < 128 then 1
 else if 194≤b0∧b0≤223 then chkN m b1 b2 b3 2 128 191
 else if b0=224 then chkN m b1 b2 b3 3 160 191
 else if b0=237 then chkN m b1 b2 b3 3 128 159
 else if 224≤b0∧b0≤239 then chkN m b1 b2 b3 3 128 191
 else if b0=240 then chkN m b1 b2 b3 4 144 191
 else if b0=244 then chkN m b1 b2 b3 4 128 143
 else if 240≤b0∧b0≤244 then chkN m b1 b2 b3 4 128 191
 else 0
theorem utfN_B (s:ByteArray) (p:Nat) (hp:p < s.size):utfN s p=utfB (s.size - p) (by_ s p) (by_ s (p+1)) (by_ s (p+2)) (by_ s (p+3)):=by
 unfold utfN utfB
 simp only [chk_two s p _ _ hp,chk_three s p _ _ hp,chk_four s p _ _ hp]
def badD (d:Nat × Nat):Prop:=d.1=65533∧d.2=1
set_option maxHeartbeats 4000000 in
theorem utfB_dec (m b0 b1 b2 b3:Nat) (h0:b0 < 256) (h1:b1 < 256) (h2:b2 < 256) (h3:b3 < 256) :
  (utfB m b0 b1 b2 b3=0∧badD (Lib.decodeN m b0 b1 b2 b3)) ∨ (utfB m b0 b1 b2 b3=(Lib.decodeN m b0 b1 b2 b3).2∧0 < utfB m b0 b1 b2 b3∧¬ badD (Lib.decodeN m b0 b1 b2 b3)):=by
 unfold utfB Lib.decodeN badD
 by_cases c0:b0 < 128
 ·rw [if_pos c0,if_pos c0];exact .inr ⟨rfl,by omega,fun h => by have:b0=65533:=h.1;omega⟩
 simp only [if_neg c0]
 by_cases c1:b0 / 32=6
 ·rw [if_neg (show ¬ b0=224 by omega),if_neg (show ¬ b0=237 by omega),if_neg (show ¬ (224≤b0∧b0≤239) by omega),if_neg (show ¬ b0=240 by omega),if_neg (show ¬ b0=244 by omega),if_neg (show ¬ (240≤b0∧b0≤244) by omega)]
  rw [if_neg (show ¬ (b0 / 16=14∧(1 < m∧b1 / 64=2)∧(2 < m∧b2 / 64=2)) by omega),if_neg (show ¬ (b0 / 8=30∧(1 < m∧b1 / 64=2)∧(2 < m∧b2 / 64=2)∧(3 < m∧b3 / 64=2)) by omega)]
  unfold chkN
  repeat' split
  all_goals (dsimp only at *;omega)
 rw [if_neg (show ¬ (194≤b0∧b0≤223) by omega),if_neg (show ¬ (b0 / 32=6∧(1 < m∧b1 / 64=2)) by omega)]
 by_cases c2:b0 / 16=14
 ·rw [if_neg (show ¬ b0=240 by omega),if_neg (show ¬ b0=244 by omega),if_neg (show ¬ (240≤b0∧b0≤244) by omega)]
  rw [if_neg (show ¬ (b0 / 8=30∧(1 < m∧b1 / 64=2)∧(2 < m∧b2 / 64=2)∧(3 < m∧b3 / 64=2)) by omega),if_pos (show 224≤b0∧b0≤239 by omega)]
  unfold chkN
  by_cases k1:b0=224
  ·subst k1
   repeat' split
   all_goals (dsimp only at *;omega)
  rw [if_neg k1]
  by_cases k2:b0=237
  ·subst k2
   repeat' split
   all_goals (dsimp only at *;omega)
  rw [if_neg k2]
  repeat' split
  all_goals (dsimp only at *;omega)
 rw [if_neg (show ¬ b0=224 by omega),if_neg (show ¬ b0=237 by omega),if_neg (show ¬ (224≤b0∧b0≤239) by omega),if_neg (show ¬ (b0 / 16=14∧(1 < m∧b1 / 64=2)∧(2 < m∧b2 / 64=2)) by omega)]
 by_cases c3:b0 / 8=30
 ·unfold chkN
  by_cases k1:b0=240
  ·subst k1
   repeat' split
   all_goals (dsimp only at *;omega)
  rw [if_neg k1]
  by_cases k2:b0=244
  ·subst k2
   repeat' split
   all_goals (dsimp only at *;omega)
  rw [if_neg k2]
  repeat' split
  all_goals (dsimp only at *;omega)
 ·rw [if_neg (show ¬ b0=240 by omega),if_neg (show ¬ b0=244 by omega),if_neg (show ¬ (240≤b0∧b0≤244) by omega),if_neg (show ¬ (b0 / 8=30∧(1 < m∧b1 / 64=2)∧(2 < m∧b2 / 64=2)∧(3 < m∧b3 / 64=2)) by omega)]
  left;exact ⟨rfl,rfl,rfl⟩
theorem utfN_dec (s:ByteArray) (p:Nat) (hp:p < s.size):(utfN s p=0∧badD (Utf8.decode s p)) ∨ (utfN s p=(Utf8.decode s p).2∧0 < utfN s p∧¬ badD (Utf8.decode s p)):=by
 rw [utfN_B s p hp,Lib.decode_at]
 exact utfB_dec _ _ _ _ _ (by_lt ..) (by_lt ..) (by_lt ..) (by_lt ..)
theorem get_extract (s:ByteArray) (p k:Nat):(s.extract p s.size).get! k=s.get! (p+k):=by
 have hs:(s.extract p s.size).size=s.size - p:=by simp [ByteArray.size_extract]
 have g:∀ (t:ByteArray) (i:Nat),t.get! i=if h:i < t.size then t[i]'h else 0:=by
  intro t i
  obtain ⟨a⟩:=t
  show a[i]! = _
  split
  ·next h => exact getElem!_pos a i h
  ·next h => exact getElem!_neg a i h
 rw [g,g]
 by_cases h:p+k < s.size
 ·rw [dif_pos (show k < (s.extract p s.size).size by omega),dif_pos h]
  simp [ByteArray.getElem_extract]
 ·rw [dif_neg (show ¬ k < (s.extract p s.size).size by omega),dif_neg h]
theorem decode_extract (s:ByteArray) (p:Nat):Utf8.decode (s.extract p s.size) 0=Utf8.decode s p:=by
 rw [Lib.decode_at,Lib.decode_at]
 simp only [get_extract,Nat.add_zero]
 rw [show (s.extract p s.size).size - 0=s.size - p by simp [ByteArray.size_extract]]
theorem decodeGo_extract (s:ByteArray) (p:Nat) (hp:p < s.size):Lib.decodeGo (s.extract p s.size)=Utf8.decode s p:=by
 unfold Lib.decodeGo
 rw [if_neg (by simp [ByteArray.size_extract];omega),decode_extract]
theorem dec_le (s:ByteArray) (p:Nat):1≤(Utf8.decode s p).2∧(Utf8.decode s p).2≤4∧(Utf8.decode s p).1≤1114111:=by
 rw [Lib.decode_at]
 have:=(s.get! p).toNat_lt
 unfold Lib.decodeN
 repeat' split
 all_goals (simp only;omega)
theorem letters_ev (s:ByteArray) (hS:s.size≤4611686018427387904) (b:Nat):∀ (p c:Nat),s.size≤p+b→p≤s.size+4→c≤p→∃ r:Int,Ev (fun k => spinneyref01_Letters.l0 k s (c:Int) (p:Int)) r∧(r ≥ 0 ↔ utfFrom s b p=true):=by
 induction b with
 | zero =>
  intro p c h1 h2 h3
  refine ⟨(c:Int),Ev.step (f:=fun _ => some (c:Int)) (fun k => ?_) (Ev.now _),by simp [utfFrom]⟩
  simp only [spinneyref01_Letters.l0]
  rw [if_neg (by omega)]
 | succ b ih =>
  intro p c h1 h2 h3
  by_cases hp:p < s.size
  ·have hd:=dec_le s p
   have hu:=utf_ev s p hp hS
   rcases utfN_dec s p hp with ⟨e,hb⟩|⟨e,h0,hb⟩
   ·refine ⟨-1,?_,?_⟩
    ·refine Ev.step (f:=fun k => (spinneyref01_utf.f k s (p:Int)).bind fun t158 => if t158=0 then some (-1) else spinneyref01_Letters.l0 k s (wrap64 ((c:Int)+1)) (wrap64 ((p:Int)+t158))) (fun k => ?_) ?_
     ·simp only [spinneyref01_Letters.l0]
      rw [if_pos (by omega)]
     ·rw [e] at hu
      exact hu.bind (f:=fun k t158 => if t158=0 then some (-1) else spinneyref01_Letters.l0 k s (wrap64 ((c:Int)+1)) (wrap64 ((p:Int)+t158))) (Ev.congr (f:=fun _ => some (-1)) (fun k => if_pos rfl) (Ev.now _))
    ·rw [utfFrom,if_pos hp,if_pos ⟨hb.1,by rw [decodeGo_extract s p hp];exact hb.2⟩]
     constructor
     ·intro h;omega
     ·intro h;cases h
   ·obtain ⟨r,hr,hi⟩:=ih (p+(Utf8.decode s p).2) (c+1) (by omega) (by omega) (by omega)
    refine ⟨r,?_,?_⟩
    ·refine Ev.step (f:=fun k => (spinneyref01_utf.f k s (p:Int)).bind fun t158 => if t158=0 then some (-1) else spinneyref01_Letters.l0 k s (wrap64 ((c:Int)+1)) (wrap64 ((p:Int)+t158))) (fun k => ?_) ?_
     ·simp only [spinneyref01_Letters.l0]
      rw [if_pos (by omega)]
     ·refine hu.bind (f:=fun k t158 => if t158=0 then some (-1) else spinneyref01_Letters.l0 k s (wrap64 ((c:Int)+1)) (wrap64 ((p:Int)+t158))) ?_
      rw [e]
      refine Ev.congr (f:=fun k => spinneyref01_Letters.l0 k s ((c+1:Nat):Int) ((p+(Utf8.decode s p).2:Nat):Int)) (fun k => ?_) hr
      rw [if_neg (by omega),w64 (by omega) (by omega),w64 (by omega) (by omega)]
      rfl
    ·rw [hi]
     rw [utfFrom,if_pos hp,if_neg]
     rintro ⟨g1,g2⟩
     rw [decodeGo_extract s p hp] at g2
     exact hb ⟨g1,g2⟩
  ·refine ⟨(c:Int),Ev.step (f:=fun _ => some (c:Int)) (fun k => ?_) (Ev.now _),by simp [utfFrom,hp]⟩
   simp only [spinneyref01_Letters.l0]
   rw [if_neg (by omega)]
theorem lettersw_ev (s:ByteArray) (hS:s.size≤4611686018427387904):∃ r:Int,Ev (fun k => spinneyref01_Letters.f k s) r∧(r ≥ 0 ↔ utfOk s=true):=letters_ev s hS s.size 0 0 (by omega) (by omega) (by omega)
end Go.Proofs.YtgmmoagclkmeaaaDoor.XH
end
section
namespace Go.Proofs.YtgmmoagclkmeaaaDoor.XH
open Go.RowKit Go.Proofs.YtgmmoagclkmeaaaDoorW.PrintWords Go.Proofs.YtgmmoagclkmeaaaDoorW.PrintLast Go.Proofs.YtgmmoagclkmeaaaDoorW.PrintMore
attribute [local go_sem] max2_int min2_int max_two min_two max_three min_three max_four min_four   -- for this text's walks alone
set_option linter.unusedVariables false
set_option linter.unusedSimpArgs false

theorem vcmp_is (a b:S24):value_Compare.f a.f0 a.f1 a.f2 a.f3 b.f0 b.f1 b.f2 b.f3=some (cmpV a b):=by
 cases a;cases b;rfl
theorem sorted_ev (l:List S24) (hw:WfL l) (hl:l.length≤4611686018427387904) (st:Nat) (hs:st=1 ∨ st=2) (x0 x1:Int) (x2:ByteArray) (d:Nat) :
  ∀ i:Nat,l.length - i≤d→st≤i→i≤l.length+2→∃ b,Ev (fun k => value_form.l0 k (st:Int) (i:Int) x0 x1 x2 l) b∧Ev (fun k => spinneyref01_own.l0 k (st:Int) (i:Int) x0 x1 x2 l) b:=by
 have stop:∀ i:Nat,l.length≤i→∃ b,Ev (fun k => value_form.l0 k (st:Int) (i:Int) x0 x1 x2 l) b∧Ev (fun k => spinneyref01_own.l0 k (st:Int) (i:Int) x0 x1 x2 l) b:=by
  intro i h
  refine ⟨true,Ev.step (f:=fun _ => some true) (fun k => ?_) (Ev.now _),Ev.step (f:=fun _ => some true) (fun k => ?_) (Ev.now _)⟩
  ·simp only [value_form.l0]
   rw [if_neg (by omega)]
  ·simp only [spinneyref01_own.l0]
   rw [if_neg (by omega)]
 induction d with
 | zero => intro i h1 h2 h3;exact stop i (by omega)
 | succ d ih =>
  intro i h1 h2 h3
  by_cases hi:i < l.length
  ·have e1:wrap64 ((i:Int) - (st:Int))=((i - st:Nat):Int):=by unfold wrap64;omega
   have e2:wrap64 ((i:Int)+(st:Int))=((i+st:Nat):Int):=by unfold wrap64;omega
   have hj:i - st < l.length:=by omega
   have hc:=cmp_evL l hw _ (List.getElem_mem hj) (l[i])
   obtain ⟨b,hb1,hb2⟩:=ih (i+st) (by omega) (by omega) (by omega)
   have s1:∀ k,value_form.l0 (k+1) (st:Int) (i:Int) x0 x1 x2 l=if cmpV l[i - st] l[i] ≥ 0 then some false else value_form.l0 k (st:Int) ((i+st:Nat):Int) x0 x1 x2 l:=by
    intro k
    simp only [value_form.l0]
    rw [e1,e2,if_pos (by omega),if_pos (by omega),if_pos (by omega),if_pos (by omega),rd_at l _ hj,rd_at l i hi,vcmp_is,Option.bind_some]
   have s2:∀ k,spinneyref01_own.l0 (k+1) (st:Int) (i:Int) x0 x1 x2 l=(spinneyref01_Compare.f k (l[i - st]).f0 (l[i - st]).f1 (l[i - st]).f2 (l[i - st]).f3 (l[i]).f0 (l[i]).f1 (l[i]).f2 (l[i]).f3).bind fun t => if t ≥ 0 then some false else spinneyref01_own.l0 k (st:Int) ((i+st:Nat):Int) x0 x1 x2 l:=by
    intro k
    simp only [spinneyref01_own.l0]
    rw [e1,e2,if_pos (by omega),if_pos (by omega),if_pos (by omega),if_pos (by omega),rd_at l _ hj,rd_at l i hi]
   by_cases hz:cmpV l[i - st] l[i] ≥ 0
   ·refine ⟨false,Ev.step (f:=fun _ => some false) (fun k => by rw [s1,if_pos hz]) (Ev.now _),Ev.step s2 ?_⟩
    exact Ev.bind (f:=fun k t => if t ≥ 0 then some false else spinneyref01_own.l0 k (st:Int) ((i+st:Nat):Int) x0 x1 x2 l) hc (Ev.congr (f:=fun _ => some false) (fun k => if_pos hz) (Ev.now _))
   ·refine ⟨b,Ev.step (f:=fun k => value_form.l0 k (st:Int) ((i+st:Nat):Int) x0 x1 x2 l) (fun k => by rw [s1,if_neg hz]) hb1,Ev.step s2 ?_⟩
    exact Ev.bind (f:=fun k t => if t ≥ 0 then some false else spinneyref01_own.l0 k (st:Int) ((i+st:Nat):Int) x0 x1 x2 l) hc (Ev.congr (f:=fun k => spinneyref01_own.l0 k (st:Int) ((i+st:Nat):Int) x0 x1 x2 l) (fun k => if_neg hz) hb2)
  ·exact stop i (by omega)
def PlainV (k n:Int) (t:ByteArray):Prop:=(0≤k∧k≤6)∧(k=3 ∨ t.toList=[])∧(k=2 ∨ n=0 ∨ (k=1∧n=1))∧(k=3→t.size≤256∧utfOk t=true)
theorem plain_ev (k n:Int) (t:ByteArray) (l:List S24):∃ p,Ev (fun i => value_plain.f i k n t l) p∧(p=true ↔ PlainV k n t):=by
 have j0t:Ev (fun i => value_plain.j0 i true k n t l) false:=Ev.step (f:=fun _ => some false) (fun i => by simp only [value_plain.j0,if_true]) (Ev.now _)
 have j0f:∀ p,(if k=1 then (if n=0 then some true else some (n == 1)) else if k=3 then (if (t.size:Int)≤256 then (value_utf.f t).bind fun x => some x else some false) else if k ≥ 0 then some (decide (k≤6)) else some false)=some p→Ev (fun i => value_plain.j0 i false k n t l) p:=by
  intro p hp
  refine Ev.step (f:=fun _ => some p) (fun i => ?_) (Ev.now _)
  simp only [value_plain.j0]
  rw [if_neg (by decide)];exact hp
 have body:∀ c:Bool,(c=true ↔ (k≠2∧k≠1∧n≠0))→(k=3 ∨ t.toList=[])→∃ p,Ev (fun i => value_plain.j0 i c k n t l) p∧(p=true ↔ PlainV k n t):=by
  intro c hc ht
  cases c with
  | true =>
   have:=hc.1 rfl
   refine ⟨false,j0t,?_⟩
   unfold PlainV
   constructor
   ·intro h;cases h
   ·intro h;omega
  | false =>
   have hn:¬ (k≠2∧k≠1∧n≠0):=fun h => by have:=hc.2 h;cases this
   by_cases k1:k=1
   ·subst k1
    by_cases n0:n=0
    ·exact ⟨true,j0f _ (by rw [if_pos rfl,if_pos n0]),by simp only [true_iff];exact ⟨by omega,ht,.inr (.inl n0),by omega⟩⟩
    ·refine ⟨n == 1,j0f _ (by rw [if_pos rfl,if_neg n0]),?_⟩
     rw [beq_iff_eq]
     constructor
     ·intro h;exact ⟨by omega,ht,.inr (.inr ⟨rfl,h⟩),by omega⟩
     ·rintro ⟨_,_,h,_⟩;omega
   ·by_cases k3:k=3
    ·subst k3
     by_cases hz:(t.size:Int)≤256
     ·refine ⟨utfOk t,j0f _ (by rw [if_neg (by decide),if_pos rfl,if_pos hz];rfl),?_⟩
      constructor
      ·intro h;exact ⟨by omega,ht,by omega,fun _ => ⟨by omega,h⟩⟩
      ·rintro ⟨_,_,_,h⟩;exact (h rfl).2
     ·refine ⟨false,j0f _ (by rw [if_neg (by decide),if_pos rfl,if_neg hz]),?_⟩
      constructor
      ·intro h;cases h
      ·rintro ⟨_,_,_,h⟩;have:=(h rfl).1;omega
    ·by_cases k0:k ≥ 0
     ·refine ⟨decide (k≤6),j0f _ (by rw [if_neg k1,if_neg k3,if_pos k0]),?_⟩
      rw [decide_eq_true_eq]
      constructor
      ·intro h;exact ⟨by omega,ht,by omega,by omega⟩
      ·rintro ⟨h,_⟩;omega
     ·refine ⟨false,j0f _ (by rw [if_neg k1,if_neg k3,if_neg k0]),?_⟩
      constructor
      ·intro h;cases h
      ·rintro ⟨h,_⟩;omega
 have tail:(k=3 ∨ t.toList=[])→∃ p,Ev (fun i => if k=2 then value_plain.j0 i false k n t l else if k=1 then value_plain.j0 i false k n t l else value_plain.j0 i (n != 0) k n t l) p∧(p=true ↔ PlainV k n t):=by
  intro ht
  by_cases k2:k=2
  ·obtain ⟨p,h1,h2⟩:=body false (by constructor;(intro h;cases h);(intro h;omega)) ht
   exact ⟨p,Ev.congr (fun i => if_pos k2) h1,h2⟩
  ·by_cases k1:k=1
   ·obtain ⟨p,h1,h2⟩:=body false (by constructor;(intro h;cases h);(intro h;omega)) ht
    exact ⟨p,Ev.congr (fun i => by rw [if_neg k2,if_pos k1]) h1,h2⟩
   ·obtain ⟨p,h1,h2⟩:=body (n != 0) (by rw [bne_iff_ne];exact ⟨fun h => ⟨k2,k1,h⟩,fun h => h.2.2⟩) ht
    exact ⟨p,Ev.congr (fun i => by rw [if_neg k2,if_neg k1]) h1,h2⟩
 by_cases k3:k=3
 ·obtain ⟨p,h1,h2⟩:=tail (.inl k3)
  exact ⟨p,Ev.congr (fun i => by unfold value_plain.f;rw [if_pos k3]) h1,h2⟩
 ·by_cases ht:t.toList=[]
  ·obtain ⟨p,h1,h2⟩:=tail (.inr ht)
   exact ⟨p,Ev.congr (fun i => by unfold value_plain.f;rw [if_neg k3,if_pos ht]) h1,h2⟩
  ·refine ⟨false,Ev.congr (fun i => by unfold value_plain.f;rw [if_neg k3,if_neg ht]) j0t,?_⟩
   constructor
   ·intro h;cases h
   ·rintro ⟨_,h,_⟩;rcases h with h|h <;> contradiction
theorem form_ev (k n:Int) (t:ByteArray) (l:List S24) (hw:WfL l) (hl:l.length≤4611686018427387904) :
  ∃ b,Ev (fun i => value_form.f i k n t l) b∧(k≠4→k≠5→k≠6→b=(l.length == 0))∧(k=6→b=true→l.length % 2=0)∧(k≠3→Ev (fun i => spinneyref01_own.j2 i (decide (¬ (k=4 ∨ k=5 ∨ k=6)∧l.length > 0)) k n t l) b):=by
 have J2:∀ b,Ev (fun i => spinneyref01_own.j3 i (if k=6 then 2 else 1) k n t l) b→Ev (fun i => spinneyref01_own.j2 i false k n t l) b:=by
  intro b h
  refine Ev.step (f:=fun i => spinneyref01_own.j3 i (if k=6 then 2 else 1) k n t l) (fun i => ?_) h
  simp only [spinneyref01_own.j2]
  rw [if_neg (by decide)]
  by_cases c:k=6
  ·rw [if_pos c,if_pos c]
  ·rw [if_neg c,if_neg c]
 by_cases k4:k=4
 ·refine ⟨true,Ev.congr (f:=fun _ => some true) (fun i => by unfold value_form.f;rw [if_pos k4]) (Ev.now _),by omega,by omega,fun _ => ?_⟩
  rw [show decide (¬ (k=4 ∨ k=5 ∨ k=6)∧l.length > 0)=false from decide_eq_false (by omega)]
  refine J2 _ ?_
  rw [if_neg (by omega)]
  refine Ev.step (f:=fun _ => some true) (fun i => ?_) (Ev.now _)
  simp only [spinneyref01_own.j3]
  rw [if_neg (by decide),if_pos (by omega),if_pos k4]
 by_cases k6:k=6
 ·by_cases hm:(l.length:Int) % 2=1
  ·refine ⟨false,Ev.congr (f:=fun _ => some false) (fun i => by unfold value_form.f;rw [if_neg k4,if_pos k6,if_pos hm]) (Ev.now _),by omega,by simp,fun _ => ?_⟩
   rw [show decide (¬ (k=4 ∨ k=5 ∨ k=6)∧l.length > 0)=false from decide_eq_false (by omega)]
   refine J2 _ ?_
   rw [if_pos k6]
   refine Ev.step (f:=fun _ => some false) (fun i => ?_) (Ev.now _)
   simp only [spinneyref01_own.j3]
   rw [if_neg (by decide),if_neg (by omega)]
  ·obtain ⟨b,h1,h2⟩:=sorted_ev l hw hl 2 (.inr rfl) k n t l.length 2 (by omega) (by omega) (by omega)
   refine ⟨b,Ev.congr (f:=fun i => value_form.j0 i 2 k n t l) (fun i => by unfold value_form.f;rw [if_neg k4,if_pos k6,if_neg hm]) (Ev.step (fun i => rfl) h1),by omega,by omega,fun _ => ?_⟩
   rw [show decide (¬ (k=4 ∨ k=5 ∨ k=6)∧l.length > 0)=false from decide_eq_false (by omega)]
   refine J2 _ ?_
   rw [if_pos k6]
   refine Ev.step (f:=fun i => spinneyref01_own.l0 i 2 2 k n t l) (fun i => ?_) h2
   simp only [spinneyref01_own.j3]
   rw [if_neg (by decide),if_pos (by omega),if_neg k4]
 obtain ⟨b,h1,h2⟩:=sorted_ev l hw hl 1 (.inl rfl) k n t l.length 1 (by omega) (by omega) (by omega)
 have O3:Ev (fun i => spinneyref01_own.j3 i (if k=6 then 2 else 1) k n t l) b:=by
  rw [if_neg k6]
  refine Ev.step (f:=fun i => spinneyref01_own.l0 i 1 1 k n t l) (fun i => ?_) h2
  simp only [spinneyref01_own.j3]
  rw [if_neg (by decide),if_pos (by omega),if_neg k4]
 by_cases k5:k=5
 ·refine ⟨b,Ev.congr (f:=fun i => value_form.j0 i 1 k n t l) (fun i => by unfold value_form.f;rw [if_neg k4,if_neg k6,if_pos k5]) (Ev.step (fun i => rfl) h1),by omega,by omega,fun _ => ?_⟩
  rw [show decide (¬ (k=4 ∨ k=5 ∨ k=6)∧l.length > 0)=false from decide_eq_false (by omega)]
  exact J2 _ O3
 ·refine ⟨l.length == 0,Ev.congr (f:=fun _ => some (l.length == 0)) (fun i => ?_) (Ev.now _),fun _ _ _ => rfl,by omega,fun _ => ?_⟩
  ·unfold value_form.f
   rw [if_neg k4,if_neg k6,if_neg k5]
   congr 1
   by_cases c:l.length=0
   ·rw [beq_iff_eq.2 c,beq_iff_eq.2 (show (l.length:Int)=0 by omega)]
   ·rw [beq_eq_false_iff_ne.2 c,beq_eq_false_iff_ne.2 (show (l.length:Int)≠0 by omega)]
  ·by_cases c:l.length > 0
   ·rw [show decide (¬ (k=4 ∨ k=5 ∨ k=6)∧l.length > 0)=true from decide_eq_true (by omega),beq_eq_false_iff_ne.2 (show l.length≠0 by omega)]
    exact Ev.step (f:=fun _ => some false) (fun i => by simp only [spinneyref01_own.j2,if_true]) (Ev.now _)
   ·rw [show decide (¬ (k=4 ∨ k=5 ∨ k=6)∧l.length > 0)=false from decide_eq_false (by omega),beq_iff_eq.2 (show l.length=0 by omega)]
    refine J2 _ ?_
    rw [if_neg k6]
    refine Ev.step (f:=fun i => spinneyref01_own.l0 i 1 1 k n t l) (fun i => ?_) (Ev.step (f:=fun _ => some true) (fun i => ?_) (Ev.now _))
    ·simp only [spinneyref01_own.j3]
     rw [if_neg (by decide),if_pos (by omega),if_neg k4]
    ·simp only [spinneyref01_own.l0]
     rw [if_neg (by omega)]
theorem own_ev (k n:Int) (t:ByteArray) (l:List S24) (hw:WfL l) (hl:l.length≤4611686018427387904) :
  ∃ b,Ev (fun i => value_form.f i k n t l) b∧(PlainV k n t→b=true→(k=4 ∨ k=5 ∨ k=6 ∨ l=[])∧(k=6→l.length % 2=0))∧∃ o,Ev (fun i => spinneyref01_own.f i k n t l) o∧(o=true ↔ PlainV k n t∧b=true):=by
 obtain ⟨b,hb,hb0,hsix,hj2⟩:=form_ev k n t l hw hl
 refine ⟨b,hb,fun hp h => ⟨?_,fun h6 => hsix h6 h⟩,?_⟩
 ·by_cases h4:k=4 ∨ k=5 ∨ k=6
  ·omega
  ·have e:=hb0 (by omega) (by omega) (by omega)
   rw [h] at e
   exact .inr (.inr (.inr (List.eq_nil_of_length_eq_zero (beq_iff_eq.1 e.symm))))
 have no:¬ PlainV k n t→∀ g:Nat→Option Bool,Ev g false→∃ o,Ev g o∧(o=true ↔ PlainV k n t∧b=true):=fun h g hg => ⟨false,hg,by constructor;(intro h';cases h');(intro h';exact absurd h'.1 h)⟩
 have J0t:Ev (fun i => spinneyref01_own.j0 i true k n t l) false:=Ev.step (f:=fun _ => some false) (fun i => by simp only [spinneyref01_own.j0,if_true]) (Ev.now _)
 by_cases k0:k < 0
 ·exact no (by unfold PlainV;omega) _ (Ev.congr (fun i => by unfold spinneyref01_own.f;rw [if_pos k0]) J0t)
 by_cases k7:k > 6
 ·exact no (by unfold PlainV;omega) _ (Ev.congr (fun i => by unfold spinneyref01_own.f;rw [if_neg k0,show decide (k > 6)=true from decide_eq_true k7]) J0t)
 have J1t:Ev (fun i => spinneyref01_own.j1 i true k n t l) false:=Ev.step (f:=fun _ => some false) (fun i => by simp only [spinneyref01_own.j1,if_true]) (Ev.now _)
 have start:∀ o (c:Bool),Ev (fun i => spinneyref01_own.j1 i c k n t l) o→(c=true ↔ ¬ (k=2 ∨ n=0 ∨ (k=1∧n=1)))→Ev (fun i => spinneyref01_own.f i k n t l) o:=by
  intro o c h hc
  refine Ev.congr (f:=fun i => spinneyref01_own.j0 i false k n t l) (fun i => by unfold spinneyref01_own.f;rw [if_neg k0,show decide (k > 6)=false from decide_eq_false k7]) ?_
  refine Ev.step (f:=fun i => spinneyref01_own.j1 i c k n t l) (fun i => ?_) h
  simp only [spinneyref01_own.j0]
  rw [if_neg (by decide)]
  by_cases a1:k=2
  ·rw [if_pos a1,show c=false by cases c;rfl;exact absurd (hc.1 rfl) (by omega)]
  rw [if_neg a1]
  by_cases a2:n=0
  ·rw [if_pos a2,show c=false by cases c;rfl;exact absurd (hc.1 rfl) (by omega)]
  rw [if_neg a2]
  by_cases a3:k=1
  ·rw [if_pos a3]
   by_cases a4:n=1
   ·rw [beq_iff_eq.2 a4,show c=false by cases c;rfl;exact absurd (hc.1 rfl) (by omega)];rfl
   ·rw [beq_eq_false_iff_ne.2 a4,hc.2 (by omega)];rfl
  ·rw [if_neg a3,hc.2 (by omega)];rfl
 by_cases hn:k=2 ∨ n=0 ∨ (k=1∧n=1)
 case neg => exact no (fun h => hn h.2.2.1) _ (start _ true J1t ⟨fun _ => hn,fun _ => rfl⟩)
 have start:=fun o h => start o false h ⟨fun h => (by cases h),fun h => absurd hn h⟩
 by_cases k3:k=3
 ·by_cases hz:(t.size:Int)≤256
  ·obtain ⟨r,hr,hi⟩:=lettersw_ev t (by omega)
   have e:∀ i,spinneyref01_own.j1 (i+1) false k n t l=(spinneyref01_Letters.f i t).bind fun x => if x ≥ 0 then some ((l.length:Int) == 0) else some false:=by
    intro i
    simp only [spinneyref01_own.j1]
    rw [if_neg (by decide),if_pos k3,if_pos hz]
   by_cases hu:utfOk t=true
   ·refine ⟨b,start _ (Ev.step e ?_),?_⟩
    ·refine hr.bind (f:=fun _ x => if x ≥ 0 then some ((l.length:Int) == 0) else some false) (Ev.congr (f:=fun _ => some b) (fun i => ?_) (Ev.now _))
     rw [if_pos (hi.2 hu),hb0 (by omega) (by omega) (by omega)]
     congr 1
     by_cases c:l.length=0
     ·rw [beq_iff_eq.2 c,beq_iff_eq.2 (show (l.length:Int)=0 by omega)]
     ·rw [beq_eq_false_iff_ne.2 c,beq_eq_false_iff_ne.2 (show (l.length:Int)≠0 by omega)]
    ·exact ⟨fun h => ⟨⟨by omega,.inl k3,hn,fun _ => ⟨by omega,hu⟩⟩,h⟩,fun h => h.2⟩
   ·refine no (fun h => hu (h.2.2.2 k3).2) _ (start _ (Ev.step e ?_))
    exact hr.bind (f:=fun _ x => if x ≥ 0 then some ((l.length:Int) == 0) else some false) (Ev.congr (f:=fun _ => some false) (fun i => if_neg (fun h => hu (hi.1 h))) (Ev.now _))
  ·refine no (fun h => by have:=(h.2.2.2 k3).1;omega) _ (start _ (Ev.step (f:=fun _ => some false) (fun i => ?_) (Ev.now _)))
   simp only [spinneyref01_own.j1]
   rw [if_neg (by decide),if_pos k3,if_neg hz]
 ·by_cases ht:t.toList=[]
  ·refine ⟨b,start _ (Ev.step (f:=fun i => spinneyref01_own.j2 i (decide (¬ (k=4 ∨ k=5 ∨ k=6)∧l.length > 0)) k n t l) (fun i => ?_) (hj2 k3)),?_⟩
   ·simp only [spinneyref01_own.j1]
    rw [if_neg (by decide),if_neg k3,if_pos ht]
    unfold spinneyref01_coll.f
    by_cases c4:k=4
    ·rw [if_pos c4,Option.bind_some,if_pos rfl,show decide (¬ (k=4 ∨ k=5 ∨ k=6)∧l.length > 0)=false from decide_eq_false (by omega)]
    rw [if_neg c4]
    by_cases c5:k=5
    ·rw [if_pos c5,Option.bind_some,if_pos rfl,show decide (¬ (k=4 ∨ k=5 ∨ k=6)∧l.length > 0)=false from decide_eq_false (by omega)]
    rw [if_neg c5,Option.bind_some]
    by_cases c6:k=6
    ·rw [beq_iff_eq.2 c6,if_pos rfl,show decide (¬ (k=4 ∨ k=5 ∨ k=6)∧l.length > 0)=false from decide_eq_false (by omega)]
    ·rw [beq_eq_false_iff_ne.2 c6,if_neg (by decide)]
     by_cases c:l.length > 0
     ·rw [show decide (¬ (k=4 ∨ k=5 ∨ k=6)∧l.length > 0)=true from decide_eq_true (by omega),show decide ((l.length:Int) > 0)=true from decide_eq_true (by omega)]
     ·rw [show decide (¬ (k=4 ∨ k=5 ∨ k=6)∧l.length > 0)=false from decide_eq_false (by omega),show decide ((l.length:Int) > 0)=false from decide_eq_false (by omega)]
   ·exact ⟨fun h => ⟨⟨by omega,.inr ht,hn,fun h => absurd h k3⟩,h⟩,fun h => h.2⟩
  ·refine no (fun h => by rcases h.2.1 with h|h <;> contradiction) _ (start _ (Ev.step (f:=fun i => spinneyref01_own.j2 i true k n t l) (fun i => ?_) ?_))
   ·simp only [spinneyref01_own.j1]
    rw [if_neg (by decide),if_neg k3,if_neg ht]
   ·exact Ev.step (f:=fun _ => some false) (fun i => by simp only [spinneyref01_own.j2,if_true]) (Ev.now _)
end Go.Proofs.YtgmmoagclkmeaaaDoor.XH
end
