-- cut down by bundle.py (the session's own program) from the texts YtgmmoagclkmeaaaDoorPl5, YtgmmoagclkmeaaaDoorPl10, YtgmmoagclkmeaaaDoorPl11, to what this claim names
import Derived.Test.YtgmmoagclkmeaaaDoorZFnsOneXH0
import Derived.Test.YtgmmoagclkmeaaaDoorZFnsOnePl3
import Derived.Test.YtgmmoagclkmeaaaDoorZFnsOneXH1
import Derived.Test.YtgmmoagclkmeaaaDoorZFnsOneXH2
import Derived.Test.YtgmmoagclkmeaaaDoorZFnsOneXH3
import Derived.Test.YtgmmoagclkmeaaaDoorZFnsOneXH4
import Derived.Test.YtgmmoagclkmeaaaDoorZFnsOneXH6
import Derived.Test.YtgmmoagclkmeaaaDoorZFnsOneXH7
import Derived.Test.YtgmmoagclkmeaaaDoorZFnsOneXH9
import Derived.Test.YtgmmoagclkmeaaaDoorZFnsOneXH10
import Derived.WideShapes
section
namespace Go.Proofs.YtgmmoagclkmeaaaDoor.XH
open Go.RowKit Go.Proofs.YtgmmoagclkmeaaaDoorW.PrintWords Go.Proofs.YtgmmoagclkmeaaaDoorW.PrintLast Go.Proofs.YtgmmoagclkmeaaaDoorW.PrintMore
attribute [local go_sem] max2_int min2_int max_two min_two max_three min_three max_four min_four   -- for this text's walks alone
set_option linter.unusedVariables false
set_option linter.unusedSimpArgs false

mutual
def RightV:S24→Prop
 | ⟨k,n,t,l⟩ => PlainV k n t∧l.length≤1024∧(k=4 ∨ k=5 ∨ k=6 ∨ l=[])∧(k=6→l.length % 2=0)∧RightL l
def RightL:List S24→Prop
 | [] => True
 | v :: l => RightV v∧RightL l
end
theorem rightL_of:∀ l:List S24,(∀ v ∈ l,RightV v)→RightL l
 | [],_ => by simp only [RightL]
 | v :: l,h => by
  simp only [RightL]
  exact ⟨h v List.mem_cons_self,rightL_of l (fun x hx => h x (List.mem_cons_of_mem _ hx))⟩
def FitEv (a:S24):Prop:=∀ a1 a2:Int,0≤a1→a1≤16→-1024≤a2→a2≤1024→∃ r:Int,Ev (fun k => value_count.f k a.f0 a.f1 a.f2 a.f3 a1 a2) r∧Ev (fun k => spinneyref01_fits.f k a.f0 a.f1 a.f2 a.f3 a1 a2) (if r=0 then -1 else r)∧(r=0 ∨ (1≤r∧r≤a2∧RightV a))
theorem fit_loop (l:List S24) (E:∀ a ∈ l,FitEv a) (a1 a2:Int) (h1:l≠[]→1≤a1) (h2:a1≤16) (h3:a2≤1024) (hl:l.length≤1024) (x0 x1:Int) (x2:ByteArray) (b:Bool) (hb:Ev (fun k => value_form.f k x0 x1 x2 l) b) (o:Bool) (ho:Ev (fun k => spinneyref01_own.f k x0 x1 x2 l) o) (P:Prop) (hob:o=true ↔ P∧b=true) (d:Nat) :
  ∀ (i:Nat) (x7:Int),l.length - i=d→i≤l.length→1+(i:Int)≤x7→x7≤a2 →
   ∃ r:Int,Ev (fun k => value_count.l0 k a1 a2 x7 l (l.length:Int) (i:Int) x0 x1 x2 l) r∧(r=0 ∨ (1+(l.length:Int)≤r∧r≤a2∧(∀ a ∈ l.drop i,RightV a)∧b=true)) ∧
    ∃ q:Int,Ev (fun k => spinneyref01_fits.l0 k a1 a2 x7 l (l.length:Int) (i:Int) x0 x1 x2 l) q∧(P→q=if r=0 then -1 else r)∧(¬ P→q=-1):=by
 induction d with
 | zero =>
  intro i x7 hd hi hx hxa
  obtain rfl:i=l.length:=by omega
  have s1:∀ k,value_count.l0 (k+1) a1 a2 x7 l (l.length:Int) (l.length:Int) x0 x1 x2 l=(value_form.f k x0 x1 x2 l).bind fun t => if t=true then some x7 else some 0:=by
   intro k
   simp only [value_count.l0]
   rw [if_neg (by omega)]
  have s2:∀ k,spinneyref01_fits.l0 (k+1) a1 a2 x7 l (l.length:Int) (l.length:Int) x0 x1 x2 l=(spinneyref01_own.f k x0 x1 x2 l).bind fun t => if t=true then some x7 else some (-1):=by
   intro k
   simp only [spinneyref01_fits.l0]
   rw [if_neg (by omega)]
  refine ⟨if b=true then x7 else 0,Ev.step s1 (hb.bind (f:=fun _ t => if t=true then some x7 else some 0) (Ev.congr (f:=fun _ => some (if b=true then x7 else 0)) (fun k => by cases b <;> rfl) (Ev.now _))),?_,
   if o=true then x7 else -1,Ev.step s2 (ho.bind (f:=fun _ t => if t=true then some x7 else some (-1)) (Ev.congr (f:=fun _ => some (if o=true then x7 else -1)) (fun k => by cases o <;> rfl) (Ev.now _))),?_,?_⟩
  ·cases b with
   | false => exact .inl (by rw [if_neg (by decide)])
   | true => exact .inr (by rw [if_pos rfl];exact ⟨by omega,by omega,fun a ha => (by rw [List.drop_length] at ha;cases ha),rfl⟩)
  ·intro hP
   cases b with
   | false => rw [if_neg (fun h => by have:=(hob.1 h).2;cases this)];rfl
   | true => rw [if_pos (hob.2 ⟨hP,rfl⟩),if_pos rfl,if_neg (by omega)]
  ·intro hP
   rw [if_neg (fun h => hP (hob.1 h).1)]
 | succ d ih =>
  intro i x7 hd hi hx hxa
  have hlt:i < l.length:=by omega
  have ha1:=h1 (fun e => by rw [e] at hlt;simp at hlt)
  have e1:wrap64 (a1 - 1)=a1 - 1:=by unfold wrap64;omega
  have e2:wrap64 (a2 - x7)=a2 - x7:=by unfold wrap64;omega
  have e3:wrap64 ((i:Int)+1)=((i+1:Nat):Int):=by unfold wrap64;omega
  have s1:∀ k,value_count.l0 (k+1) a1 a2 x7 l (l.length:Int) (i:Int) x0 x1 x2 l=(value_count.f k (l[i]).f0 (l[i]).f1 (l[i]).f2 (l[i]).f3 (a1 - 1) (a2 - x7)).bind fun t => if t=0 then some 0 else value_count.l0 k a1 a2 (wrap64 (x7+t)) l (l.length:Int) ((i+1:Nat):Int) x0 x1 x2 l:=by
   intro k
   simp only [value_count.l0]
   rw [if_pos (by omega),if_pos (by omega),if_pos (by omega),rd_at l i hlt,e1,e2,e3]
  have s2:∀ k,spinneyref01_fits.l0 (k+1) a1 a2 x7 l (l.length:Int) (i:Int) x0 x1 x2 l=(spinneyref01_fits.f k (l[i]).f0 (l[i]).f1 (l[i]).f2 (l[i]).f3 (a1 - 1) (a2 - x7)).bind fun t => if t < 0 then some (-1) else spinneyref01_fits.l0 k a1 a2 (wrap64 (x7+t)) l (l.length:Int) ((i+1:Nat):Int) x0 x1 x2 l:=by
   intro k
   simp only [spinneyref01_fits.l0]
   rw [if_pos (by omega),if_pos (by omega),if_pos (by omega),rd_at l i hlt,e1,e2,e3]
  obtain ⟨r,hr,hq,hrr⟩:=E _ (List.getElem_mem hlt) (a1 - 1) (a2 - x7) (by omega) (by omega) (by omega) (by omega)
  by_cases hz:r=0
  ·rw [if_pos hz] at hq
   refine ⟨0,Ev.step s1 (hr.bind (f:=fun k t => if t=0 then some 0 else value_count.l0 k a1 a2 (wrap64 (x7+t)) l (l.length:Int) ((i+1:Nat):Int) x0 x1 x2 l) (Ev.congr (f:=fun _ => some 0) (fun k => if_pos hz) (Ev.now _))),.inl rfl,
    -1,Ev.step s2 (hq.bind (f:=fun k t => if t < 0 then some (-1) else spinneyref01_fits.l0 k a1 a2 (wrap64 (x7+t)) l (l.length:Int) ((i+1:Nat):Int) x0 x1 x2 l) (Ev.congr (f:=fun _ => some (-1)) (fun k => if_pos (by decide)) (Ev.now _))),fun _ => by rw [if_pos rfl],fun _ => rfl⟩
  ·rw [if_neg hz] at hq
   have hrr:=hrr.resolve_left hz
   have e4:wrap64 (x7+r)=x7+r:=by unfold wrap64;omega
   obtain ⟨r2,hr2,hrr2,q2,hq2,hP,hN⟩:=ih (i+1) (x7+r) (by omega) (by omega) (by omega) (by omega)
   refine ⟨r2,Ev.step s1 (hr.bind (f:=fun k t => if t=0 then some 0 else value_count.l0 k a1 a2 (wrap64 (x7+t)) l (l.length:Int) ((i+1:Nat):Int) x0 x1 x2 l) (Ev.congr (f:=fun k => value_count.l0 k a1 a2 (x7+r) l (l.length:Int) ((i+1:Nat):Int) x0 x1 x2 l) (fun k => by rw [if_neg hz,e4]) hr2)),?_,
    q2,Ev.step s2 (hq.bind (f:=fun k t => if t < 0 then some (-1) else spinneyref01_fits.l0 k a1 a2 (wrap64 (x7+t)) l (l.length:Int) ((i+1:Nat):Int) x0 x1 x2 l) (Ev.congr (f:=fun k => spinneyref01_fits.l0 k a1 a2 (x7+r) l (l.length:Int) ((i+1:Nat):Int) x0 x1 x2 l) (fun k => by rw [if_neg (show ¬ r < 0 by omega),e4]) hq2)),hP,hN⟩
   rcases hrr2 with h|⟨g1,g2,g3,g4⟩
   ·exact .inl h
   ·refine .inr ⟨g1,g2,fun a ha => ?_,g4⟩
    rw [List.drop_eq_getElem_cons hlt] at ha
    rcases List.mem_cons.1 ha with rfl|ha
    ·exact hrr.2.2
    ·exact g3 a ha
theorem fit_one (k n:Int) (t:ByteArray) (l:List S24) (hw:WfL l) (E:∀ a ∈ l,FitEv a):FitEv ⟨k,n,t,l⟩:=by
 intro a1 a2 h0 h1 h2 h3
 show ∃ r:Int,Ev (fun i => value_count.f i k n t l a1 a2) r∧Ev (fun i => spinneyref01_fits.f i k n t l a1 a2) (if r=0 then -1 else r)∧(r=0 ∨ (1≤r∧r≤a2∧RightV ⟨k,n,t,l⟩))
 have C:Ev (fun i => value_count.j0 i a1 a2 true k n t l) 0:=Ev.step (f:=fun _ => some 0) (fun i => by simp only [value_count.j0,if_true]) (Ev.now _)
 have F:Ev (fun i => spinneyref01_fits.j0 i a1 a2 true k n t l) (-1):=Ev.step (f:=fun _ => some (-1)) (fun i => by simp only [spinneyref01_fits.j0,if_true]) (Ev.now _)
 by_cases c1:a2 < 1
 ·exact ⟨0,Ev.step (f:=fun i => value_count.j0 i a1 a2 true k n t l) (fun i => by simp only [value_count.f];rw [if_pos c1]) C,Ev.step (f:=fun i => spinneyref01_fits.j0 i a1 a2 true k n t l) (fun i => by simp only [spinneyref01_fits.f];rw [if_pos c1]) F,.inl rfl⟩
 by_cases c2:(l.length:Int) > 0∧a1=0
 ·refine ⟨0,Ev.step (f:=fun i => value_count.j0 i a1 a2 true k n t l) (fun i => ?_) C,Ev.step (f:=fun i => spinneyref01_fits.j0 i a1 a2 true k n t l) (fun i => ?_) F,.inl rfl⟩
  ·simp only [value_count.f]
   rw [if_neg c1]
   by_cases c3:(l.length:Int) ≥ a2
   ·rw [if_pos c3]
   ·rw [if_neg c3,if_pos c2.1,if_pos c2.2]
  ·simp only [spinneyref01_fits.f]
   rw [if_neg c1,if_pos c2.1,if_pos c2.2]
 have sf:∀ i,spinneyref01_fits.f (i+1) k n t l a1 a2=spinneyref01_fits.j0 i a1 a2 (decide ((l.length:Int) > a2)) k n t l:=by
  intro i
  simp only [spinneyref01_fits.f]
  rw [if_neg c1]
  by_cases c3:(l.length:Int) > 0
  ·rw [if_pos c3,if_neg (fun h => c2 ⟨c3,h⟩)]
  ·rw [if_neg c3]
 by_cases c4:(l.length:Int) > a2
 ·refine ⟨0,Ev.step (f:=fun i => value_count.j0 i a1 a2 true k n t l) (fun i => ?_) C,Ev.step sf (by rw [show decide ((l.length:Int) > a2)=true from decide_eq_true c4];exact F),.inl rfl⟩
  simp only [value_count.f]
  rw [if_neg c1,if_pos (by omega)]
 have sf':∀ i,spinneyref01_fits.f (i+1+1) k n t l a1 a2=spinneyref01_fits.l0 i a1 a2 1 l (l.length:Int) ((0:Nat):Int) k n t l:=by
  intro i
  rw [sf,show decide ((l.length:Int) > a2)=false from decide_eq_false c4]
  simp only [spinneyref01_fits.j0]
  rw [if_neg (by decide)];rfl
 obtain ⟨b,hb,hsh,o,ho,hob⟩:=own_ev k n t l hw (by omega)
 obtain ⟨r,hr,hrr,q,hq,hP,hN⟩:=fit_loop l E a1 a2 (fun h => by have:l.length≠0:=fun e => h (List.eq_nil_of_length_eq_zero e);omega) h1 h3 (by omega) k n t b hb o ho (PlainV k n t) hob l.length 0 1 (by omega) (by omega) (by omega) (by omega)
 have hq2:Ev (fun i => spinneyref01_fits.f i k n t l a1 a2) q:=Ev.step (f:=fun i => spinneyref01_fits.f (i+1) k n t l a1 a2) (fun i => rfl) (Ev.congr (f:=fun i => spinneyref01_fits.f (i+1) k n t l a1 a2) (fun i => rfl) (Ev.step sf' hq))
 by_cases c5:(l.length:Int) ≥ a2
 ·have hr0:r=0:=by rcases hrr with h|h;exact h;omega
  have hqq:q=-1:=by
   by_cases hp:PlainV k n t
   ·rw [hP hp,if_pos hr0]
   ·exact hN hp
  refine ⟨0,Ev.step (f:=fun i => value_count.j0 i a1 a2 true k n t l) (fun i => ?_) C,by rw [if_pos rfl,← hqq];exact hq2,.inl rfl⟩
  simp only [value_count.f]
  rw [if_neg c1,if_pos c5]
 obtain ⟨p,hp,hpp⟩:=plain_ev k n t l
 have sc:∀ i,value_count.f (i+1) k n t l a1 a2=(value_plain.f i k n t l).bind fun x => value_count.j0 i a1 a2 (!x) k n t l:=by
  intro i
  simp only [value_count.f]
  rw [if_neg c1,if_neg c5]
  by_cases c3:(l.length:Int) > 0
  ·rw [if_pos c3,if_neg (fun h => c2 ⟨c3,h⟩)]
  ·rw [if_neg c3]
 cases p with
 | false =>
  have hnp:¬ PlainV k n t:=fun h => by have:=hpp.2 h;cases this
  refine ⟨0,Ev.step sc (hp.bind (f:=fun i x => value_count.j0 i a1 a2 (!x) k n t l) C),by rw [if_pos rfl,← hN hnp];exact hq2,.inl rfl⟩
 | true =>
  have hpl:=hpp.1 rfl
  refine ⟨r,Ev.step sc (hp.bind (f:=fun i x => value_count.j0 i a1 a2 (!x) k n t l) (Ev.step (f:=fun i => value_count.l0 i a1 a2 1 l (l.length:Int) ((0:Nat):Int) k n t l) (fun i => ?_) hr)),by rw [← hP hpl];exact hq2,?_⟩
  ·simp only [value_count.j0]
   rw [if_neg (by decide)];rfl
  ·rcases hrr with h|⟨g1,g2,g3,g4⟩
   ·exact .inl h
   ·refine .inr ⟨by omega,g2,?_⟩
    simp only [RightV]
    exact ⟨hpl,by omega,(hsh hpl g4).1,(hsh hpl g4).2,rightL_of l (fun v hv => g3 v (by rw [List.drop_zero];exact hv))⟩
mutual
theorem fit_ev:(a:S24)→WfV a→FitEv a
 | ⟨k,n,t,l⟩,h => fit_one k n t l (by simp only [WfV] at h;exact h.2.2.2.2) (fit_evL l (by simp only [WfV] at h;exact h.2.2.2.2))
theorem fit_evL:(l:List S24)→WfL l→∀ a ∈ l,FitEv a
 | [],_,a,ha => by cases ha
 | x :: l,h,a,ha => by
  rcases List.mem_cons.1 ha with e|ha
  ·rw [e];exact fit_ev x (by simp only [WfL] at h;exact h.1)
  ·exact fit_evL l (by simp only [WfL] at h;exact h.2) a ha
end
theorem right_ev (k n:Int) (t:ByteArray) (l:List S24) (h:WfV ⟨k,n,t,l⟩) :
  ∃ b:Bool,Ev (fun i => value_right.f i k n t l) b∧Ev (fun i => spinneyref01_Right.f i k n t l) b∧Ev (fun i => value_Check.f i k n t l) (if b=true then 0 else 3)∧(b=true→RightV ⟨k,n,t,l⟩):=by
 obtain ⟨r,h1,h2,h3⟩:=fit_ev _ h 16 1024 (by omega) (by omega) (by omega) (by omega)
 have h1:Ev (fun i => value_count.f i k n t l 16 1024) r:=h1
 have h2:Ev (fun i => spinneyref01_fits.f i k n t l 16 1024) (if r=0 then -1 else r):=h2
 have R1:Ev (fun i => value_right.f i k n t l) (decide (r > 0)):=h1.bind (f:=fun _ x => some (decide (x > 0))) (Ev.now _)
 refine ⟨decide (r > 0),R1,?_,?_,fun hb => ?_⟩
 ·have:decide (r > 0)=decide ((if r=0 then -1 else r) ≥ 0):=by
   by_cases hz:r=0
   ·rw [if_pos hz];subst hz;decide
   ·rw [if_neg hz];by_cases hp:r > 0
    ·rw [decide_eq_true hp,decide_eq_true (by omega)]
    ·rw [decide_eq_false hp,decide_eq_false (by omega)]
  rw [this]
  exact h2.bind (f:=fun _ x => some (decide (x ≥ 0))) (Ev.now _)
 ·refine R1.bind (f:=fun _ x => if x=true then some 0 else some 3) (Ev.congr (f:=fun _ => some (if decide (r > 0)=true then 0 else 3)) (fun i => ?_) (Ev.now _))
  cases decide (r > 0) <;> rfl
 ·have:=of_decide_eq_true hb
  exact (h3.resolve_left (by omega)).2.2
end Go.Proofs.YtgmmoagclkmeaaaDoor.XH
end
section
namespace Go.Proofs.YtgmmoagclkmeaaaDoor.XH
open Go.RowKit Go.Proofs.YtgmmoagclkmeaaaDoorW.PrintWords Go.Proofs.YtgmmoagclkmeaaaDoorW.PrintLast Go.Proofs.YtgmmoagclkmeaaaDoorW.PrintMore
attribute [local go_sem] max2_int min2_int max_two min_two max_three min_three max_four min_four   -- for this text's walks alone
set_option linter.unusedVariables false
set_option linter.unusedSimpArgs false

theorem ev_one {α:Type} {g:Nat→Option α} {a b:α} (h1:Ev g a) (h2:Ev g b):a=b:=by
 obtain ⟨K,h1⟩:=h1
 obtain ⟨L,h2⟩:=h2
 exact Option.some.inj ((h1 (K+L) (by omega)).symm.trans (h2 (K+L) (by omega)))
theorem bytes_nil {t:ByteArray} (h:t.toList=[]):t=⟨#[]⟩:=by
 rw [ByteArray.toList_eq] at h
 exact Go.WideShapes.bytes_inj (by rw [h])
end Go.Proofs.YtgmmoagclkmeaaaDoor.XH
end
section
namespace Go.Proofs.YtgmmoagclkmeaaaDoor.XH
open Go.RowKit Go.Proofs.YtgmmoagclkmeaaaDoorW.PrintWords Go.Proofs.YtgmmoagclkmeaaaDoorW.PrintLast Go.Proofs.YtgmmoagclkmeaaaDoorW.PrintMore
attribute [local go_sem] max2_int min2_int max_two min_two max_three min_three max_four min_four   -- for this text's walks alone
set_option linter.unusedVariables false
set_option linter.unusedSimpArgs false

mutual
def partsV:S24→Nat
 | ⟨_,_,_,l⟩ => 1+partsL l
def partsL:List S24→Nat
 | [] => 0
 | v :: l => partsV v+partsL l
end
mutual
def deepV:S24→Nat
 | ⟨_,_,_,l⟩ => deepL l
def deepL:List S24→Nat
 | [] => 0
 | v :: l => max (1+deepV v) (deepL l)
end
def Rise (st:Nat) (l:List S24):Prop:=∀ i:Nat,i % st=0→∀ (h:i+st < l.length),cmpV (l[i]'(by omega)) (l[i+st]) < 0
def FormV (k:Int) (l:List S24):Prop:=if k=4 then True else if k=6 then l.length % 2=0∧Rise 2 l else if k=5 then Rise 1 l else l=[]
mutual
def OkV:S24→Prop
 | ⟨k,n,t,l⟩ => PlainV k n t∧FormV k l∧OkL l
def OkL:List S24→Prop
 | [] => True
 | v :: l => OkV v∧OkL l
end
def OK (v:S24):Prop:=OkV v∧deepV v≤16∧partsV v≤1024
theorem partsV_pos (v:S24):1≤partsV v:=by cases v;simp only [partsV];omega
theorem partsL_len:∀ l:List S24,l.length≤partsL l
 | [] => by simp [partsL]
 | v :: l => by have:=partsL_len l;have:=partsV_pos v;simp only [partsL,List.length_cons];omega
theorem okL_mem:∀ {l:List S24},OkL l→∀ v ∈ l,OkV v
 | [],_,v,hv => by cases hv
 | a :: l,h,v,hv => by
  simp only [OkL] at h
  rcases List.mem_cons.1 hv with rfl|hv
  ·exact h.1
  ·exact okL_mem h.2 v hv
theorem partsL_mem:∀ {l:List S24} {v:S24},v ∈ l→partsV v≤partsL l
 | a :: l,v,hv => by
  simp only [partsL]
  rcases List.mem_cons.1 hv with rfl|hv
  ·omega
  ·have:=partsL_mem hv;omega
theorem deepL_mem:∀ {l:List S24} {v:S24},v ∈ l→1+deepV v≤deepL l
 | a :: l,v,hv => by
  simp only [deepL]
  rcases List.mem_cons.1 hv with rfl|hv
  ·omega
  ·have:=deepL_mem hv;omega
theorem ok_item {k n:Int} {t:ByteArray} {l:List S24} (h:OK ⟨k,n,t,l⟩) {v:S24} (hv:v ∈ l):OK v:=by
 obtain ⟨h1,h2,h3⟩:=h
 simp only [OkV,deepV,partsV] at h1 h2 h3
 have:=partsL_mem hv
 have:=deepL_mem hv
 exact ⟨okL_mem h1.2.2 v hv,by omega,by omega⟩
theorem form_loop (l:List S24) (hl:l.length≤4611686018427387904) (st:Nat) (hs:st=1 ∨ st=2) (x0 x1:Int) (x2:ByteArray) (d:Nat) :
  ∀ i:Nat,l.length - i≤d→st≤i→i % st=0→i≤l.length+2→∃ b,Ev (fun k => value_form.l0 k (st:Int) (i:Int) x0 x1 x2 l) b∧(b=true ↔ ∀ j:Nat,i≤j+st→j % st=0→∀ (h:j+st < l.length),cmpV (l[j]'(by omega)) (l[j+st]) < 0):=by
 have stop:∀ i:Nat,l.length≤i→∃ b,Ev (fun k => value_form.l0 k (st:Int) (i:Int) x0 x1 x2 l) b∧(b=true ↔ ∀ j:Nat,i≤j+st→j % st=0→∀ (h:j+st < l.length),cmpV (l[j]'(by omega)) (l[j+st]) < 0):=by
  intro i h
  refine ⟨true,Ev.step (f:=fun _ => some true) (fun k => ?_) (Ev.now _),by simp only [true_iff];intro j h1 _ h2;omega⟩
  simp only [value_form.l0]
  rw [if_neg (by omega)]
 induction d with
 | zero => intro i hd _ _ _;exact stop i (by omega)
 | succ d ih =>
  intro i hd hi hm hi2
  by_cases hlt:i < l.length
  ·have e1:wrap64 ((i:Int) - (st:Int))=((i - st:Nat):Int):=by rw [w64 (by omega) (by omega)];omega
   have e2:wrap64 ((i:Int)+(st:Int))=((i+st:Nat):Int):=by rw [w64 (by omega) (by omega)];omega
   have s1:∀ k,value_form.l0 (k+1) (st:Int) (i:Int) x0 x1 x2 l=(value_Compare.f (l[i - st]'(by omega)).f0 (l[i - st]'(by omega)).f1 (l[i - st]'(by omega)).f2 (l[i - st]'(by omega)).f3 (l[i]).f0 (l[i]).f1 (l[i]).f2 (l[i]).f3).bind fun t => if t ≥ 0 then some false else value_form.l0 k (st:Int) ((i+st:Nat):Int) x0 x1 x2 l:=by
    intro k
    simp only [value_form.l0]
    rw [if_pos (by omega),e1,if_pos (by omega),if_pos (by omega),if_pos (by omega),rd_at l (i - st) (by omega),rd_at l i hlt,e2]
   rw [show (fun k => value_form.l0 k (st:Int) (i:Int) x0 x1 x2 l)=fun k => value_form.l0 k (st:Int) (i:Int) x0 x1 x2 l from rfl]
   by_cases hc:cmpV (l[i - st]'(by omega)) (l[i]) < 0
   ·obtain ⟨b,hb,hbb⟩:=ih (i+st) (by omega) (by omega) (by rcases hs with rfl|rfl <;> omega) (by omega)
    refine ⟨b,Ev.step s1 (Ev.congr (f:=fun k => value_form.l0 k (st:Int) ((i+st:Nat):Int) x0 x1 x2 l) (fun k => ?_) hb),?_⟩
    ·rw [vcmp_is,Option.bind_some,if_neg (by omega)]
    ·rw [hbb]
     constructor
     ·intro h j hj hjm hjl
      by_cases e:i+st≤j+st
      ·exact h j e hjm hjl
      ·have:j=i - st:=by rcases hs with rfl|rfl <;> omega
       subst this
       have e3:i - st+st=i:=by omega
       simp only [e3]
       exact hc
     ·intro h j hj hjm hjl
      exact h j (by omega) hjm hjl
   ·refine ⟨false,Ev.step s1 (Ev.congr (f:=fun _ => some false) (fun k => ?_) (Ev.now _)),?_⟩
    ·rw [vcmp_is,Option.bind_some,if_pos (by omega)]
    ·simp only [Bool.false_eq_true,false_iff]
     intro h
     have e3:i - st+st=i:=by omega
     have:=h (i - st) (by omega) (by rcases hs with rfl|rfl <;> omega) (by omega)
     simp only [e3] at this
     exact hc this
  ·exact stop i (by omega)
theorem form_exact (k n:Int) (t:ByteArray) (l:List S24) (hl:l.length≤4611686018427387904) :
  ∃ b,Ev (fun i => value_form.f i k n t l) b∧(b=true ↔ FormV k l):=by
 by_cases c4:k=4
 ·exact ⟨true,Ev.congr (f:=fun _ => some true) (fun i => by unfold value_form.f;rw [if_pos c4]) (Ev.now _),by unfold FormV;rw [if_pos c4];simp⟩
 by_cases c6:k=6
 ·by_cases ho:l.length % 2=0
  ·obtain ⟨b,hb,hbb⟩:=form_loop l hl 2 (.inr rfl) k n t l.length 2 (by omega) (by omega) (by omega) (by omega)
   refine ⟨b,Ev.congr (f:=fun i => value_form.j0 i 2 k n t l) (fun i => by unfold value_form.f;rw [if_neg c4,if_pos c6,if_neg (by omega)]) (Ev.step (f:=fun i => value_form.l0 i 2 2 k n t l) (fun i => rfl) hb),?_⟩
   unfold FormV
   rw [if_neg c4,if_pos c6,hbb]
   constructor
   ·intro h;exact ⟨ho,fun i hi hh => h i (by omega) hi hh⟩
   ·intro h j _ hj hh;exact h.2 j hj hh
  ·refine ⟨false,Ev.congr (f:=fun _ => some false) (fun i => by unfold value_form.f;rw [if_neg c4,if_pos c6,if_pos (by omega)]) (Ev.now _),?_⟩
   unfold FormV
   rw [if_neg c4,if_pos c6]
   simp [ho]
 by_cases c5:k=5
 ·obtain ⟨b,hb,hbb⟩:=form_loop l hl 1 (.inl rfl) k n t l.length 1 (by omega) (by omega) (by omega) (by omega)
  refine ⟨b,Ev.congr (f:=fun i => value_form.j0 i 1 k n t l) (fun i => by unfold value_form.f;rw [if_neg c4,if_neg c6,if_pos c5]) (Ev.step (f:=fun i => value_form.l0 i 1 1 k n t l) (fun i => rfl) hb),?_⟩
  unfold FormV
  rw [if_neg c4,if_neg c6,if_pos c5,hbb]
  constructor
  ·intro h;exact fun i hi hh => h i (by omega) hi hh
  ·intro h j _ hj hh;exact h j hj hh
 ·refine ⟨(l.length:Int) == 0,Ev.congr (f:=fun _ => some ((l.length:Int) == 0)) (fun i => by unfold value_form.f;rw [if_neg c4,if_neg c6,if_neg c5]) (Ev.now _),?_⟩
  unfold FormV
  rw [if_neg c4,if_neg c6,if_neg c5,beq_iff_eq]
  constructor
  ·intro h;exact List.eq_nil_of_length_eq_zero (by omega)
  ·rintro rfl;rfl
theorem ite_zero {P Q:Prop} {ip:Decidable P} {iq:Decidable Q} {a b:Int} (h:P ↔ Q) (e:P→a=b):@ite Int P ip a 0=@ite Int Q iq b 0:=by
 by_cases hp:P
 ·rw [if_pos hp,if_pos (h.1 hp),e hp]
 ·rw [if_neg hp,if_neg (fun hq => hp (h.2 hq))]
open Classical in
noncomputable def cntZ (v:S24) (a1 a2:Int):Int:=if OkV v∧(deepV v:Int)≤a1∧(partsV v:Int)≤a2 then (partsV v:Int) else 0
open Classical in
noncomputable def cntL (k:Int) (l m:List S24) (x7 a1 a2:Int):Int:=if FormV k l∧OkL m∧(deepL m:Int)≤a1∧x7+(partsL m:Int)≤a2 then x7+(partsL m:Int) else 0
theorem cnt_loop (l:List S24) (E:∀ a ∈ l,∀ a1 a2:Int,0≤a1→a1≤65536→-1048576≤a2→a2≤1048576→Ev (fun k => value_count.f k a.f0 a.f1 a.f2 a.f3 a1 a2) (cntZ a a1 a2)) (a1 a2:Int) (h0:0≤a1) (h1:l≠[]→1≤a1) (h2:a1≤65536) (h3:a2≤1048576) (hl:l.length≤1048576) (x0 x1:Int) (x2:ByteArray) (d:Nat) :
  ∀ (i:Nat) (x7:Int),l.length - i=d→i≤l.length→1≤x7→x7≤a2→Ev (fun k => value_count.l0 k a1 a2 x7 l (l.length:Int) (i:Int) x0 x1 x2 l) (cntL x0 l (l.drop i) x7 a1 a2):=by
 induction d with
 | zero =>
  intro i x7 hd hi hx hxa
  obtain rfl:i=l.length:=by omega
  obtain ⟨b,hb,hbb⟩:=form_exact x0 x1 x2 l (by omega)
  have s1:∀ k,value_count.l0 (k+1) a1 a2 x7 l (l.length:Int) (l.length:Int) x0 x1 x2 l=(value_form.f k x0 x1 x2 l).bind fun t => if t=true then some x7 else some 0:=by
   intro k
   simp only [value_count.l0]
   rw [if_neg (by omega)]
  have hz:cntL x0 l (l.drop l.length) x7 a1 a2=if b=true then x7 else 0:=by
   unfold cntL
   rw [List.drop_length]
   by_cases hf:b=true
   ·rw [if_pos hf,if_pos ⟨hbb.1 hf,by simp only [OkL],by simp only [deepL];omega,by simp only [partsL];omega⟩]
    simp only [partsL]
    omega
   ·rw [if_neg hf,if_neg (fun h => hf (hbb.2 h.1))]
  rw [hz]
  exact Ev.step s1 (hb.bind (f:=fun _ t => if t=true then some x7 else some 0) (Ev.congr (f:=fun _ => some (if b=true then x7 else 0)) (fun k => by cases b <;> rfl) (Ev.now _)))
 | succ d ih =>
  intro i x7 hd hi hx hxa
  have hlt:i < l.length:=by omega
  have ha1:=h1 (fun e => by rw [e] at hlt;simp at hlt)
  have e1:wrap64 (a1 - 1)=a1 - 1:=by unfold wrap64;omega
  have e2:wrap64 (a2 - x7)=a2 - x7:=by unfold wrap64;omega
  have e3:wrap64 ((i:Int)+1)=((i+1:Nat):Int):=by unfold wrap64;omega
  have s1:∀ k,value_count.l0 (k+1) a1 a2 x7 l (l.length:Int) (i:Int) x0 x1 x2 l=(value_count.f k (l[i]).f0 (l[i]).f1 (l[i]).f2 (l[i]).f3 (a1 - 1) (a2 - x7)).bind fun t => if t=0 then some 0 else value_count.l0 k a1 a2 (wrap64 (x7+t)) l (l.length:Int) ((i+1:Nat):Int) x0 x1 x2 l:=by
   intro k
   simp only [value_count.l0]
   rw [if_pos (by omega),if_pos (by omega),if_pos (by omega),rd_at l i hlt,e1,e2,e3]
  have hr:=E _ (List.getElem_mem hlt) (a1 - 1) (a2 - x7) (by omega) (by omega) (by omega) (by omega)
  have hp:=partsV_pos l[i]
  have hdrop:=List.drop_eq_getElem_cons hlt
  refine Ev.step s1 (hr.bind (f:=fun k t => if t=0 then some 0 else value_count.l0 k a1 a2 (wrap64 (x7+t)) l (l.length:Int) ((i+1:Nat):Int) x0 x1 x2 l) ?_)
  by_cases hz:OkV l[i]∧(deepV l[i]:Int)≤a1 - 1∧(partsV l[i]:Int)≤a2 - x7
  ·have hc:cntZ l[i] (a1 - 1) (a2 - x7)=(partsV l[i]:Int):=if_pos hz
   rw [hc]
   have e4:wrap64 (x7+(partsV l[i]:Int))=x7+(partsV l[i]:Int):=by unfold wrap64;omega
   have hk:cntL x0 l (l.drop i) x7 a1 a2=cntL x0 l (l.drop (i+1)) (x7+(partsV l[i]:Int)) a1 a2:=by
    unfold cntL
    rw [hdrop]
    refine ite_zero ⟨fun g => ?_,fun g => ?_⟩ (fun g => ?_)
    ·simp only [OkL,deepL,partsL] at g
     exact ⟨g.1,g.2.1.2,by omega,by omega⟩
    ·simp only [OkL,deepL,partsL]
     exact ⟨g.1,⟨hz.1,g.2.1⟩,by omega,by omega⟩
    ·simp only [partsL]
     omega
   rw [hk]
   refine Ev.congr (f:=fun k => value_count.l0 k a1 a2 (x7+(partsV l[i]:Int)) l (l.length:Int) ((i+1:Nat):Int) x0 x1 x2 l) (fun k => by rw [if_neg (show ¬ (partsV l[i]:Int)=0 by omega),e4]) (ih (i+1) (x7+(partsV l[i]:Int)) (by omega) (by omega) (by omega) (by omega))
  ·have hc:cntZ l[i] (a1 - 1) (a2 - x7)=0:=if_neg hz
   rw [hc]
   have hk:cntL x0 l (l.drop i) x7 a1 a2=0:=by
    unfold cntL
    rw [hdrop]
    refine if_neg (fun g => ?_)
    simp only [OkL,deepL,partsL] at g
    exact hz ⟨g.2.1.1,by omega,by omega⟩
   rw [hk]
   exact Ev.congr (f:=fun _ => some 0) (fun k => if_pos rfl) (Ev.now _)
theorem cnt_one (k n:Int) (t:ByteArray) (l:List S24) (E:∀ a ∈ l,∀ a1 a2:Int,0≤a1→a1≤65536→-1048576≤a2→a2≤1048576→Ev (fun k => value_count.f k a.f0 a.f1 a.f2 a.f3 a1 a2) (cntZ a a1 a2)) (a1 a2:Int) (h0:0≤a1) (h1:a1≤65536) (h2:-1048576≤a2) (h3:a2≤1048576) :
  Ev (fun i => value_count.f i k n t l a1 a2) (cntZ ⟨k,n,t,l⟩ a1 a2):=by
 have hpl:=partsL_len l
 have C:Ev (fun i => value_count.j0 i a1 a2 true k n t l) 0:=Ev.step (f:=fun _ => some 0) (fun i => by simp only [value_count.j0,if_true]) (Ev.now _)
 have zero:∀ (h:¬ (OkV ⟨k,n,t,l⟩∧(deepV ⟨k,n,t,l⟩:Int)≤a1∧(partsV ⟨k,n,t,l⟩:Int)≤a2)),cntZ ⟨k,n,t,l⟩ a1 a2=0:=fun h => if_neg h
 by_cases c1:a2 < 1
 ·rw [zero (fun h => by have:=h.2.2;simp only [partsV] at this;omega)]
  exact Ev.step (f:=fun i => value_count.j0 i a1 a2 true k n t l) (fun i => by simp only [value_count.f];rw [if_pos c1]) C
 by_cases c5:(l.length:Int) ≥ a2
 ·rw [zero (fun h => by have:=h.2.2;simp only [partsV] at this;omega)]
  exact Ev.step (f:=fun i => value_count.j0 i a1 a2 true k n t l) (fun i => by simp only [value_count.f];rw [if_neg c1,if_pos c5]) C
 by_cases c2:(l.length:Int) > 0∧a1=0
 ·have hne:l≠[]:=fun e => by rw [e] at c2;simp at c2
  obtain ⟨x,m,rfl⟩:=List.exists_cons_of_ne_nil hne
  rw [zero (fun h => by have:=h.2.1;simp only [deepV,deepL] at this;omega)]
  refine Ev.step (f:=fun i => value_count.j0 i a1 a2 true k n t (x :: m)) (fun i => ?_) C
  simp only [value_count.f]
  rw [if_neg c1,if_neg c5,if_pos c2.1,if_pos c2.2]
 obtain ⟨p,hp,hpp⟩:=plain_ev k n t l
 have sc:∀ i,value_count.f (i+1) k n t l a1 a2=(value_plain.f i k n t l).bind fun x => value_count.j0 i a1 a2 (!x) k n t l:=by
  intro i
  simp only [value_count.f]
  rw [if_neg c1,if_neg c5]
  by_cases c3:(l.length:Int) > 0
  ·rw [if_pos c3,if_neg (fun h => c2 ⟨c3,h⟩)]
  ·rw [if_neg c3]
 cases p with
 | false =>
  have hnp:¬ PlainV k n t:=fun h => by have:=hpp.2 h;cases this
  rw [zero (fun h => by have:=h.1;simp only [OkV] at this;exact hnp this.1)]
  exact Ev.step sc (hp.bind (f:=fun i x => value_count.j0 i a1 a2 (!x) k n t l) C)
 | true =>
  have hpl2:=hpp.1 rfl
  have hl:=cnt_loop l E a1 a2 h0 (fun h => by have:l.length≠0:=fun e => h (List.eq_nil_of_length_eq_zero e);omega) h1 h3 (by omega) k n t l.length 0 1 (by omega) (by omega) (by omega) (by omega)
  have hk:cntZ ⟨k,n,t,l⟩ a1 a2=cntL k l (l.drop 0) 1 a1 a2:=by
   unfold cntZ cntL
   rw [List.drop_zero]
   refine ite_zero ⟨fun g => ?_,fun g => ?_⟩ (fun g => ?_)
   ·simp only [OkV,deepV,partsV] at g
    exact ⟨g.1.2.1,g.1.2.2,g.2.1,by omega⟩
   ·simp only [OkV,deepV,partsV]
    exact ⟨⟨hpl2,g.1,g.2.1⟩,g.2.2.1,by omega⟩
   ·simp only [partsV]
    omega
  rw [hk]
  exact Ev.step sc (hp.bind (f:=fun i x => value_count.j0 i a1 a2 (!x) k n t l) (Ev.step (f:=fun i => value_count.l0 i a1 a2 1 l (l.length:Int) ((0:Nat):Int) k n t l) (fun i => by simp only [value_count.j0];rw [if_neg (by decide)];rfl) hl))
mutual
theorem cnt_ev:(a:S24)→∀ a1 a2:Int,0≤a1→a1≤65536→-1048576≤a2→a2≤1048576→Ev (fun k => value_count.f k a.f0 a.f1 a.f2 a.f3 a1 a2) (cntZ a a1 a2)
 | ⟨k,n,t,l⟩ => fun a1 a2 h0 h1 h2 h3 => cnt_one k n t l (cnt_evL l) a1 a2 h0 h1 h2 h3
theorem cnt_evL:(l:List S24)→∀ a ∈ l,∀ a1 a2:Int,0≤a1→a1≤65536→-1048576≤a2→a2≤1048576→Ev (fun k => value_count.f k a.f0 a.f1 a.f2 a.f3 a1 a2) (cntZ a a1 a2)
 | [],a,ha => by cases ha
 | x :: l,a,ha => by
  rcases List.mem_cons.1 ha with e|ha
  ·rw [e];exact cnt_ev x
  ·exact cnt_evL l a ha
end
open Classical in
theorem vright_ev (v:S24):Ev (fun i => value_right.f i v.f0 v.f1 v.f2 v.f3) (decide (OK v)):=by
 have h:=cnt_ev v 16 1024 (by omega) (by omega) (by omega) (by omega)
 have:=partsV_pos v
 refine h.bind (f:=fun _ x => some (decide (x > 0))) (Ev.congr (f:=fun _ => some (decide (OK v))) (fun _ => ?_) (Ev.now _))
 unfold cntZ
 by_cases hh:OkV v∧(deepV v:Int)≤16∧(partsV v:Int)≤1024
 ·have ho:OK v:=⟨hh.1,by omega,by omega⟩
  rw [if_pos hh,decide_eq_true (show (partsV v:Int) > 0 by omega),decide_eq_true ho]
 ·have ho:¬ OK v:=fun g => hh ⟨g.1,by have:=g.2.1;omega,by have:=g.2.2;omega⟩
  rw [if_neg hh,decide_eq_false (show ¬ (0:Int) > 0 by decide),decide_eq_false ho]
open Classical in
theorem vcheck_ev (v:S24):Ev (fun i => value_Check.f i v.f0 v.f1 v.f2 v.f3) (if OK v then 0 else 3):=by
 refine (vright_ev v).bind (f:=fun _ x => if x=true then some 0 else some 3) (Ev.congr (f:=fun _ => some (if OK v then 0 else 3)) (fun _ => ?_) (Ev.now _))
 by_cases h:OK v
 ·rw [if_pos h,decide_eq_true h];rfl
 ·rw [if_neg h,decide_eq_false h];rfl
open Classical in
theorem rright_ev (v:S24) (hw:WfV v):Ev (fun i => spinneyref01_Right.f i v.f0 v.f1 v.f2 v.f3) (decide (OK v)):=by
 obtain ⟨k,n,t,l⟩:=v
 obtain ⟨b,h1,h2,_⟩:=right_ev k n t l hw
 rwa [show decide (OK ⟨k,n,t,l⟩)=b from ev_one (vright_ev ⟨k,n,t,l⟩) h1]
end Go.Proofs.YtgmmoagclkmeaaaDoor.XH
end
