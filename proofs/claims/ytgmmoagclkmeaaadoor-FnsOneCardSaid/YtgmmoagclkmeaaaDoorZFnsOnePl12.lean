-- cut down by bundle.py (the session's own program) from the texts YtgmmoagclkmeaaaDoorPl12, YtgmmoagclkmeaaaDoorPl13, YtgmmoagclkmeaaaDoorPl14, YtgmmoagclkmeaaaDoorPl15, YtgmmoagclkmeaaaDoorPl16, YtgmmoagclkmeaaaDoorPureFnsOne, to what this claim names
import Derived.Test.YtgmmoagclkmeaaaDoorZFnsOneXH0
import Derived.Test.YtgmmoagclkmeaaaDoorZFnsOnePl5
import Derived.Test.YtgmmoagclkmeaaaDoorZFnsOneXH1
import Derived.Test.YtgmmoagclkmeaaaDoorZFnsOneXH2
import Derived.Test.YtgmmoagclkmeaaaDoorZFnsOneXH3
import Derived.Test.YtgmmoagclkmeaaaDoorZFnsOneXH4
import Derived.Test.YtgmmoagclkmeaaaDoorZFnsOneXH5
import Derived.Test.YtgmmoagclkmeaaaDoorZFnsOneXH6
import Derived.Test.YtgmmoagclkmeaaaDoorZFnsOneXH7
import Derived.Test.YtgmmoagclkmeaaaDoorZFnsOneXH9
import Derived.Test.YtgmmoagclkmeaaaDoorZFnsOneXH10
import Derived.Test.YtgmmoagclkmeaaaDoorZFnsOneXH11
import Derived.Test.YtgmmoagclkmeaaaDoorZFnsOneXH12
import Derived.Test.YtgmmoagclkmeaaaDoorZFnsOneXH13
import Derived.Test.YtgmmoagclkmeaaaDoorZFnsOneXH14
import Derived.Test.YtgmmoagclkmeaaaDoorZFnsOneXH15
import Derived.Test.YtgmmoagclkmeaaaDoorZFnsOneXH16
import Derived.Test.YtgmmoagclkmeaaaDoorZFnsOneXH20
import Derived.Test.YtgmmoagclkmeaaaDoorZFnsOneXH21
import Derived.Test.YtgmmoagclkmeaaaDoorZFnsOneXH22
import Derived.Test.YtgmmoagclkmeaaaDoorZFnsOneXH23
import Derived.Lib.MapLaws
import Derived.Lib.DecodeN
section
namespace Go.Proofs.YtgmmoagclkmeaaaDoor.XH
open Go.RowKit Go.Proofs.YtgmmoagclkmeaaaDoorW.PrintWords Go.Proofs.YtgmmoagclkmeaaaDoorW.PrintLast Go.Proofs.YtgmmoagclkmeaaaDoorW.PrintMore
attribute [local go_sem] max2_int min2_int max_two min_two max_three min_three max_four min_four   -- for this text's walks alone
set_option linter.unusedVariables false
set_option linter.unusedSimpArgs false

theorem u8_of {n:Nat} {z:Int} (h:z=(n:Int)):z.toNat.toUInt8=UInt8.ofNat n:=by
 subst h
 simp
theorem enc_list (r:Int) (h0:0≤r) (h1:r≤1114111) (hv:r < 55296 ∨ 57343 < r):(Utf8.encode r).data.toList=Lib.encodeRune r:=by
 have hval:Utf8.valid r=true:=by
  unfold Utf8.valid
  simp only [Bool.or_eq_true,Bool.and_eq_true,decide_eq_true_eq]
  omega
 obtain ⟨n,rfl⟩:∃ n:Nat,r=n:=⟨r.toNat,by omega⟩
 unfold Utf8.encode Lib.encodeRune
 simp only [hval,if_true,Int.toNat_natCast]
 by_cases c1:n < 128
 ·rw [if_pos c1,Lib.encodeRuneZ_one (by omega) (by omega)]
  simp only [List.map_cons,List.map_nil]
  rw [u8_of (n:=n) rfl]
 rw [if_neg c1]
 by_cases c2:n < 2048
 ·rw [if_pos c2,Lib.encodeRuneZ_two (by omega) (by omega)]
  simp only [List.map_cons,List.map_nil]
  rw [u8_of (n:=192+n / 64) (by omega),u8_of (n:=128+n % 64) (by omega)]
 rw [if_neg c2]
 by_cases c3:n < 65536
 ·rw [if_pos c3,Lib.encodeRuneZ_three (by omega)]
  simp only [List.map_cons,List.map_nil]
  rw [u8_of (n:=224+n / 4096) (by omega),u8_of (n:=128+n / 64 % 64) (by omega),u8_of (n:=128+n % 64) (by omega)]
 ·rw [if_neg c3,Lib.encodeRuneZ_four (by omega) (by omega)]
  simp only [List.map_cons,List.map_nil]
  rw [u8_of (n:=240+n / 262144) (by omega),u8_of (n:=128+n / 4096 % 64) (by omega),u8_of (n:=128+n / 64 % 64) (by omega),u8_of (n:=128+n % 64) (by omega)]
theorem dec_valid (s:ByteArray) (p:Nat):(Utf8.decode s p).1 < 55296 ∨ 57343 < (Utf8.decode s p).1:=by
 rw [Lib.decode_at]
 have k0:=(s.get! p).toNat_lt
 rcases Lib.decodeN_shape (s.size - p) (s.get! p).toNat (s.get! (p+1)).toNat (s.get! (p+2)).toNat (s.get! (p+3)).toNat with ⟨c,e⟩|⟨c1,c2,c3,cv,e⟩|⟨c1,c2,c3,c4,cv,cs,e⟩|⟨c1,c2,c3,c4,c5,cv,cw,e⟩|e
 all_goals (rw [e];simp only;omega)
theorem enc_first (s:ByteArray) (h:0 < s.size) (hb:¬ badD (Utf8.decode s 0)):Utf8.encode ((Utf8.decode s 0).1:Int)=s.extract 0 (Utf8.decode s 0).2:=by
 have hl:s.data.toList≠[]:=by
  intro e
  have h2:s.data.toList.length=0:=by rw [e];rfl
  rw [Array.length_toList] at h2
  have h3:s.size=s.data.size:=rfl
  omega
 have hs:(⟨s.data.toList.toArray⟩:ByteArray)=s:=by cases s;simp
 have hd:Lib.decodeL s.data.toList=Utf8.decode s 0:=by unfold Lib.decodeL;rw [hs]
 have he:=Lib.encode_decode s.data.toList hl (by rw [hd];exact hb)
 rw [hd] at he
 have hr:=dec_le s 0
 have hv:=dec_valid s 0
 have h1:=enc_list ((Utf8.decode s 0).1:Int) (by omega) (by omega) (by omega)
 rw [he] at h1
 have h2:(s.extract 0 (Utf8.decode s 0).2).data.toList=s.data.toList.take (Utf8.decode s 0).2:=by simp
 apply ByteArray.ext
 apply Array.toList_inj.1
 rw [h1,h2]
theorem letters_exact (s:ByteArray) (hS:s.size≤4611686018427387904) (b:Nat):∀ (p c:Nat),s.size≤p+b→p≤s.size+4→c≤p→utfFrom s b p=true→Ev (fun k => spinneyref01_Letters.l0 k s (c:Int) (p:Int)) ((c+cntFrom s b p:Nat):Int):=by
 induction b with
 | zero =>
  intro p c h1 h2 h3 _
  refine Ev.step (f:=fun _ => some ((c+cntFrom s 0 p:Nat):Int)) (fun k => ?_) (Ev.now _)
  simp only [spinneyref01_Letters.l0]
  rw [if_neg (by omega)]
  simp [cntFrom]
 | succ b ih =>
  intro p c h1 h2 h3 hu
  by_cases hp:p < s.size
  ·have hd:=dec_le s p
   have huf:=utf_ev s p hp hS
   rw [utfFrom,if_pos hp] at hu
   rcases utfN_dec s p hp with ⟨e,hb⟩|⟨e,h0,hb⟩
   ·rw [if_pos ⟨hb.1,by rw [decodeGo_extract s p hp];exact hb.2⟩] at hu
    cases hu
   ·have hn:¬ ((Utf8.decode s p).1=65533∧(Lib.decodeGo (s.extract p s.size)).2=1):=by
     rintro ⟨g1,g2⟩
     rw [decodeGo_extract s p hp] at g2
     exact hb ⟨g1,g2⟩
    rw [if_neg hn] at hu
    have hr:=ih (p+(Utf8.decode s p).2) (c+1) (by omega) (by omega) (by omega) hu
    rw [show c+cntFrom s (b+1) p=c+1+cntFrom s b (p+(Utf8.decode s p).2) by rw [cntFrom,if_pos hp];omega]
    refine Ev.step (f:=fun k => (spinneyref01_utf.f k s (p:Int)).bind fun t158 => if t158=0 then some (-1) else spinneyref01_Letters.l0 k s (wrap64 ((c:Int)+1)) (wrap64 ((p:Int)+t158))) (fun k => ?_) ?_
    ·simp only [spinneyref01_Letters.l0]
     rw [if_pos (by omega)]
    ·refine huf.bind (f:=fun k t158 => if t158=0 then some (-1) else spinneyref01_Letters.l0 k s (wrap64 ((c:Int)+1)) (wrap64 ((p:Int)+t158))) ?_
     rw [e]
     refine Ev.congr (f:=fun k => spinneyref01_Letters.l0 k s ((c+1:Nat):Int) ((p+(Utf8.decode s p).2:Nat):Int)) (fun k => ?_) hr
     rw [if_neg (by omega),w64 (by omega) (by omega),w64 (by omega) (by omega)]
     rfl
  ·refine Ev.step (f:=fun _ => some ((c+cntFrom s (b+1) p:Nat):Int)) (fun k => ?_) (Ev.now _)
   simp only [spinneyref01_Letters.l0]
   rw [if_neg (by omega)]
   simp [cntFrom,hp]
theorem letters_is (s:ByteArray) (hS:s.size≤4611686018427387904) (h:utfOk s=true):Ev (fun k => spinneyref01_Letters.f k s) ((cntFrom s s.size 0:Nat):Int):=by
 have:=letters_exact s hS s.size 0 0 (by omega) (by omega) (by omega) h
 rwa [Nat.zero_add] at this
theorem utf_notbad (s:ByteArray) (hz:0 < s.size) (h:utfOk s=true):¬ badD (Utf8.decode s 0):=by
 intro hb
 unfold utfOk at h
 obtain ⟨n,hn⟩:∃ n,s.size=n+1:=⟨s.size - 1,by omega⟩
 rw [hn,utfFrom,if_pos hz,if_pos ⟨hb.1,by rw [decodeGo_extract s 0 hz];exact hb.2⟩] at h
 cases h
theorem nil_toList:(⟨#[]⟩:ByteArray).toList=[]:=by decide +kernel
theorem size_pos_of {s:ByteArray} (h:s.toList≠[]):0 < s.size:=by
 rcases Nat.eq_zero_or_pos s.size with h0|h0
 ·exact absurd (by obtain ⟨a⟩:=s;have:a=#[]:=Array.eq_empty_of_size_eq_zero h0;subst this;exact nil_toList) h
 ·exact h0
def SameEv (a:S24):Prop:=Ev (fun k => spinneyplain_Value.f k a.f0 a.f1 a.f2 a.f3 a.f0 a.f1 a.f2 a.f3) true
theorem same_loop (l:List S24) (hl:l.length≤9223372036854775807) (E:∀ a ∈ l,SameEv a) (x0 x1:Int) (x2:ByteArray) (d:Nat) :
  ∀ i:Nat,l.length - i=d→i≤l.length→Ev (fun k => spinneyplain_Value.l0 k (l.length:Int) (i:Int) x0 x1 x2 l x0 x1 x2 l) true:=by
 induction d with
 | zero =>
  intro i hd hi
  refine Ev.step (f:=fun _ => some true) (fun k => ?_) (Ev.now _)
  simp only [spinneyplain_Value.l0]
  rw [if_neg (by omega)]
 | succ d ih =>
  intro i hd hi
  have hlt:i < l.length:=by omega
  have e3:wrap64 ((i:Int)+1)=((i+1:Nat):Int):=by unfold wrap64;omega
  have he:Ev (fun k => spinneyplain_Value.f k (l[i]).f0 (l[i]).f1 (l[i]).f2 (l[i]).f3 (l[i]).f0 (l[i]).f1 (l[i]).f2 (l[i]).f3) true:=E _ (List.getElem_mem hlt)
  refine Ev.step (f:=fun k => (spinneyplain_Value.f k (l[i]).f0 (l[i]).f1 (l[i]).f2 (l[i]).f3 (l[i]).f0 (l[i]).f1 (l[i]).f2 (l[i]).f3).bind fun t => if t=true then spinneyplain_Value.l0 k (l.length:Int) ((i+1:Nat):Int) x0 x1 x2 l x0 x1 x2 l else some false) (fun k => ?_) ?_
  ·simp only [spinneyplain_Value.l0]
   rw [if_pos (by omega),if_pos (by omega),if_pos (by omega),if_pos (by omega),rd_at l i hlt,e3]
  ·exact he.bind (f:=fun k t => if t=true then spinneyplain_Value.l0 k (l.length:Int) ((i+1:Nat):Int) x0 x1 x2 l x0 x1 x2 l else some false) (Ev.congr (f:=fun k => spinneyplain_Value.l0 k (l.length:Int) ((i+1:Nat):Int) x0 x1 x2 l x0 x1 x2 l) (fun k => if_pos rfl) (ih (i+1) (by omega) (by omega)))
theorem same_one (k n:Int) (t:ByteArray) (l:List S24) (hl:l.length≤9223372036854775807) (E:∀ a ∈ l,SameEv a):SameEv ⟨k,n,t,l⟩:=by
 show Ev (fun i => spinneyplain_Value.f i k n t l k n t l) true
 have hL:=same_loop l hl E k n t l.length 0 (by omega) (by omega)
 refine Ev.step (f:=fun i => spinneyplain_Value.j0 i false k n t l k n t l) (fun i => ?_) (Ev.step (f:=fun i => spinneyplain_Value.l0 i (l.length:Int) ((0:Nat):Int) k n t l k n t l) (fun i => ?_) hL)
 ·simp only [spinneyplain_Value.f,if_true]
  rw [show ((l.length:Int) != (l.length:Int))=false by simp]
 ·simp only [spinneyplain_Value.j0]
  rw [if_neg (by decide)];rfl
mutual
theorem same_ev:(a:S24)→WfV a→SameEv a
 | ⟨k,n,t,l⟩,h => same_one k n t l (by simp only [WfV] at h;exact h.2.2.2.1) (same_evL l (by simp only [WfV] at h;exact h.2.2.2.2))
theorem same_evL:(l:List S24)→WfL l→∀ a ∈ l,SameEv a
 | [],_,a,ha => by cases ha
 | x :: l,h,a,ha => by
  rcases List.mem_cons.1 ha with e|ha
  ·rw [e];exact same_ev x (by simp only [WfL] at h;exact h.1)
  ·exact same_evL l (by simp only [WfL] at h;exact h.2) a ha
end
theorem ok_shape {k n:Int} {t:ByteArray} {l:List S24} (h:OK ⟨k,n,t,l⟩):(0≤k∧k≤6)∧(k=3 ∨ t=⟨#[]⟩)∧(k=2 ∨ n=0 ∨ (k=1∧n=1))∧(k=4 ∨ k=5 ∨ k=6 ∨ l=[])∧(k=6→l.length % 2=0)∧l.length≤1023∧(k=3→t.size≤256∧utfOk t=true):=by
 obtain ⟨h1,h2,h3⟩:=h
 simp only [OkV] at h1
 simp only [partsV] at h3
 obtain ⟨hp,hf,ho⟩:=h1
 obtain ⟨g1,g2,g3,g4⟩:=hp
 have:=partsL_len l
 refine ⟨g1,g2.imp id bytes_nil,g3,?_,?_,by omega,g4⟩
 ·unfold FormV at hf
  by_cases c4:k=4
  ·exact .inl c4
  by_cases c6:k=6
  ·exact .inr (.inr (.inl c6))
  by_cases c5:k=5
  ·exact .inr (.inl c5)
  ·rw [if_neg c4,if_neg c6,if_neg c5] at hf
   exact .inr (.inr (.inr hf))
 ·intro h6
  unfold FormV at hf
  rw [if_neg (by omega),if_pos h6] at hf
  exact hf.1
theorem ok_int (n:Int):OK ⟨2,n,⟨#[]⟩,[]⟩:=by
 refine ⟨?_,by simp [deepV,deepL],by simp [partsV,partsL]⟩
 simp only [OkV,OkL,and_true]
 exact ⟨⟨by omega,.inr nil_toList,.inl rfl,fun h => absurd h (by decide)⟩,by unfold FormV;rw [if_neg (by decide),if_neg (by decide),if_neg (by decide)]⟩
theorem ok_nil:OK ⟨0,0,⟨#[]⟩,[]⟩:=by
 refine ⟨?_,by simp [deepV,deepL],by simp [partsV,partsL]⟩
 simp only [OkV,OkL,and_true]
 exact ⟨⟨by omega,.inr nil_toList,.inr (.inl rfl),fun h => absurd h (by decide)⟩,by unfold FormV;rw [if_neg (by decide),if_neg (by decide),if_neg (by decide)]⟩
theorem wf_int {n:Int} (h:In64 n):WfV ⟨2,n,⟨#[]⟩,[]⟩:=by
 simp only [WfV,WfL,and_true]
 exact ⟨⟨by decide,by decide⟩,h,Nat.zero_le _,Nat.zero_le _⟩
theorem wf_nil:WfV ⟨0,0,⟨#[]⟩,[]⟩:=by
 simp only [WfV,WfL,and_true]
 exact ⟨⟨by decide,by decide⟩,⟨by decide,by decide⟩,Nat.zero_le _,Nat.zero_le _⟩
theorem in64_wrap (n:Int):In64 (wrap64 n):=by unfold In64 wrap64;omega
mutual
theorem ownV_of:(a:S24)→partsV a≤65536→OwnV a=true
 | ⟨k,n,t,l⟩,h => by
  simp only [partsV] at h
  have:=partsL_len l
  have h2:=ownL_of l (by omega)
  simp only [OwnV]
  simp [h2]
  omega
theorem ownL_of:(l:List S24)→partsL l≤65536→OwnL l=true
 | [],_ => by simp only [OwnL]
 | x :: l,h => by
  simp only [partsL] at h
  simp only [OwnL,Bool.and_eq_true]
  exact ⟨ownV_of x (by omega),ownL_of l (by omega)⟩
end
theorem own_ok_ev {a:S24} (h:OK a):own_Value.f a.f0 a.f1 a.f2 a.f3=some (a.f0,a.f1,a.f2,a.f3):=by
 unfold own_Value.f
 rw [if_pos (by have:=ownV_of a (by have:=h.2.2;omega);cases a;exact this)]
end Go.Proofs.YtgmmoagclkmeaaaDoor.XH
end
section
namespace Go.Proofs.YtgmmoagclkmeaaaDoor.XH
open Go.RowKit Go.Proofs.YtgmmoagclkmeaaaDoorW.PrintWords Go.Proofs.YtgmmoagclkmeaaaDoorW.PrintLast Go.Proofs.YtgmmoagclkmeaaaDoorW.PrintMore
attribute [local go_sem] max2_int min2_int max_two min_two max_three min_three max_four min_four   -- for this text's walks alone
set_option linter.unusedVariables false
set_option linter.unusedSimpArgs false

theorem dec_fits (s:ByteArray) (p:Nat) (hp:p < s.size) (hb:¬ badD (Utf8.decode s p)):p+(Utf8.decode s p).2≤s.size:=by
  rw [Lib.decode_at] at hb ⊢
  have:=(s.get! p).toNat_lt
  unfold Lib.decodeN badD at *
  revert hb
  repeat' split
  all_goals (intro hb;dsimp only at *;omega)
theorem get_take (s:ByteArray) (n k:Nat) (hn:n≤s.size) (hk:k < n):(s.extract 0 n).get! k=s.get! k:=by
  have hs:(s.extract 0 n).size=n:=by simp [ByteArray.size_extract];omega
  have g:∀ (t:ByteArray) (i:Nat),t.get! i=if h:i < t.size then t[i]'h else 0:=by
    intro t i
    obtain ⟨a⟩:=t
    show a[i]! = _
    split
    · next h => exact getElem!_pos a i h
    · next h => exact getElem!_neg a i h
  rw [g,g,dif_pos (show k < (s.extract 0 n).size by omega),dif_pos (show k < s.size by omega)]
  simp [ByteArray.getElem_extract]
theorem dec_take (s:ByteArray) (h:0 < s.size) (hb:¬ badD (Utf8.decode s 0)):Utf8.decode (s.extract 0 (Utf8.decode s 0).2) 0=Utf8.decode s 0:=by
  have hf:=dec_fits s 0 h hb
  rw [Nat.zero_add] at hf
  generalize hn:(Utf8.decode s 0).2=n at hf
  have hs:(s.extract 0 n).size=n:=by simp [ByteArray.size_extract];omega
  rw [Lib.decode_at] at hn hb
  rw [Lib.decode_at,Lib.decode_at,hs,Nat.sub_zero]
  simp only [Nat.zero_add,Nat.sub_zero] at hn hb ⊢
  have k0:=(s.get! 0).toNat_lt
  unfold badD at hb
  rcases Lib.decodeN_shape s.size (s.get! 0).toNat (s.get! 1).toNat (s.get! 2).toNat (s.get! 3).toNat with ⟨c,e⟩|⟨c1,c2,c3,cv,e⟩|⟨c1,c2,c3,c4,cv,cs,e⟩|⟨c1,c2,c3,c4,c5,cv,cw,e⟩|e
  · rw [e] at hn ⊢
    simp only at hn
    subst hn
    rw [get_take s 1 0 hf (by omega)]
    unfold Lib.decodeN
    rw [if_pos c]
  · rw [e] at hn ⊢
    simp only at hn
    subst hn
    rw [get_take s 2 0 hf (by omega),get_take s 2 1 hf (by omega)]
    unfold Lib.decodeN
    rw [if_neg (by omega),if_pos ⟨c1,by omega,c3⟩,if_pos (by omega)]
  · rw [e] at hn ⊢
    simp only at hn
    subst hn
    rw [get_take s 3 0 hf (by omega),get_take s 3 1 hf (by omega),get_take s 3 2 hf (by omega)]
    unfold Lib.decodeN
    rw [if_neg (by omega),if_neg (fun g => by have:=g.1;omega),if_pos ⟨c1,⟨by omega,c3⟩,by omega,c4⟩,if_pos (by omega)]
  · rw [e] at hn ⊢
    simp only at hn
    subst hn
    rw [get_take s 4 0 hf (by omega),get_take s 4 1 hf (by omega),get_take s 4 2 hf (by omega),get_take s 4 3 hf (by omega)]
    unfold Lib.decodeN
    rw [if_neg (by omega),if_neg (fun g => by have:=g.1;omega),if_neg (fun g => by have:=g.1;omega),if_pos ⟨c1,⟨by omega,c3⟩,⟨by omega,c4⟩,by omega,c5⟩,if_pos (by omega)]
  · rw [e] at hb
    exact absurd ⟨rfl,rfl⟩ hb
theorem first_utf (s:ByteArray) (h:0 < s.size) (hb:¬ badD (Utf8.decode s 0)):utfOk (s.extract 0 (Utf8.decode s 0).2)=true:=by
  have hf:=dec_fits s 0 h hb
  have hd:=dec_le s 0
  rw [Nat.zero_add] at hf
  have hs:(s.extract 0 (Utf8.decode s 0).2).size=(Utf8.decode s 0).2:=by simp [ByteArray.size_extract];omega
  have ht:=dec_take s h hb
  unfold utfOk
  obtain ⟨b,hbb⟩:∃ b,(s.extract 0 (Utf8.decode s 0).2).size=b+1:=⟨(s.extract 0 (Utf8.decode s 0).2).size - 1,by omega⟩
  rw [hbb,utfFrom,if_pos (by omega),if_neg]
  · rw [ht,utfFrom_end _ _ _ (by omega)]
  · rintro ⟨g1,g2⟩
    rw [decodeGo_extract _ 0 (by omega)] at g2
    rw [ht] at g1 g2
    exact hb ⟨g1,g2⟩
def tup (r:S24):Int × Int × ByteArray × List S24:=(r.f0,r.f1,r.f2,r.f3)
def Good (v:S24):Prop:=OK v∧WfV v
theorem good_int {n:Int} (h:In64 n):Good ⟨2,n,⟨#[]⟩,[]⟩:=⟨ok_int n,wf_int h⟩
theorem good_nil:Good ⟨0,0,⟨#[]⟩,[]⟩:=⟨ok_nil,wf_nil⟩
theorem good_item {k n:Int} {t:ByteArray} {l:List S24} (h:Good ⟨k,n,t,l⟩) {v:S24} (hv:v ∈ l):Good v :=
  ⟨ok_item h.1 hv,by have:=h.2;simp only [WfV] at this;exact wfL_mem l this.2.2.2.2 v hv⟩
theorem wf_list {l:List S24} (h:l.length≤1048576) (hl:∀ v ∈ l,WfV v):WfV ⟨4,0,⟨#[]⟩,l⟩:=by
  simp only [WfV]
  exact ⟨⟨by decide,by decide⟩,⟨by decide,by decide⟩,Nat.zero_le _,by omega,wfL_of l hl⟩
open Classical in
theorem pick_ev (w o:S24):Ev (fun k => fns_right.f k w.f0 w.f1 w.f2 w.f3 o.f0 o.f1 o.f2 o.f3) (tup (if OK w then w else o)):=by
  refine (vcheck_ev w).bind (f:=fun _ t => if t=0 then some (w.f0,w.f1,w.f2,w.f3) else some (o.f0,o.f1,o.f2,o.f3)) (Ev.congr (f:=fun _ => some (tup (if OK w then w else o))) (fun _ => ?_) (Ev.now _))
  by_cases h:OK w
  · rw [if_pos h,if_pos h,if_pos rfl];rfl
  · rw [if_neg h,if_neg h,if_neg (by decide)];rfl
open Classical in
theorem rpick_ev (w o:S24) (hw:WfV w):Ev (fun k => (spinneyref01_Right.f k w.f0 w.f1 w.f2 w.f3).bind fun t => if t=true then some (w.f0,w.f1,w.f2,w.f3) else some (o.f0,o.f1,o.f2,o.f3)) (tup (if OK w then w else o)):=by
  refine (rright_ev w hw).bind (f:=fun _ t => if t=true then some (w.f0,w.f1,w.f2,w.f3) else some (o.f0,o.f1,o.f2,o.f3)) (Ev.congr (f:=fun _ => some (tup (if OK w then w else o))) (fun _ => ?_) (Ev.now _))
  by_cases h:OK w
  · rw [if_pos h,if_pos (by rw [decide_eq_true h])];rfl
  · rw [if_neg h,if_neg (by rw [decide_eq_false h];decide)];rfl
theorem int_shape {v:S24} (h:OK v) (h2:v.f0=2):v=⟨2,v.f1,⟨#[]⟩,[]⟩:=by
  obtain ⟨k,n,t,l⟩:=v
  obtain rfl:k=2:=h2
  obtain ⟨_,ht,_,hl,_⟩:=ok_shape h
  have h1:t=⟨#[]⟩:=ht.resolve_left (by decide)
  have h3:l=[]:=by
    rcases hl with h|h|h|h
    · cases h
    · cases h
    · cases h
    · exact h
  subst h1 h3
  rfl
def intDo (q n:Int):Int:=if q=1 then wrap64 (n+1) else if q=2 then wrap64 (-n) else Int.tdiv n 2
theorem tdiv_in {n:Int} (h:In64 n):In64 (Int.tdiv n 2)∧wrap64 (Int.tdiv n 2)=Int.tdiv n 2:=by
  have h2:In64 (Int.tdiv n 2):=by
    unfold In64 at *
    rcases Int.le_total 0 n with h0|h0
    · rw [Int.tdiv_eq_ediv_of_nonneg h0];omega
    · have:Int.tdiv n 2=- Int.tdiv (-n) 2:=by rw [Int.neg_tdiv,Int.neg_neg]
      rw [this,Int.tdiv_eq_ediv_of_nonneg (by omega)];omega
  exact ⟨h2,by unfold In64 at h2;exact w64 h2.1 h2.2⟩
theorem intDo_in {q n:Int} (h:In64 n):In64 (intDo q n):=by
  unfold intDo
  split
  · exact in64_wrap _
  · split
    · exact in64_wrap _
    · exact (tdiv_in h).1
def DoSame (q:Int) (v:S24):Prop:=∃ r:S24,Good r∧Ev (fun k => fns_do.f k q v.f0 v.f1 v.f2 v.f3) (tup r)∧Ev (fun k => spinneyref05_Done.f k q v.f0 v.f1 v.f2 v.f3) (tup r)
theorem done_rest (q:Int) (h1:q≠1) (h2:q≠2) (k' n:Int) (t:ByteArray) (l:List S24) {r:Int × Int × ByteArray × List S24} (h:Ev (fun k => spinneyref05_Done.j1 k q (k' == 2) false k' n t l) r):Ev (fun k => spinneyref05_Done.f k q k' n t l) r:=by
  refine Ev.step (f:=fun k => spinneyref05_Done.j1 k q (k' == 2) false k' n t l) (fun k => ?_) h
  unfold spinneyref05_Done.f
  rw [if_neg h1]
  simp only [spinneyref05_Done.j0]
  rw [if_neg (by decide),if_neg h2]
theorem do_num (q:Int) (hq:q=1 ∨ q=2 ∨ q=7) (v:S24) (hv:Good v):DoSame q v:=by
  have hin:In64 v.f1:=by have:=hv.2;cases v;simp only [WfV] at this;exact this.2.1
  by_cases h2:v.f0=2
  · have hs:=int_shape hv.1 h2
    have ht:=tdiv_in hin
    refine ⟨⟨2,intDo q v.f1,⟨#[]⟩,[]⟩,good_int (intDo_in hin),?_,?_⟩
    · rw [hs]
      refine Ev.congr (f:=fun _ => some (tup ⟨2,intDo q v.f1,⟨#[]⟩,[]⟩)) (fun k => ?_) (Ev.now _)
      unfold fns_do.f intDo tup
      rcases hq with rfl|rfl|rfl <;> simp [ht.2]
    · rw [hs]
      rcases hq with rfl|rfl|rfl
      · refine Ev.step (f:=fun _ => some (tup ⟨2,intDo 1 v.f1,⟨#[]⟩,[]⟩)) (fun k => ?_) (Ev.now _)
        unfold spinneyref05_Done.f
        simp [spinneyref05_Done.j0,spinneyref05_Int.f,intDo,tup]
      · refine Ev.step (f:=fun k => spinneyref05_Done.j1 k 2 true true 2 v.f1 ⟨#[]⟩ []) (fun k => ?_) (Ev.step (f:=fun _ => some (tup ⟨2,intDo 2 v.f1,⟨#[]⟩,[]⟩)) (fun k => ?_) (Ev.now _))
        · unfold spinneyref05_Done.f
          simp [spinneyref05_Done.j0]
        · simp [spinneyref05_Done.j1,spinneyref05_Int.f,intDo,tup]
      · refine done_rest 7 (by decide) (by decide) _ _ _ _ (Ev.step (f:=fun _ => some (tup ⟨2,intDo 7 v.f1,⟨#[]⟩,[]⟩)) (fun k => ?_) (Ev.now _))
        simp [spinneyref05_Done.j1,spinneyref05_Int.f,intDo,tup,ht.2]
  · have hb:(v.f0 == 2)=false:=beq_eq_false_iff_ne.2 h2
    refine ⟨v,hv,?_,?_⟩
    · refine Ev.congr (f:=fun _ => some (tup v)) (fun k => ?_) (Ev.now _)
      unfold fns_do.f tup
      rcases hq with rfl|rfl|rfl <;> simp [h2]
    · refine Ev.step (f:=fun k => spinneyref05_Done.j1 k q false false v.f0 v.f1 v.f2 v.f3) (fun k => ?_) (Ev.step (f:=fun _ => some (tup v)) (fun k => ?_) (Ev.now _))
      · unfold spinneyref05_Done.f
        rcases hq with rfl|rfl|rfl <;> simp [spinneyref05_Done.j0,hb]
      · rcases hq with rfl|rfl|rfl <;> simp [spinneyref05_Done.j1,tup]
theorem do_zero (v:S24) (hv:Good v):DoSame 0 v:=by
  refine ⟨v,hv,Ev.congr (f:=fun _ => some (tup v)) (fun k => ?_) (Ev.now _),done_rest 0 (by decide) (by decide) _ _ _ _ (Ev.step (f:=fun _ => some (tup v)) (fun k => ?_) (Ev.now _))⟩
  · unfold fns_do.f tup;simp
  · simp [spinneyref05_Done.j1,tup]
theorem do_kind (v:S24) (hv:Good v):DoSame 6 v:=by
  have hin:In64 v.f0:=by have:=hv.2;cases v;simp only [WfV] at this;exact this.1
  refine ⟨⟨2,v.f0,⟨#[]⟩,[]⟩,good_int hin,Ev.congr (f:=fun _ => some (tup ⟨2,v.f0,⟨#[]⟩,[]⟩)) (fun k => ?_) (Ev.now _),done_rest 6 (by decide) (by decide) _ _ _ _ (Ev.step (f:=fun _ => some (tup ⟨2,v.f0,⟨#[]⟩,[]⟩)) (fun k => ?_) (Ev.now _))⟩
  · unfold fns_do.f tup;simp [fns_ones_5.f,fns_integer.f]
  · simp [spinneyref05_Done.j1,tup,spinneyref05_Int.f]
open Classical in
theorem do_wrap (v:S24) (hv:Good v):DoSame 5 v:=by
  have hw:WfV ⟨4,0,⟨#[]⟩,[v]⟩:=wf_list (by simp) (fun x hx => by rw [List.mem_singleton.1 hx];exact hv.2)
  have h1:=pick_ev ⟨4,0,⟨#[]⟩,[v]⟩ ⟨0,0,⟨#[]⟩,[]⟩
  have h2:=rpick_ev ⟨4,0,⟨#[]⟩,[v]⟩ ⟨0,0,⟨#[]⟩,[]⟩ hw
  refine ⟨if OK ⟨4,0,⟨#[]⟩,[v]⟩ then ⟨4,0,⟨#[]⟩,[v]⟩ else ⟨0,0,⟨#[]⟩,[]⟩,?_,?_,done_rest 5 (by decide) (by decide) _ _ _ _ (Ev.step (f:=fun k => (spinneyref01_Right.f k 4 0 ⟨#[]⟩ [v]).bind fun t => if t=true then some (4,0,⟨#[]⟩,[v]) else some (0,0,⟨#[]⟩,[])) (fun k => ?_) h2)⟩
  · split
    · rename_i h;exact ⟨h,hw⟩
    · exact good_nil
  · refine Ev.congr (f:=fun k => (fns_right.f k 4 0 ⟨#[]⟩ [v] 0 0 ⟨#[]⟩ []).bind fun b => some (b.1,b.2.1,b.2.2.1,b.2.2.2)) (fun k => ?_) (h1.bind (f:=fun _ b => some (b.1,b.2.1,b.2.2.1,b.2.2.2)) (Ev.now _))
    unfold fns_do.f fns_ones_4.f
    simp
    cases v
    rfl
  · simp [spinneyref05_Done.j1]
    cases v
    rfl
theorem do_size (v:S24) (hv:Good v):DoSame 3 v:=by
  obtain ⟨k',n,t,l⟩:=v
  obtain ⟨hk,ht,_,hl,h6,hlen,h3⟩:=ok_shape hv.1
  have R:∀ z:Int,In64 z→szDo k' t l=some z→Ev (fun k => spinneyref05_size.f k k' n t l) z→DoSame 3 ⟨k',n,t,l⟩:=by
    intro z hz h1 h2
    refine ⟨⟨2,z,⟨#[]⟩,[]⟩,good_int hz,Ev.congr (f:=fun _ => some (tup ⟨2,z,⟨#[]⟩,[]⟩)) (fun k => ?_) (Ev.now _),done_rest 3 (by decide) (by decide) _ _ _ _ (Ev.step (f:=fun k => (spinneyref05_size.f k k' n t l).bind fun (x:Int) => some ((2:Int),x,(⟨#[]⟩:ByteArray),([]:List S24))) (fun k => ?_) (h2.bind (f:=fun _ (x:Int) => some ((2:Int),x,(⟨#[]⟩:ByteArray),([]:List S24))) (Ev.now _)))⟩
    · unfold fns_do.f tup;simp [h1]
    · simp [spinneyref05_Done.j1,spinneyref05_Int.f]
  by_cases c3:k'=3
  · have hz:t.size≤1048576:=by have:=(h3 c3).1;omega
    have hcl:∀ (b p:Nat),cntFrom t b p≤b:=by
      intro b
      induction b with
      | zero => intro p;simp [cntFrom]
      | succ b ih => intro p;simp only [cntFrom];split;· have:=ih (p+(Utf8.decode t p).2);omega
                     · omega
    have:=hcl t.size 0
    refine R ((cntFrom t t.size 0:Nat):Int) (by unfold In64;omega) (by unfold szDo;rw [if_pos c3,if_pos hz]) ?_
    refine Ev.congr (f:=fun k => (spinneyref01_Letters.f k t).bind fun x => some x) (fun k => ?_) ((letters_is t (by omega) (h3 c3).2).bind (f:=fun _ x => some x) (Ev.now _))
    unfold spinneyref05_size.f
    rw [if_pos c3]
  by_cases c6:k'=6
  · have e1:Int.tdiv (l.length:Int) 2=(l.length:Int) / 2:=Int.tdiv_eq_ediv_of_nonneg (by omega)
    refine R ((l.length:Int) / 2) (by unfold In64;omega) (by unfold szDo;rw [if_neg c3,if_pos c6,if_pos (by omega),e1]) ?_
    subst c6
    refine Ev.step (f:=fun _ => some ((l.length:Int) / 2)) (fun k => ?_) (Ev.now _)
    unfold spinneyref05_size.f
    simp [spinneyref05_size.j0]
    unfold wrap64;omega
  · refine R (l.length:Int) (by unfold In64;omega) (by unfold szDo;rw [if_neg c3,if_neg c6]) ?_
    by_cases c45:k'=4 ∨ k'=5
    · refine Ev.step (f:=fun _ => some (l.length:Int)) (fun k => ?_) (Ev.now _)
      unfold spinneyref05_size.f
      rcases c45 with rfl|rfl <;> simp [spinneyref05_size.j0]
    · have hl0:l=[]:=by
        rcases hl with h|h|h|h
        · exact absurd (.inl h) c45
        · exact absurd (.inr h) c45
        · exact absurd h c6
        · exact h
      subst hl0
      refine Ev.step (f:=fun _ => some 0) (fun k => ?_) (Ev.now _)
      unfold spinneyref05_size.f
      rw [if_neg c3,if_neg (by omega)]
      simp only [spinneyref05_size.j0]
      rw [if_neg (by simp;omega),if_neg c6]
theorem do_first (v:S24) (hv:Good v):DoSame 4 v:=by
  obtain ⟨k',n,t,l⟩:=v
  obtain ⟨hk,ht,_,hl,h6,hlen,h3⟩:=ok_shape hv.1
  have R:∀ r:S24,Good r→fns_first.f k' n t l=some (tup r)→Ev (fun k => spinneyref05_first.f k k' n t l) (tup r)→DoSame 4 ⟨k',n,t,l⟩:=by
    intro r hr h1 h2
    refine ⟨r,hr,Ev.congr (f:=fun _ => some (tup r)) (fun k => ?_) (Ev.now _),done_rest 4 (by decide) (by decide) _ _ _ _ (Ev.step (f:=fun k => (spinneyref05_first.f k k' n t l).bind fun b => some (b.1,b.2.1,b.2.2.1,b.2.2.2)) (fun k => ?_) (h2.bind (f:=fun _ b => some (b.1,b.2.1,b.2.2.1,b.2.2.2)) (Ev.now _)))⟩
    · unfold fns_do.f;simp [h1]
    · simp [spinneyref05_Done.j1]
  have now:∀ {r:Int × Int × ByteArray × List S24},(∀ k,spinneyref05_first.f k k' n t l=some r)→Ev (fun k => spinneyref05_first.f k k' n t l) r:=fun h => Ev.congr (f:=fun _ => some _) h (Ev.now _)
  by_cases c3:k'=3
  · have hl0:l=[]:=by
      rcases hl with h|h|h|h
      · omega
      · omega
      · omega
      · exact h
    subst c3 hl0
    obtain ⟨hsz,hu⟩:=h3 rfl
    by_cases hz:t.toList=[]
    · have hs0:¬ 0 < t.size:=by
        have:=bytes_nil hz
        subst this
        decide
      refine R ⟨0,0,⟨#[]⟩,[]⟩ good_nil ?_ (now (fun k => ?_))
      · unfold fns_first.f tup;simp [hs0]
      · unfold spinneyref05_first.f tup;simp [hz]
    · have hs0:=size_pos_of hz
      have hb:=utf_notbad t hs0 hu
      have hd:=dec_le t 0
      have hf:=dec_fits t 0 hs0 hb
      rw [Nat.zero_add] at hf
      have hsz2:(t.extract 0 (Utf8.decode t 0).2).size=(Utf8.decode t 0).2:=by simp [ByteArray.size_extract];omega
      have hg:Good ⟨3,0,t.extract 0 (Utf8.decode t 0).2,[]⟩:=by
        refine ⟨⟨?_,by simp [deepV,deepL],by simp [partsV,partsL]⟩,?_⟩
        · simp only [OkV,OkL,and_true]
          exact ⟨⟨by omega,.inl rfl,.inr (.inl rfl),fun _ => ⟨by omega,first_utf t hs0 hb⟩⟩,by unfold FormV;rw [if_neg (by decide),if_neg (by decide),if_neg (by decide)]⟩
        · simp only [WfV,WfL,and_true]
          exact ⟨⟨by decide,by decide⟩,⟨by decide,by decide⟩,by omega,Nat.zero_le _⟩
      refine R _ hg ?_ ?_
      · unfold fns_first.f tup
        rw [if_pos rfl,if_pos hs0,enc_first t hs0 hb]
      · have hu2:=utf_ev t 0 hs0 (by omega)
        have hn:utfN t 0=(Utf8.decode t 0).2:=by
          rcases utfN_dec t 0 hs0 with ⟨_,h⟩|⟨h,_⟩
          · exact absurd h hb
          · exact h
        rw [hn] at hu2
        have hF:Ev (fun k => spinneyref01_First.f k t) ((Utf8.decode t 0).2:Int):=hu2.bind (f:=fun _ x => some x) (Ev.now _)
        refine Ev.congr (f:=fun k => (spinneyref01_First.f k t).bind fun n => if 0≤n∧n≤t.size then some (3,0,t.extract 0 n.toNat,[]) else none) (fun k => by unfold spinneyref05_first.f;rw [if_pos ⟨rfl,hz⟩]) (hF.bind (f:=fun _ (n:Int) => if 0≤n∧n≤t.size then some ((3:Int),(0:Int),t.extract 0 n.toNat,([]:List S24)) else none) (Ev.congr (f:=fun _ => some (tup ⟨3,0,t.extract 0 (Utf8.decode t 0).2,[]⟩)) (fun _ => ?_) (Ev.now _)))
        rw [if_pos ⟨by omega,by omega⟩]
        rfl
  have e3:¬ (k'=3∧t.toList≠[]):=fun h => c3 h.1
  by_cases hn:l.length=0
  · refine R ⟨0,0,⟨#[]⟩,[]⟩ good_nil ?_ (now (fun k => ?_))
    · unfold fns_first.f;rw [if_neg c3,if_pos hn];rfl
    · unfold spinneyref05_first.f;rw [if_neg e3,if_pos hn];rfl
  by_cases c6:k'=6
  · have h2:2≤l.length:=by have:=h6 c6;omega
    obtain ⟨a,b,m,rfl⟩:∃ a b m,l=a :: b :: m:=by
      match l,h2 with
      | a :: b :: m,_ => exact ⟨a,b,m,rfl⟩
    have ga:=good_item hv (v:=a) (by simp)
    have gb:=good_item hv (v:=b) (by simp)
    have hg:Good ⟨4,0,⟨#[]⟩,[a,b]⟩:=by
      refine ⟨⟨?_,?_,?_⟩,wf_list (by simp) (fun x hx => by rcases List.mem_cons.1 hx with rfl|hx;exact ga.2;rw [List.mem_singleton.1 hx];exact gb.2)⟩
      · simp only [OkV,OkL,and_true]
        exact ⟨⟨by omega,.inr nil_toList,.inr (.inl rfl),fun h => absurd h (by decide)⟩,by unfold FormV;rw [if_pos rfl];trivial,ga.1.1,gb.1.1⟩
      · have:=hv.1.2.1
        simp only [deepV,deepL] at this ⊢
        omega
      · have:=hv.1.2.2
        simp only [partsV,partsL] at this ⊢
        omega
    refine R _ hg ?_ (now (fun k => ?_))
    · unfold fns_first.f;rw [if_neg c3,if_neg hn,if_pos c6,if_pos h2];rfl
    · unfold spinneyref05_first.f;rw [if_neg e3,if_neg hn,if_pos c6,if_pos h2];rfl
  · have hne:l≠[]:=fun e => hn (by rw [e];rfl)
    obtain ⟨a,m,rfl⟩:=List.exists_cons_of_ne_nil hne
    have ga:=good_item hv (v:=a) (by simp)
    have hk45:4≤k'∧k'≤5:=by
      rcases hl with h|h|h|h
      · omega
      · omega
      · omega
      · cases h
    refine R a ga ?_ (now (fun k => ?_))
    · unfold fns_first.f;rw [if_neg c3,if_neg hn,if_neg c6,if_pos hk45];rfl
    · unfold spinneyref05_first.f;rw [if_neg e3,if_neg hn,if_neg c6,if_pos c3];rfl
theorem do_same (q:Int) (h0:0≤q) (h7:q≤7) (v:S24) (hv:Good v):DoSame q v:=by
  have:q=0 ∨ (q=1 ∨ q=2 ∨ q=7) ∨ q=3 ∨ q=4 ∨ q=5 ∨ q=6:=by omega
  rcases this with rfl|h|rfl|rfl|rfl|rfl
  · exact do_zero v hv
  · exact do_num q h v hv
  · exact do_size v hv
  · exact do_first v hv
  · exact do_wrap v hv
  · exact do_kind v hv
end Go.Proofs.YtgmmoagclkmeaaaDoor.XH
end
section
namespace Go.Proofs.YtgmmoagclkmeaaaDoor.XH
open Go.RowKit Go.Proofs.YtgmmoagclkmeaaaDoorW.PrintWords Go.Proofs.YtgmmoagclkmeaaaDoorW.PrintLast Go.Proofs.YtgmmoagclkmeaaaDoorW.PrintMore
attribute [local go_sem] max2_int min2_int max_two min_two max_three min_three max_four min_four   -- for this text's walks alone
set_option linter.unusedVariables false
set_option linter.unusedSimpArgs false

def tup5 (r:S24) (e:Int):Int × Int × ByteArray × List S24 × Int:=(r.f0,r.f1,r.f2,r.f3,e)
open Classical in
theorem fit_is (q:Int) (v:S24):Ev (fun k => fns_fit.f k q v.f0 v.f1 v.f2 v.f3) (if 0≤q∧q≤7 then (if OK v then 0 else 3) else 4):=by
 by_cases h:0≤q∧q≤7
 ·rw [if_pos h]
  refine Ev.congr (f:=fun k => (value_Check.f k v.f0 v.f1 v.f2 v.f3).bind fun t => some t) (fun k => ?_) ((vcheck_ev v).bind (f:=fun _ t => some t) (Ev.now _))
  unfold fns_fit.f fns_known.f
  rw [if_pos h.1,decide_eq_true h.2]
  rfl
 ·rw [if_neg h]
  refine Ev.congr (f:=fun _ => some 4) (fun k => ?_) (Ev.now _)
  unfold fns_fit.f fns_known.f
  by_cases h0:q ≥ 0
  ·rw [if_pos h0,decide_eq_false (fun g => h ⟨h0,g⟩)];rfl
  ·rw [if_neg h0];rfl
theorem kind5_is (q:Int):spinneyref05_Kind.f q=some (decide (0≤q∧q≤7)):=by
 unfold spinneyref05_Kind.f
 by_cases h0:q ≥ 0
 ·rw [if_pos h0]
  by_cases h7:q≤7
  ·rw [decide_eq_true h7,decide_eq_true (show 0≤q∧q≤7 from ⟨h0,h7⟩)]
  ·rw [decide_eq_false h7,decide_eq_false (fun h => h7 h.2)]
 ·rw [if_neg h0,decide_eq_false (fun h => h0 h.1)]
end Go.Proofs.YtgmmoagclkmeaaaDoor.XH
end
section
namespace Go.Proofs.YtgmmoagclkmeaaaDoor.XH
open Go.RowKit Go.Proofs.YtgmmoagclkmeaaaDoorW.PrintWords Go.Proofs.YtgmmoagclkmeaaaDoorW.PrintLast Go.Proofs.YtgmmoagclkmeaaaDoorW.PrintMore
attribute [local go_sem] max2_int min2_int max_two min_two max_three min_three max_four min_four   -- for this text's walks alone
set_option linter.unusedVariables false
set_option linter.unusedSimpArgs false

theorem speaks5_ev:Ev spinneylaw05_speaks.f true:=Ev.of spinneylaw05_speaks.mono (k:=8) (by decide +kernel)
end Go.Proofs.YtgmmoagclkmeaaaDoor.XH
end
section
namespace Go.Proofs.YtgmmoagclkmeaaaDoor.XH
open Go.RowKit Go.Proofs.YtgmmoagclkmeaaaDoorW.PrintWords Go.Proofs.YtgmmoagclkmeaaaDoorW.PrintLast Go.Proofs.YtgmmoagclkmeaaaDoorW.PrintMore
attribute [local go_sem] max2_int min2_int max_two min_two max_three min_three max_four min_four   -- for this text's walks alone
set_option linter.unusedVariables false
set_option linter.unusedSimpArgs false

theorem times_same (q:Int) (h0:0≤q) (h7:q≤7) (n:Nat) (hn:n≤65536) (d:Nat):∀ (i:Nat),i+d=n→∀ v:S24,Good v→∃ r:S24,Good r∧Ev (fun k => times_l k q d v.f0 v.f1 v.f2 v.f3) (tup r)∧Ev (fun k => spinneyref05_Times.l0 k q (n:Int) (i:Int) v.f0 v.f1 v.f2 v.f3) (tup5 r 0):=by
 induction d with
 | zero =>
  intro i hi v hv
  refine ⟨v,hv,Ev.congr (f:=fun _ => some (tup v)) (fun _ => rfl) (Ev.now _),Ev.step (f:=fun _ => some (tup5 v 0)) (fun k => ?_) (Ev.now _)⟩
  simp only [spinneyref05_Times.l0]
  rw [if_neg (by omega)]
  rfl
 | succ d ih =>
  intro i hi v hv
  obtain ⟨r,hr,h1,h2⟩:=do_same q h0 h7 v hv
  obtain ⟨s,hs,h3,h4⟩:=ih (i+1) (by omega) r hr
  refine ⟨s,hs,?_,?_⟩
  ·simp only [times_l]
   exact h1.bind (f:=fun k x => times_l k q d x.1 x.2.1 x.2.2.1 x.2.2.2) h3
  ·have e3:wrap64 ((i:Int)+1)=((i+1:Nat):Int):=by unfold wrap64;omega
   refine Ev.step (f:=fun k => (spinneyref05_Done.f k q v.f0 v.f1 v.f2 v.f3).bind fun x => spinneyref05_Times.l0 k q (n:Int) ((i+1:Nat):Int) x.1 x.2.1 x.2.2.1 x.2.2.2) (fun k => ?_) (h2.bind (f:=fun k x => spinneyref05_Times.l0 k q (n:Int) ((i+1:Nat):Int) x.1 x.2.1 x.2.2.1 x.2.2.2) h4)
   simp only [spinneyref05_Times.l0]
   rw [if_pos (by omega),e3]
theorem known_is5 (q:Int):fns_known.f q=some (decide (0≤q∧q≤7)):=kind5_is q
theorem Times_ok (q:Int) (h0:0≤q) (h7:q≤7) (n:Nat) (hn:n≤65536) (v r:S24) (hv:OK v) (hr:OK r) (h:Ev (fun k => times_l k q n v.f0 v.f1 v.f2 v.f3) (tup r)):Ev (fun k => fns_Times.f k q (n:Int) v.f0 v.f1 v.f2 v.f3) (tup5 r 0):=by
 have hv':=vcheck_ev v
 rw [if_pos hv] at hv'
 refine Ev.congr (f:=fun k => (value_Check.f k v.f0 v.f1 v.f2 v.f3).bind fun e => if e=0 then (times_l k q n v.f0 v.f1 v.f2 v.f3).bind fun s => (own_Value.f s.1 s.2.1 s.2.2.1 s.2.2.2).bind fun r => some (r.1,r.2.1,r.2.2.1,r.2.2.2,0) else some (0,0,⟨#[]⟩,[],e)) (fun k => ?_) (hv'.bind (f:=fun k e => if e=0 then (times_l k q n v.f0 v.f1 v.f2 v.f3).bind fun s => (own_Value.f s.1 s.2.1 s.2.2.1 s.2.2.2).bind fun r => some (r.1,r.2.1,r.2.2.1,r.2.2.2,0) else some (0,0,⟨#[]⟩,[],e)) (Ev.congr (f:=fun k => (times_l k q n v.f0 v.f1 v.f2 v.f3).bind fun s => (own_Value.f s.1 s.2.1 s.2.2.1 s.2.2.2).bind fun r => some (r.1,r.2.1,r.2.2.1,r.2.2.2,0)) (fun _ => if_pos rfl) (h.bind (f:=fun _ s => (own_Value.f s.1 s.2.1 s.2.2.1 s.2.2.2).bind fun r => some (r.1,r.2.1,r.2.2.1,r.2.2.2,0)) (Ev.congr (f:=fun _ => some (tup5 r 0)) (fun _ => ?_) (Ev.now _)))))
 ·unfold fns_Times.f
  rw [known_is5,decide_eq_true (show 0≤q∧q≤7 from ⟨h0,h7⟩),Option.bind_some,if_pos rfl,if_neg (by omega),if_neg (by omega),Int.toNat_natCast]
 ·show (own_Value.f r.f0 r.f1 r.f2 r.f3).bind _=_
  rw [own_ok_ev hr]
  rfl
theorem Times_no (q n:Int) (v:S24) (h:¬ (0≤q∧q≤7) ∨ n < 0 ∨ 65536 < n ∨ ¬ OK v):∃ e:Int,e≠0∧(e=if ¬ (0≤q∧q≤7) then 4 else if n < 0 ∨ 65536 < n then 1 else 3)∧Ev (fun k => fns_Times.f k q n v.f0 v.f1 v.f2 v.f3) (tup5 ⟨0,0,⟨#[]⟩,[]⟩ e):=by
 by_cases c:0≤q∧q≤7
 ·by_cases cn:n < 0 ∨ 65536 < n
  ·refine ⟨1,by decide,by rw [if_neg (fun g => g c),if_pos cn],Ev.congr (f:=fun _ => some (tup5 ⟨0,0,⟨#[]⟩,[]⟩ 1)) (fun k => ?_) (Ev.now _)⟩
   unfold fns_Times.f
   rw [known_is5,decide_eq_true c,Option.bind_some,if_pos rfl]
   by_cases c1:n < 0
   ·rw [if_pos c1];rfl
   ·rw [if_neg c1,if_pos (cn.resolve_left c1)];rfl
  ·have ho:¬ OK v:=by
    rcases h with h|h|h|h
    ·exact absurd c h
    ·exact absurd (.inl h) cn
    ·exact absurd (.inr h) cn
    ·exact h
   have hv':=vcheck_ev v
   rw [if_neg ho] at hv'
   refine ⟨3,by decide,by rw [if_neg (fun g => g c),if_neg cn],Ev.congr (f:=fun k => (value_Check.f k v.f0 v.f1 v.f2 v.f3).bind fun e => if e=0 then (times_l k q n.toNat v.f0 v.f1 v.f2 v.f3).bind fun s => (own_Value.f s.1 s.2.1 s.2.2.1 s.2.2.2).bind fun r => some (r.1,r.2.1,r.2.2.1,r.2.2.2,0) else some (0,0,⟨#[]⟩,[],e)) (fun k => ?_) (hv'.bind (f:=fun k e => if e=0 then (times_l k q n.toNat v.f0 v.f1 v.f2 v.f3).bind fun s => (own_Value.f s.1 s.2.1 s.2.2.1 s.2.2.2).bind fun r => some (r.1,r.2.1,r.2.2.1,r.2.2.2,0) else some (0,0,⟨#[]⟩,[],e)) (Ev.congr (f:=fun _ => some (tup5 ⟨0,0,⟨#[]⟩,[]⟩ 3)) (fun _ => if_neg (by decide)) (Ev.now _)))⟩
   unfold fns_Times.f
   rw [known_is5,decide_eq_true c,Option.bind_some,if_pos rfl,if_neg (fun g => cn (.inl g)),if_neg (fun g => cn (.inr g))]
 ·refine ⟨4,by decide,by rw [if_pos c],Ev.congr (f:=fun _ => some (tup5 ⟨0,0,⟨#[]⟩,[]⟩ 4)) (fun k => ?_) (Ev.now _)⟩
  unfold fns_Times.f
  rw [known_is5,decide_eq_false c];rfl
open Classical in
theorem rTimes_ev (q n:Int) (v:S24) (hw:WfV v) (r:S24) (e:Int) (he:(e=0∧(0≤q∧q≤7)∧(0≤n∧n≤65536)∧OK v∧Ev (fun k => spinneyref05_Times.l0 k q n 0 v.f0 v.f1 v.f2 v.f3) (tup5 r 0)) ∨ (r=⟨0,0,⟨#[]⟩,[]⟩∧(¬ (0≤q∧q≤7) ∨ n < 0 ∨ 65536 < n ∨ ¬ OK v)∧e=if ¬ (0≤q∧q≤7) then 4 else if n < 0 ∨ 65536 < n then 1 else 3)) :
  Ev (fun k => spinneyref05_Times.f k q n v.f0 v.f1 v.f2 v.f3) (tup5 r e):=by
 have hR:=rright_ev v hw
 have J:∀ b,Ev (fun k => spinneyref05_Times.j0 k q n b v.f0 v.f1 v.f2 v.f3) (tup5 r e)→(0≤q∧q≤7)→b=decide (n < 0 ∨ n > 65536)→Ev (fun k => spinneyref05_Times.f k q n v.f0 v.f1 v.f2 v.f3) (tup5 r e):=by
  intro b hb hq hbb
  refine Ev.congr (f:=fun k => spinneyref05_Times.j0 k q n b v.f0 v.f1 v.f2 v.f3) (fun k => ?_) hb
  unfold spinneyref05_Times.f
  rw [kind5_is,decide_eq_true hq,Option.bind_some,if_pos rfl]
  by_cases c1:n < 0
  ·rw [if_pos c1,hbb,decide_eq_true (.inl c1)]
  ·rw [if_neg c1,hbb]
   congr 1
   simp [c1]
 rcases he with ⟨rfl,hq,hn,ho,hl⟩|⟨rfl,hno,rfl⟩
 ·refine J false (Ev.step (f:=fun k => (spinneyref01_Right.f k v.f0 v.f1 v.f2 v.f3).bind fun t => if t=true then spinneyref05_Times.l0 k q n 0 v.f0 v.f1 v.f2 v.f3 else some (0,0,⟨#[]⟩,[],3)) (fun k => ?_) (hR.bind (f:=fun k t => if t=true then spinneyref05_Times.l0 k q n 0 v.f0 v.f1 v.f2 v.f3 else some (0,0,⟨#[]⟩,[],3)) (Ev.congr (f:=fun k => spinneyref05_Times.l0 k q n 0 v.f0 v.f1 v.f2 v.f3) (fun _ => if_pos (decide_eq_true ho)) hl))) hq (by rw [decide_eq_false];omega)
  simp only [spinneyref05_Times.j0]
  rw [if_neg (by decide)]
 ·by_cases c:0≤q∧q≤7
  ·rw [if_neg (fun g => g c)] at J ⊢
   by_cases cn:n < 0 ∨ 65536 < n
   ·rw [if_pos cn] at J ⊢
    refine J true (Ev.step (f:=fun _ => some (tup5 ⟨0,0,⟨#[]⟩,[]⟩ 1)) (fun k => ?_) (Ev.now _)) c (by rw [decide_eq_true];omega)
    simp [spinneyref05_Times.j0,tup5]
   ·rw [if_neg cn] at J ⊢
    have ho:¬ OK v:=by
     rcases hno with h|h|h|h
     ·exact absurd c h
     ·exact absurd (.inl h) cn
     ·exact absurd (.inr h) cn
     ·exact h
    refine J false (Ev.step (f:=fun k => (spinneyref01_Right.f k v.f0 v.f1 v.f2 v.f3).bind fun t => if t=true then spinneyref05_Times.l0 k q n 0 v.f0 v.f1 v.f2 v.f3 else some (0,0,⟨#[]⟩,[],3)) (fun k => ?_) (hR.bind (f:=fun k t => if t=true then spinneyref05_Times.l0 k q n 0 v.f0 v.f1 v.f2 v.f3 else some (0,0,⟨#[]⟩,[],3)) (Ev.congr (f:=fun _ => some (tup5 ⟨0,0,⟨#[]⟩,[]⟩ 3)) (fun _ => if_neg (by rw [decide_eq_false ho];decide)) (Ev.now _)))) c (by rw [decide_eq_false];omega)
    simp only [spinneyref05_Times.j0]
    rw [if_neg (by decide)]
  ·rw [if_pos c]
   refine Ev.congr (f:=fun _ => some (tup5 ⟨0,0,⟨#[]⟩,[]⟩ 4)) (fun k => ?_) (Ev.now _)
   unfold spinneyref05_Times.f
   rw [kind5_is,decide_eq_false c];rfl
end Go.Proofs.YtgmmoagclkmeaaaDoor.XH
end
section
namespace Go.Proofs.YtgmmoagclkmeaaaDoor.XH
open Go.RowKit Go.Proofs.YtgmmoagclkmeaaaDoorW.PrintWords Go.Proofs.YtgmmoagclkmeaaaDoorW.PrintLast Go.Proofs.YtgmmoagclkmeaaaDoorW.PrintMore
attribute [local go_sem] max2_int min2_int max_two min_two max_three min_three max_four min_four   -- for this text's walks alone
set_option linter.unusedVariables false
set_option linter.unusedSimpArgs false

open Classical in
theorem One_same (q:Int) (v:S24) (hw:WfV v):∃ (r:S24) (e:Int),WfV r∧Ev (fun k => fns_One.f k q v.f0 v.f1 v.f2 v.f3) (tup5 r e)∧Ev (fun k => spinneyref05_One.f k q v.f0 v.f1 v.f2 v.f3) (tup5 r e):=by
 have hf:=fit_is q v
 have hR:=rright_ev v hw
 by_cases h1:0≤q∧q≤7
 ·rw [if_pos h1] at hf
  have J:∀ x,Ev (fun k => (spinneyref01_Right.f k v.f0 v.f1 v.f2 v.f3).bind fun t => if t=true then (spinneyref05_Done.f k q v.f0 v.f1 v.f2 v.f3).bind fun s => some (s.1,s.2.1,s.2.2.1,s.2.2.2,(0:Int)) else some (0,0,⟨#[]⟩,[],3)) x→Ev (fun k => spinneyref05_One.f k q v.f0 v.f1 v.f2 v.f3) x:=by
   intro x hx
   refine Ev.congr (f:=fun k => (spinneyref01_Right.f k v.f0 v.f1 v.f2 v.f3).bind fun t => if t=true then (spinneyref05_Done.f k q v.f0 v.f1 v.f2 v.f3).bind fun s => some (s.1,s.2.1,s.2.2.1,s.2.2.2,(0:Int)) else some (0,0,⟨#[]⟩,[],3)) (fun k => ?_) hx
   unfold spinneyref05_One.f
   rw [kind5_is,decide_eq_true h1,Option.bind_some,if_pos rfl]
  by_cases h:OK v
  ·rw [if_pos h] at hf
   obtain ⟨r,hg,d1,d2⟩:=do_same q h1.1 h1.2 v ⟨h,hw⟩
   refine ⟨r,0,hg.2,?_,J _ ?_⟩
   ·refine hf.bind (f:=fun k e => if e=0 then (fns_do.f k q v.f0 v.f1 v.f2 v.f3).bind fun s => (own_Value.f s.1 s.2.1 s.2.2.1 s.2.2.2).bind fun r => some (r.1,r.2.1,r.2.2.1,r.2.2.2,0) else some (0,0,⟨#[]⟩,[],e)) ?_
    refine Ev.congr (f:=fun k => (fns_do.f k q v.f0 v.f1 v.f2 v.f3).bind fun s => (own_Value.f s.1 s.2.1 s.2.2.1 s.2.2.2).bind fun r => some (r.1,r.2.1,r.2.2.1,r.2.2.2,0)) (fun _ => if_pos rfl) ?_
    refine d1.bind (f:=fun _ s => (own_Value.f s.1 s.2.1 s.2.2.1 s.2.2.2).bind fun r => some (r.1,r.2.1,r.2.2.1,r.2.2.2,0)) (Ev.congr (f:=fun _ => some (tup5 r 0)) (fun _ => ?_) (Ev.now _))
    show (own_Value.f r.f0 r.f1 r.f2 r.f3).bind _=_
    rw [own_ok_ev hg.1]
    rfl
   ·refine hR.bind (f:=fun k t => if t=true then (spinneyref05_Done.f k q v.f0 v.f1 v.f2 v.f3).bind fun s => some (s.1,s.2.1,s.2.2.1,s.2.2.2,(0:Int)) else some (0,0,⟨#[]⟩,[],3)) ?_
    refine Ev.congr (f:=fun k => (spinneyref05_Done.f k q v.f0 v.f1 v.f2 v.f3).bind fun s => some (s.1,s.2.1,s.2.2.1,s.2.2.2,(0:Int))) (fun _ => if_pos (decide_eq_true h)) ?_
    exact d2.bind (f:=fun _ s => some (s.1,s.2.1,s.2.2.1,s.2.2.2,(0:Int))) (Ev.now _)
  ·rw [if_neg h] at hf
   refine ⟨⟨0,0,⟨#[]⟩,[]⟩,3,wf_nil,?_,J _ ?_⟩
   ·exact hf.bind (f:=fun k e => if e=0 then (fns_do.f k q v.f0 v.f1 v.f2 v.f3).bind fun s => (own_Value.f s.1 s.2.1 s.2.2.1 s.2.2.2).bind fun r => some (r.1,r.2.1,r.2.2.1,r.2.2.2,0) else some (0,0,⟨#[]⟩,[],e)) (Ev.congr (f:=fun _ => some (tup5 ⟨0,0,⟨#[]⟩,[]⟩ 3)) (fun _ => if_neg (by decide)) (Ev.now _))
   ·refine hR.bind (f:=fun k t => if t=true then (spinneyref05_Done.f k q v.f0 v.f1 v.f2 v.f3).bind fun s => some (s.1,s.2.1,s.2.2.1,s.2.2.2,(0:Int)) else some (0,0,⟨#[]⟩,[],3)) ?_
    exact Ev.congr (f:=fun _ => some (tup5 ⟨0,0,⟨#[]⟩,[]⟩ 3)) (fun _ => if_neg (by rw [decide_eq_false h];decide)) (Ev.now _)
 ·rw [if_neg h1] at hf
  refine ⟨⟨0,0,⟨#[]⟩,[]⟩,4,wf_nil,?_,?_⟩
  ·exact hf.bind (f:=fun k e => if e=0 then (fns_do.f k q v.f0 v.f1 v.f2 v.f3).bind fun s => (own_Value.f s.1 s.2.1 s.2.2.1 s.2.2.2).bind fun r => some (r.1,r.2.1,r.2.2.1,r.2.2.2,0) else some (0,0,⟨#[]⟩,[],e)) (Ev.congr (f:=fun _ => some (tup5 ⟨0,0,⟨#[]⟩,[]⟩ 4)) (fun _ => if_neg (by decide)) (Ev.now _))
  ·refine Ev.congr (f:=fun _ => some (tup5 ⟨0,0,⟨#[]⟩,[]⟩ 4)) (fun k => ?_) (Ev.now _)
   unfold spinneyref05_One.f
   rw [kind5_is,decide_eq_false h1];rfl
theorem Times_both (q n:Int) (v:S24) (hw:WfV v):∃ (r:S24) (e:Int),WfV r∧Ev (fun k => fns_Times.f k q n v.f0 v.f1 v.f2 v.f3) (tup5 r e)∧Ev (fun k => spinneyref05_Times.f k q n v.f0 v.f1 v.f2 v.f3) (tup5 r e):=by
 by_cases hno:¬ (0≤q∧q≤7) ∨ n < 0 ∨ 65536 < n ∨ ¬ OK v
 ·obtain ⟨e,_,he,T⟩:=Times_no q n v hno
  exact ⟨_,e,wf_nil,T,rTimes_ev q n v hw _ e (.inr ⟨rfl,hno,he⟩)⟩
 ·have hq:0≤q∧q≤7:=Classical.byContradiction (fun g => hno (.inl g))
  have hn:0≤n∧n≤65536:=⟨Classical.byContradiction (fun g => hno (.inr (.inl (by omega)))),Classical.byContradiction (fun g => hno (.inr (.inr (.inl (by omega)))))⟩
  have ho:OK v:=Classical.byContradiction (fun g => hno (.inr (.inr (.inr g))))
  clear hno
  obtain ⟨N,rfl⟩:∃ N:Nat,n=N:=⟨n.toNat,by omega⟩
  obtain ⟨r,hr,h1,h2⟩:=times_same q hq.1 hq.2 N (by omega) N 0 (by omega) v ⟨ho,hw⟩
  exact ⟨r,0,hr.2,Times_ok q hq.1 hq.2 N (by omega) v r ho hr.1 h1,rTimes_ev q N v hw r 0 (.inl ⟨rfl,hq,hn,ho,h2⟩)⟩
theorem FnsOne_pure (q:Int) (_:(Lit.int .i64 q).wf=true) (m:Int) (_:(Lit.int .i64 m).wf=true) (k n:Int) (t:ByteArray) (l:List S24) (hw:WfV ⟨k,n,t,l⟩):∃ i,spinneylaw05_FnsOne.f i q m k n t l=some true:=by
 obtain ⟨r,e,hr,⟨K1,h1⟩,⟨K2,h2⟩⟩:=One_same q ⟨k,n,t,l⟩ hw
 obtain ⟨s,f,hs,⟨K3,h3⟩,⟨K4,h4⟩⟩:=Times_both q m ⟨k,n,t,l⟩ hw
 obtain ⟨K5,h5⟩:=speaks5_ev
 obtain ⟨K6,h6⟩:=same_ev r hr
 obtain ⟨K7,h7⟩:=same_ev s hs
 refine ⟨K1+K2+K3+K4+K5+K6+K7,?_⟩
 have h1:fns_One.f (K1+K2+K3+K4+K5+K6+K7) q k n t l=some (tup5 r e):=h1 _ (by omega)
 have h2:spinneyref05_One.f (K1+K2+K3+K4+K5+K6+K7) q k n t l=some (tup5 r e):=h2 _ (by omega)
 have h3:fns_Times.f (K1+K2+K3+K4+K5+K6+K7) q m k n t l=some (tup5 s f):=h3 _ (by omega)
 have h4:spinneyref05_Times.f (K1+K2+K3+K4+K5+K6+K7) q m k n t l=some (tup5 s f):=h4 _ (by omega)
 have h6:spinneyplain_Value.f (K1+K2+K3+K4+K5+K6+K7) (tup5 r e).1 (tup5 r e).2.1 (tup5 r e).2.2.1 (tup5 r e).2.2.2.1 (tup5 r e).1 (tup5 r e).2.1 (tup5 r e).2.2.1 (tup5 r e).2.2.2.1=some true:=h6 _ (by omega)
 have h7:spinneyplain_Value.f (K1+K2+K3+K4+K5+K6+K7) (tup5 s f).1 (tup5 s f).2.1 (tup5 s f).2.2.1 (tup5 s f).2.2.2.1 (tup5 s f).1 (tup5 s f).2.1 (tup5 s f).2.2.1 (tup5 s f).2.2.2.1=some true:=h7 _ (by omega)
 unfold spinneylaw05_FnsOne.f
 rw [h1,Option.bind_some,h2,Option.bind_some,h3,Option.bind_some,h4,Option.bind_some,h6,Option.bind_some,if_pos rfl,if_pos rfl,h7,Option.bind_some,if_pos rfl,if_pos rfl,h5 _ (by omega)]
 rfl
end Go.Proofs.YtgmmoagclkmeaaaDoor.XH
end
