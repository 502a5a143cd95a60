-- cut down by bundle.py (the session's own program) from the texts YtgmmoagclkmeaaaDoorXH0, YtgmmoagclkmeaaaDoorRk, to what this claim names
import Derived.Test.YtgmmoagclkmeaaaDoorProg
import Derived.Below
import Derived.Deep.Draws
import Derived.Deep.AppendLies
import Derived.Maps.AppendAt
import Derived.OwnWalk
import Derived.Laws.BytesArg
import Derived.Laws.MakeOwn
import Derived.Laws.OwnMore
import Derived.Deep.OwnRows
import Derived.Tactics
import Derived.Lib.ConvBytes
import Derived.Laws.Slices
import Derived.WalkKit
import Derived.KernelRfl
import Derived.RowKit3
import Derived.Deep.LoopGhost
import Derived.Deep.QuietTactic
import Derived.BigQuiet
import Derived.WideLaws
import Derived.Deep.DeepCutAuto
import Derived.Deep.CutBlock
import Derived.Deep.RegionHeld3
import Derived.Laws.Rows
import Derived.Lib.AppendStr
import Derived.ArgAppend
import Derived.Laws.IdiomCopy
import Derived.OrdersHeld
import Derived.Laws.BitsLemmas
import Derived.RowKit
import Derived.Test.YtgmmoagclkmeaaaDoorZFnsOneShelf
import Derived.Laws.RangeAny
import Derived.IntWalk
import Derived.Test.YtgmmoagclkmeaaaDoorZFnsOneWWords
import Derived.Test.YtgmmoagclkmeaaaDoorZFnsOneWLast
import Derived.Laws.StructEq
import Derived.Test.YtgmmoagclkmeaaaDoorZFnsOneWNEv
import Derived.SizedLaws
import Derived.ChangeSlices
import Derived.OpenShut
import Derived.ShutString
import Derived.Deep.Slices
import Derived.ProofKit
import Derived.Lib.LaidU8T
import Derived.Lib.LaidIn
section
-- laid by xprint.py (the session's own program) out of the translation; Lean checks it
namespace Go.Proofs.YtgmmoagclkmeaaaDoor.XH
open Go.RowKit Go.Proofs.YtgmmoagclkmeaaaDoorW.PrintWords Go.Proofs.YtgmmoagclkmeaaaDoorW.PrintLast Go.Proofs.YtgmmoagclkmeaaaDoorW.PrintMore
attribute [local go_sem] max2_int min2_int max_two min_two max_three min_three max_four min_four   -- for this text's walks alone
set_option linter.unusedVariables false
set_option linter.unusedSimpArgs false

def errW:Option Int→Value
 | none => .nilIface
 | some c => .iface 0 (.int .i64 c)
theorem errW_none:errW none=.nilIface:=rfl
theorem errW_some (c:Int):errW (some c)=.iface 0 (.int .i64 c):=rfl

theorem info24:(Tryd.prog.info? 24).map (fun i => (i.zero,i.size,i.bytes))=some (some (.agg #[(.int .i64 0),(.int .i64 0),(.string ⟨#[]⟩),(.slice none 0 0)]),4,56):=by kernel_rfl
-- the values' own types
structure S24 where
 f0:Int
 f1:Int
 f2:ByteArray
 f3:(List S24)
def z24:S24:=⟨(0:Int),(0:Int),(⟨#[]⟩:ByteArray),([]:List S24)⟩
def F24 (d:Kd S24):Kd S24:=Kd.iso (Kd.pair (Kd.int .i64) (Kd.pair (Kd.int .i64) (Kd.pair Kd.string (Kd.slice 24 d)))) (fun x:S24 => (x.f0,x.f1,x.f2,x.f3))
theorem mono24:Kd.Mono F24:=Kd.mono_iso _ (Kd.mono_pair (Kd.mono_const _) (Kd.mono_pair (Kd.mono_const _) (Kd.mono_pair (Kd.mono_const _) (Kd.mono_slice 24 Kd.mono_id))))
theorem sub24:Kd.Sub F24 [24]:=Kd.sub_iso _ (Kd.sub_pair (Kd.sub_const _ (by decide)) (Kd.sub_pair (Kd.sub_const _ (by decide)) (Kd.sub_pair (Kd.sub_const _ (by decide)) (Kd.sub_slice 24 (by decide) Kd.sub_id))))
theorem sz24:∀ n,(Kd.upto F24 4 [24] n).sz=4:=Kd.upto_sz (fun _ => rfl)
def k24:Kd S24:=Kd.fix F24 4 [24] sz24 (Kd.upto_E sub24)
theorem k24_heap:Kd.Heap k24:=Kd.heap_fix (fun _ h_ => Kd.heap_iso _ (Kd.heap_pair (Kd.heap_int .i64) (Kd.heap_pair (Kd.heap_int .i64) (Kd.heap_pair Kd.heap_string (Kd.heap_slice 24 h_)))))
theorem k24_open {w:World} {x:S24} {cs:List Value} (h:k24.K w x cs):∃ A3 c3,cs=[.int .i64 x.f0,.int .i64 x.f1,.string x.f2,.slice A3 x.f3.length c3]∧x.f3.length≤c3∧k24.C w A3 x.f3.length x.f3:=by
 obtain ⟨n,h⟩:=h
 cases n with
 | zero => exact h.elim
 | succ n =>
  obtain ⟨_,_,rfl,rfl,⟨_,_,rfl,rfl,⟨_,_,rfl,rfl,⟨A3,c3,rfl,l3,g3⟩⟩⟩⟩:=h
  exact ⟨A3,c3,rfl,l3,Kd.fix_C g3⟩
theorem k24_openM {w:World} {base:Nat} {ok:Nat→Prop} {x:S24} {cs:List Value} (h:k24.M w base ok x cs):∃ v3,cs=[.int .i64 x.f0,.int .i64 x.f1,.string x.f2,v3]∧k24.R 24 w base ok v3 x.f3:=by
 obtain ⟨n,h⟩:=h
 cases n with
 | zero => exact h.elim
 | succ n =>
  obtain ⟨_,_,rfl,rfl,⟨_,_,rfl,rfl,⟨_,_,rfl,rfl,⟨v3,rfl,g3⟩⟩⟩⟩:=h
  exact ⟨v3,rfl,Kd.fix_R g3⟩
theorem k24_mk (w:World) (x:S24) {A3:Option Addr} {c3:Nat} (l3:x.f3.length≤c3) (g3:k24.C w A3 x.f3.length x.f3):k24.K w x [.int .i64 x.f0,.int .i64 x.f1,.string x.f2,.slice A3 x.f3.length c3]:=by
 obtain ⟨n3,q3⟩:=Kd.fix_C_back mono24 g3
 have r3:=Kd.upto_C_le mono24 sz24 (show n3≤n3 by omega) q3
 exact ⟨n3+1,⟨[.int .i64 x.f0],[.int .i64 x.f1,.string x.f2,.slice A3 x.f3.length c3],rfl,rfl,⟨[.int .i64 x.f1],[.string x.f2,.slice A3 x.f3.length c3],rfl,rfl,⟨[.string x.f2],[.slice A3 x.f3.length c3],rfl,rfl,⟨A3,c3,rfl,l3,r3⟩⟩⟩⟩⟩
theorem k24_mkM (w:World) (base:Nat) (ok:Nat→Prop) (x:S24) {v3:Value} (g3:k24.R 24 w base ok v3 x.f3):k24.M w base ok x [.int .i64 x.f0,.int .i64 x.f1,.string x.f2,v3]:=by
 obtain ⟨n3,q3⟩:=Kd.fix_R_back mono24 g3
 have r3:=Kd.upto_R_le mono24 sz24 (show n3≤n3 by omega) q3
 exact ⟨n3+1,⟨[.int .i64 x.f0],[.int .i64 x.f1,.string x.f2,v3],rfl,rfl,⟨[.int .i64 x.f1],[.string x.f2,v3],rfl,rfl,⟨[.string x.f2],[v3],rfl,rfl,⟨v3,rfl,r3⟩⟩⟩⟩⟩
theorem k24_openF {W:World} {ok:Nat→Prop} {x:S24} {cs:List Value} (h:Kd.FK k24 W ok x cs):∃ A3 c3,cs=[.int .i64 x.f0,.int .i64 x.f1,.string x.f2,.slice A3 x.f3.length c3]∧x.f3.length≤c3∧Kd.F k24 W ok A3 x.f3.length x.f3:=by
 obtain ⟨A3,c3,rfl,l3,_⟩:=k24_open (Kd.FK_now h)
 exact ⟨A3,c3,rfl,l3,(fun W' hW => by obtain ⟨A3_,c3_,he,l3_,g3_⟩:=k24_open (h W' hW);injection (Option.some.inj (show some (Value.slice A3 x.f3.length c3)=some (Value.slice A3_ x.f3.length c3_) from congrArg (fun l => l[3]?) he)) with ha_ _ _;rw [ha_];exact g3_)⟩
theorem k24_mkF (W:World) (ok:Nat→Prop) (x:S24) {A3:Option Addr} {c3:Nat} (l3:x.f3.length≤c3) (g3:Kd.F k24 W ok A3 x.f3.length x.f3):Kd.FK k24 W ok x [.int .i64 x.f0,.int .i64 x.f1,.string x.f2,.slice A3 x.f3.length c3]:=fun W2 hW => k24_mk W2 x l3 (g3 W2 hW)
def rd_T24 (xs:List S24) (i:Int):S24:=xs.getD i.toNat z24
theorem at_T24 {w:World} {A:Option Addr} {n:Nat} {xs:List S24} (h:Kd.C k24 w A n xs) (i:Int) (h0:0≤i) (h1:i < n):∃ ad A3 c3,A=some ad∧w.cell? (ad.add (i.toNat * 4))=some (.int .i64 (rd_T24 xs i).f0)∧w.cell? ⟨(ad.add (i.toNat * 4)).block,(ad.add (i.toNat * 4)).off+1,none⟩=some (.int .i64 (rd_T24 xs i).f1)∧w.cell? ⟨(ad.add (i.toNat * 4)).block,(ad.add (i.toNat * 4)).off+2,none⟩=some (.string (rd_T24 xs i).f2)∧w.cell? ⟨(ad.add (i.toNat * 4)).block,(ad.add (i.toNat * 4)).off+3,none⟩=some (.slice A3 (rd_T24 xs i).f3.length c3)∧(rd_T24 xs i).f3.length≤c3∧k24.C w A3 (rd_T24 xs i).f3.length (rd_T24 xs i).f3:=by
 obtain ⟨ad,c,e,_,hK,hc0⟩:=Kd.C_get h z24 i h0 h1
 have hc:∀ j u,c[j]? = some u→w.cell? (ad.add (i.toNat * 4+j))=some u:=hc0
 obtain ⟨A3,c3,rfl,l3,g3⟩:=k24_open hK
 exact ⟨ad,A3,c3,e,hc 0 _ rfl,by rw [← add_field _ _ 1 (by omega)];exact hc 1 _ rfl,by rw [← add_field _ _ 2 (by omega)];exact hc 2 _ rfl,by rw [← add_field _ _ 3 (by omega)];exact hc 3 _ rfl,l3,g3⟩

def LaidW (w:World):Prop:=Lib.Utf8Tabs 1 2 w
theorem LaidW.below {w w':World} (h:LaidW w) (hb:Below w.heap.size w w'):LaidW w':=Go.Proofs.Utf8Tabs_below h hb
def putIter (w:World) (k:Nat) (s:ByteArray) (p:Nat):World:={ w with heap:=w.heap.setIfInBounds k (.stringIter s p) }
theorem putIter_at {w:World} {k:Nat} {o:Obj} (h:w.heap[k]? = some o) (s:ByteArray) (p:Nat):(putIter w k s p).heap[k]? = some (.stringIter s p):=by
 have hk:k < w.heap.size:=by
  rcases Nat.lt_or_ge k w.heap.size with h'|h'
  ·exact h'
  ·rw [Array.getElem?_eq_none h'] at h;cases h
 simp only [putIter]
 rw [Array.getElem?_setIfInBounds_self_of_lt hk]
theorem putIter_size (w:World) (k:Nat) (s:ByteArray) (p:Nat):(putIter w k s p).heap.size=w.heap.size:=by simp [putIter]
theorem putIter_below {B:Nat} {a w:World} (h:Below B a w) {k:Nat} (hk:B≤k) (s:ByteArray) (p:Nat):Below B a (putIter w k s p) :=
 h.trans ⟨rfl,rfl,rfl,by simp [putIter],fun i hi => by simp only [putIter];rw [Array.getElem?_setIfInBounds_ne (by omega)]⟩
theorem run_next_at {P:Program} {w:World} {k pos:Nat} {s:ByteArray} (ty:TypeId) (hk:w.heap[k]? = some (.stringIter s pos)) (h:pos < s.size) :
  (Instr.next (.pointer (some ⟨k,0,none⟩)) true ty).run P w=.ok (.tuple #[.bool true,.int .i64 pos,.int .i32 (Utf8.decode s pos).1]) (putIter w k s (pos+(Utf8.decode s pos).2)):=by
 simp only [Instr.next,getObj,setObj,Sem.run_bind,Sem.run,hk,Result.andThen,h,if_true]
 simp [goInt,putIter]
theorem run_next_over {P:Program} {w:World} {k pos:Nat} {s:ByteArray} (ty:TypeId) (hk:w.heap[k]? = some (.stringIter s pos)) (h:¬ pos < s.size) :
  (Instr.next (.pointer (some ⟨k,0,none⟩)) true ty).run P w=.ok (.tuple #[.bool false]) w:=by
 simp only [Instr.next,getObj,Sem.run_bind,Sem.run,hk,Result.andThen,h,if_false]
 simp
theorem width_pos (s:ByteArray) (pos:Nat) (h:pos < s.size):1≤(Utf8.decode s pos).2:=by
 by_cases ha:(s[pos]'h).toNat < 128
 ·rw [decode_ascii s pos h ha]
  exact Nat.le_refl _
 ·exact (decode_high s pos h (by omega)).2
theorem bytesLess_turn:∀ a b:List UInt8,(!(Op.bytesLess a b || a == b))=Op.bytesLess b a
 | [],[] => rfl
 | [],_ :: _ => rfl
 | _ :: _,[] => rfl
 | x :: a,y :: b => by
  have ih:=bytesLess_turn a b
  simp only [Op.bytesLess]
  rw [← ih]
  by_cases h:x < y
  ·have h1:¬ y < x:=by simp only [UInt8.lt_iff_toNat_lt] at *;omega
   have h2:(x == y)=false:=by rw [beq_eq_false_iff_ne];rintro rfl;simp only [UInt8.lt_iff_toNat_lt] at h;omega
   have h3:(y == x)=false:=by rw [beq_eq_false_iff_ne];rintro rfl;simp only [UInt8.lt_iff_toNat_lt] at h;omega
   simp [h,h1,h3]
  ·by_cases e:x=y
   ·subst e
    simp [h]
   ·have h1:y < x:=by
     have:x.toNat≠y.toNat:=fun q => e (UInt8.toNat_inj.1 q)
     simp only [UInt8.lt_iff_toNat_lt] at *;omega
    simp [h,h1,e]
@[go_sem high] theorem string_gtr (t:TypeId) (a b:ByteArray):binOp .gtr t (.string a) (.string b)=pure (.bool (Op.bytesLess b.toList a.toList)):=by
 rw [← bytesLess_turn a.toList b.toList]
 simp [binOp,Op.stringOp]
theorem el24 {w W:World} {A:Option Addr} {n:Nat} {xs:List S24} (h:Kd.C k24 w A n xs) (hb:Below w.heap.size w W) (k:Nat) (hk:k < n) :
  ∃ (ad:Addr) (A3:Option Addr) (c3:Nat),A=some ad∧(W.cell? (ad.add (k * 4))=some (.int .i64 (rd_T24 xs k).f0)∧W.cell? ⟨(ad.add (k * 4)).block,(ad.add (k * 4)).off+1,none⟩=some (.int .i64 (rd_T24 xs k).f1)∧W.cell? ⟨(ad.add (k * 4)).block,(ad.add (k * 4)).off+2,none⟩=some (.string (rd_T24 xs k).f2)∧W.cell? ⟨(ad.add (k * 4)).block,(ad.add (k * 4)).off+3,none⟩=some (.slice A3 (rd_T24 xs k).f3.length c3))∧(rd_T24 xs k).f3.length≤c3∧k24.C W A3 (rd_T24 xs k).f3.length (rd_T24 xs k).f3:=by
 obtain ⟨ad,A3,c3,e,h0,h1,h2,h3,hl,hr⟩:=at_T24 h (k:Int) (by omega) (by omega)
 simp only [Int.toNat_natCast] at h0 h1 h2 h3
 exact ⟨ad,A3,c3,e,⟨(hb.cell (World.block_lt_of_cell? w _ h0)).trans h0,(hb.cell (World.block_lt_of_cell? w _ h1)).trans h1,(hb.cell (World.block_lt_of_cell? w _ h2)).trans h2,(hb.cell (World.block_lt_of_cell? w _ h3)).trans h3⟩,hl,Kd.C_below hr hb⟩
theorem rd_get24 (xs:List S24) (k:Nat) (h:k < xs.length):rd_T24 xs (k:Int)=xs[k]:=by
 unfold rd_T24
 simp [List.getD_eq_getElem?_getD,h]
theorem C_empty {α:Type} (d:Kd α) (w:World) (A:Option Addr):Kd.C d w A 0 ([]:List α):=⟨rfl,by omega,fun h => absurd h (by decide)⟩
theorem two_key (a0_0 a0_1:Int) (a0_2:ByteArray) (v3:Value) (w W:World)
  (h:Below ((w.alloc (.cells #[.int .i64 a0_0,.int .i64 a0_1,.string a0_2,v3] 24)).alloc (.cells #[.int .i64 0,.int .i64 0,.string ⟨#[]⟩,.slice none 0 0] 24)).heap.size ((w.alloc (.cells #[.int .i64 a0_0,.int .i64 a0_1,.string a0_2,v3] 24)).alloc (.cells #[.int .i64 0,.int .i64 0,.string ⟨#[]⟩,.slice none 0 0] 24)) W) :
  W.heap[w.heap.size]? = some (.cells #[.int .i64 a0_0,.int .i64 a0_1,.string a0_2,v3] 24 (0,0))∧W.heap[w.heap.size+1]? = some (.cells #[.int .i64 0,.int .i64 0,.string ⟨#[]⟩,.slice none 0 0] 24 (0,0))∧Below w.heap.size w W:=by
 have B1:=blk_below (blk_alloc (blk_new w (.cells #[.int .i64 a0_0,.int .i64 a0_1,.string a0_2,v3] 24)) (.cells #[.int .i64 0,.int .i64 0,.string ⟨#[]⟩,.slice none 0 0] 24)) h
 have B2:=blk_below (blk_new (w.alloc (.cells #[.int .i64 a0_0,.int .i64 a0_1,.string a0_2,v3] 24)) (.cells #[.int .i64 0,.int .i64 0,.string ⟨#[]⟩,.slice none 0 0] 24)) h
 rw [show (w.alloc (.cells #[.int .i64 a0_0,.int .i64 a0_1,.string a0_2,v3] 24)).heap.size=w.heap.size+1 by simp] at B2
 exact ⟨B1,B2,below_step (below_alloc (below_alloc (Below.refl _ _) _) _) h⟩
theorem vel {w W:World} {P:Nat→Prop} {A:Option Addr} {n:Nat} {xs:List S24} (h:Kd.F k24 w P A n xs) (hb:Below w.heap.size w W) (k:Nat) (hk:k < n) :
  ∃ (ad:Addr) (A3:Option Addr) (c3:Nat),A=some ad∧(W.cell? (ad.add (k * 4))=some (.int .i64 (rd_T24 xs k).f0)∧W.cell? ⟨(ad.add (k * 4)).block,(ad.add (k * 4)).off+1,none⟩=some (.int .i64 (rd_T24 xs k).f1)∧W.cell? ⟨(ad.add (k * 4)).block,(ad.add (k * 4)).off+2,none⟩=some (.string (rd_T24 xs k).f2)∧W.cell? ⟨(ad.add (k * 4)).block,(ad.add (k * 4)).off+3,none⟩=some (.slice A3 (rd_T24 xs k).f3.length c3))∧(rd_T24 xs k).f3.length≤c3∧Kd.F k24 w P A3 (rd_T24 xs k).f3.length (rd_T24 xs k).f3:=by
 obtain ⟨ad,c,e,_,hK,hc0,_⟩:=Kd.F_get h z24 (k:Int) (by omega) (by omega)
 have hc:∀ j u,c[j]? = some u→W.cell? (ad.add (k * 4+j))=some u:=fun j u hj => (hb.cell (World.block_lt_of_cell? w _ (hc0 j u hj))).trans (hc0 j u hj)
 obtain ⟨A3,c3,rfl,l3,g3⟩:=k24_openF hK
 exact ⟨ad,A3,c3,e,⟨hc 0 _ rfl,by rw [← add_field _ _ 1 (by omega)];exact hc 1 _ rfl,by rw [← add_field _ _ 2 (by omega)];exact hc 2 _ rfl,by rw [← add_field _ _ 3 (by omega)];exact hc 3 _ rfl⟩,l3,g3⟩
theorem c_take {w:World} {A:Option Addr} {n m:Nat} {xs:List S24} (h:Kd.C k24 w A n xs) (hm:m≤n):Kd.C k24 w A m (xs.take m):=by
 have hl:=h.1
 subst hl
 have:=Kd.C_take (m:=m) h hm
 rwa [show (xs.take m).length=m by rw [List.length_take];omega] at this
theorem v_end {w w':World} {P:Nat→Prop} {A:Option Addr} {c e base:Nat} {xs:List S24} (hl:xs.length≤c) (hf:Kd.F k24 w P A xs.length xs) (hb:Below w.heap.size w w') :
  Kd.V k24 e w' base (fun k => P k ∨ w.heap.size≤k) (.slice A xs.length c) xs∧Below w.heap.size w w':=⟨Kd.V_mk hl (Kd.F_mono (Kd.F_below hf hb) (fun _ h => Or.inl h)),hb⟩
class Up (W W':World):Prop where below:Below W.heap.size W W'
instance up_rfl (W:World):Up W W:=⟨Below.refl _ _⟩
instance up_alloc (W W':World) (o:Obj) [u:Up W W']:Up W (W'.alloc o):=⟨below_alloc u.below o⟩
instance up_drewN (W W':World) (m:Nat) [u:Up W W']:Up W (W'.drewN m):=⟨pw_below_drewN u.below m⟩
instance up_drew (W W':World) [u:Up W W']:Up W W'.drew:=⟨below_drew1 u.below⟩
class Sets (g:Nat) (W W':World):Prop where
 keep:∀ k,k≠g→k < W.heap.size→W'.heap[k]? = W.heap[k]?
 below:∀ w:World,w.heap.size≤g→Below w.heap.size w W→Below w.heap.size w W'
 size:W.heap.size≤W'.heap.size
instance sets_rfl (g:Nat) (W:World):Sets g W W:=⟨fun _ _ _ => rfl,fun _ _ h => h,Nat.le_refl _⟩
instance sets_alloc (g:Nat) (W W':World) (o:Obj) [u:Sets g W W']:Sets g W (W'.alloc o):=⟨fun k h h2 => (Below.heap_alloc W' o k (Nat.lt_of_lt_of_le h2 u.size)).trans (u.keep k h h2),fun w hw h => below_alloc (u.below w hw h) o,Nat.le_trans u.size (below_alloc (Below.refl _ W') o).size⟩
instance sets_drewN (g:Nat) (W W':World) (m:Nat) [u:Sets g W W']:Sets g W (W'.drewN m):=⟨u.keep,fun w hw h => pw_below_drewN (u.below w hw h) m,u.size⟩
instance sets_drew (g:Nat) (W W':World) [u:Sets g W W']:Sets g W W'.drew:=⟨u.keep,fun w hw h => below_drew1 (u.below w hw h),u.size⟩
instance sets_set (g:Nat) (W W':World) (i:Nat) (v:Value) [u:Sets g W W']:Sets g W (W'.setCell ⟨g,i,none⟩ v):=⟨fun k h h2 => (Below.heap_setCell W' ⟨g,i,none⟩ v k h).trans (u.keep k h h2),fun w hw h => below_set (u.below w hw h) hw,by rw [show (W'.setCell ⟨g,i,none⟩ v).heap.size=W'.heap.size from by simp [World.setCell]];exact u.size⟩
section
variable {α:Type} {d:Kd α} {e base n g:Nat} {ok:Nat→Prop} {w W W' w1:World} {v:Value} {xs:List α} {A:Option Addr} {o:Obj}
theorem up_h {W W':World} (h:Aside0 (Below w.heap.size w W)) [u:Up W W']:Below w.heap.size w W':=below_step h.out u.below
theorem up_b {W W':World} {g:Nat} {o:Obj} (h:Aside0 (W.heap[g]? = some o)) [u:Up W W']:W'.heap[g]? = some o:=blk_below h.out u.below
theorem up_v {W W':World} (h:Aside0 (Kd.V d e W base ok v xs)) [u:Up W W']:Kd.V d e W' base ok v xs:=Kd.V_below h.out u.below
theorem up_r {W W':World} (h:Aside0 (Kd.R d e W base ok v xs)) [u:Up W W']:Kd.R d e W' base ok v xs:=Kd.R_below h.out u.below
theorem up_n {W W':World} (h:Aside0 (Kd.N d e W base ok v xs)) [u:Up W W']:Kd.N d e W' base ok v xs:=Kd.N_below h.out u.below
theorem sb_b {k:Nat} (h:Aside0 (W.heap[k]? = some o)) (hn:Aside0 (k≠g)) [s:Sets g W W']:W'.heap[k]? = some o:=(s.keep k hn.out (blk_lt h.out)).trans h.out
theorem sb_h (h:Aside0 (Below w.heap.size w W)) (hg:Aside0 (w.heap.size≤g)) [s:Sets g W W']:Below w.heap.size w W':=s.below w hg.out h.out
theorem bx_v {gb:Nat} (h:Aside0 (Kd.V d e W base ok v xs)) [u:Up W W'] (hg:gb=W'.heap.size) (hb:Below W'.heap.size W' w1):Aside0 (Kd.V d e w1 base (fun k => ok k∧k≠gb) v xs):=⟨Kd.V_below (Kd.V_elderB (up_v h) gb (Nat.le_of_eq hg.symm)) hb⟩
theorem ca_v (h:Aside0 (Kd.V d e W base ok v xs)) [u:Up W W'] (hb:Below W'.heap.size W' w1):Aside0 (Kd.V d e w1 base ok v xs):=⟨Kd.V_below (up_v h) hb⟩
theorem ca_r (h:Aside0 (Kd.R d e W base ok v xs)) [u:Up W W'] (hb:Below W'.heap.size W' w1):Aside0 (Kd.R d e w1 base ok v xs):=⟨Kd.R_below (up_r h) hb⟩
theorem ca_n (h:Aside0 (Kd.N d e W base ok v xs)) [u:Up W W'] (hb:Below W'.heap.size W' w1):Aside0 (Kd.N d e w1 base ok v xs):=⟨Kd.N_below (up_n h) hb⟩
theorem ca_b (h:Aside0 (W.heap[g]? = some o)) [u:Up W W'] (hb:Below W'.heap.size W' w1):Aside0 (w1.heap[g]? = some o):=⟨blk_below (up_b h) hb⟩
theorem cs_b {k:Nat} (h:Aside0 (W.heap[k]? = some o)) (hn:Aside0 (k≠g)) [s:Sets g W W'] (hb:Below W'.heap.size W' w1):Aside0 (w1.heap[k]? = some o):=⟨blk_below (sb_b h hn) hb⟩
theorem ca_h (h:Aside0 (Below w.heap.size w W)) [u:Up W W'] (hb:Below W'.heap.size W' w1):Aside0 (Below w.heap.size w w1):=⟨below_step (up_h h) hb⟩
theorem cs_h (h:Aside0 (Below w.heap.size w W)) (hg:Aside0 (w.heap.size≤g)) [s:Sets g W W'] (hb:Below W'.heap.size W' w1):Aside0 (Below w.heap.size w w1):=⟨below_step (sb_h h hg) hb⟩
theorem bx_g {gb:Nat} (h:Below w.heap.size w W) (hg:gb=W.heap.size):Aside0 (w.heap.size≤gb):=⟨by rw [hg];exact below_size h⟩
theorem bx_n {gb:Nat} (h:W.heap[g]? = some o) (hg:gb=W.heap.size):Aside0 (g≠gb):=⟨by rw [hg];exact Nat.ne_of_lt (blk_lt h)⟩
theorem bx_m {gb:Nat} (h:W.heap[g]? = some o) (hg:gb=W.heap.size):Aside0 (gb≠g):=⟨by rw [hg];exact Nat.ne_of_gt (blk_lt h)⟩
theorem bc4 {t:TypeId} {a b c d:Value} (h:Aside0 (W.heap[g]? = some (.cells #[a,b,c,d] t (0,0)))):W.cell? ⟨g,0,none⟩=some a∧W.cell? ⟨g,1,none⟩=some b∧W.cell? ⟨g,2,none⟩=some c∧W.cell? ⟨g,3,none⟩=some d:=⟨(blk_cell h.out 0).trans rfl,(blk_cell h.out 1).trans rfl,(blk_cell h.out 2).trans rfl,(blk_cell h.out 3).trans rfl⟩
theorem bk4 {t:TypeId} {a b c d:Value} (h:Aside0 (W.heap[g]? = some (.cells #[a,b,c,d] t (0,0)))):W.cell? ⟨g,0,none⟩=some a∧W.cell? ⟨g,1,none⟩=some b∧W.cell? ⟨g,2,none⟩=some c∧W.cell? ⟨g,3,none⟩=some d∧W.frozen? ⟨g,0,none⟩=false∧W.frozen? ⟨g,1,none⟩=false∧W.frozen? ⟨g,2,none⟩=false∧W.frozen? ⟨g,3,none⟩=false :=
 ⟨(bc4 h).1,(bc4 h).2.1,(bc4 h).2.2.1,(bc4 h).2.2.2,blk_frozen h.out 0,blk_frozen h.out 1,blk_frozen h.out 2,blk_frozen h.out 3⟩
end
theorem pu4 {W:World} {g:Nat} {t:TypeId} {a b c d a' b' c' d':Value} (h:Aside0 (W.heap[g]? = some (.cells #[a,b,c,d] t (0,0)))) :
  ((((W.setCell ⟨g,0,none⟩ a').setCell ⟨g,1,none⟩ b').setCell ⟨g,2,none⟩ c').setCell ⟨g,3,none⟩ d').heap[g]? = some (.cells #[a',b',c',d'] t (0,0)) :=
 blk_put (cs:=#[a',b',c',d]) (blk_put (cs:=#[a',b',c,d]) (blk_put (cs:=#[a',b,c,d]) (blk_put h.out 0 a' rfl) 1 b' rfl) 2 c' rfl) 3 d' rfl
theorem fa4_v {α:Type} {d:Kd α} {e base g:Nat} {ok:Nat→Prop} {W:World} {v a b c x:Value} {xs:List α} (h:Aside0 (Kd.V d e W base ok v xs)) (hn:∀ k,ok k→k≠g) :
  Kd.V d e ((((W.setCell ⟨g,0,none⟩ a).setCell ⟨g,1,none⟩ b).setCell ⟨g,2,none⟩ c).setCell ⟨g,3,none⟩ x) base (fun k => ok k∧k≠g) v xs :=
 have hm:Kd.V d e W base (fun k => ok k∧k≠g) v xs:=Kd.V_mono h.out (fun k hk => ⟨hk,hn k hk⟩)
 Kd.V_far (p:=⟨g,3,none⟩) (Kd.V_far (p:=⟨g,2,none⟩) (Kd.V_far (p:=⟨g,1,none⟩) (Kd.V_far (p:=⟨g,0,none⟩) hm (fun _ hk => hk.2) a) (fun _ hk => hk.2) b) (fun _ hk => hk.2) c) (fun _ hk => hk.2) x
theorem fa4_r {α:Type} {d:Kd α} {e base g:Nat} {ok:Nat→Prop} {W:World} {v a b c x:Value} {xs:List α} (h:Aside0 (Kd.R d e W base ok v xs)) (hn:∀ k,ok k→k≠g) :
  Kd.R d e ((((W.setCell ⟨g,0,none⟩ a).setCell ⟨g,1,none⟩ b).setCell ⟨g,2,none⟩ c).setCell ⟨g,3,none⟩ x) base (fun k => ok k∧k≠g) v xs :=
 have hm:Kd.R d e W base (fun k => ok k∧k≠g) v xs:=Kd.R_mono h.out (fun k hk => ⟨hk,hn k hk⟩)
 Kd.R_far (p:=⟨g,3,none⟩) (Kd.R_far (p:=⟨g,2,none⟩) (Kd.R_far (p:=⟨g,1,none⟩) (Kd.R_far (p:=⟨g,0,none⟩) hm (fun _ hk => hk.2) a) (fun _ hk => hk.2) b) (fun _ hk => hk.2) c) (fun _ hk => hk.2) x

end Go.Proofs.YtgmmoagclkmeaaaDoor.XH
end
section
namespace Go.Proofs.YtgmmoagclkmeaaaDoor.XH
open Go.RowKit Go.Proofs.YtgmmoagclkmeaaaDoorW.PrintWords Go.Proofs.YtgmmoagclkmeaaaDoorW.PrintLast Go.Proofs.YtgmmoagclkmeaaaDoorW.PrintMore
attribute [local go_sem] max2_int min2_int max_two min_two max_three min_three max_four min_four   -- for this text's walks alone
set_option linter.unusedVariables false
set_option linter.unusedSimpArgs false

open Go.ChangeShapes Go.WideShapes Go.ChangeAt
open Go.ChangeMaps (open_string shut_string)
def In64 (n:Int):Prop:=-9223372036854775808≤n∧n≤9223372036854775807
theorem in64_of_wf {n:Int} (h:(Lit.int .i64 n).wf=true):In64 n:=by
 simp only [Lit.wf,Bool.and_eq_true,decide_eq_true_eq] at h
 have e1:IntKind.i64.min=-9223372036854775808:=by decide +kernel
 have e2:IntKind.i64.max=9223372036854775807:=by decide +kernel
 rw [e1,e2] at h
 exact h
mutual
def WfV:S24→Prop
 | ⟨k,n,t,l⟩ => In64 k∧In64 n∧t.size≤9223372036854775807∧l.length≤9223372036854775807∧WfL l
def WfL:List S24→Prop
 | [] => True
 | v :: l => WfV v∧WfL l
end
theorem wfL_of:∀ l:List S24,(∀ v ∈ l,WfV v)→WfL l
 | [],_ => by simp only [WfL]
 | v :: l,h => by
  simp only [WfL]
  exact ⟨h v List.mem_cons_self,wfL_of l (fun x hx => h x (List.mem_cons_of_mem _ hx))⟩
theorem wfL_mem:∀ (l:List S24),WfL l→∀ v ∈ l,WfV v
 | [],_,v,hv => by cases hv
 | a :: l,h,v,hv => by
  simp only [WfL] at h
  rcases List.mem_cons.1 hv with rfl|hv
  ·exact h.1
  ·exact wfL_mem l h.2 v hv
theorem list4 {α:Type} {l:List α} (h:l.length=4):∃ a b c d,l=[a,b,c,d]:=by
 match l,h with
 | [a,b,c,d],_ => exact ⟨a,b,c,d,rfl⟩
section
variable {H:Type} {enc:TypeId × Value→H} {W:World} {base:Nat} {spare:Nat→Bool} {held:Bool}
set_option maxRecDepth 100000 in
theorem open_cells (fuel:Nat):∀ (cs:List Value) (x:DataW H × List MemPlace),DataW.trod enc Tryd.prog W base spare held fuel 24 cs=some x→∃ v:S24,k24.K W v cs∧WfV v:=by
 induction fuel using Nat.strongRecOn with
 | _ fuel ih =>
 intro cs x h
 obtain ⟨xs,n,rfl,rfl,hl,hlen,hf⟩:=DataW.trod_struct Tryd.underlying24 h
 have c4:Tryd.prog.cellsOf 24=4:=by kernel_rfl
 have ci:Tryd.prog.cellsOf 3=1:=by kernel_rfl
 have cj:Tryd.prog.cellsOf 2=1:=by kernel_rfl
 have cstr:Tryd.prog.cellsOf 9=1:=by kernel_rfl
 have csl:Tryd.prog.cellsOf 22=1:=by kernel_rfl
 rw [c4] at hl
 obtain ⟨b0,b1,b2,b3,rfl⟩:=list4 hl
 obtain ⟨y0,y1,y2,y3,rfl⟩:=list4 (show xs.length=4 from hlen)
 ·skip
  have h0:=hf 0 _ rfl
  have h1:=hf 1 _ rfl
  have h2:=hf 2 _ rfl
  have h3:=hf 3 _ rfl
  simp [ci] at h0
  simp [cj] at h1
  simp [cstr] at h2
  simp [csl] at h3
  obtain ⟨m0,e0,_,w0⟩:=DataW.trod_int Tryd.underlying3 h0
  obtain ⟨m1,e1,_,w1⟩:=DataW.trod_int Tryd.underlying2 h1
  obtain ⟨s,e2,_,w2⟩:=DataW.trod_string Tryd.underlying9 h2
  simp only [List.cons.injEq,and_true] at e0 e1 e2
  subst e0 e1 e2
  have ws:s.size≤9223372036854775807:=by unfold maxLen at w2;omega
  rcases DataW.trod_slice Tryd.underlying22 h3 with ⟨e3,_⟩|⟨a,len,cap,elems,rest,n3,hn,e3,_,hb,hlc,hcm,hel,hread,_,_⟩
  ·simp only [List.cons.injEq,and_true] at e3
   subst e3
   refine ⟨⟨m0,m1,s,[]⟩,k24_mk W ⟨m0,m1,s,[]⟩ (A3:=none) (c3:=0) (Nat.le_refl _) (Kd.C_nil _ _),?_⟩
   simp only [WfV,WfL]
   exact ⟨in64_of_wf w0,in64_of_wf w1,ws,by simp,trivial⟩
  ·simp only [List.cons.injEq,and_true] at e3
   subst e3
   rw [c4] at hread
   have key:∀ i,i < len→∃ v:S24,(∃ c,c.length=4∧k24.K W v c∧∀ j u,c[j]? = some u→W.cell? (a.add (i * 4+j))=some u)∧WfV v:=by
    intro i hi
    have hr:=hread i hi
    rw [List.getElem?_eq_getElem (by omega)] at hr
    obtain ⟨c,hc1,hc2⟩:=Option.bind_eq_some_iff.1 hr
    obtain ⟨v,hv,hw⟩:=ih n3 (by omega) c _ hc2
    obtain ⟨_,hcl,hcell⟩:=World.cells?_some hc1
    refine ⟨v,⟨c,hcl,hv,fun j u hj => ?_⟩,hw⟩
    have hj4:j < 4:=by rw [← hcl];exact (List.getElem?_eq_some_iff.1 hj).1
    rw [← Go.Deep.add_add,hcell j hj4,hj]
   haveI:Inhabited S24:=⟨z24⟩
   obtain ⟨f,hf⟩:=Go.Deep.choose_lt key
   have hlen:((List.range len).map f).length=len:=by simp
   have hmax:len≤9223372036854775807:=by unfold maxLen at hcm;omega
   have hC:k24.C W (some a) ((List.range len).map f).length ((List.range len).map f):=by
    refine ⟨rfl,by rw [hlen];exact hmax,fun _ => ⟨a,rfl,fun j p hj => ?_⟩⟩
    have hj':j < len:=by have:=(List.getElem?_eq_some_iff.1 hj).1;simpa using this
    simp only [List.getElem?_map,List.getElem?_range hj',Option.map_some,Option.some.injEq] at hj
    subst hj
    exact (hf j hj').1
   refine ⟨⟨m0,m1,s,(List.range len).map f⟩,?_,?_⟩
   ·have:=k24_mk W ⟨m0,m1,s,(List.range len).map f⟩ (A3:=some a) (c3:=cap) (by simpa using hlc) hC
    simpa using this
   ·simp only [WfV]
    refine ⟨in64_of_wf w0,in64_of_wf w1,ws,by rw [hlen];exact hmax,wfL_of _ (fun v hv => ?_)⟩
    obtain ⟨i,hi,rfl⟩:=List.mem_map.1 hv
    exact (hf i (List.mem_range.1 hi)).2
set_option maxRecDepth 100000 in
theorem open_value {r:Reach} {b0:Nat} {v:Value} {d:DataW H} {ps:List MemPlace} (hval:Value.okWide Tryd.prog W r b0 24 v) (h:DataW.Trod enc Tryd.prog W base spare held 24 v d ps) :
  ∃ (k n:Int) (t:ByteArray) (A:Option Addr) (c:Nat) (l:List S24),v=.agg #[.int .i64 k,.int .i64 n,.string t,.slice A l.length c]∧Kd.C k24 W A l.length l∧l.length≤c∧WfV ⟨k,n,t,l⟩:=by
 obtain ⟨cs,ecs,_⟩:=okWide_struct Tryd.underlying24 hval
 subst ecs
 obtain ⟨fuel,hf⟩:=h
 obtain ⟨x,hK,hw⟩:=open_cells fuel _ _ hf
 obtain ⟨A,c,e,hl,hC⟩:=k24_open hK
 refine ⟨x.f0,x.f1,x.f2,A,c,x.f3,?_,hC,hl,by cases x;exact hw⟩
 have e':cs.toList=_:=e
 obtain ⟨l⟩:=cs
 simp only at e'
 rw [e']
end
theorem own:ownKnob Tryd.prog.godebug=none:=by kernel_rfl
theorem laidOut:laidOutB Tryd.prog=true:=by kernel_rfl
set_option maxRecDepth 100000 in
noncomputable def laidWorld (os:Os):World :=
 let w0:=World.holding Tryd.prog os ⟨#[],#[],[]⟩
 let put (h:Array Obj) (g:Nat) (cs:Array Value):Array Obj:=h.modify g fun
  | .cells _ t frozen => .cells cs t frozen
  | o => o
 let h1:=put w0.heap 1 (Lib.firstTab.map fun z => Value.int .u8 z).toArray
 let h2:=put h1 2 ((List.range 16).flatMap fun i => [Value.int .u8 (Lib.accLo i),Value.int .u8 (Lib.accHi i)]).toArray
 { w0 with heap:=h2 }
end Go.Proofs.YtgmmoagclkmeaaaDoor.XH
end
