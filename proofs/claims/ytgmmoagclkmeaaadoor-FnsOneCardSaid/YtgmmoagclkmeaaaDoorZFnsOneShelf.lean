-- cut down by bundle.py (the session's own program) from the texts YtgmmoagclkmeaaaDoorShelf, to what this claim names
import Derived.Shelf.Small.Strs
import Derived.Shelf.Small.Wraps
import Derived.Shelf.Unicode.Decode
import Derived.Shelf.Unicode.DecodeSlow
import Derived.Shelf.Unicode.DecodeAny
import Derived.Ground.Names2Prog
import Derived.Shelf.Slices.SearchI
import Derived.Test.YtgmmoagclkmeaaaDoorProg
namespace Go.Proofs
open Go.Shelf
def Tryd.lays106_ren:Go.Shelf.Ren:=⟨fun|106 => 67|213 => 78|265 => 81|n => n,fun|9 => 9|3 => 3|n => n,fun|n => n⟩
theorem Tryd.lays106:Go.Proofs.Lays.n106 Tryd.prog Tryd.lays106_ren:={
 mixed:=by kernel_rfl
 f106:=Tryd.func67.trans (congrArg some (by kernel_rfl))
 f213:=Tryd.func78.trans (congrArg some (by kernel_rfl))
 f265:=Tryd.func81.trans (congrArg some (by kernel_rfl))
 t3:=Tryd.underlying3
 a3:=Tryd.isAgg3
 z3:=Tryd.sizeOf3
 v3:=Tryd.zeroValue3
 t9:=Tryd.underlying9
 a9:=Tryd.isAgg9
 z9:=Tryd.sizeOf9
 v9:=Tryd.zeroValue9 }
open Go.RowKit in
theorem Tryd.strings_Compare (a b:ByteArray) (w:World) :
  Calls Tryd.prog 67 #[.string a,.string b] w fun e w' => e=.returned (.int .i64 (Lib.compareBytes a.data.toList b.data.toList))∧w'=w:=Any.strings_Compare Tryd.lays106 a b w
def Tryd.lays215_ren:Go.Shelf.Ren:=⟨fun|215 => 76|n => n,fun|3 => 3|4 => 4|n => n,fun|n => n⟩
theorem Tryd.lays215:Go.Proofs.Lays.n215 Tryd.prog Tryd.lays215_ren:={
 mixed:=by kernel_rfl
 f215:=Tryd.func76.trans (congrArg some (by kernel_rfl))
 t3:=Tryd.underlying3
 a3:=Tryd.isAgg3
 z3:=Tryd.sizeOf3
 v3:=Tryd.zeroValue3
 t4:=Tryd.underlying4
 a4:=Tryd.isAgg4
 z4:=Tryd.sizeOf4
 v4:=Tryd.zeroValue4 }
open Go.RowKit in
theorem Tryd.cmp_isNaN_int (x:Int) (w:World) :
  Calls Tryd.prog 76 #[.int .i64 x] w fun e w' => e=.returned (.bool false)∧w'=w:=Any.cmp_isNaN_int Tryd.lays215 x w
def Tryd.lays122_ren:Go.Shelf.Ren:=⟨fun|122 => 65|215 => 76|n => n,fun|3 => 3|4 => 4|n => n,fun|n => n⟩
theorem Tryd.lays122:Go.Proofs.Lays.n122 Tryd.prog Tryd.lays122_ren:={
 mixed:=by kernel_rfl
 f122:=Tryd.func65.trans (congrArg some (by kernel_rfl))
 f215:=Tryd.func76.trans (congrArg some (by kernel_rfl))
 t3:=Tryd.underlying3
 a3:=Tryd.isAgg3
 z3:=Tryd.sizeOf3
 v3:=Tryd.zeroValue3
 t4:=Tryd.underlying4
 a4:=Tryd.isAgg4
 z4:=Tryd.sizeOf4
 v4:=Tryd.zeroValue4 }
open Go.RowKit in
theorem Tryd.cmp_Compare_int (x y:Int) (w:World) :
  Calls Tryd.prog 65 #[.int .i64 x,.int .i64 y] w fun e w' => e=.returned (.int .i64 (Lib.compareInt x y))∧w'=w:=Any.cmp_Compare_int Tryd.lays122 x y w
def Tryd.lays197_ren:Go.Shelf.Ren:=⟨fun|197 => 82|260 => 83|n => n,fun|9 => 9|21 => 21|3 => 3|4 => 4|5 => 5|105 => 82|119 => 84|0 => 0|46 => 85|139 => 88|138 => 87|n => n,fun|3 => 1|4 => 2|n => n⟩
theorem Tryd.lays197:Go.Proofs.Lays.n197 Tryd.prog Tryd.lays197_ren:={
 mixed:=by kernel_rfl
 f197:=Tryd.func82.trans (congrArg some (by kernel_rfl))
 f260:=Tryd.func83.trans (congrArg some (by kernel_rfl))
 t0:=Tryd.underlying0
 a0:=Tryd.isAgg0
 z0:=Tryd.sizeOf0
 v0:=Tryd.zeroValue0
 t3:=Tryd.underlying3
 a3:=Tryd.isAgg3
 z3:=Tryd.sizeOf3
 v3:=Tryd.zeroValue3
 t4:=Tryd.underlying4
 a4:=Tryd.isAgg4
 z4:=Tryd.sizeOf4
 v4:=Tryd.zeroValue4
 t5:=Tryd.underlying5
 a5:=Tryd.isAgg5
 z5:=Tryd.sizeOf5
 v5:=Tryd.zeroValue5
 t9:=Tryd.underlying9
 a9:=Tryd.isAgg9
 z9:=Tryd.sizeOf9
 v9:=Tryd.zeroValue9
 t21:=Tryd.underlying21
 a21:=Tryd.isAgg21
 z21:=Tryd.sizeOf21
 v21:=Tryd.zeroValue21
 t46:=Tryd.underlying85
 a46:=Tryd.isAgg85
 z46:=Tryd.sizeOf85
 v46:=Tryd.zeroValue85
 t105:=Tryd.underlying82
 a105:=Tryd.isAgg82
 z105:=Tryd.sizeOf82
 v105:=Tryd.zeroValue82
 t119:=Tryd.underlying84
 a119:=Tryd.isAgg84
 z119:=Tryd.sizeOf84
 t138:=Tryd.underlying87
 a138:=Tryd.isAgg87
 z138:=Tryd.sizeOf87
 v138:=Tryd.zeroValue87
 t139:=Tryd.underlying88
 a139:=Tryd.isAgg88
 z139:=Tryd.sizeOf88
 v139:=Tryd.zeroValue88
 g3:=by kernel_rfl
 g4:=by kernel_rfl }
def Tryd.lays260_ren:Go.Shelf.Ren:=⟨fun|260 => 83|n => n,fun|9 => 9|21 => 21|3 => 3|4 => 4|5 => 5|119 => 84|0 => 0|46 => 85|139 => 88|138 => 87|n => n,fun|3 => 1|4 => 2|n => n⟩
theorem Tryd.lays260:Go.Proofs.Lays.n260 Tryd.prog Tryd.lays260_ren:={
 mixed:=by kernel_rfl
 f260:=Tryd.func83.trans (congrArg some (by kernel_rfl))
 t0:=Tryd.underlying0
 a0:=Tryd.isAgg0
 z0:=Tryd.sizeOf0
 v0:=Tryd.zeroValue0
 t3:=Tryd.underlying3
 a3:=Tryd.isAgg3
 z3:=Tryd.sizeOf3
 v3:=Tryd.zeroValue3
 t4:=Tryd.underlying4
 a4:=Tryd.isAgg4
 z4:=Tryd.sizeOf4
 v4:=Tryd.zeroValue4
 t5:=Tryd.underlying5
 a5:=Tryd.isAgg5
 z5:=Tryd.sizeOf5
 v5:=Tryd.zeroValue5
 t9:=Tryd.underlying9
 a9:=Tryd.isAgg9
 z9:=Tryd.sizeOf9
 v9:=Tryd.zeroValue9
 t21:=Tryd.underlying21
 a21:=Tryd.isAgg21
 z21:=Tryd.sizeOf21
 v21:=Tryd.zeroValue21
 t46:=Tryd.underlying85
 a46:=Tryd.isAgg85
 z46:=Tryd.sizeOf85
 v46:=Tryd.zeroValue85
 t119:=Tryd.underlying84
 a119:=Tryd.isAgg84
 z119:=Tryd.sizeOf84
 t138:=Tryd.underlying87
 a138:=Tryd.isAgg87
 z138:=Tryd.sizeOf87
 v138:=Tryd.zeroValue87
 t139:=Tryd.underlying88
 a139:=Tryd.isAgg88
 z139:=Tryd.sizeOf88
 v139:=Tryd.zeroValue88
 g3:=by kernel_rfl
 g4:=by kernel_rfl }
open Go.RowKit Go.Lib in
theorem Tryd.utf8_DecodeRuneInString (s:ByteArray) (w:World) (hT:Lib.Utf8Tabs 1 2 w) :
  Calls Tryd.prog 82 #[.string s] w fun e w' => e=.returned (.tuple #[.int .i32 (Lib.decodeGo s).1,.int .i64 (Lib.decodeGo s).2])∧Below w.heap.size w w':=Any.utf8_DecodeRuneInString Tryd.lays197 s w hT
end Go.Proofs
