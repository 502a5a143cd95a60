/- What PathsGet is proved with: an evaluator of the model's code over data, and that the machine does what it says. -/
import Derived.ProofKit
import Derived.Orders
import Derived.Below
import Derived.Laws.AppendOwn
import Derived.Laws.MakeOwn
import Derived.Laws.CopyOwn
import Derived.Laws.Slices
import Derived.WalkKit
import Derived.Laws.Tables
section
set_option linter.unusedVariables false
set_option linter.unusedSimpArgs false
namespace Go.Ab

inductive V where
  | bad
  | bool (b : Bool)
  | int (k : IntKind) (n : Int)
  | str (s : ByteArray)
  | sl (clip : Bool) (cs : List V) (n : Nat)
  | ptr (cs : List V) (o : Nat)
  | nilp
  | fn (f : Nat) (cap : List V)
  | nilfn
  | ref (b o : Nat)
  | aref (a v o : Nat)
  | rsl (clip : Bool) (a v o n : Nat)
  | agg (cs : List V)
  | tup (vs : List V)
  | nilif
  | ifc (t : Nat) (cs : List V)
  deriving Inhabited

inductive Bx where
  | cells (cs : List V) (ro : Bool)
  | iter (s : ByteArray) (pos : Nat)

structure Arr where
  ver : Nat
  sz : Nat
  cs : List V
  cap : Option Nat
  ro : Nat

structure Hp where
  h : Nat → Option Bx
  n : Nat
  a : Nat → Option Arr
  m : Nat

structure St where
  t : Nat → V
  hp : Hp

def Hp.empty : Hp := ⟨fun _ => none, 0, fun _ => none, 0⟩
def upd {α : Type} (f : Nat → α) (i : Nat) (x : α) : Nat → α := fun j => if j = i then x else f j
def St.put (s : St) (d : Option Nat) (v : V) : St :=
  match d with
  | some d => { s with t := upd s.t d v }
  | none => s

def scalar : Value → V
  | .bool b => .bool b
  | .int k n => .int k n
  | .string s => .str s
  | .pointer none => .nilp
  | .slice none 0 0 => .sl true [] 0
  | .nilFunc => .nilfn
  | .nilIface => .nilif
  | _ => .bad
def scB : Value → Bool
  | .agg _ | .tuple _ => false
  | _ => true
def ofValue : Value → V
  | .agg cs => if cs.toList.all scB then .agg (cs.toList.map scalar) else .bad
  | .tuple vs => if vs.size = 0 then .tup [] else .bad
  | v => scalar v
def V.cells : V → Option (List V)
  | .agg cs => some cs
  | .bad | .tup _ => none
  | v => some [v]

def val (t : Nat → V) : Operand → V
  | .tmp i => t i
  | .const v => ofValue v
  | .func f => .fn f []
  | .global _ => .bad

section
variable (P : Program)
def tsize (t : Nat) : Nat := match P.info? t with | some i => i.size | none => 0
def tbytes (t : Nat) : Nat := match P.info? t with | some i => i.bytes | none => 0
def tzero (t : Nat) : Option (List V) :=
  match P.info? t with
  | some i => match i.zero with
    | some z => if z.cells.toList.all scB then some (z.cells.toList.map scalar) else none
    | none => none
  | none => none
def tagg (t : Nat) : Option Bool := match P.underlying t with | some (.struct _) => some true | some (.array _ _) => some true | some _ => some false | none => none
def tslice (t : Nat) : Option Nat := match P.underlying t with | some (.slice e) => (match P.info? e with | some _ => some e | none => none) | _ => none
def isStrT (t : Nat) : Bool := match P.underlying t with | some .string => true | _ => false
def tfield (t f : Nat) : Option Field := match P.underlying t with | some (.struct fs) => fs[f]? | _ => none

def fillL (cells : List V) (off : Nat) (vs : List V) : List V := cells.take off ++ vs ++ cells.drop (off + vs.length)
/-- 'place i': where part i lies, and its size. -/
def fill (place : Nat → Option (Nat × Nat)) (cells : List V) : List (Nat × V) → Option (List V)
  | [] => some cells
  | (i, v) :: rest =>
    match place i with
    | some (off, size) => match v.cells with
      | some vs => if vs.length = size ∧ off + size ≤ cells.length then fill place (fillL cells off vs) rest else none
      | none => none
    | none => none

def one (agg : Option Bool) (cs : List V) : Option V := match agg with | some true => some (.agg cs) | some false => (match cs with | [v] => some v | _ => none) | none => none
def sub (cs : List V) (o n : Nat) : List V := (cs.drop o).take n

/-- reading n cells at a pointer; 'lim': boxes and arrays at or past these are not read -/
def look (lim : Option (Nat × Nat)) (hp : Hp) (a : V) (n : Nat) : Option (List V) :=
  match a with
  | .ptr cs o => if o + n ≤ cs.length then some (sub cs o n) else none
  | .ref b o => match hp.h b, (match lim with | some (l, _) => decide (b < l) | none => true) with
    | some (.cells cs _), true => if o + n ≤ cs.length then some (sub cs o n) else none
    | _, _ => none
  | .aref b v o => match hp.a b, (match lim with | some (_, l) => decide (b < l) | none => true) with
    | some A, true => if A.ver = v ∧ o + n ≤ A.cs.length then some (sub A.cs o n) else none
    | _, _ => none
  | _ => none

/-- the cells of a slice -/
def content (lim : Option (Nat × Nat)) (hp : Hp) (size : Nat) : V → Option (List V × Nat)
  | .sl _ cs n => if cs.length = n * size then some (cs, n) else none
  | .rsl _ b v o n => match hp.a b, (match lim with | some (_, l) => decide (b < l) | none => true) with
    | some A, true => if A.ver = v ∧ A.sz = size ∧ o + n * size ≤ A.cs.length then some (sub A.cs o (n * size), n) else none
    | _, _ => none
  | _ => none

def isBoolT (t : Nat) : Bool := match P.underlying t with | some .bool => true | _ => false
def isPtrT (t : Nat) : Bool := match P.underlying t with | some (.pointer _) => true | _ => false
def isFnT (t : Nat) : Bool := match P.underlying t with | some (.func _ _ _) => true | _ => false
def isSlT (t : Nat) : Bool := match P.underlying t with | some (.slice _) => true | _ => false
/-- '==' and '!=' where the answer is known -/
def eqv (op : BinOp) (ok b : Bool) : Option V := if ok then (match op with | .eql => some (.bool b) | .neq => some (.bool (!b)) | _ => none) else none
def binOp (op : BinOp) (ty : Nat) (x y : V) : Option V :=
  match x with
  | .int k a => match y with
    | .int k' b =>
      match op with
      | .shl => if b < 0 then none else some (.int k (k.wrap (a * 2 ^ (min b.toNat k.bits))))
      | .shr => if b < 0 then none else some (.int k (a.fdiv (2 ^ (min b.toNat k.bits))))
      | op => if k = k' then (match op with
        | .add => some (.int k (k.wrap (a + b)))
        | .sub => some (.int k (k.wrap (a - b)))
        | .mul => some (.int k (k.wrap (a * b)))
        | .quo => if b = 0 then none else some (.int k (k.wrap (a.tdiv b)))
        | .rem => if b = 0 then none else some (.int k (a.tmod b))
        | .and => some (.int k (k.wrap (BitVec.ofInt k.bits a &&& BitVec.ofInt k.bits b).toNat))
        | .or => some (.int k (k.wrap (BitVec.ofInt k.bits a ||| BitVec.ofInt k.bits b).toNat))
        | .xor => some (.int k (k.wrap (BitVec.ofInt k.bits a ^^^ BitVec.ofInt k.bits b).toNat))
        | .andNot => some (.int k (k.wrap (BitVec.ofInt k.bits a &&& ~~~(BitVec.ofInt k.bits b)).toNat))
        | .eql => some (.bool (a == b))
        | .neq => some (.bool (a != b))
        | .lss => some (.bool (a < b))
        | .leq => some (.bool (a ≤ b))
        | .gtr => some (.bool (a > b))
        | .geq => some (.bool (a ≥ b))
        | _ => none) else none
    | _ => none
  | .str a => match y with
    | .str b =>
      (match op with
      | .add => if a.size + b.size ≤ 140737488355328 then some (.str (a ++ b)) else none
      | .eql => some (.bool (a.toList == b.toList))
      | .neq => some (.bool (!(a.toList == b.toList)))
      | .lss => some (.bool (Op.bytesLess a.toList b.toList))
      | .leq => some (.bool (Op.bytesLess a.toList b.toList || a.toList == b.toList))
      | .gtr => some (.bool (!(Op.bytesLess a.toList b.toList || a.toList == b.toList)))
      | .geq => some (.bool (!(Op.bytesLess a.toList b.toList)))
      | _ => none)
    | _ => none
  | .bool a => match y with
    | .bool b => eqv op (isBoolT P ty) (a == b)
    | _ => none
  | .nilp => match y with
    | .nilp => eqv op (isPtrT P ty) true
    | .ptr _ _ => eqv op (isPtrT P ty) false
    | .ref _ _ => eqv op (isPtrT P ty) false
    | .aref _ _ _ => eqv op (isPtrT P ty) false
    | _ => none
  | .ptr _ _ => match y with | .nilp => eqv op (isPtrT P ty) false | _ => none
  | .ref _ _ => match y with | .nilp => eqv op (isPtrT P ty) false | _ => none
  | .aref _ _ _ => match y with | .nilp => eqv op (isPtrT P ty) false | _ => none
  | .nilfn => match y with
    | .nilfn => eqv op (isFnT P ty) true
    | .fn _ _ => eqv op (isFnT P ty) false
    | _ => none
  | .fn _ _ => match y with | .nilfn => eqv op (isFnT P ty) false | _ => none
  | _ => none

/-- a slice held against nil, where the answer is known -/
def nilTest (op : BinOp) (ty : Nat) (x : V) : Option V :=
  match x with
  | .sl _ _ (_ + 1) => eqv op (isSlT P ty) false
  | .rsl _ _ _ _ _ => eqv op (isSlT P ty) false
  | _ => none
def isNilSl : Operand → Bool
  | .const (.slice none 0 0) => true
  | _ => false
def binOpN (op : BinOp) (ty : Nat) (y : Operand) (a b : V) : Option V :=
  match binOp P op ty a b with
  | some v => some v
  | none => match isNilSl y with
    | true => nilTest P op ty a
    | false => none

def unOp (op : UnOp) (x : V) : Option V :=
  match op, x with
  | .neg, .int k n => some (.int k (k.wrap (0 - n)))
  | .xor, .int k n => some (.int k (k.wrap (BitVec.ofInt k.bits (if k.signed then -1 else k.max) ^^^ BitVec.ofInt k.bits n).toNat))
  | .not, .bool b => some (.bool (!b))
  | _, _ => none

def convert (src dst : Nat) (x : V) : Option V :=
  match P.underlying src, P.underlying dst, x with
  | some _, some (.int k), .int _ n => some (.int k (k.wrap n))
  | some _, some .string, .int _ n => some (.str (Utf8.encode n))
  | some _, some .string, .str s => some (.str s)
  | _, _, _ => none

def bound (x : V) (top : Nat) : Option Nat :=
  match x with
  | .int _ i => if 0 ≤ i ∧ i ≤ (top : Int) then some i.toNat else none
  | _ => none
def boundO (x : Option V) (top dflt : Nat) : Option Nat := match x with | some v => bound v top | none => some dflt

/-- low, high, and max if there is one; 'hi' goes no further than the length -/
def bounds (lo hi mx : Option V) (n : Nat) : Option (Nat × Nat × Option Nat) :=
  match mx with
  | none => (boundO hi n n).bind fun h => (boundO lo h 0).bind fun l => some (l, h, none)
  | some m => match hi with
    | none => none
    | some hi => (bound m n).bind fun m => (bound hi m).bind fun h => (boundO lo h 0).bind fun l => some (l, h, some m)
def clip (c : Bool) (n h : Nat) : Option Nat → Bool
  | none => c && h == n
  | some m => h == m
/-- x[lo:hi:max] -/
def sliceV (t : Nat) (x : V) (lo hi mx : Option V) : Option V :=
  match x with
  | .str s => match isStrT P t, mx with
    | true, none => (boundO hi s.size s.size).bind fun h => (boundO lo h 0).bind fun l => some (.str (s.extract l h))
    | _, _ => none
  | .sl c cs n => match tslice P t with
    | some e => (bounds lo hi mx n).bind fun (l, h, m) => some (.sl (clip c n h m) (sub cs (l * tsize P e) ((h - l) * tsize P e)) (h - l))
    | none => none
  | .rsl c b v o n => match tslice P t with
    | some e => (bounds lo hi mx n).bind fun (l, h, m) =>
      match m with
      | none => if c = true then (if h = n then some (.rsl true b v (o + l * tsize P e) (h - l)) else none) else some (.rsl false b v (o + l * tsize P e) (h - l))
      | some k => if k = l then some (.sl true [] 0) else if h = k then some (.rsl true b v (o + l * tsize P e) (h - l)) else some .bad
    | none => none
  | _ => none

/-- the slice's array is alive, and its elements are of this type -/
def arrOk (lim : Option (Nat × Nat)) (hp : Hp) (t : Nat) : V → Bool
  | .rsl _ b v _ _ => match hp.a b, tslice P t, (match lim with | some (_, l) => decide (b < l) | none => true) with
    | some A, some e, true => A.ver == v && A.sz == tsize P e
    | _, _, _ => false
  | _ => true

inductive New where
  | nothing
  | box (b : Bx)
  | arr (a : Arr)

def maxRoom : Nat := 140737488355328

/-- freezing a value that may leave: what is kept in boxes and arrays of the call's own becomes data; what was read so may not be written any more -/
def fzL (g : Hp → V → Option (V × Hp)) : Hp → List V → Option (List V × Hp)
  | hp, [] => some ([], hp)
  | hp, v :: vs => match g hp v with
    | some (v', hp') => match fzL g hp' vs with
      | some (vs', hp'') => some (v' :: vs', hp'')
      | none => none
    | none => none
def fz : Nat → Hp → V → Option (V × Hp)
  | 0, _, _ => none
  | d + 1, hp, v =>
    match v with
    | .bool b => some (.bool b, hp)
    | .int k n => some (.int k n, hp)
    | .str s => some (.str s, hp)
    | .sl _ cs n => some (.sl false cs n, hp)
    | .ptr cs o => some (.ptr cs o, hp)
    | .nilp => some (.nilp, hp)
    | .nilfn => some (.nilfn, hp)
    | .nilif => some (.nilif, hp)
    | .ifc t cs => match fzL (fz d) hp cs with
      | some (cs', hp') => some (.ifc t cs', hp')
      | none => none
    | .fn f cap => match fzL (fz d) hp cap with
      | some (cap', hp') => some (.fn f cap', hp')
      | none => none
    | .agg cs => match fzL (fz d) hp cs with
      | some (cs', hp') => some (.agg cs', hp')
      | none => none
    | .tup cs => match fzL (fz d) hp cs with
      | some (cs', hp') => some (.tup cs', hp')
      | none => none
    | .ref b o => match hp.h b with
      | some (.cells cs _) => match fzL (fz d) { hp with h := upd hp.h b (some (.cells cs true)) } cs with
        | some (cs', hp') => some (.ptr cs' o, hp')
        | none => none
      | _ => none
    | .rsl _ b w o n => match hp.a b with
      | some A => if A.ver = w ∧ o + n * A.sz ≤ A.cs.length then
          match fzL (fz d) { hp with a := upd hp.a b (some { A with ro := max A.ro (o + n * A.sz) }) } (sub A.cs o (n * A.sz)) with
          | some (cs', hp') => some (.sl false cs' n, hp')
          | none => none
        else none
      | none => none
    | _ => none

/-- no box or array of the call's own in it: freezing changes nothing -/
def fzPL (g : V → Option V) : List V → Option (List V)
  | [] => some []
  | v :: vs => match g v with
    | some v' => match fzPL g vs with
      | some vs' => some (v' :: vs')
      | none => none
    | none => none
def fzP : Nat → V → Option V
  | 0, _ => none
  | d + 1, v =>
    match v with
    | .bool b => some (.bool b)
    | .int k n => some (.int k n)
    | .str s => some (.str s)
    | .sl _ cs n => some (.sl false cs n)
    | .ptr cs o => some (.ptr cs o)
    | .nilp => some .nilp
    | .nilfn => some .nilfn
    | .nilif => some .nilif
    | .ifc t cs => match fzPL (fzP d) cs with
      | some c => some (.ifc t c)
      | none => none
    | .fn f cap => match fzPL (fzP d) cap with
      | some c => some (.fn f c)
      | none => none
    | .agg cs => match fzPL (fzP d) cs with
      | some c => some (.agg c)
      | none => none
    | .tup cs => match fzPL (fzP d) cs with
      | some c => some (.tup c)
      | none => none
    | _ => none

abbrev Call := Nat → List V → Option V
abbrev CallR := Nat → List V → Hp → Option (V × Hp)

def clipOf (size : Nat) (hp : Hp) (s : V) : Option Bool :=
  match s with
  | .sl c _ _ => some c
  | .rsl c b _ o n => match hp.a b with
    | some A => match A.cap with
      | some m => some (c || (o + n * size == m * size))
      | none => some c
    | none => none
  | _ => none

/-- append(s, x...): the new slice, and the array that is new or that has turned. -/
def appendV (size bytes : Nat) (hp : Hp) (ida : Nat) (s x : V) : Option (V × Hp) :=
  match content none hp size s, content none hp size x with
  | some (cs, n), some (xs, k) =>
    if k = 0 then some (s, hp) else
    if (n + k) * bytes ≤ maxRoom ∧ n + k ≤ maxRoom then
      match s with
      | .sl true _ _ => some (.rsl false ida 0 0 (n + k), { hp with a := upd hp.a ida (some ⟨0, size, cs ++ xs, none, 0⟩) })
      | .rsl true _ _ _ _ => some (.rsl false ida 0 0 (n + k), { hp with a := upd hp.a ida (some ⟨0, size, cs ++ xs, none, 0⟩) })
      | .rsl false b v o _ => match hp.a b with
        | some A => match A.cap with
          | some m =>
            if o + (n + k) * size ≤ m * size then
              (if A.ro ≤ o + n * size then some (.rsl false b v o (n + k), { hp with a := upd hp.a b (some { A with cs := fillL A.cs (o + n * size) xs }) }) else none)
            else some (.rsl false ida 0 0 (n + k), { hp with a := upd hp.a ida (some ⟨0, size, cs ++ xs, none, 0⟩) })
          | none =>
            if o = 0 ∧ n * size = A.cs.length then
              some (.rsl false b (v + 1) 0 (n + k), { hp with a := upd hp.a b (some ⟨v + 1, size, A.cs ++ xs, none, A.ro⟩) })
            else none
        | none => none
      | _ => none
    else none
  | _, _ => none

def storeV (hp : Hp) (a : V) (vs : List V) : Option Hp :=
  match a with
  | .ref b o => match hp.h b with
    | some (.cells cs false) => if o + vs.length ≤ cs.length then some { hp with h := upd hp.h b (some (.cells (fillL cs o vs) false)) } else none
    | _ => none
  | .aref b v o => match hp.a b with
    | some A => if A.ver = v ∧ A.ro ≤ o ∧ o + vs.length ≤ A.cs.length then some { hp with a := upd hp.a b (some { A with cs := fillL A.cs o vs }) } else none
    | none => none
  | _ => none

/-- some slices, and nothing else -/
def slsC : List V → Bool
  | [] => false
  | [.sl _ _ _] => true
  | .sl _ _ _ :: cs => slsC cs
  | _ => false

/-- operations that read, and make at most one box or array -/
def core (call : Call) (lim : Option (Nat × Nat)) (ρ : Operand → V) (hp : Hp) (idb ida : Nat) (o : Oper) : Option (V × New) :=
  match o.op with
  | .move x | .assign x => some (ρ x, .nothing)
  | .pick c a b => match ρ c with | .bool true => some (ρ a, .nothing) | .bool false => some (ρ b, .nothing) | _ => none
  | .alloc e => (tzero P e).bind fun z => some (.ref idb 0, .box (.cells z false))
  | .box _ x => match (ρ x).cells with
    | some cs => match lim with
      | none => some (.ref idb 0, .box (.cells cs false))
      | some _ => match fzPL (fzP 6) cs with
        | some cs' => some (.ptr cs' 0, .nothing)
        | none => some (.ref idb 0, .box (.cells cs false))
    | none => none
  | .build t parts => (tzero P t).bind fun z => match P.underlying t with
    | some (.struct fs) => (fs.toList.mapM (fun f => (P.info? f.type).map fun i => (f.offset, i.size))).bind fun places =>
        (fill (fun i => places[i]?) z (parts.toList.map fun (i, x) => (i, ρ x))).bind fun cs => some (.agg cs, .nothing)
    | some (.array _ e) => if (P.info? e).isNone then none else (fill (fun i => some (i * tsize P e, tsize P e)) z (parts.toList.map fun (i, x) => (i, ρ x))).bind fun cs => some (.agg cs, .nothing)
    | _ => none
  | .buildSlice t len parts => (tslice P t).bind fun e => (tzero P e).bind fun z =>
      if len * tsize P e ≤ 16777216 ∧ z.length = tsize P e then
        (fill (fun i => some (i * tsize P e, tsize P e)) ((List.replicate len z).flatten) (parts.toList.map fun (i, x) => (i, ρ x))).bind fun cs =>
          match lim, len with
          | none, _ => some (.rsl false ida 0 0 len, .arr ⟨0, tsize P e, cs, some len, 0⟩)
          | some _, 0 => some (.rsl false ida 0 0 len, .arr ⟨0, tsize P e, cs, some len, 0⟩)
          | some _, _ + 1 => match fzPL (fzP 6) cs with
            | some cs' => some (.sl true cs' len, .nothing)
            | none => none
      else none
  | .load t a => (look lim hp (ρ a) (tsize P t)).bind fun cs => (one (tagg P t) cs).bind fun v => some (v, .nothing)
  | .nilCheck x => match ρ x with
    | .ptr cs i => some (.ptr cs i, .nothing) | .ref b i => some (.ref b i, .nothing) | .aref b v i => some (.aref b v i, .nothing)
    | .fn f c => some (.fn f c, .nothing) | _ => none
  | .binOp op ty x y _ => (binOpN P op ty y (ρ x) (ρ y)).bind fun v => some (v, .nothing)
  | .unOp op _ x => (unOp op (ρ x)).bind fun v => some (v, .nothing)
  | .convert s d x => (convert P s d (ρ x)).bind fun v => some (v, .nothing)
  | .makeInterface t x => match P.underlying t with
    | some (.interface _) => none
    | some _ => some (.ifc t [ρ x], .nothing)
    | none => none
  | .typeAssert x _ t ok => match P.underlying t with
    | some (.interface _) => none
    | some _ => match ρ x with
      | .ifc t' [v] => if t' = t then some (if ok then .tup [v, .bool true] else v, .nothing) else none
      | _ => none
    | none => none
  | .makeFunc (.func f) first cap => if first.size = 0 then some (.fn f (cap.toList.map ρ), .nothing) else none
  | .makeSlice t l c => match tslice P t, ρ l, ρ c with
    | some e, .int _ l, .int _ c => (tzero P e).bind fun z =>
      if 0 ≤ l ∧ l ≤ c ∧ c.toNat * tbytes P e ≤ maxRoom ∧ c.toNat ≤ maxRoom ∧ z.length = tsize P e then
        some (.rsl false ida 0 0 l.toNat, .arr ⟨0, tsize P e, (List.replicate c.toNat z).flatten, some c.toNat, 0⟩) else none
    | _, _, _ => none
  | .slice t x lo hi mx => if arrOk P lim hp t (ρ x) = false then none else (sliceV P t (ρ x) (lo.map ρ) (hi.map ρ) (mx.map ρ)).bind fun v => some (v, .nothing)
  | .fieldAddr s x f => (tfield P s f).bind fun fd => if tsize P fd.type = 0 then none else match ρ x with
    | .ref b i => some (.ref b (i + fd.offset), .nothing)
    | .ptr cs i => some (.ptr cs (i + fd.offset), .nothing)
    | .aref b v i => some (.aref b v (i + fd.offset), .nothing)
    | _ => none
  | .field s x f => (tfield P s f).bind fun fd => match ρ x with
    | .agg cs => if fd.offset + tsize P fd.type ≤ cs.length then (one (tagg P fd.type) (sub cs fd.offset (tsize P fd.type))).bind fun v => some (v, .nothing) else none
    | _ => none
  | .indexAddr t x ix => (tslice P t).bind fun e => match ρ x, ρ ix with
    | .sl _ cs n, .int _ i => if 0 ≤ i ∧ i < (n : Int) then some (.ptr cs (i.toNat * tsize P e), .nothing) else none
    | .rsl _ b v o n, .int _ i => if 0 ≤ i ∧ i < (n : Int) then some (.aref b v (o + i.toNat * tsize P e), .nothing) else none
    | _, _ => none
  | .index t x ix => match ρ x, ρ ix with
    | .str s, .int _ i => if isStrT P t = true ∧ 0 ≤ i ∧ i < (s.size : Int) then some (.int .u8 ((s.data.toList.getD i.toNat 0).toNat : Int), .nothing) else none
    | .agg cs, .int _ i => match P.underlying t with
      | some (.array n e) => if 0 ≤ i ∧ i < (n : Int) ∧ i.toNat * tsize P e + tsize P e ≤ cs.length then (one (tagg P e) (sub cs (i.toNat * tsize P e) (tsize P e))).bind fun v => some (v, .nothing) else none
      | _ => none
    | _, _ => none
  | .range t x => match ρ x with
    | .str s => if isStrT P t = false then none else some (.ref idb 0, .box (.iter s 0))
    | _ => none
  | .extract x i => match ρ x with
    | .tup vs => match vs[i]? with | some v => some (v, .nothing) | none => none
    | _ => none
  | .call c => match c.callee with
    | .value f => match ρ f with
      | .fn f cap => match lim with
        | some _ => (fzPL (fzP 6) (c.args.toList.map ρ ++ cap)).bind fun as => (call f as).bind fun r => some (r, .nothing)
        | none => none
      | _ => none
    | .builtin .len => match c.args.toList.map ρ, c.argTypes.toList with
      | [.str s], t :: _ => if isStrT P t then some (.int .i64 s.size, .nothing) else none
      | [.sl _ _ n], t :: _ => if isSlT P t then some (.int .i64 n, .nothing) else none
      | [.rsl _ _ _ _ n], t :: _ => if isSlT P t then some (.int .i64 n, .nothing) else none
      | _, _ => none
    | .builtin .min => match (c.args.toList.map ρ) with
      | [.int k x, .int _ y] => some (.int k (if y < x then y else x), .nothing)
      | _ => none
    | .builtin .max => match (c.args.toList.map ρ) with
      | [.int k x, .int _ y] => some (.int k (if y > x then y else x), .nothing)
      | _ => none
    | _ => none
  | _ => none

/-- nothing in it leads to memory -/
def flat1 : V → Bool
  | .bool _ | .int _ _ | .str _ => true
  | _ => false
def flatR : V → Bool
  | .bool _ | .int _ _ | .str _ => true
  | .tup vs => vs.all flat1
  | _ => false
/-- what is lent to a call that tells nothing of it is as it was -/
def keepH (r : V) (hp hp' : Hp) : Hp := match flatR r with | true => hp | false => hp'
/-- operations that write, or hand on what can be written -/
def loud (call : Call) (callR : CallR) (byref : Nat → Bool) (ρ : Operand → V) (hp : Hp) (ida : Nat) (o : Oper) : Option (V × Hp) :=
  match o.op with
  | .store t a x => match (ρ x).cells with
    | some vs => if vs.length = tsize P t ∧ tsize P t ≠ 0 then (storeV hp (ρ a) vs).bind fun hp' => some (.tup [], hp') else none
    | none => none
  | .next it true => match ρ it with
    | .ref b 0 => match hp.h b with
      | some (.iter s pos) =>
        if pos < s.size then
          some (.tup [.bool true, .int .i64 pos, .int .i32 (Utf8.decode s pos).1], { hp with h := upd hp.h b (some (.iter s (pos + (Utf8.decode s pos).2))) })
        else some (.tup [.bool false], hp)
      | _ => none
    | _ => none
  | .call c => match c.callee with
    | .value f => match ρ f with
      | .fn f cap => if byref f then callR f (c.args.toList.map ρ ++ cap) hp else
        match fzL (fz 6) hp (c.args.toList.map ρ ++ cap) with
        | some (as, hp') => (call f as).bind fun r => some (r, keepH r hp hp')
        | none => none
      | _ => none
    | .builtin .append => match c.args.toList.map ρ, c.argTypes.toList with
      | [s, x], [t, u] => if t = u then (tslice P t).bind fun e => (tzero P e).bind fun z => if z.length = tsize P e ∧ tsize P e ≠ 0 then appendV (tsize P e) (tbytes P e) hp ida s x else none else none
      | _, _ => none
    | .builtin .copy => match c.args.toList.map ρ, c.argTypes.toList with
      | [d, x], [t, u] => if t ≠ u then none else (tslice P t).bind fun e => match d, content none hp (tsize P e) x with
        | .rsl _ b v o n, some (xs, k) =>
          if min k n = 0 then some (.int .i64 0, hp) else
          (storeV hp (.aref b v o) (xs.take (min k n * tsize P e))).bind fun hp' => some (.int .i64 (min k n : Nat), hp')
        | _, _ => none
      | _, _ => none
    | .builtin .clear => match c.args.toList.map ρ, c.argTypes.toList with
      | [d], [t] => (tslice P t).bind fun e => (tzero P e).bind fun z => match d with
        | .rsl _ b v o n => if z.length = tsize P e ∧ n * tsize P e ≠ 0 then (storeV hp (.aref b v o) ((List.replicate n z).flatten)).bind fun hp' => some (.tup [], hp') else none
        | _ => none
      | _, _ => none
    | _ => none
  | _ => none

def isLoud (draw : Bool) : Op → Bool
  | .store .. | .next .. => true
  | .call c => match c.callee with
    | .builtin .append | .builtin .copy | .builtin .clear => true
    | .value _ => !draw
    | _ => false
  | _ => false

/-- reads and writes no memory of the call's own -/
def pureOp : Op → Bool
  | .buildSlice _ (_ + 1) _ => true
  | .move _ | .assign _ | .pick .. | .build .. | .nilCheck _ | .binOp .. | .unOp .. | .convert .. | .makeFunc .. | .makeInterface .. | .typeAssert .. | .fieldAddr .. | .field .. | .indexAddr .. | .index .. | .extract .. => true
  | .call c => match c.callee with
    | .value _ => true
    | .builtin .len | .builtin .min | .builtin .max => true
    | _ => false
  | _ => false
def isCallV : Op → Bool
  | .call c => match c.callee with | .value _ => true | _ => false
  | _ => false
/-- i waits for j -/
def ancL (ops : List Oper) : Nat → Nat → Nat → Bool
  | 0, _, _ => false
  | d + 1, i, j => match ops[i]? with
    | some o => o.after.toList.any fun e => Region.binds .any e && (Nat.beq e.on j || ancL ops d e.on j)
    | none => false
/-- every operation but those that touch no memory waits for i, or i for it -/
def ordB (ops : List Oper) (i : Nat) : Bool :=
  (List.range ops.length).all fun j => Nat.beq i j || (match ops[j]? with | some o => pureOp o.op | none => true) || ancL ops ops.length i j || ancL ops ops.length j i
def loudF (ops : List Oper) (draw : Bool) (i : Nat) (o : Oper) : Bool := isLoud draw o.op || (draw && (isCallV o.op && ordB ops i))

def St.new (s : St) (idb ida : Nat) : New → St
  | .nothing => s
  | .box b => { s with hp := { s.hp with h := upd s.hp.h idb (some b) } }
  | .arr a => { s with hp := { s.hp with a := upd s.hp.a ida (some a) } }

def wantedV (ops : List Oper) (t : Nat → V) (o : Oper) : Option Bool :=
  match o.guard with
  | none => some true
  | some (j, want) => match (match ops[j]? with | some g => g.dst | none => none) with
    | some d => match t d with | .bool b => some (b == want) | .tup [] => some false | _ => none
    | none => none

structure Env where
  call : Call
  callR : CallR
  byref : Nat → Bool

/-- every operation that writes waits for i, or i for it -/
def frI (ops : List Oper) (i : Nat) : Bool :=
  (List.range ops.length).all fun j => Nat.beq i j || (match ops[j]? with | some o => !loudF ops true j o | none => true) || ancL ops ops.length i j || ancL ops ops.length j i
/-- an array that a call has just made -/
def freshOf (ida : Nat) (p : V × Hp) : Option (V × New) := match p.1 with
  | .rsl false b 0 0 n => match p.2.a b with
    | some ⟨0, sz, cs, none, 0⟩ => (fzPL (fzP 5) cs).bind fun cs' => some (.rsl false ida 0 0 n, .arr ⟨0, sz, cs', none, 0⟩)
    | _ => none
  | _ => none
/-- whom it calls, and with what data, if that one may be handed boxes and arrays -/
def freshK (E : Env) (ρ : Operand → V) (o : Oper) : Option (Nat × List V) := match o.op with
  | .call ⟨.value f, args, _⟩ => match ρ f with
    | .fn k cap => match E.byref k with
      | true => match fzPL (fzP 6) (args.toList.map ρ ++ cap) with
        | some as => some (k, as)
        | none => none
      | false => none
    | _ => none
  | _ => none
/-- in a drawn region, a call that only writes may wait for may tell an array of its own -/
def coreF (E : Env) (fr : Bool) (lim : Option (Nat × Nat)) (ρ : Operand → V) (hp : Hp) (idb ida : Nat) (o : Oper) : Option (V × New) := match fr with
  | true => match freshK E ρ o with
    | some (k, as) => match E.callR k as Hp.empty with
      | some p => match freshOf ida p with
        | some q => some q
        | none => core P E.call lim ρ hp idb ida o
      | none => none
    | none => core P E.call lim ρ hp idb ida o
  | false => core P E.call lim ρ hp idb ida o
def frB (ops : List Oper) (draw : Bool) (i : Nat) (o : Oper) : Bool := draw && (isCallV o.op && frI ops i)

def stepOp (E : Env) (ops : List Oper) (draw : Bool) (n0 m0 : Nat) (i : Nat) (o : Oper) (s : St) : Option St :=
  match wantedV ops s.t o with
  | some true =>
    if loudF ops draw i o then
      match loud P E.call E.callR E.byref (val s.t) s.hp (m0 + i) o with
      | some (v, hp) => some (({ s with hp } : St).put o.dst v)
      | none => none
    else
      match coreF P E (frB ops draw i o) (if draw then some (n0, m0) else none) (val s.t) s.hp (n0 + i) (m0 + i) o with
      | some (v, x) => some ((s.new (n0 + i) (m0 + i) x).put o.dst v)
      | none => none
  | some false => some (s.put o.dst (.tup []))
  | none => none

def stepOps (E : Env) (ops : List Oper) (draw : Bool) (n0 m0 : Nat) : Nat → List Oper → St → Option St
  | _, [], s => some s
  | i, o :: os, s => match stepOp P E ops draw n0 m0 i o s with
    | some s' => stepOps E ops draw n0 m0 (i + 1) os s'
    | none => none
def St.bump (s : St) (k : Nat) : St := { s with hp := { s.hp with n := s.hp.n + k, m := s.hp.m + k } }
/-- two addresses of different boxes or arrays -/
def baseNe : V → V → Bool
  | .ref b _, .ref c _ => !(Nat.beq b c)
  | .aref b _ _, .aref c _ _ => !(Nat.beq b c)
  | _, _ => true
/-- a store whose address is a temporary -/
def stTmp (o : Oper) : Option Nat := match o.op with | .store _ (.tmp a) _ => some a | _ => none
def stL : Nat → List Oper → List (Nat × Nat)
  | _, [] => []
  | i, o :: os => match stTmp o with | some a => (i, a) :: stL (i + 1) os | none => stL (i + 1) os
def lateOne (ops : List Oper) (t : Nat → V) (j a : Nat) : List (Nat × Nat) → Bool
  | [] => true
  | (i, b) :: l => (ancL ops ops.length i j || baseNe (t a) (t b)) && lateOne ops t j a l
def lateAll (ops : List Oper) (t : Nat → V) : List (Nat × Nat) → Bool
  | [] => true
  | (j, a) :: l => lateOne ops t j a l && lateAll ops t l
/-- a write: a store (true), an append or a copy (false) -/
def isW (o : Oper) : Option Bool := match o.op with
  | .store _ _ _ => some true
  | .call ⟨.builtin .append, _, _⟩ => some false
  | .call ⟨.builtin .copy, _, _⟩ => some false
  | _ => none
/-- a read at a temporary; a load (true), or a cut -/
def isRd (o : Oper) : Option (Bool × Nat) := match o.op with
  | .load _ (.tmp a) => some (true, a)
  | .slice _ (.tmp a) _ _ _ => some (false, a)
  | _ => none
/-- such a read and such a write have nothing to do with one another -/
def rdOK (st ld : Bool) (v : V) : Bool := match v with
  | .rsl _ _ _ _ _ => ld
  | .aref _ _ _ => !ld
  | .ref _ _ => !(ld && st)
  | _ => true
def wL : Nat → List Oper → List (Nat × Bool)
  | _, [] => []
  | i, o :: os => match isW o with | some st => (i, st) :: wL (i + 1) os | none => wL (i + 1) os
def rL : Nat → List Oper → List (Nat × Bool × Nat)
  | _, [] => []
  | i, o :: os => match isRd o with | some (ld, a) => (i, ld, a) :: rL (i + 1) os | none => rL (i + 1) os
def mixOne (ops : List Oper) (t : Nat → V) (j : Nat) (st : Bool) : List (Nat × Bool × Nat) → Bool
  | [] => true
  | (i, ld, a) :: l => ((st && ld) || rdOK st ld (t a) || ancL ops ops.length i j || ancL ops ops.length j i) && mixOne ops t j st l
def mixAll (ops : List Oper) (t : Nat → V) : List (Nat × Bool) → Bool
  | [] => true
  | (j, st) :: l => mixOne ops t j st (rL 0 ops) && mixAll ops t l
def slOne (ops : List Oper) (t : Nat → V) (j a : Nat) : List (Nat × Bool × Nat) → Bool
  | [] => true
  | (i, ld, b) :: l => (!ld || baseNe (t a) (t b) || ancL ops ops.length i j || ancL ops ops.length j i) && slOne ops t j a l
def slAll (ops : List Oper) (t : Nat → V) : List (Nat × Nat) → Bool
  | [] => true
  | (j, a) :: l => slOne ops t j a (rL 0 ops) && slAll ops t l
/-- stores of a drawn region that nothing orders go to different boxes or arrays, and reads that nothing orders have nothing to do with what is written -/
def lateR (ops : List Oper) (t : Nat → V) : Bool → Bool
  | false => true
  | true => lateAll ops t (stL 0 ops) && (mixAll ops t (wL 0 ops) && slAll ops t (stL 0 ops))
def stepRegion (E : Env) (ops : List Oper) (draw : Bool) (s : St) : Option St :=
  match stepOps P E ops draw s.hp.n s.hp.m 0 ops (s.bump ops.length) with
  | some s' => match lateR ops s'.t draw with
    | true => some s'
    | false => none
  | none => none

inductive Ex where
  | normal
  | exit (id : Nat)
  | ret

def cleanV (n : Nat) : V → V
  | .ref b o => if b < n then .ref b o else .bad
  | .fn f cap => if cap.all (fun v => match v with | .ref b _ => b < n | .agg _ | .fn _ _ | .tup _ | .ifc _ _ => false | _ => true) then .fn f cap else .bad
  | .agg cs => .agg (cs.map fun v => match v with | .ref b o => if b < n then .ref b o else .bad | .agg _ | .fn _ _ | .tup _ | .ifc _ _ => .bad | v => v)
  | .ifc t cs => .ifc t (cs.map fun v => match v with | .ref b o => if b < n then .ref b o else .bad | .agg _ | .fn _ _ | .tup _ | .ifc _ _ => .bad | v => v)
  | .tup cs => .tup (cs.map fun v => match v with | .ref b o => if b < n then .ref b o else .bad | .agg _ | .fn _ _ | .tup _ | .ifc _ _ => .bad | v => v)
  | v => v
def cleanB (n : Nat) : Bx → Bx
  | .cells cs ro => .cells (cs.map (cleanV n)) ro
  | .iter s p => .iter s p
def St.trunc (s : St) (n : Nat) : St :=
  { t := fun i => cleanV n (s.t i),
    hp := { h := fun b => if b < n then (match s.hp.h b with | some x => some (cleanB n x) | none => none) else none, n := n,
            a := fun b => match s.hp.a b with | some A => some { A with cs := A.cs.map (cleanV n) } | none => none, m := s.hp.m } }

def loopN (body : St → Option (Ex × St)) (n : Nat) : Nat → St → Option (Ex × St)
  | 0, _ => none
  | k + 1, s => match body s with
    | some (.normal, s') => loopN body n k (s'.trunc n)
    | r => r

def evalCode (E : Env) (lf : Nat) : Code → St → Option (Ex × St)
  | .skip, s => some (.normal, s)
  | .label _, s => some (.normal, s)
  | .region _ ops draw, s => match stepRegion P E ops.toList draw s with
    | some s' => some (.normal, s')
    | none => none
  | .seq a b, s => match evalCode E lf a s with
    | some (.normal, s') => evalCode E lf b s'
    | r => r
  | .cond c a b, s => match val s.t c with
    | .bool true => evalCode E lf a s
    | .bool false => evalCode E lf b s
    | _ => none
  | .block id c, s => match evalCode E lf c s with
    | some (.exit i, s') => if i = id then some (.normal, s') else some (.exit i, s')
    | r => r
  | .loop c, s => loopN (evalCode E lf c) s.hp.n lf s
  | .exit id, s => some (.exit id, s)
  | .scope c, s => evalCode E lf c s
  | .ret, s => some (.ret, s)
  | _, _ => none

def resOne (s : St) : ResultVar → Option V
  | .tmp t => some (s.t t)
  | .cell a t => (look none s.hp (s.t a) (tsize P t)).bind fun cs => one (tagg P t) cs
def resL (s : St) : List ResultVar → Option (List V)
  | [] => some []
  | r :: rs => match resOne P s r with
    | some v => match resL s rs with
      | some vs => some (v :: vs)
      | none => none
    | none => none
def resOf (fn : Func) (s : St) : Option V :=
  match resL P s fn.results.toList with
  | some [v] => some v
  | some vs => some (.tup vs)
  | none => none

/-- externals: functions whose contract is known otherwise -/
abbrev Exts := Nat → Option (List V → Option V)
/-- a call from data to data -/
def dataCall (ext : Exts) (R : CallR) : Call := fun f as =>
  match ext f with
  | some g => g as
  | none => match R f as Hp.empty with
    | some (r, hp') => match fz 6 hp' r with
      | some (r', _) => some r'
      | none => none
    | none => none
def init (args : List V) : Nat → V := fun i => (args[i]?).getD (.tup [])

/-- functions whose contract, boxes and arrays and all, is known otherwise -/
abbrev ExtsR := Nat → Option (List V → Hp → Option (V × Hp))
def evalR (okF : Nat → Bool) (ext : Exts) (extR : ExtsR) (byref : Nat → Bool) : Nat → CallR
  | 0 => fun _ _ _ => none
  | k + 1 => fun f args hp =>
    if okF f = false then (match extR f with | some g => g args hp | none => none) else
    match P.funcs[f]? with
    | some fn => match fn.body with
      | some body =>
        match evalCode P ⟨dataCall ext (evalR okF ext extR byref k), evalR okF ext extR byref k, byref⟩ k body ⟨init args, hp⟩ with
        | some (.exit _, _) => none
        | some (_, s) => match resOf P fn s with
          | some r => some (r, s.hp)
          | none => none
        | none => none
      | none => none
    | none => none
def eval (okF : Nat → Bool) (ext : Exts) (extR : ExtsR) (byref : Nat → Bool) (k : Nat) : Call := dataCall ext (evalR P okF ext extR byref k)
end
end Go.Ab
end

section
set_option linter.unusedVariables false
set_option linter.unusedSimpArgs false
namespace Go.Ab
open Go.RowKit

structure Gh where
  rb : Nat → Option Nat
  ra : Nat → Nat → Option (Nat × Nat × Nat)
  S : Nat → Nat → Prop

/-- without boxes and arrays of the call's own -/
def Gh.pu (G : Gh) : Gh := ⟨fun _ => none, fun _ _ => none, G.S⟩

def Sc (x : Value) : Prop := scB x = true

mutual
def VR (G : Gh) (w : World) : V → Value → Prop
  | .bad, _ => True
  | .bool b, x => x = .bool b
  | .int k n, x => x = .int k n
  | .str s, x => x = .string s
  | .sl c cs n, x => ∃ a cap, x = .slice a n cap ∧ n ≤ cap ∧ (c = true → cap = n) ∧ ((n = 0 ∧ cs = []) ∨ ∃ r o, a = some ⟨r, o, none⟩ ∧ VRC G.pu w cs r o)
  | .ptr cs o, x => ∃ r b, x = .pointer (some ⟨r, b + o, none⟩) ∧ VRC G.pu w cs r b
  | .nilp, x => x = .pointer none
  | .fn f cap, x => ∃ c, x = .func (.func f) #[] c ∧ VRs G w cap c.toList
  | .nilfn, x => x = .nilFunc
  | .ref b o, x => ∃ r, G.rb b = some r ∧ x = .pointer (some ⟨r, o, none⟩)
  | .aref a v o, x => ∃ r z C, G.ra a v = some (r, z, C) ∧ x = .pointer (some ⟨r, o, none⟩)
  | .rsl c a v o n, x => ∃ r z C o' cap, G.ra a v = some (r, z, C) ∧ x = .slice (some ⟨r, o', none⟩) n cap ∧ n ≤ cap ∧ (cap = 0 ∨ o' = o) ∧
      (c = true → cap = n ∧ o + cap * z ≤ C) ∧ (c = false → o + cap * z = C)
  | .agg cs, x => ∃ arr, x = .agg arr ∧ (∀ y ∈ arr.toList, Sc y) ∧ VRs G w cs arr.toList
  | .tup cs, x => ∃ arr, x = .tuple arr ∧ VRs G w cs arr.toList
  | .nilif, x => x = .nilIface
  | .ifc t cs, x => ∃ y, x = .iface t y ∧ VRs G w cs [y]
def VRs (G : Gh) (w : World) : List V → List Value → Prop
  | [], l => l = []
  | v :: vs, l => ∃ x xs, l = x :: xs ∧ VR G w v x ∧ VRs G w vs xs
def VRC (G : Gh) (w : World) : List V → Nat → Nat → Prop
  | [], _, _ => True
  | v :: vs, r, o => G.S r o ∧ (∃ x, w.cell? ⟨r, o, none⟩ = some x ∧ Sc x ∧ VR G w v x) ∧ VRC G w vs r (o + 1)
end

/-- what is known stays known -/
structure Grow (G : Gh) (w : World) (G' : Gh) (w' : World) : Prop where
  rb : ∀ b r, G.rb b = some r → G'.rb b = some r
  ra : ∀ a v x, G.ra a v = some x → G'.ra a v = some x
  S : ∀ r o, G.S r o → G'.S r o
  agree : ∀ r o, G.S r o → w'.cell? ⟨r, o, none⟩ = w.cell? ⟨r, o, none⟩

theorem Grow.refl (G : Gh) (w : World) : Grow G w G w := ⟨fun _ _ h => h, fun _ _ _ h => h, fun _ _ h => h, fun _ _ _ => rfl⟩
theorem Grow.trans {G G1 G2 : Gh} {w w1 w2 : World} (h : Grow G w G1 w1) (k : Grow G1 w1 G2 w2) : Grow G w G2 w2 :=
  ⟨fun b r e => k.rb b r (h.rb b r e), fun a v x e => k.ra a v x (h.ra a v x e), fun r o e => k.S r o (h.S r o e), fun r o e => (k.agree r o (h.S r o e)).trans (h.agree r o e)⟩

theorem Grow.pu {G G' : Gh} {w w' : World} (e : Grow G w G' w') : Grow G.pu w G'.pu w' := ⟨fun _ _ h => (by cases h), fun _ _ _ h => (by cases h), e.S, e.agree⟩
theorem Grow.of_pu (G : Gh) (w : World) : Grow G.pu w G w := ⟨fun _ _ h => (by cases h), fun _ _ _ h => (by cases h), fun _ _ h => h, fun _ _ _ => rfl⟩

mutual
theorem VR.mono {G G' : Gh} {w w' : World} (e : Grow G w G' w') : ∀ (v : V) (x : Value), VR G w v x → VR G' w' v x
  | .bad, _, _ => trivial
  | .bool _, _, h => h
  | .int _ _, _, h => h
  | .str _, _, h => h
  | .sl c cs n, x, h => by
    simp only [VR] at h ⊢
    obtain ⟨a, cap, h1, h2, h3, h4⟩ := h
    refine ⟨a, cap, h1, h2, h3, h4.imp id ?_⟩
    rintro ⟨r, o, ha, hc⟩
    exact ⟨r, o, ha, VRC.mono e.pu cs r o hc⟩
  | .ptr cs o, x, h => by
    simp only [VR] at h ⊢
    obtain ⟨r, b, h1, h2⟩ := h
    exact ⟨r, b, h1, VRC.mono e.pu cs r b h2⟩
  | .nilp, _, h => h
  | .fn f cap, x, h => by
    simp only [VR] at h ⊢
    obtain ⟨c, h1, h2⟩ := h
    exact ⟨c, h1, VRs.mono e cap _ h2⟩
  | .nilfn, _, h => h
  | .ref b o, x, h => by
    simp only [VR] at h ⊢
    obtain ⟨r, h1, h2⟩ := h
    exact ⟨r, e.rb _ _ h1, h2⟩
  | .aref a v o, x, h => by
    simp only [VR] at h ⊢
    obtain ⟨r, z, C, h1, h2⟩ := h
    exact ⟨r, z, C, e.ra _ _ _ h1, h2⟩
  | .rsl c a v o n, x, h => by
    simp only [VR] at h ⊢
    obtain ⟨r, z, C, o', cap, h1, h2⟩ := h
    exact ⟨r, z, C, o', cap, e.ra _ _ _ h1, h2⟩
  | .agg cs, x, h => by
    simp only [VR] at h ⊢
    obtain ⟨arr, h1, h2, h3⟩ := h
    exact ⟨arr, h1, h2, VRs.mono e cs _ h3⟩
  | .tup cs, x, h => by
    simp only [VR] at h ⊢
    obtain ⟨arr, h1, h2⟩ := h
    exact ⟨arr, h1, VRs.mono e cs _ h2⟩
  | .nilif, _, h => h
  | .ifc t cs, x, h => by
    simp only [VR] at h ⊢
    obtain ⟨y, h1, h2⟩ := h
    exact ⟨y, h1, VRs.mono e cs _ h2⟩
theorem VRs.mono {G G' : Gh} {w w' : World} (e : Grow G w G' w') : ∀ (vs : List V) (l : List Value), VRs G w vs l → VRs G' w' vs l
  | [], _, h => h
  | v :: vs, l, h => by
    simp only [VRs] at h ⊢
    obtain ⟨x, xs, h1, h2, h3⟩ := h
    exact ⟨x, xs, h1, VR.mono e v x h2, VRs.mono e vs xs h3⟩
theorem VRC.mono {G G' : Gh} {w w' : World} (e : Grow G w G' w') : ∀ (vs : List V) (r o : Nat), VRC G w vs r o → VRC G' w' vs r o
  | [], _, _, _ => trivial
  | v :: vs, r, o, h => by
    simp only [VRC] at h ⊢
    obtain ⟨h1, ⟨x, hx, hs, hv⟩, h3⟩ := h
    exact ⟨e.S _ _ h1, ⟨x, (e.agree _ _ h1).trans hx, hs, VR.mono e v x hv⟩, VRC.mono e vs r (o + 1) h3⟩
end

/-! ### lists -/
theorem VRs.length {G : Gh} {w : World} : ∀ {vs : List V} {l : List Value}, VRs G w vs l → l.length = vs.length
  | [], l, h => by simp only [VRs] at h; subst h; rfl
  | v :: vs, l, h => by simp only [VRs] at h; obtain ⟨x, xs, rfl, _, h⟩ := h; simp [VRs.length h]
theorem VRs.nil {G : Gh} {w : World} : VRs G w [] [] := rfl
theorem VRs.cons {G : Gh} {w : World} {v : V} {x : Value} {vs : List V} {xs : List Value} (h : VR G w v x) (hs : VRs G w vs xs) : VRs G w (v :: vs) (x :: xs) := ⟨x, xs, rfl, h, hs⟩
theorem VRs.get {G : Gh} {w : World} : ∀ {vs : List V} {l : List Value}, VRs G w vs l → ∀ (i : Nat) (v : V), vs[i]? = some v → ∃ x, l[i]? = some x ∧ VR G w v x
  | [], _, _, i, v, hv => by simp at hv
  | v :: vs, l, h, i, u, hu => by
    simp only [VRs] at h
    obtain ⟨x, xs, rfl, h1, h2⟩ := h
    cases i with
    | zero => simp at hu; subst hu; exact ⟨x, rfl, h1⟩
    | succ i => simpa using VRs.get h2 i u (by simpa using hu)
theorem VRs.of_get {G : Gh} {w : World} : ∀ {vs : List V} {l : List Value}, l.length = vs.length → (∀ (i : Nat) (v : V) (x : Value), vs[i]? = some v → l[i]? = some x → VR G w v x) → VRs G w vs l
  | [], l, h, _ => by simp at h; subst h; rfl
  | v :: vs, [], h, _ => by simp at h
  | v :: vs, x :: xs, h, k => ⟨x, xs, rfl, k 0 v x rfl rfl, VRs.of_get (by simpa using h) fun i u y hu hy => k (i + 1) u y (by simpa using hu) (by simpa using hy)⟩
theorem VRs.append {G : Gh} {w : World} : ∀ {vs us : List V} {l m : List Value}, VRs G w vs l → VRs G w us m → VRs G w (vs ++ us) (l ++ m)
  | [], us, l, m, h, k => by simp only [VRs] at h; subst h; exact k
  | v :: vs, us, l, m, h, k => by simp only [VRs] at h; obtain ⟨x, xs, rfl, h1, h2⟩ := h; exact ⟨x, xs ++ m, rfl, h1, VRs.append h2 k⟩
theorem VRs.take {G : Gh} {w : World} {vs : List V} {l : List Value} (h : VRs G w vs l) (n : Nat) : VRs G w (vs.take n) (l.take n) := by
  refine VRs.of_get (by simp [h.length]) fun i v x hv hx => ?_
  rw [List.getElem?_take] at hv hx
  split at hv
  · rw [if_pos ‹_›] at hx
    obtain ⟨y, hy, hr⟩ := h.get i v hv
    rw [hy] at hx; cases hx; exact hr
  · cases hv
theorem VRs.drop {G : Gh} {w : World} {vs : List V} {l : List Value} (h : VRs G w vs l) (n : Nat) : VRs G w (vs.drop n) (l.drop n) := by
  refine VRs.of_get (by simp [h.length]) fun i v x hv hx => ?_
  rw [List.getElem?_drop] at hv hx
  obtain ⟨y, hy, hr⟩ := h.get _ v hv
  rw [hy] at hx; cases hx; exact hr
theorem VRs.sub {G : Gh} {w : World} {vs : List V} {l : List Value} (h : VRs G w vs l) (o n : Nat) : VRs G w (sub vs o n) ((l.drop o).take n) := (h.drop o).take n
theorem VRs.flat {G : Gh} {w : World} {vs : List V} {l : List Value} (h : VRs G w vs l) : ∀ n, VRs G w (List.replicate n vs).flatten (List.replicate n l).flatten
  | 0 => rfl
  | n + 1 => by simp only [List.replicate_succ, List.flatten_cons]; exact h.append (VRs.flat h n)

theorem VRC.get {G : Gh} {w : World} : ∀ {vs : List V} {r o : Nat}, VRC G w vs r o → ∀ (i : Nat) (v : V), vs[i]? = some v → G.S r (o + i) ∧ ∃ x, w.cell? ⟨r, o + i, none⟩ = some x ∧ Sc x ∧ VR G w v x
  | [], _, _, _, i, v, hv => by simp at hv
  | v :: vs, r, o, h, i, u, hu => by
    simp only [VRC] at h
    obtain ⟨h1, h2, h3⟩ := h
    cases i with
    | zero => simp at hu; subst hu; exact ⟨h1, h2⟩
    | succ i =>
      have := VRC.get h3 i u (by simpa using hu)
      rw [show o + (i + 1) = o + 1 + i by omega]; exact this
theorem VRC.of_get {G : Gh} {w : World} : ∀ {vs : List V} {r o : Nat}, (∀ (i : Nat) (v : V), vs[i]? = some v → G.S r (o + i) ∧ ∃ x, w.cell? ⟨r, o + i, none⟩ = some x ∧ Sc x ∧ VR G w v x) → VRC G w vs r o
  | [], _, _, _ => trivial
  | v :: vs, r, o, h => by
    refine ⟨(h 0 v rfl).1, (h 0 v rfl).2, VRC.of_get fun i u hu => ?_⟩
    have := h (i + 1) u (by simpa using hu)
    rw [show o + (i + 1) = o + 1 + i by omega] at this; exact this
theorem VRC.sub {G : Gh} {w : World} {vs : List V} {r o : Nat} (h : VRC G w vs r o) (i n : Nat) : VRC G w (sub vs i n) r (o + i) := by
  refine VRC.of_get fun j v hv => ?_
  unfold Ab.sub at hv
  rw [List.getElem?_take] at hv
  split at hv
  · rw [List.getElem?_drop] at hv
    have := h.get _ v hv
    rw [show o + i + j = o + (i + j) by omega]; exact this
  · cases hv

theorem VRC.here {G : Gh} {w : World} {vs : List V} {r o : Nat} (h : VRC G.pu w vs r o) (i : Nat) (v : V) (hv : vs[i]? = some v) : G.S r (o + i) ∧ ∃ x, w.cell? ⟨r, o + i, none⟩ = some x ∧ Sc x ∧ VR G w v x := by
  obtain ⟨h1, x, h2, h3, h4⟩ := h.get i v hv
  exact ⟨h1, x, h2, h3, VR.mono (Grow.of_pu G w) _ _ h4⟩

/-! ### constants -/
theorem VR.scalar (G : Gh) (w : World) (x : Value) : VR G w (scalar x) x := by
  cases x with
  | slice a l c =>
    cases a <;> cases l <;> cases c <;> simp [Ab.scalar, VR]
  | pointer a => cases a <;> simp [Ab.scalar, VR]
  | _ => simp [Ab.scalar, VR]
theorem VRs.scalars (G : Gh) (w : World) (l : List Value) : VRs G w (l.map scalar) l :=
  VRs.of_get (by simp) fun i v x hv hx => by rw [List.getElem?_map, hx] at hv; cases hv; exact VR.scalar G w x
theorem VR.ofValue (G : Gh) (w : World) (x : Value) : VR G w (ofValue x) x := by
  cases x with
  | agg cs =>
    simp only [Ab.ofValue]
    split
    · rename_i h
      exact ⟨cs, rfl, fun y hy => by have := List.all_eq_true.1 h y hy; exact this, VRs.scalars G w _⟩
    · simp [VR]
  | tuple vs =>
    simp only [Ab.ofValue]
    split
    · rename_i h
      refine ⟨vs, rfl, ?_⟩
      have : vs = #[] := by simpa using h
      subst this; rfl
    · simp [VR]
  | _ => simp only [Ab.ofValue]; exact VR.scalar G w _

/-- a value that is written cell by cell -/
theorem VR.cells {G : Gh} {w : World} {v : V} {x : Value} {vs : List V} (h : VR G w v x) (hc : v.cells = some vs) : VRs G w vs x.cells.toList ∧ ∀ y ∈ x.cells.toList, Sc y := by
  cases v <;> simp only [V.cells, Option.some.injEq, reduceCtorEq] at hc <;> subst hc
  case agg cs =>
    obtain ⟨arr, rfl, h1, h2⟩ := h
    exact ⟨h2, h1⟩
  all_goals
    refine ⟨?_, ?_⟩
    · have hx : x.cells.toList = [x] := by
        simp only [VR] at h
        first
          | (subst h; rfl)
          | (obtain ⟨_, _, rfl, _⟩ := h; rfl)
          | (obtain ⟨_, rfl, _⟩ := h; rfl)
          | (obtain ⟨_, _, rfl⟩ := h; rfl)
          | (obtain ⟨_, _, _, _, rfl⟩ := h; rfl)
          | (obtain ⟨_, _, _, _, _, _, rfl, _⟩ := h; rfl)
      rw [hx]; exact ⟨x, [], rfl, h, rfl⟩
    · have hx : x.cells.toList = [x] ∧ Sc x := by
        simp only [VR] at h
        first
          | (subst h; exact ⟨rfl, rfl⟩)
          | (obtain ⟨_, _, rfl, _⟩ := h; exact ⟨rfl, rfl⟩)
          | (obtain ⟨_, rfl, _⟩ := h; exact ⟨rfl, rfl⟩)
          | (obtain ⟨_, _, rfl⟩ := h; exact ⟨rfl, rfl⟩)
          | (obtain ⟨_, _, _, _, rfl⟩ := h; exact ⟨rfl, rfl⟩)
          | (obtain ⟨_, _, _, _, _, _, rfl, _⟩ := h; exact ⟨rfl, rfl⟩)
      intro y hy
      rw [hx.1] at hy
      simp at hy; subst hy; exact hx.2
end Go.Ab
end

section
set_option linter.unusedVariables false
set_option linter.unusedSimpArgs false
namespace Go.Ab
open Go.RowKit

def BoxR (G : Gh) (w : World) (x : Bx) (r : Nat) : Prop :=
  match x with
  | .cells cs ro => ∃ arr ty, w.heap[r]? = some (.cells arr ty (0, 0)) ∧ VRs G w cs arr.toList ∧ (∀ y ∈ arr.toList, Sc y) ∧ (ro = false → ∀ o, ¬ G.S r o)
  | .iter s pos => w.heap[r]? = some (.stringIter s pos) ∧ ∀ o, ¬ G.S r o
def ArrR (G : Gh) (w : World) (A : Arr) (r C : Nat) : Prop :=
  ∃ arr ty, w.heap[r]? = some (.cells arr ty (0, 0)) ∧ arr.size = C ∧ A.cs.length ≤ C ∧ VRs G w A.cs (arr.toList.take A.cs.length) ∧ (∀ y ∈ arr.toList, Sc y) ∧
    (∀ m, A.cap = some m → C = m * A.sz ∧ A.cs.length = C) ∧ (∀ o, G.S r o → o < A.ro) ∧ A.ro ≤ A.cs.length

structure HSimO (base : Nat) (ow : Nat → Option (Bool × Nat)) (G : Gh) (hp : Hp) (w : World) : Prop where
  S : ∀ r o, G.S r o → r < w.heap.size
  box : ∀ b x, hp.h b = some x → ∃ r, G.rb b = some r ∧ ow r = some (true, b) ∧ base ≤ r ∧ BoxR G w x r
  arr : ∀ i A, hp.a i = some A → ∃ r C, G.ra i A.ver = some (r, A.sz, C) ∧ ow r = some (false, i) ∧ base ≤ r ∧ ArrR G w A r C ∧ ∀ v, A.ver < v → G.ra i v = none
def HSim (base : Nat) (G : Gh) (hp : Hp) (w : World) : Prop := ∃ ow, HSimO base ow G hp w

theorem lt_of_heap {w : World} {r : Nat} {o : Obj} (h : w.heap[r]? = some o) : r < w.heap.size := by
  rcases Nat.lt_or_ge r w.heap.size with h' | h'
  · exact h'
  · rw [Array.getElem?_eq_none h'] at h; cases h
theorem BoxR.lt {G : Gh} {w : World} {x : Bx} {r : Nat} (h : BoxR G w x r) : r < w.heap.size := by
  cases x with
  | cells cs ro => obtain ⟨_, _, h, _⟩ := h; exact lt_of_heap h
  | iter s p => exact lt_of_heap h.1
theorem ArrR.lt {G : Gh} {w : World} {A : Arr} {r C : Nat} (h : ArrR G w A r C) : r < w.heap.size := by
  obtain ⟨_, _, h, _⟩ := h; exact lt_of_heap h
theorem BoxR.mono {G G' : Gh} {w w' : World} {x : Bx} {r : Nat} (h : BoxR G w x r) (e : Grow G w G' w') (hh : w'.heap[r]? = w.heap[r]?) (hS : ∀ o, G'.S r o → G.S r o) : BoxR G' w' x r := by
  cases x with
  | cells cs ro =>
    obtain ⟨arr, ty, h1, h2, h3, h4⟩ := h
    exact ⟨arr, ty, hh.trans h1, VRs.mono e _ _ h2, h3, fun hr o ho => h4 hr o (hS o ho)⟩
  | iter s p => exact ⟨hh.trans h.1, fun o ho => h.2 o (hS o ho)⟩
theorem ArrR.mono {G G' : Gh} {w w' : World} {A : Arr} {r C : Nat} (h : ArrR G w A r C) (e : Grow G w G' w') (hh : w'.heap[r]? = w.heap[r]?) (hS : ∀ o, G'.S r o → G.S r o) : ArrR G' w' A r C := by
  obtain ⟨arr, ty, h1, h2, h3, h4, h5, h6, h7, h8⟩ := h
  exact ⟨arr, ty, hh.trans h1, h2, h3, VRs.mono e _ _ h4, h5, h6, fun o ho => h7 o (hS o ho), h8⟩

/-- nothing of the call's own turns -/
theorem HSimO.keep {base : Nat} {ow : Nat → Option (Bool × Nat)} {G G' : Gh} {hp : Hp} {w w' : World} (h : HSimO base ow G hp w) (e : Grow G w G' w')
    (hS : ∀ r o, G'.S r o → r < w'.heap.size) (hra : ∀ i v, G'.ra i v = G.ra i v)
    (hk : ∀ r, ow r ≠ none → r < w.heap.size → w'.heap[r]? = w.heap[r]? ∧ ∀ o, G'.S r o → G.S r o) : HSimO base ow G' hp w' := by
  refine ⟨hS, fun b x hb => ?_, fun i A hA => ?_⟩
  · obtain ⟨r, h1, h2, h3, h4⟩ := h.box b x hb
    have := hk r (by rw [h2]; simp) h4.lt
    exact ⟨r, e.rb _ _ h1, h2, h3, h4.mono e this.1 this.2⟩
  · obtain ⟨r, C, h1, h2, h3, h4, h5⟩ := h.arr i A hA
    have := hk r (by rw [h2]; simp) h4.lt
    exact ⟨r, C, e.ra _ _ _ h1, h2, h3, h4.mono e this.1 this.2, fun v hv => by rw [hra]; exact h5 v hv⟩

theorem cell_of_heap {w w' : World} {r o : Nat} (h : w'.heap[r]? = w.heap[r]?) : w'.cell? ⟨r, o, none⟩ = w.cell? ⟨r, o, none⟩ := World.cell?_of_block (w := w) (w' := w') (a := ⟨r, o, none⟩) h

/-- a world in which all elder blocks stand as they stood -/
def Elder (w w' : World) : Prop := Below w.heap.size w w'
theorem Elder.size {w w' : World} (e : Elder w w') : w.heap.size ≤ w'.heap.size := Below.size e
theorem Elder.heap {w w' : World} (e : Elder w w') (r : Nat) (h : r < w.heap.size) : w'.heap[r]? = w.heap[r]? := Below.block e r h
theorem Elder.grow {base : Nat} {ow : Nat → Option (Bool × Nat)} {G : Gh} {hp : Hp} {w w' : World} (h : HSimO base ow G hp w) (e : Elder w w') : Grow G w G w' :=
  ⟨fun _ _ h => h, fun _ _ _ h => h, fun _ _ h => h, fun r o hs => cell_of_heap (e.heap r (h.S r o hs))⟩
theorem HSimO.elder {base : Nat} {ow : Nat → Option (Bool × Nat)} {G : Gh} {hp : Hp} {w w' : World} (h : HSimO base ow G hp w) (e : Elder w w') : HSimO base ow G hp w' :=
  h.keep (e.grow h) (fun r o hs => Nat.lt_of_lt_of_le (h.S r o hs) e.size) (fun _ _ => rfl) fun r _ hr => ⟨e.heap r hr, fun _ h => h⟩
theorem Elder.refl (w : World) : Elder w w := Below.refl _ _
theorem Elder.alloc (w : World) (o : Obj) : Elder w (w.alloc o) := (Below.refl _ _).alloc (Nat.le_refl _) o
theorem Elder.drew (w : World) : Elder w w.drew := (Below.refl _ _).drew
theorem Elder.trans {a b c : World} (h : Elder a b) (k : Elder b c) : Elder a c := Below.trans h (Below.mono k (Below.size h))

/-- a new box at the block that has just been made -/
theorem HSimO.newBox {base : Nat} {ow : Nat → Option (Bool × Nat)} {G : Gh} {hp : Hp} {w w' : World} (h : HSimO base ow G hp w) (e : Elder w w') (b : Nat) (x : Bx) (hb : G.rb b = none) (r : Nat) (hr : w.heap.size ≤ r) (hB : base ≤ r)
    (hx : ∀ G', Grow G w G' w' → (∀ q o, G'.S q o → G.S q o) → BoxR G' w' x r) :
    ∃ G' , Grow G w G' w' ∧ HSim base G' { hp with h := upd hp.h b (some x) } w' ∧ VR G' w' (.ref b 0) (.pointer (some ⟨r, 0, none⟩)) ∧ (∀ b', b' ≠ b → G'.rb b' = G.rb b') ∧ (∀ i v, G'.ra i v = G.ra i v) ∧ (∀ q o, G'.S q o → G.S q o) := by
  have hg : Grow G w { G with rb := upd G.rb b (some r) } w' := by
    refine ⟨fun b' r' hr' => ?_, fun _ _ _ h => h, fun _ _ h => h, (e.grow h).agree⟩
    show upd G.rb b (some r) b' = some r'
    unfold upd; split
    · subst_vars; rw [hb] at hr'; cases hr'
    · exact hr'
  refine ⟨{ G with rb := upd G.rb b (some r) }, hg, ?_, ⟨r, by simp [upd], rfl⟩, fun b' hb' => by simp [upd, hb'], fun _ _ => rfl, fun _ _ h => h⟩
  have hk := (h.elder e)
  have h2 : HSimO base (upd ow r (some (true, b))) { G with rb := upd G.rb b (some r) } hp w' := by
    refine ⟨fun q o hq => hk.S q o hq, fun b' x' hb' => ?_, fun i A hA => ?_⟩
    · obtain ⟨r', h1, h2, h3, h4⟩ := h.box b' x' hb'
      have hlt := h4.lt
      exact ⟨r', hg.rb _ _ h1, by show upd ow r _ r' = _; unfold upd; rw [if_neg (by omega)]; exact h2, h3, h4.mono hg (e.heap _ hlt) fun _ h => h⟩
    · obtain ⟨r', C, h1, h2, h3, h4, h5⟩ := h.arr i A hA
      have hlt := h4.lt
      exact ⟨r', C, hg.ra _ _ _ h1, by show upd ow r _ r' = _; unfold upd; rw [if_neg (by omega)]; exact h2, h3, h4.mono hg (e.heap _ hlt) fun _ h => h, h5⟩
  refine ⟨upd ow r (some (true, b)), h2.S, fun b' x' hb' => ?_, h2.arr⟩
  simp only [upd] at hb'
  by_cases hbb : b' = b
  · rw [if_pos hbb] at hb'; cases hb'; subst hbb
    exact ⟨r, by simp [upd], by simp [upd], hB, hx _ hg fun _ _ h => h⟩
  · rw [if_neg hbb] at hb'; exact h2.box b' x' hb'

/-- a new array (or a new block for an array that has grown) -/
theorem HSimO.newArr {base : Nat} {ow : Nat → Option (Bool × Nat)} {G : Gh} {hp : Hp} {w w' : World} (h : HSimO base ow G hp w) (e : Elder w w') (i : Nat) (A : Arr) (hi : ∀ v, A.ver ≤ v → G.ra i v = none) (r C : Nat) (hr : w.heap.size ≤ r) (hB : base ≤ r)
    (hx : ∀ G', Grow G w G' w' → (∀ q o, G'.S q o → G.S q o) → ArrR G' w' A r C) :
    ∃ G' , Grow G w G' w' ∧ HSim base G' { hp with a := upd hp.a i (some A) } w' ∧ G'.ra i A.ver = some (r, A.sz, C) ∧ (∀ b', G'.rb b' = G.rb b') ∧ (∀ i' v, (i' ≠ i ∨ v ≠ A.ver) → G'.ra i' v = G.ra i' v) ∧ (∀ q o, G'.S q o → G.S q o) := by
  have hg : Grow G w { G with ra := fun i' v => if i' = i ∧ v = A.ver then some (r, A.sz, C) else G.ra i' v } w' := by
    refine ⟨fun _ _ h => h, fun i' v x hx' => ?_, fun _ _ h => h, (e.grow h).agree⟩
    show (if i' = i ∧ v = A.ver then some (r, A.sz, C) else G.ra i' v) = some x
    split
    · rename_i hh; obtain ⟨rfl, rfl⟩ := hh; rw [hi _ (Nat.le_refl _)] at hx'; cases hx'
    · exact hx'
  refine ⟨_, hg, ?_, by simp, fun _ => rfl, fun i' v hne => ?_, fun _ _ h => h⟩
  rotate_left
  · show (if i' = i ∧ v = A.ver then some (r, A.sz, C) else G.ra i' v) = _
    rw [if_neg (by rintro ⟨a, b⟩; rcases hne with h | h; exact h a; exact h b)]
  have hbx : ∀ b' x', hp.h b' = some x' → ∃ q, G.rb b' = some q ∧ upd ow r (some (false, i)) q = some (true, b') ∧ base ≤ q ∧ BoxR { G with ra := fun i' v => if i' = i ∧ v = A.ver then some (r, A.sz, C) else G.ra i' v } w' x' q := by
    intro b' x' hb'
    obtain ⟨r', h1, h2, h3, h4⟩ := h.box b' x' hb'
    have hlt := h4.lt
    exact ⟨r', h1, by unfold upd; rw [if_neg (by omega)]; exact h2, h3, h4.mono hg (e.heap _ hlt) fun _ h => h⟩
  refine ⟨upd ow r (some (false, i)), fun q o hq => (h.elder e).S q o hq, hbx, fun i' A' hA' => ?_⟩
  simp only [upd] at hA'
  by_cases hbb : i' = i
  · rw [if_pos hbb] at hA'; cases hA'; subst hbb
    refine ⟨r, C, by simp, by simp [upd], hB, hx _ hg fun _ _ h => h, fun v hv => ?_⟩
    show (if i' = i' ∧ v = A.ver then some (r, A.sz, C) else G.ra i' v) = none
    rw [if_neg (by omega)]; exact hi v (by omega)
  · rw [if_neg hbb] at hA'
    obtain ⟨r', C', h1, h2, h3, h4, h5⟩ := h.arr i' A' hA'
    have hlt := h4.lt
    refine ⟨r', C', hg.ra _ _ _ h1, by unfold upd; rw [if_neg (by omega)]; exact h2, h3, h4.mono hg (e.heap _ hlt) fun _ h => h, fun v hv => ?_⟩
    show (if i' = i ∧ v = A.ver then some (r, A.sz, C) else G.ra i' v) = none
    rw [if_neg (by omega)]; exact h5 v hv

/-- a new array, and more that stands still -/
theorem HSimO.newArrS {base : Nat} {ow : Nat → Option (Bool × Nat)} {G : Gh} {hp : Hp} {w w' : World} (h : HSimO base ow G hp w) (e : Elder w w') (S' : Nat → Nat → Prop) (hS1 : ∀ r o, G.S r o → S' r o) (hS2 : ∀ r o, S' r o → r < w'.heap.size ∧ (r < w.heap.size → G.S r o)) (i : Nat) (A : Arr) (hi : ∀ v, A.ver ≤ v → G.ra i v = none) (r C : Nat) (hr : w.heap.size ≤ r) (hB : base ≤ r)
    (hx : ∀ G', G'.S = S' → ArrR G' w' A r C) :
    ∃ G' , G'.S = S' ∧ Grow G w G' w' ∧ HSim base G' { hp with a := upd hp.a i (some A) } w' ∧ G'.ra i A.ver = some (r, A.sz, C) ∧ (∀ b', G'.rb b' = G.rb b') ∧ (∀ i' v, (i' ≠ i ∨ v ≠ A.ver) → G'.ra i' v = G.ra i' v) := by
  have hg : Grow G w ⟨G.rb, fun i' v => if i' = i ∧ v = A.ver then some (r, A.sz, C) else G.ra i' v, S'⟩ w' := by
    refine ⟨fun _ _ h => h, fun i' v x hx' => ?_, hS1, (e.grow h).agree⟩
    show (if i' = i ∧ v = A.ver then some (r, A.sz, C) else G.ra i' v) = some x
    split
    · rename_i hh; obtain ⟨rfl, rfl⟩ := hh; rw [hi _ (Nat.le_refl _)] at hx'; cases hx'
    · exact hx'
  refine ⟨_, rfl, hg, ?_, by simp, fun _ => rfl, fun i' v hne => ?_⟩
  rotate_left
  · show (if i' = i ∧ v = A.ver then some (r, A.sz, C) else G.ra i' v) = _
    rw [if_neg (by rintro ⟨a, b⟩; rcases hne with h | h; exact h a; exact h b)]
  refine ⟨upd ow r (some (false, i)), fun q o hq => (hS2 q o hq).1, fun b' x' hb' => ?_, fun i' A' hA' => ?_⟩
  · obtain ⟨r', h1, h2, h3, h4⟩ := h.box b' x' hb'
    have hlt := h4.lt
    exact ⟨r', h1, by show upd ow r _ r' = _; unfold upd; rw [if_neg (by omega)]; exact h2, h3, h4.mono hg (e.heap _ hlt) fun o ho => (hS2 _ o ho).2 hlt⟩
  · simp only [upd] at hA'
    by_cases hbb : i' = i
    · rw [if_pos hbb] at hA'; cases hA'; subst hbb
      refine ⟨r, C, by simp, by simp [upd], hB, hx _ rfl, fun v hv => ?_⟩
      show (if i' = i' ∧ v = A.ver then some (r, A.sz, C) else G.ra i' v) = none
      rw [if_neg (by omega)]; exact hi v (by omega)
    · rw [if_neg hbb] at hA'
      obtain ⟨r', C', h1, h2, h3, h4, h5⟩ := h.arr i' A' hA'
      have hlt := h4.lt
      refine ⟨r', C', hg.ra _ _ _ h1, by show upd ow r _ r' = _; unfold upd; rw [if_neg (by omega)]; exact h2, h3, h4.mono hg (e.heap _ hlt) fun o ho => (hS2 _ o ho).2 hlt, fun v hv => ?_⟩
      show (if i' = i ∧ v = A.ver then some (r, A.sz, C) else G.ra i' v) = none
      rw [if_neg (by omega)]; exact h5 v hv
/-- a block of the call's own turns: 'w'' is 'w' but for block r, in which no stable cell has turned -/
theorem HSimO.turn {base : Nat} {ow : Nat → Option (Bool × Nat)} {G : Gh} {hp : Hp} {w w' : World} (_h : HSimO base ow G hp w) (r : Nat) (_hsz : w'.heap.size = w.heap.size) (hh : ∀ q, q ≠ r → w'.heap[q]? = w.heap[q]?)
    (ha : ∀ o, G.S r o → w'.cell? ⟨r, o, none⟩ = w.cell? ⟨r, o, none⟩) : Grow G w G w' :=
  ⟨fun _ _ h => h, fun _ _ _ h => h, fun _ _ h => h, fun q o hs => by
    by_cases hq : q = r
    · subst hq; exact ha o hs
    · exact cell_of_heap (hh q hq)⟩
theorem HSimO.setBox {base : Nat} {ow : Nat → Option (Bool × Nat)} {G : Gh} {hp : Hp} {w w' : World} (h : HSimO base ow G hp w) (b : Nat) (x : Bx) (r : Nat) (hr : G.rb b = some r) (ho : ow r = some (true, b)) (hB : base ≤ r) (hsz : w'.heap.size = w.heap.size)
    (hh : ∀ q, q ≠ r → w'.heap[q]? = w.heap[q]?) (hg : Grow G w G w') (hx : BoxR G w' x r) : HSimO base ow G { hp with h := upd hp.h b (some x) } w' := by
  refine ⟨fun q o hq => by rw [hsz]; exact h.S q o hq, fun b' x' hb' => ?_, fun i A hA => ?_⟩
  · simp only [upd] at hb'
    by_cases hbb : b' = b
    · rw [if_pos hbb] at hb'; cases hb'; subst hbb; exact ⟨r, hr, ho, hB, hx⟩
    · rw [if_neg hbb] at hb'
      obtain ⟨r', h1, h2, h3, h4⟩ := h.box b' x' hb'
      have hne : r' ≠ r := by rintro rfl; rw [ho] at h2; cases h2; exact hbb rfl
      exact ⟨r', h1, h2, h3, h4.mono hg (hh _ hne) fun _ h => h⟩
  · obtain ⟨r', C, h1, h2, h3, h4, h5⟩ := h.arr i A hA
    have hne : r' ≠ r := by rintro rfl; rw [ho] at h2; cases h2
    exact ⟨r', C, h1, h2, h3, h4.mono hg (hh _ hne) fun _ h => h, h5⟩
theorem HSimO.setArr {base : Nat} {ow : Nat → Option (Bool × Nat)} {G : Gh} {hp : Hp} {w w' : World} (h : HSimO base ow G hp w) (i : Nat) (A : Arr) (r C : Nat) (hr : G.ra i A.ver = some (r, A.sz, C)) (hv : ∀ v, A.ver < v → G.ra i v = none) (ho : ow r = some (false, i)) (hB : base ≤ r) (hsz : w'.heap.size = w.heap.size)
    (hh : ∀ q, q ≠ r → w'.heap[q]? = w.heap[q]?) (hg : Grow G w G w') (hx : ArrR G w' A r C) : HSimO base ow G { hp with a := upd hp.a i (some A) } w' := by
  refine ⟨fun q o hq => by rw [hsz]; exact h.S q o hq, fun b' x' hb' => ?_, fun i' A' hA => ?_⟩
  · obtain ⟨r', h1, h2, h3, h4⟩ := h.box b' x' hb'
    have hne : r' ≠ r := by rintro rfl; rw [ho] at h2; cases h2
    exact ⟨r', h1, h2, h3, h4.mono hg (hh _ hne) fun _ h => h⟩
  · simp only [upd] at hA
    by_cases hbb : i' = i
    · rw [if_pos hbb] at hA; cases hA; subst hbb; exact ⟨r, C, hr, ho, hB, hx, hv⟩
    · rw [if_neg hbb] at hA
      obtain ⟨r', C', h1, h2, h3, h4, h5⟩ := h.arr i' A' hA
      have hne : r' ≠ r := by rintro rfl; rw [ho] at h2; cases h2; exact hbb rfl
      exact ⟨r', C', h1, h2, h3, h4.mono hg (hh _ hne) fun _ h => h, h5⟩
end Go.Ab
end

section
set_option linter.unusedVariables false
set_option linter.unusedSimpArgs false
set_option linter.unusedSimpArgs false
set_option linter.unusedVariables false
namespace Go.Ab
open Go.RowKit
variable {P : Program}

/-! ### the types' words -/
theorem tsize_eq {t : Nat} {i : TypeInfo} (h : P.info? t = some i) : tsize P t = i.size := by simp [tsize, h]
theorem tbytes_eq {t : Nat} {i : TypeInfo} (h : P.info? t = some i) : tbytes P t = i.bytes := by simp [tbytes, h]
theorem tzero_spec {t : Nat} {z : List V} (h : tzero P t = some z) : ∃ i v, P.info? t = some i ∧ i.zero = some v ∧ z = v.cells.toList.map scalar ∧ ∀ y ∈ v.cells.toList, Sc y := by
  unfold tzero at h
  cases hi : P.info? t with
  | none => simp [hi] at h
  | some i =>
    cases hz : i.zero with
    | none => simp [hi, hz] at h
    | some v =>
      simp only [hi, hz] at h
      split at h
      · rename_i hs
        cases h
        exact ⟨i, v, rfl, hz, rfl, fun y hy => List.all_eq_true.1 hs y hy⟩
      · cases h
theorem tslice_spec {t e : Nat} (h : tslice P t = some e) : P.underlying t = some (.slice e) := by
  unfold tslice at h
  split at h <;> try cases h
  split at h <;> first | (cases h; assumption) | cases h
theorem tslice_info {t e : Nat} (h : tslice P t = some e) : ∃ i, P.info? e = some i := by
  unfold tslice at h
  split at h <;> try cases h
  split at h <;> first | (cases h; exact ⟨_, ‹_›⟩) | cases h
theorem tfield_spec {t f : Nat} {fd : Field} (h : tfield P t f = some fd) : ∃ fs, P.underlying t = some (.struct fs) ∧ fs[f]? = some fd := by
  unfold tfield at h
  split at h <;> first | exact ⟨_, ‹_›, h⟩ | cases h
theorem run_sizeOf' {t : Nat} {i : TypeInfo} (h : P.info? t = some i) (w : World) : (sizeOf t).run P w = .ok (tsize P t) w := by
  simp [sizeOf, typeInfo, h, tsize_eq h]
theorem run_zeroValue' {t : Nat} {i : TypeInfo} {v : Value} (h : P.info? t = some i) (hz : i.zero = some v) (w : World) : (zeroValue t).run P w = .ok v w := by
  simp [zeroValue, typeInfo, h, hz]
theorem run_isAgg' {t : Nat} {d : TypeDesc} (h : P.underlying t = some d) (w : World) : (isAgg t).run P w = .ok (tagg P t == some true) w := by
  cases d <;> simp [isAgg, run_underlying h, tagg, h]

theorem add_at (r o n : Nat) : (⟨r, o, none⟩ : Addr).add n = ⟨r, o + n, none⟩ := by unfold Addr.add; split <;> simp_all

/-- what 'look' reads is there -/
theorem look_cells {base : Nat} {ow : Nat → Option (Bool × Nat)} {G : Gh} {hp : Hp} {w : World} (h : HSimO base ow G hp w) {lim : Option (Nat × Nat)} {a : V} {x : Value} {n : Nat} {cs : List V}
    (hl : look lim hp a n = some cs) (hx : VR G w a x) : ∃ r o ys, x = .pointer (some ⟨r, o, none⟩) ∧ VRs G w cs ys ∧ ys.length = n ∧ (∀ y ∈ ys, Sc y) ∧ ∀ (j : Nat) v, ys[j]? = some v → w.cell? ⟨r, o + j, none⟩ = some v := by
  cases a <;> simp only [look, reduceCtorEq] at hl
  case ptr qs o =>
    split at hl <;> cases hl
    rename_i hle
    simp only [VR] at hx
    obtain ⟨r, b, rfl, hc⟩ := hx
    have hs := hc.sub o n
    have hlen : (sub qs o n).length = n := by simp [sub]; omega
    have : ∀ j, j < n → ∃ y, w.cell? ⟨r, b + o + j, none⟩ = some y ∧ Sc y ∧ ∀ v, (sub qs o n)[j]? = some v → VR G w v y := by
      intro j hj
      obtain ⟨v, hv⟩ : ∃ v, (sub qs o n)[j]? = some v := ⟨_, List.getElem?_eq_getElem (by omega)⟩
      obtain ⟨_, y, h1, h2, h3⟩ := hs.here j v hv
      exact ⟨y, h1, h2, fun v' hv' => by rw [hv] at hv'; cases hv'; exact h3⟩
    refine ⟨r, b + o, (List.range n).map (fun j => (w.cell? ⟨r, b + o + j, none⟩).getD undef), rfl, ?_, by simp, ?_, ?_⟩
    · refine VRs.of_get (by simp [hlen]) fun i v y hv hy => ?_
      have hi : i < n := by
        rcases Nat.lt_or_ge i n with h' | h'
        · exact h'
        · rw [List.getElem?_eq_none (by omega)] at hv; cases hv
      obtain ⟨y', h1, _, h3⟩ := this i hi
      simp [hi, h1] at hy; subst hy; exact h3 v hv
    · intro y hy
      obtain ⟨j, hj, rfl⟩ := List.mem_map.1 hy
      obtain ⟨y', h1, h2, _⟩ := this j (by simpa using hj)
      simpa [h1] using h2
    · intro j v hv
      have hj : j < n := by
        rcases Nat.lt_or_ge j n with h' | h'
        · exact h'
        · rw [List.getElem?_eq_none (by simpa using h')] at hv; cases hv
      obtain ⟨y', h1, _, _⟩ := this j hj
      simp [hj, h1] at hv; subst hv; exact h1
  case ref b o =>
    split at hl <;> try cases hl
    rename_i qs ro hb _
    split at hl <;> cases hl
    rename_i hle
    simp only [VR] at hx
    obtain ⟨r, hr, rfl⟩ := hx
    obtain ⟨r', h1, _, _, h4⟩ := h.box b _ hb
    rw [hr] at h1; cases h1
    obtain ⟨arr, ty, h1, h2, h3, _⟩ := h4
    refine ⟨r, o, (arr.toList.drop o).take n, rfl, h2.sub o n, ?_, fun y hy => h3 y (List.mem_of_mem_drop (List.mem_of_mem_take hy)), fun j v hv => ?_⟩
    · have := h2.length; simp at this ⊢; omega
    · rw [List.getElem?_take] at hv
      split at hv
      · rw [List.getElem?_drop] at hv
        rw [cell_of_row w r _ arr ty _ h1]; simpa using hv
      · cases hv
  case aref b ver o =>
    split at hl <;> try cases hl
    rename_i A hb _
    split at hl <;> cases hl
    rename_i hle
    simp only [VR] at hx
    obtain ⟨r, z, C, hr, rfl⟩ := hx
    obtain ⟨r', C', h1, _, _, h4⟩ := h.arr b _ hb
    rw [hle.1, hr] at h1; cases h1
    obtain ⟨⟨arr, ty, h1, h2, h3, h5, h6, _⟩, _⟩ := h4
    refine ⟨r, o, (arr.toList.drop o).take n, rfl, ?_, ?_, fun y hy => h6 y (List.mem_of_mem_drop (List.mem_of_mem_take hy)), fun j v hv => ?_⟩
    · have := h5.sub o n
      have he : ((arr.toList.take A.cs.length).drop o).take n = (arr.toList.drop o).take n := by
        rw [List.drop_take, List.take_take]; congr 1; omega
      rw [he] at this; exact this
    · simp; omega
    · rw [List.getElem?_take] at hv
      split at hv
      · rw [List.getElem?_drop] at hv
        rw [cell_of_row w r _ arr ty _ h1]; simpa using hv
      · cases hv
theorem run_load_look {w : World} {t r o : Nat} {ys : List Value} {cs : List V} {v : V} {G : Gh} (hn : ys.length = tsize P t)
    (hc : ∀ (j : Nat) v, ys[j]? = some v → w.cell? ⟨r, o + j, none⟩ = some v) (hs : ∀ y ∈ ys, Sc y) (hr : VRs G w cs ys) (h1 : one (tagg P t) cs = some v) :
    ∃ x, (loadVar t ⟨r, o, none⟩).run P w = .ok x w ∧ VR G w v x := by
  obtain ⟨d, hd⟩ : ∃ d, P.underlying t = some d := by
    cases hd : P.underlying t with
    | none => simp [tagg, hd, one] at h1
    | some d => exact ⟨d, rfl⟩
  have hi : ∃ i, P.info? t = some i := by
    unfold Program.underlying at hd
    cases hi : P.info? t with
    | none => simp [hi] at hd
    | some i => exact ⟨i, rfl⟩
  obtain ⟨i, hi⟩ := hi
  unfold one at h1
  cases ha : tagg P t with
  | none => rw [ha] at h1; cases h1
  | some b =>
  cases b with
  | true =>
    rw [ha] at h1; simp at h1; subst h1
    refine ⟨.agg ys.toArray, ?_, ⟨_, rfl, by simpa using hs, by simpa using hr⟩⟩
    have := run_loadCells_list (P := P) w ⟨r, o, none⟩ ys (fun j v hv => by rw [add_at]; exact hc j v hv)
    rw [hn] at this
    simp [loadVar, run_isAgg' hd, ha, run_sizeOf' hi, this]
  | false =>
    rw [ha] at h1
    cases cs with
    | nil => simp at h1
    | cons c cs =>
      cases cs with
      | cons _ _ => simp at h1
      | nil =>
        simp at h1; subst h1
        obtain ⟨x, xs, rfl, hx, hxs⟩ := hr
        refine ⟨x, ?_, hx⟩
        have := hc 0 x rfl
        rw [Nat.add_zero] at this
        simp [loadVar, run_isAgg' hd, ha, this]
theorem load_ok {base : Nat} {ow : Nat → Option (Bool × Nat)} {G : Gh} {hp : Hp} {w : World} (h : HSimO base ow G hp w) {lim : Option (Nat × Nat)} {a : V} {x : Value} {t : Nat} {v : V}
    (hl : ((look lim hp a (tsize P t)).bind fun cs => one (tagg P t) cs) = some v) (hx : VR G w a x) : ∃ y, (Instr.loadAt t x).run P w = .ok y w ∧ VR G w v y := by
  obtain ⟨cs, h1, h2⟩ := Option.bind_eq_some_iff.1 hl
  obtain ⟨r, o, ys, rfl, g1, g2, g3, g4⟩ := look_cells h h1 hx
  obtain ⟨y, h3, h4⟩ := run_load_look (P := P) g2 g4 g3 g1 h2
  exact ⟨y, by simpa [Instr.loadAt, Instr.sureAddr] using h3, h4⟩
end Go.Ab
end

section
set_option linter.unusedVariables false
set_option linter.unusedSimpArgs false
set_option linter.unusedSimpArgs false
set_option linter.unusedVariables false
namespace Go.Ab
open Go.RowKit
variable {P : Program}

theorem info_of_size {t : Nat} (h : tsize P t ≠ 0) : ∃ i, P.info? t = some i := by
  unfold tsize at h
  cases hi : P.info? t with
  | none => simp [hi] at h
  | some i => exact ⟨i, rfl⟩
theorem info_of_under {t : Nat} {d : TypeDesc} (h : P.underlying t = some d) : ∃ i, P.info? t = some i := by
  unfold Program.underlying at h
  cases hi : P.info? t with
  | none => simp [hi] at h
  | some i => exact ⟨i, rfl⟩

theorem run_fieldAt {s f : Nat} {fd : Field} (hf : tfield P s f = some fd) (hz : tsize P fd.type ≠ 0) (r o : Nat) (w : World) :
    (Instr.fieldAt s (.pointer (some ⟨r, o, none⟩)) f).run P w = .ok (.pointer (some ⟨r, o + fd.offset, none⟩)) w := by
  obtain ⟨fs, h1, h2⟩ := tfield_spec hf
  obtain ⟨i, hi⟩ := info_of_size hz
  simp [Instr.fieldAt, run_underlying h1, h2, Instr.sureAddr, fieldPlace, run_sizeOf' hi, hz, add_at]

theorem run_part {t : Nat} {arr : Array Value} {cs : List V} {o : Nat} {v : V} {G : Gh} {w : World} (hr : VRs G w cs arr.toList) (hs : ∀ y ∈ arr.toList, Sc y) (hle : o + tsize P t ≤ cs.length)
    (h1 : one (tagg P t) (sub cs o (tsize P t)) = some v) : ∃ x, (part t arr o).run P w = .ok x w ∧ VR G w v x := by
  obtain ⟨d, hd⟩ : ∃ d, P.underlying t = some d := by
    cases hd : P.underlying t with
    | none => simp [tagg, hd, one] at h1
    | some d => exact ⟨d, rfl⟩
  obtain ⟨i, hi⟩ := info_of_under hd
  have hsub := hr.sub o (tsize P t)
  have hlen := hr.length
  unfold one at h1
  cases ha : tagg P t with
  | none => rw [ha] at h1; cases h1
  | some b =>
  cases b with
  | true =>
    rw [ha] at h1; simp at h1; subst h1
    refine ⟨.agg (arr.extract o (o + tsize P t)), ?_, ⟨_, rfl, ?_, ?_⟩⟩
    · simp [part, run_isAgg' hd, ha, run_sizeOf' hi]
    · intro y hy
      rw [Array.toList_extract] at hy
      exact hs y (List.mem_of_mem_drop (List.mem_of_mem_take hy))
    · rw [Array.toList_extract]; simpa [List.extract] using hsub
  | false =>
    rw [ha] at h1
    cases hc : sub cs o (tsize P t) with
    | nil => rw [hc] at h1; simp at h1
    | cons c cs' =>
      cases cs' with
      | cons _ _ => rw [hc] at h1; simp at h1
      | nil =>
        rw [hc] at h1
        simp at h1; subst h1
        rw [hc] at hsub
        obtain ⟨x, xs, he, hx, hxs⟩ := hsub
        refine ⟨x, ?_, hx⟩
        have : arr[o]? = some x := by
          have : ((arr.toList.drop o).take (tsize P t))[0]? = some x := by rw [he]; rfl
          rw [List.getElem?_take] at this
          split at this
          · simpa using this
          · cases this
        simp [part, run_isAgg' hd, ha, this]

theorem run_indexAt {t e : Nat} (ht : tslice P t = some e) (hi : ∃ i, P.info? e = some i) (r o n c : Nat) (k : IntKind) (i : Int) (h0 : 0 ≤ i) (h1 : i < (n : Int)) (w : World) :
    (Instr.indexAt t (.slice (some ⟨r, o, none⟩) n c) (.int k i)).run P w = .ok (.pointer (some ⟨r, o + i.toNat * tsize P e, none⟩)) w := by
  obtain ⟨ti, hi⟩ := hi
  simp [Instr.indexAt, asIntOf, run_underlying (tslice_spec ht), h0, h1, run_sizeOf' hi, add_at]

theorem beq_bool (a b : Bool) : (a == b) = decide (a = b) := by cases a <;> cases b <;> rfl

theorem isBoolT_spec {t : Nat} (h : isBoolT P t = true) : P.underlying t = some .bool := by unfold isBoolT at h; split at h <;> first | assumption | cases h
theorem isPtrT_spec {t : Nat} (h : isPtrT P t = true) : ∃ e, P.underlying t = some (.pointer e) := by unfold isPtrT at h; split at h <;> first | exact ⟨_, ‹_›⟩ | cases h
theorem isFnT_spec {t : Nat} (h : isFnT P t = true) : ∃ a b c, P.underlying t = some (.func a b c) := by unfold isFnT at h; split at h <;> first | exact ⟨_, _, _, ‹_›⟩ | cases h
theorem eqv_spec {op : BinOp} {ok b : Bool} {v : V} (h : eqv op ok b = some v) : ok = true ∧ ((op = .eql ∧ v = .bool b) ∨ (op = .neq ∧ v = .bool (!b))) := by
  unfold eqv at h
  split at h
  · refine ⟨‹_›, ?_⟩
    split at h <;> first | (cases h; first | exact .inl ⟨rfl, rfl⟩ | exact .inr ⟨rfl, rfl⟩) | cases h
  · cases h

/-- the model's own test before '==' has nothing to say -/
theorem run_eqGuard (op : BinOp) (t : Nat) (x y : Operand) (a b : Value) (w : World) (ha : ∀ cs, a ≠ .agg cs) (hn : a ≠ .nilIface) : (eqGuard op t x y a b).run P w = .ok () w := by
  unfold eqGuard
  cases op <;> (cases a <;> first | exact absurd rfl (ha _) | exact absurd rfl hn | simp)

theorem equal_at (t : Nat) (x y : Value) : ∃ d, Op.equal t x y = Op.equalIn (d + 1) t x y := ⟨9999, rfl⟩

/-- '==' or '!=' by the model's 'equal' -/
theorem run_eq2 {op : BinOp} {t : Nat} {a b : Value} {ok r : Bool} {v : V} {w : World} {G : Gh} (h : eqv op ok r = some v) (he : ok = true → (Op.equal t a b).run P w = .ok r w)
    (h1 : ∀ k n, a ≠ .int k n) (h2 : ∀ k n, a ≠ .float k n) (h3 : ∀ k n m, a ≠ .complex k n m) (h4 : ∀ s, a ≠ .string s) :
    ∃ z, (Go.binOp op t a b).run P w = .ok z w ∧ VR G w v z := by
  obtain ⟨ho, h⟩ := eqv_spec h
  have he := he ho
  rcases h with ⟨rfl, rfl⟩ | ⟨rfl, rfl⟩
  · refine ⟨.bool r, ?_, rfl⟩
    unfold Go.binOp
    split <;> first | (exfalso; simp_all; done) | simp [he]
  · refine ⟨.bool (!r), ?_, rfl⟩
    unfold Go.binOp
    split <;> first | (exfalso; simp_all; done) | simp [he]

theorem binOp_ok {op : BinOp} {t : Nat} {x y : V} {a b : Value} {v : V} {G : Gh} {w : World} (hx : VR G w x a) (hy : VR G w y b) (h : Ab.binOp P op t x y = some v) :
    (∀ xo yo, (eqGuard op t xo yo a b).run P w = .ok () w) ∧ ∃ z, (Go.binOp op t a b).run P w = .ok z w ∧ VR G w v z := by
  have hg : ∀ xo yo, (eqGuard op t xo yo a b).run P w = .ok () w := fun xo yo => run_eqGuard op t xo yo a b w
    (by intro cs hc; subst hc; cases x <;> simp [VR] at hx <;> simp [Ab.binOp] at h)
    (by intro hc; subst hc; cases x <;> simp [VR] at hx <;> simp [Ab.binOp] at h)
  refine ⟨hg, ?_⟩
  cases x <;> simp only [Ab.binOp, reduceCtorEq] at h
  case int k n =>
    simp only [VR] at hx; subst hx
    cases y <;> simp only [reduceCtorEq] at h
    case int k' m =>
      simp only [VR] at hy; subst hy
      cases op <;> simp only at h
      case shl => split at h <;> cases h; rename_i hb; exact ⟨_, by simp [Go.binOp, Op.shift, hb], rfl⟩
      case shr => split at h <;> cases h; rename_i hb; exact ⟨_, by simp [Go.binOp, Op.shift, hb], rfl⟩
      all_goals (split at h <;> try cases h)
      case quo => rename_i hk; subst hk; split at h <;> cases h; rename_i hb; exact ⟨_, by simp [Go.binOp, Op.intDiv, hb], rfl⟩
      case rem => rename_i hk; subst hk; split at h <;> cases h; rename_i hb; exact ⟨_, by simp [Go.binOp, Op.intDiv, hb], rfl⟩
      all_goals
        rename_i hk; subst hk
        exact ⟨_, by simp [Go.binOp, Op.intArith, Op.intBits, Op.intCmp]; try rfl, rfl⟩
  case str s =>
    simp only [VR] at hx; subst hx
    cases y <;> simp only [reduceCtorEq] at h
    case str s' =>
      simp only [VR] at hy; subst hy
      cases op <;> simp only [reduceCtorEq] at h
      case add =>
        split at h <;> cases h
        rename_i hle
        refine ⟨_, ?_, rfl⟩
        have : ¬ (((s.size + s'.size : Nat) : Int) > IntKind.i64.max) := by simp [IntKind.max, IntKind.bits, IntKind.signed]; omega
        simp only [Int.natCast_add] at this
        simp [Go.binOp, Op.stringOp, this]; omega
      all_goals (cases h; exact ⟨_, by simp [Go.binOp, Op.stringOp]; try rfl, rfl⟩)
  case bool b1 =>
    simp only [VR] at hx; subst hx
    cases y <;> simp only [reduceCtorEq] at h
    case bool b2 =>
      simp only [VR] at hy; subst hy
      exact run_eq2 h (fun ho => by obtain ⟨d, hd⟩ := equal_at t (.bool b1) (.bool b2); rw [hd]; simp [Op.equalIn, run_underlying (isBoolT_spec ho)]) (by simp) (by simp) (by simp) (by simp)
  case nilp =>
    simp only [VR] at hx; subst hx
    cases y <;> simp only [reduceCtorEq] at h
    case nilp => simp only [VR] at hy; subst hy; exact run_eq2 h (fun ho => by obtain ⟨e, he⟩ := isPtrT_spec ho; (obtain ⟨d, hd⟩ := equal_at t _ _); rw [hd]; simp [Op.equalIn, run_underlying he]) (by simp) (by simp) (by simp) (by simp)
    case ptr => simp only [VR] at hy; obtain ⟨_, _, rfl, _⟩ := hy; exact run_eq2 h (fun ho => by obtain ⟨e, he⟩ := isPtrT_spec ho; (obtain ⟨d, hd⟩ := equal_at t _ _); rw [hd]; simp [Op.equalIn, run_underlying he]) (by simp) (by simp) (by simp) (by simp)
    case ref => simp only [VR] at hy; obtain ⟨_, _, rfl⟩ := hy; exact run_eq2 h (fun ho => by obtain ⟨e, he⟩ := isPtrT_spec ho; (obtain ⟨d, hd⟩ := equal_at t _ _); rw [hd]; simp [Op.equalIn, run_underlying he]) (by simp) (by simp) (by simp) (by simp)
    case aref => simp only [VR] at hy; obtain ⟨_, _, _, _, rfl⟩ := hy; exact run_eq2 h (fun ho => by obtain ⟨e, he⟩ := isPtrT_spec ho; (obtain ⟨d, hd⟩ := equal_at t _ _); rw [hd]; simp [Op.equalIn, run_underlying he]) (by simp) (by simp) (by simp) (by simp)
  case ptr =>
    simp only [VR] at hx; obtain ⟨_, _, rfl, _⟩ := hx
    cases y <;> simp only [reduceCtorEq] at h
    case nilp => simp only [VR] at hy; subst hy; exact run_eq2 h (fun ho => by obtain ⟨e, he⟩ := isPtrT_spec ho; (obtain ⟨d, hd⟩ := equal_at t _ _); rw [hd]; simp [Op.equalIn, run_underlying he]) (by simp) (by simp) (by simp) (by simp)
  case ref =>
    simp only [VR] at hx; obtain ⟨_, _, rfl⟩ := hx
    cases y <;> simp only [reduceCtorEq] at h
    case nilp => simp only [VR] at hy; subst hy; exact run_eq2 h (fun ho => by obtain ⟨e, he⟩ := isPtrT_spec ho; (obtain ⟨d, hd⟩ := equal_at t _ _); rw [hd]; simp [Op.equalIn, run_underlying he]) (by simp) (by simp) (by simp) (by simp)
  case aref =>
    simp only [VR] at hx; obtain ⟨_, _, _, _, rfl⟩ := hx
    cases y <;> simp only [reduceCtorEq] at h
    case nilp => simp only [VR] at hy; subst hy; exact run_eq2 h (fun ho => by obtain ⟨e, he⟩ := isPtrT_spec ho; (obtain ⟨d, hd⟩ := equal_at t _ _); rw [hd]; simp [Op.equalIn, run_underlying he]) (by simp) (by simp) (by simp) (by simp)
  case nilfn =>
    simp only [VR] at hx; subst hx
    cases y <;> simp only [reduceCtorEq] at h
    case nilfn => simp only [VR] at hy; subst hy; exact run_eq2 h (fun ho => by obtain ⟨_, _, _, he⟩ := isFnT_spec ho; (obtain ⟨d, hd⟩ := equal_at t _ _); rw [hd]; simp [Op.equalIn, run_underlying he]) (by simp) (by simp) (by simp) (by simp)
    case fn => simp only [VR] at hy; obtain ⟨_, rfl, _⟩ := hy; exact run_eq2 h (fun ho => by obtain ⟨_, _, _, he⟩ := isFnT_spec ho; (obtain ⟨d, hd⟩ := equal_at t _ _); rw [hd]; simp [Op.equalIn, run_underlying he]) (by simp) (by simp) (by simp) (by simp)
  case fn =>
    simp only [VR] at hx; obtain ⟨_, rfl, _⟩ := hx
    cases y <;> simp only [reduceCtorEq] at h
    case nilfn => simp only [VR] at hy; subst hy; exact run_eq2 h (fun ho => by obtain ⟨_, _, _, he⟩ := isFnT_spec ho; (obtain ⟨d, hd⟩ := equal_at t _ _); rw [hd]; simp [Op.equalIn, run_underlying he]) (by simp) (by simp) (by simp) (by simp)

theorem unOp_ok {op : UnOp} {x : V} {a : Value} {v : V} {G : Gh} {w : World} (hx : VR G w x a) (h : Ab.unOp op x = some v) : ∃ z, (Op.unary op a).run P w = .ok z w ∧ VR G w v z := by
  unfold Ab.unOp at h
  split at h <;> try cases h
  · simp only [VR] at hx; subst hx; exact ⟨_, by simp [Op.unary, Op.intArith], rfl⟩
  · simp only [VR] at hx; subst hx; exact ⟨_, by simp [Op.unary, Op.intBits]; try rfl, rfl⟩
  · simp only [VR] at hx; subst hx; exact ⟨_, by simp [Op.unary], rfl⟩
theorem convert_ok {s d : Nat} {x : V} {a : Value} {v : V} {G : Gh} {w : World} (hx : VR G w x a) (h : Ab.convert P s d x = some v) : ∃ z, (Go.convert s d a).run P w = .ok z w ∧ VR G w v z := by
  unfold Ab.convert at h
  split at h <;> try cases h
  · rename_i h1 h2; simp only [VR] at hx; subst hx; exact ⟨_, by simp [Go.convert, run_underlying h1, run_underlying h2, Conv.intToInt], rfl⟩
  · rename_i h1 h2; simp only [VR] at hx; subst hx; exact ⟨_, by simp [Go.convert, run_underlying h1, run_underlying h2, Conv.intToString], rfl⟩
  · rename_i h1 h2; simp only [VR] at hx; subst hx; exact ⟨_, by simp [Go.convert, run_underlying h1, run_underlying h2], rfl⟩
theorem isSlT_spec {t : Nat} (h : isSlT P t = true) : ∃ e, P.underlying t = some (.slice e) := by unfold isSlT at h; split at h <;> first | exact ⟨_, ‹_›⟩ | cases h
theorem isNilSl_eval {y : Operand} (h : isNilSl y = true) (a : Act) : a.eval y = .slice none 0 0 := by
  unfold isNilSl at h
  split at h
  · rfl
  · cases h
theorem nilTest_run {op : BinOp} {t : Nat} {ad : Option Addr} {n c : Nat} {v : V} {G : Gh} {w : World} (h : eqv op (isSlT P t) ad.isNone = some v) :
    (∀ xo yo, (eqGuard op t xo yo (.slice ad n c) (.slice none 0 0)).run P w = .ok () w) ∧ ∃ z, (Go.binOp op t (.slice ad n c) (.slice none 0 0)).run P w = .ok z w ∧ VR G w v z := by
  refine ⟨fun xo yo => run_eqGuard op t xo yo _ _ w (by intro cs hc; cases hc) (by intro hc; cases hc), ?_⟩
  refine run_eq2 h (fun ho => ?_) (by simp) (by simp) (by simp) (by simp)
  obtain ⟨e, hu⟩ := isSlT_spec ho
  obtain ⟨d, hd⟩ := equal_at t (.slice ad n c) (.slice none 0 0)
  rw [hd]
  unfold Op.equalIn
  cases ad <;> simp [run_underlying hu]
theorem nilTest_ok {op : BinOp} {t : Nat} {x : V} {a : Value} {v : V} {G : Gh} {w : World} (hx : VR G w x a) (h : nilTest P op t x = some v) :
    (∀ xo yo, (eqGuard op t xo yo a (.slice none 0 0)).run P w = .ok () w) ∧ ∃ z, (Go.binOp op t a (.slice none 0 0)).run P w = .ok z w ∧ VR G w v z := by
  unfold nilTest at h
  split at h
  · obtain ⟨ad, cap, rfl, _, _, hc⟩ := hx
    rcases hc with ⟨h0, _⟩ | ⟨r, o, rfl, _⟩
    · cases h0
    · exact nilTest_run h
  · obtain ⟨r, z, C, o', cap, _, rfl, _⟩ := hx
    exact nilTest_run h
  · cases h
end Go.Ab
end

section
set_option linter.unusedVariables false
set_option linter.unusedSimpArgs false
set_option linter.unusedSimpArgs false
set_option linter.unusedVariables false
namespace Go.Ab
open Go.RowKit
variable {P : Program}

theorem foldl_set : ∀ (vs : List Value) (off k : Nat) (arr : Array Value), off + k + vs.length ≤ arr.size →
    ((vs.zipIdx k).foldl (fun cs (x : Value × Nat) => cs.setIfInBounds (off + x.2) x.1) arr).toList = arr.toList.take (off + k) ++ vs ++ arr.toList.drop (off + k + vs.length)
  | [], off, k, arr, _ => by simp
  | v :: vs, off, k, arr, h => by
    simp only [List.zipIdx_cons, List.foldl_cons]
    have h' : off + (k + 1) + vs.length ≤ (arr.setIfInBounds (off + k) v).size := by simp at h ⊢; omega
    rw [foldl_set vs off (k + 1) _ h']
    have e := list_seg_step arr.toList (off + k) v vs (by simp at h ⊢; omega)
    simpa [Array.toList_setIfInBounds, Nat.add_assoc, Nat.add_comm, Nat.add_left_comm] using e

theorem fillL_ok {G : Gh} {w : World} {cells : List V} {arr : Array Value} {off : Nat} {vs : List V} {xs : Array Value} (h : VRs G w cells arr.toList) (hs : ∀ y ∈ arr.toList, Sc y) (hv : VRs G w vs xs.toList) (hvs : ∀ y ∈ xs.toList, Sc y)
    (hle : off + vs.length ≤ cells.length) :
    VRs G w (fillL cells off vs) (xs.zipIdx.foldl (fun cs (x : Value × Nat) => cs.setIfInBounds (off + x.2) x.1) arr).toList ∧ ∀ y ∈ (xs.zipIdx.foldl (fun cs (x : Value × Nat) => cs.setIfInBounds (off + x.2) x.1) arr).toList, Sc y := by
  have hl := h.length
  have hl' := hv.length
  have e : (xs.zipIdx.foldl (fun cs (x : Value × Nat) => cs.setIfInBounds (off + x.2) x.1) arr).toList = arr.toList.take off ++ xs.toList ++ arr.toList.drop (off + xs.toList.length) := by
    have := foldl_set xs.toList off 0 arr (by simp at hl hl' ⊢; omega)
    rw [← Array.foldl_toList, Array.toList_zipIdx]
    simpa using this
  rw [e]
  refine ⟨?_, ?_⟩
  · unfold fillL
    rw [← hl']
    exact ((h.take off).append hv).append (h.drop _)
  · intro y hy
    simp only [List.mem_append] at hy
    rcases hy with (hy | hy) | hy
    · exact hs y (List.mem_of_mem_take hy)
    · exact hvs y hy
    · exact hs y (List.mem_of_mem_drop hy)

theorem fill_ok {G : Gh} {w : World} {place : Nat → Option (Nat × Nat)} (f : Operand → V) (g : Operand → Value) (hfg : ∀ x, VR G w (f x) (g x)) : ∀ {parts : List (Nat × Operand)} {cells cs : List V} {arr : Array Value},
    VRs G w cells arr.toList → (∀ y ∈ arr.toList, Sc y) → Ab.fill place cells (parts.map fun (i, x) => (i, f x)) = some cs →
    ∃ arr', Instr.fill place arr (parts.map fun (i, x) => (i, g x)) = some arr' ∧ VRs G w cs arr'.toList ∧ ∀ y ∈ arr'.toList, Sc y
  | [], cells, cs, arr, hc, hs, h => by cases h; exact ⟨arr, rfl, hc, hs⟩
  | (i, o) :: parts, cells, cs, arr, hc, hs, h => by
    simp only [List.map_cons, Ab.fill] at h
    split at h <;> try cases h
    rename_i off size hpl
    split at h <;> try cases h
    rename_i vs hvs
    split at h <;> try cases h
    rename_i hle
    obtain ⟨h1, h2⟩ := (hfg o).cells hvs
    obtain ⟨g1, g2⟩ := fillL_ok (off := off) hc hs h1 h2 (by omega)
    have := hc.length
    have := h1.length
    simp only [Array.length_toList] at *
    obtain ⟨arr', k1, k2, k3⟩ := fill_ok f g hfg g1 g2 h
    refine ⟨arr', ?_, k2, k3⟩
    simp only [List.map_cons, Instr.fill, hpl]
    rw [if_neg (by simp; omega)]
    exact k1

theorem flat_get {α : Type} (l : List α) : ∀ (c i : Nat), ((List.replicate c l).flatten)[i]? = if i < c * l.length then l[i % l.length]? else none
  | 0, i => by simp
  | c + 1, i => by
    simp only [List.replicate_succ, List.flatten_cons]
    rw [List.getElem?_append]
    split
    · rename_i h
      rw [Nat.mod_eq_of_lt h, if_pos (by rw [Nat.add_mul]; omega)]
    · rename_i h
      rw [flat_get l c (i - l.length)]
      rw [Nat.add_mul, Nat.one_mul]
      by_cases h' : i - l.length < c * l.length
      · rw [if_pos h', if_pos (by omega), ← Nat.mod_eq_sub_mod (by omega)]
      · rw [if_neg h', if_neg (by omega)]
theorem madeCells_ok {G : Gh} {w : World} (z : Value) (hs : ∀ y ∈ z.cells.toList, Sc y) (c n : Nat) (hn : n = c * z.cells.size) :
    VRs G w (List.replicate c (z.cells.toList.map scalar)).flatten (madeCells z.cells n).toList ∧ ∀ y ∈ (madeCells z.cells n).toList, Sc y := by
  subst hn
  have key : ∀ i, i < c * z.cells.size → ∃ y, z.cells[i % z.cells.size]? = some y ∧ (madeCells z.cells (c * z.cells.size)).toList[i]? = some y := by
    intro i hi
    have h0 : 0 < z.cells.size := by
      rcases Nat.eq_zero_or_pos z.cells.size with h | h
      · rw [h] at hi; omega
      · exact h
    have hlt := Nat.mod_lt i h0
    refine ⟨z.cells[i % z.cells.size], by simp [hlt], ?_⟩
    simp [madeCells, hi, hlt]
  refine ⟨VRs.of_get ?_ ?_, ?_⟩
  · simp [size_madeCells, List.length_flatten]
  · intro i v x hv hx
    rw [flat_get] at hv
    split at hv
    · rename_i hi
      simp only [List.length_map, Array.length_toList] at hi hv
      obtain ⟨y, h1, h2⟩ := key i hi
      rw [h2] at hx; cases hx
      simp [h1] at hv; subst hv; exact VR.scalar G w _
    · cases hv
  · intro y hy
    obtain ⟨i, hi, rfl⟩ := List.mem_iff_getElem.1 hy
    have hi' : i < c * z.cells.size := by simpa [size_madeCells] using hi
    obtain ⟨y, h1, h2⟩ := key i hi'
    rw [List.getElem?_eq_getElem hi] at h2
    cases h2
    exact hs _ (Array.mem_toList_iff.2 (Array.mem_of_getElem? h1))

theorem zero_ok {t : Nat} {z : List V} (h : tzero P t = some z) (G : Gh) (w : World) : ∃ i v, P.info? t = some i ∧ i.zero = some v ∧ VRs G w z v.cells.toList ∧ ∀ y ∈ v.cells.toList, Sc y := by
  obtain ⟨i, v, h1, h2, rfl, h4⟩ := tzero_spec h
  exact ⟨i, v, h1, h2, VRs.scalars G w _, h4⟩

/-- slices -/
theorem bound_ok {x : V} {top n : Nat} {a : Value} {G : Gh} {w : World} (hx : VR G w x a) (h : bound x top = some n) : n ≤ top ∧ ∀ code y, top ≤ y → (Instr.sliceBound a y code).run P w = .ok n w := by
  unfold bound at h
  split at h <;> try cases h
  split at h <;> cases h
  rename_i k i hi
  simp only [VR] at hx; subst hx
  exact ⟨by omega, fun code y hy => run_sliceBound w k i y code hi.1 (by omega)⟩
theorem boundO_ok {x : Option V} {a : Option Value} {top n d : Nat} {G : Gh} {w : World} (hx : match x, a with | some x, some a => VR G w x a | none, none => True | _, _ => False) (h : boundO x top d = some n) (hd : d ≤ top) :
    n ≤ top ∧ (∀ v, a = some v → ∀ code y, top ≤ y → (Instr.sliceBound v y code).run P w = .ok n w) ∧ (a = none → n = d) := by
  cases x with
  | none =>
    cases a with
    | none => cases h; exact ⟨hd, by simp, fun _ => rfl⟩
    | some a => exact hx.elim
  | some x =>
    cases a with
    | none => exact hx.elim
    | some a => have := bound_ok (P := P) hx h; exact ⟨this.1, fun v hv => by cases hv; exact this.2, by simp⟩
end Go.Ab
end

section
set_option linter.unusedVariables false
set_option linter.unusedSimpArgs false
set_option linter.unusedSimpArgs false
set_option linter.unusedVariables false
namespace Go.Ab
open Go.RowKit
variable {P : Program}

def Hp.new (hp : Hp) (idb ida : Nat) : New → Hp
  | .nothing => hp
  | .box b => { hp with h := upd hp.h idb (some b) }
  | .arr a => { hp with a := upd hp.a ida (some a) }
theorem St.new_eq (s : St) (idb ida : Nat) (x : New) : s.new idb ida x = { s with hp := s.hp.new idb ida x } := by cases x <;> rfl

/-- what an operation leaves -/
def Res (P : Program) (base : Nat) (G : Gh) (w : World) (idb ida : Nat) (hp' : Hp) (r : Result Next) (v : V) : Prop :=
  ∃ x w' G', r = .ok (.value x) w' ∧ Below base w w' ∧ Grow G w G' w' ∧ HSim base G' hp' w' ∧ VR G' w' v x ∧ (∀ b, b ≠ idb → G'.rb b = G.rb b) ∧ (∀ i, i ≠ ida → ∀ v, G'.ra i v = G.ra i v) ∧ (∀ q o, G'.S q o → q < base → G.S q o)
theorem Res.same {base : Nat} {G : Gh} {w : World} {idb ida : Nat} {hp : Hp} {r : Result Next} {v : V} {x : Value} (h : HSim base G hp w) (hr : r = .ok (.value x) w) (hx : VR G w v x) : Res P base G w idb ida hp r v :=
  ⟨x, w, G, hr, Below.refl _ _, Grow.refl _ _, h, hx, fun _ _ => rfl, fun _ _ _ => rfl, fun _ _ h _ => h⟩
theorem Res.made {base : Nat} {ow : Nat → Option (Bool × Nat)} {G : Gh} {w : World} {idb ida : Nat} {hp : Hp} {r : Result Next} {b : Bx} {o : Obj} (h : HSimO base ow G hp w) (hB : base ≤ w.heap.size) (hid : G.rb idb = none)
    (hr : r = .ok (.value (.pointer (some ⟨w.heap.size, 0, none⟩))) (w.alloc o)) (hx : ∀ G', Grow G w G' (w.alloc o) → (∀ q o, G'.S q o → G.S q o) → BoxR G' (w.alloc o) b w.heap.size) :
    Res P base G w idb ida (hp.new idb ida (.box b)) r (.ref idb 0) := by
  obtain ⟨G', h1, h2, h3, h4, h5, h6⟩ := h.newBox (Elder.alloc w o) idb b hid w.heap.size (Nat.le_refl _) hB hx
  exact ⟨_, _, G', hr, Below.mono (Elder.alloc w o) hB, h1, h2, h3, h4, fun i _ v => h5 i v, fun q o h _ => h6 q o h⟩
theorem Res.madeArr {base : Nat} {ow : Nat → Option (Bool × Nat)} {G : Gh} {w : World} {idb ida : Nat} {hp : Hp} {r : Result Next} {A : Arr} {v : V} {x : Value} {o : Obj} {C : Nat} (h : HSimO base ow G hp w) (hB : base ≤ w.heap.size) (hid : ∀ v, G.ra ida v = none)
    (hr : r = .ok (.value x) (w.alloc o)) (hx : ∀ G', Grow G w G' (w.alloc o) → (∀ q o, G'.S q o → G.S q o) → ArrR G' (w.alloc o) A w.heap.size C)
    (hv : ∀ G' w', G'.ra ida A.ver = some (w.heap.size, A.sz, C) → VR G' w' v x) :
    Res P base G w idb ida (hp.new idb ida (.arr A)) r v := by
  obtain ⟨G', h1, h2, h3, h4, h5, h6⟩ := h.newArr (Elder.alloc w o) ida A (fun v _ => hid v) w.heap.size C (Nat.le_refl _) hB hx
  exact ⟨_, _, G', hr, Below.mono (Elder.alloc w o) hB, h1, h2, hv _ _ h3, fun b _ => h4 b, fun i hi v => h5 i v (.inl hi), fun q o h _ => h6 q o h⟩

theorem eval_ok {G : Gh} {w : World} {t : Nat → V} {a : Act} (ht : ∀ i, VR G w (t i) (a.tmps.getD i undef)) (o : Operand) : VR G w (val t o) (a.eval o) := by
  cases o with
  | tmp i => exact ht i
  | const v => exact VR.ofValue G w v
  | global g => simp [val, VR]
  | func f => exact ⟨#[], rfl, rfl⟩

theorem newBlk (w : World) (o : Obj) : (w.alloc o).heap[w.heap.size]? = some o := heap_alloc_new w o

def Orel (G : Gh) (w : World) : Option V → Option Value → Prop
  | some x, some a => VR G w x a
  | none, none => True
  | _, _ => False
theorem Orel.map {G : Gh} {w : World} {f : Operand → V} {g : Operand → Value} (h : ∀ x, VR G w (f x) (g x)) (o : Option Operand) : Orel G w (o.map f) (o.map g) := by
  cases o <;> simp [Orel, h]
theorem boundO_ok' {x : Option V} {a : Option Value} {top n d : Nat} {G : Gh} {w : World} (hx : Orel G w x a) (h : boundO x top d = some n) (hd : d ≤ top) :
    n ≤ top ∧ (∀ v, a = some v → ∀ code y, top ≤ y → (Instr.sliceBound v y code).run P w = .ok n w) ∧ (a = none → n = d) :=
  boundO_ok (P := P) (by cases x <;> cases a <;> first | exact hx | trivial) h hd
theorem bounds_ok {lo hi mx : Option V} {alo ahi amx : Option Value} {n cap l h : Nat} {m : Option Nat} {G : Gh} {w : World} (hlo : Orel G w lo alo) (hhi : Orel G w hi ahi) (hmx : Orel G w mx amx) (hn : n ≤ cap)
    (hb : bounds lo hi mx n = some (l, h, m)) : l ≤ h ∧ h ≤ n ∧ (∀ k, m = some k → h ≤ k ∧ k ≤ n) ∧ (Instr.sliceBounds true n cap alo ahi amx).run P w = .ok (l, h, m.getD cap) w := by
  unfold bounds at hb
  cases mx with
  | none =>
    cases amx with
    | some _ => exact hmx.elim
    | none =>
    obtain ⟨hh, h1, hb⟩ := Option.bind_eq_some_iff.1 hb
    obtain ⟨ll, h2, hb⟩ := Option.bind_eq_some_iff.1 hb
    cases hb
    obtain ⟨a1, a2, a3⟩ := boundO_ok' (P := P) hhi h1 (Nat.le_refl _)
    obtain ⟨b1, b2, b3⟩ := boundO_ok' (P := P) hlo h2 (Nat.zero_le _)
    refine ⟨b1, a1, by simp, ?_⟩
    cases ahi with
    | none =>
      obtain rfl := a3 rfl
      cases alo with
      | none => obtain rfl := b3 rfl; simp [Instr.sliceBounds]
      | some al => have := b2 al rfl .sliceB h (Nat.le_refl _); simp [Instr.sliceBounds, this]
    | some ah =>
      have ea := a2 ah rfl .sliceAcap cap hn
      cases alo with
      | none => obtain rfl := b3 rfl; simp [Instr.sliceBounds, ea]
      | some al => have := b2 al rfl .sliceB h (Nat.le_refl _); simp [Instr.sliceBounds, ea, this]
  | some mv =>
    cases amx with
    | none => exact hmx.elim
    | some am =>
    cases hi with
    | none => cases hb
    | some hi =>
    cases ahi with
    | none => exact hhi.elim
    | some ah =>
    obtain ⟨mm, h0, hb⟩ := Option.bind_eq_some_iff.1 hb
    obtain ⟨hh, h1, hb⟩ := Option.bind_eq_some_iff.1 hb
    obtain ⟨ll, h2, hb⟩ := Option.bind_eq_some_iff.1 hb
    cases hb
    obtain ⟨c1, c2⟩ := bound_ok (P := P) hmx h0
    obtain ⟨a1, a2⟩ := bound_ok (P := P) hhi h1
    obtain ⟨b1, b2, b3⟩ := boundO_ok' (P := P) hlo h2 (Nat.zero_le _)
    refine ⟨b1, by omega, fun k hk => by cases hk; exact ⟨a1, c1⟩, ?_⟩
    have e0 := c2 .slice3Acap cap hn
    have ea := a2 .slice3B mm (Nat.le_refl _)
    cases alo with
    | none => obtain rfl := b3 rfl; simp [Instr.sliceBounds, e0, ea]
    | some al => have := b2 al rfl .slice3C h (Nat.le_refl _); simp [Instr.sliceBounds, e0, ea, this]

/-- x[lo:hi:max] -/
theorem sliceV_ok {t : Nat} {x : V} {lo hi mx : Option V} {a : Value} {alo ahi amx : Option Value} {v : V} {G : Gh} {w : World} (hx : VR G w x a)
    (hlo : Orel G w lo alo) (hhi : Orel G w hi ahi) (hmx : Orel G w mx amx) (hra : ∀ b vr r z C, G.ra b vr = some (r, z, C) → ∀ c o n e, x = .rsl c b vr o n → tslice P t = some e → z = tsize P e)
    (h : sliceV P t x lo hi mx = some v) : ∃ z, (Instr.sliceAt t a alo ahi amx).run P w = .ok z w ∧ VR G w v z := by
  cases x <;> simp only [sliceV, reduceCtorEq] at h
  case str s =>
    simp only [VR] at hx; subst hx
    cases hst : isStrT P t with
    | false => simp [hst] at h
    | true =>
    have hu : P.underlying t = some .string := by unfold isStrT at hst; split at hst <;> first | assumption | cases hst
    cases mx with
    | some m => simp [hst] at h
    | none =>
    cases amx with
    | some _ => exact hmx.elim
    | none =>
    simp only [hst] at h
    obtain ⟨hh, h1, h⟩ := Option.bind_eq_some_iff.1 h
    obtain ⟨ll, h2, h⟩ := Option.bind_eq_some_iff.1 h
    cases h
    obtain ⟨a1, a2, a3⟩ := boundO_ok' (P := P) hhi h1 (Nat.le_refl _)
    obtain ⟨b1, b2, b3⟩ := boundO_ok' (P := P) hlo h2 (Nat.zero_le _)
    refine ⟨.string (s.extract ll hh), ?_, rfl⟩
    rw [run_sliceAt_string w t _ _ _ _ hu]
    cases ahi with
    | none =>
      obtain rfl := a3 rfl
      cases alo with
      | none => obtain rfl := b3 rfl; simp [Instr.slice, run_underlying hu, Instr.sliceBounds]
      | some al => have := b2 al rfl .sliceB s.size (Nat.le_refl _); simp [Instr.slice, run_underlying hu, Instr.sliceBounds, this]
    | some ah =>
      have ea := a2 ah rfl .sliceAlen s.size (Nat.le_refl _)
      cases alo with
      | none => obtain rfl := b3 rfl; simp [Instr.slice, run_underlying hu, Instr.sliceBounds, ea]
      | some al => have := b2 al rfl .sliceB hh (Nat.le_refl _); simp [Instr.slice, run_underlying hu, Instr.sliceBounds, ea, this]
  case sl c cs n =>
    cases hts : tslice P t with
    | none => simp [hts] at h
    | some e =>
    simp only [hts] at h
    have hu := tslice_spec hts
    obtain ⟨ie, hie⟩ := tslice_info hts
    simp only [VR] at hx
    obtain ⟨ad, cap, rfl, hn, hcl, h4⟩ := hx
    have hpe : P.elem t = e := by simp [Program.elem, hu]
    have hu' : P.underlying t = some (.slice (P.elem t)) := by rw [hpe]; exact hu
    rw [run_sliceAt_slice w t _ _ _ _ hu', run_slice_any w t ad n cap hu', hpe]
    obtain ⟨⟨l, hh, m⟩, hb, h⟩ := Option.bind_eq_some_iff.1 h
    simp only [Option.some.injEq] at h
    subst h
    obtain ⟨g1, g2, g3, g4⟩ := bounds_ok (P := P) hlo hhi hmx hn hb
    refine ⟨_, by rw [g4]; simp only [Result.andThen_ok, run_sizeOf' hie]; rfl, ?_⟩
    have hm : hh ≤ m.getD cap := by cases m with | none => simp; omega | some k => exact (g3 k rfl).1
    refine ⟨_, _, rfl, by omega, fun hc => ?_, ?_⟩
    · cases m with
      | none => simp only [clip, Bool.and_eq_true, beq_iff_eq] at hc; have := hcl hc.1; simp; omega
      | some k => simp only [clip, beq_iff_eq] at hc; simp; omega
    · rcases h4 with ⟨rfl, rfl⟩ | ⟨r, o, rfl, hcs⟩
      · left
        exact ⟨by omega, by simp [sub]⟩
      · by_cases hml : m.getD cap = l
        · left
          have : hh - l = 0 := by omega
          exact ⟨this, by simp [sub, this]⟩
        · right
          refine ⟨r, o + l * tsize P e, ?_, hcs.sub _ _⟩
          rw [if_neg hml]
          simp [add_at]
  case rsl c b ver o n =>
    cases hts : tslice P t with
    | none => simp [hts] at h
    | some e =>
    simp only [hts] at h
    have hu := tslice_spec hts
    obtain ⟨ie, hie⟩ := tslice_info hts
    simp only [VR] at hx
    obtain ⟨r, z, C, o', cap, hr, rfl, hn, ho, hc1, hc2⟩ := hx
    obtain rfl := hra _ _ _ _ _ hr _ _ _ _ rfl hts
    have hpe : P.elem t = e := by simp [Program.elem, hu]
    have hu' : P.underlying t = some (.slice (P.elem t)) := by rw [hpe]; exact hu
    rw [run_sliceAt_slice w t _ _ _ _ hu', run_slice_any w t _ n cap hu', hpe]
    obtain ⟨⟨l, hh, m⟩, hb, h⟩ := Option.bind_eq_some_iff.1 h
    obtain ⟨g1, g2, g3, g4⟩ := bounds_ok (P := P) hlo hhi hmx hn hb
    refine ⟨_, by rw [g4]; simp only [Result.andThen_ok, run_sizeOf' hie]; rfl, ?_⟩
    have hm : hh ≤ m.getD cap := by cases m with | none => simp; omega | some k => exact (g3 k rfl).1
    have hmc : m.getD cap ≤ cap := by cases m with | none => simp | some k => have := (g3 k rfl).2; simp; omega
    simp only at h
    have hmul : ∀ x y : Nat, l ≤ x → l * tsize P e + (x - l) * tsize P e = x * tsize P e := fun x _ hx => by rw [← Nat.add_mul]; congr 1; omega
    cases m with
    | none =>
      simp only at h
      simp only [Option.getD_none] at hm hmc ⊢
      have hs : ∀ c' : Bool, (c' = true → c = true ∧ hh = n) → (c' = false → c = false) → VR G w (.rsl c' b ver (o + l * tsize P e) (hh - l)) (sliced (some ⟨r, o', none⟩) l hh cap (tsize P e)) := by
        intro c' k1 k2
        by_cases hml : cap = l
        · have e1 : cap - l = 0 := by omega
          refine ⟨r, tsize P e, C, o', cap - l, hr, by simp [sliced, hml], by omega, .inl e1, fun hc => ?_, fun hc => ?_⟩
          · have := hc1 (k1 hc).1
            exact ⟨by omega, by rw [e1, ← hml]; omega⟩
          · have := hc2 (k2 hc)
            rw [e1, ← hml]; omega
        · have e1 := hmul cap 0 (by omega)
          refine ⟨r, tsize P e, C, o' + l * tsize P e, cap - l, hr, by simp [sliced, if_neg hml, add_at], by omega, ?_, fun hc => ?_, fun hc => ?_⟩
          · rcases ho with ho | ho
            · omega
            · right; omega
          · have := hc1 (k1 hc).1
            have := (k1 hc).2
            exact ⟨by omega, by omega⟩
          · have := hc2 (k2 hc)
            omega
      split at h
      · rename_i hc
        split at h <;> cases h
        rename_i hhn
        exact hs true (fun _ => ⟨hc, hhn⟩) (by simp)
      · rename_i hc
        cases h
        exact hs false (by simp) (fun _ => by simpa using hc)
    | some k =>
      simp only at h
      simp only [Option.getD_some] at hm hmc ⊢
      split at h
      · rename_i hkl
        cases h
        subst hkl
        have e0 : hh = k := by omega
        subst e0
        exact ⟨some ⟨r, o', none⟩, 0, by simp [sliced], Nat.le_refl _, fun _ => rfl, .inl ⟨rfl, rfl⟩⟩
      · rename_i hkl
        split at h
        rotate_left
        · cases h; exact trivial
        cases h
        rename_i hhk
        subst hhk
        have e1 := hmul hh 0 g1
        refine ⟨r, tsize P e, C, o' + l * tsize P e, hh - l, hr, by simp [sliced, if_neg hkl, add_at], Nat.le_refl _, ?_, fun _ => ⟨rfl, ?_⟩, by simp⟩
        · rcases ho with ho | ho
          · omega
          · right; omega
        · have e2 : hh * tsize P e ≤ cap * tsize P e := Nat.mul_le_mul_right _ (by omega)
          cases c with
          | true => have := (hc1 rfl).2; omega
          | false => have := hc2 rfl; omega
theorem fzPL_ok {G : Gh} {w : World} {g : V → Option V} (hg : ∀ v v' x, g v = some v' → VR G w v x → VR G.pu w v' x) : ∀ {vs us : List V} {l : List Value}, fzPL g vs = some us → VRs G w vs l → VRs G.pu w us l
  | [], us, l, h, hl => by cases h; exact hl
  | v :: vs, us, l, h, hl => by
    simp only [fzPL] at h
    split at h <;> try cases h
    split at h <;> cases h
    rename_i v' hv _ us' hus
    obtain ⟨x, xs, rfl, h1, h2⟩ := hl
    exact ⟨x, xs, rfl, hg _ _ _ hv h1, fzPL_ok hg hus h2⟩
theorem fzP_ok {G : Gh} {w : World} : ∀ (d : Nat) (v v' : V) (x : Value), fzP d v = some v' → VR G w v x → VR G.pu w v' x
  | 0, v, v', x, h, _ => by cases h
  | d + 1, v, v', x, h, hx => by
    cases v <;> simp only [fzP, reduceCtorEq, Option.some.injEq] at h <;> try subst h
    case bool => exact hx
    case int => exact hx
    case str => exact hx
    case sl c cs n =>
      simp only [VR] at hx ⊢
      obtain ⟨a, cap, h1, h2, _, h4⟩ := hx
      exact ⟨a, cap, h1, h2, by simp, h4⟩
    case ptr => exact hx
    case nilp => exact hx
    case nilfn => exact hx
    case fn f cap =>
      split at h <;> cases h
      rename_i c hc
      obtain ⟨cc, h1, h2⟩ := hx
      exact ⟨cc, h1, fzPL_ok (fun v v' x h k => fzP_ok d v v' x h k) hc h2⟩
    case agg cs =>
      split at h <;> cases h
      rename_i c hc
      obtain ⟨arr, h1, h2, h3⟩ := hx
      exact ⟨arr, h1, h2, fzPL_ok (fun v v' x h k => fzP_ok d v v' x h k) hc h3⟩
    case tup cs =>
      split at h <;> cases h
      rename_i c hc
      obtain ⟨arr, h1, h2⟩ := hx
      exact ⟨arr, h1, fzPL_ok (fun v v' x h k => fzP_ok d v v' x h k) hc h2⟩
    case nilif => exact hx
    case ifc t cs =>
      split at h <;> cases h
      rename_i c hc
      obtain ⟨y, h1, h2⟩ := hx
      exact ⟨y, h1, fzPL_ok (fun v v' x h k => fzP_ok d v v' x h k) hc h2⟩

theorem VRC.of_row {G : Gh} {w : World} {vs : List V} {arr : Array Value} {r o n : Nat} {ty : Nat} {fr : Nat × Nat} (hh : w.heap[r]? = some (.cells arr ty fr)) (hv : VRs G.pu w vs ((arr.toList.drop o).take n)) (hs : ∀ y ∈ arr.toList, Sc y)
    (hS : ∀ q, o ≤ q → q < o + vs.length → G.S r q) : VRC G.pu w vs r o := by
  refine VRC.of_get fun i v hi => ?_
  have hlt : i < vs.length := by
    rcases Nat.lt_or_ge i vs.length with h' | h'
    · exact h'
    · rw [List.getElem?_eq_none h'] at hi; cases hi
  obtain ⟨x, h1, h2⟩ := hv.get i v hi
  rw [List.getElem?_take] at h1
  split at h1
  · rw [List.getElem?_drop] at h1
    refine ⟨hS _ (by omega) (by omega), x, ?_, hs x (List.mem_of_getElem? h1), h2⟩
    rw [cell_of_row w r _ arr ty fr hh]; simpa using h1
  · cases h1


/-- a box that is data from its beginning -/
theorem Res.frozen {base : Nat} {ow : Nat → Option (Bool × Nat)} {G : Gh} {w : World} {idb ida : Nat} {hp : Hp} {r : Result Next} {vs : List V} {arr : Array Value} {e : Nat} (h : HSimO base ow G hp w) (hB : base ≤ w.heap.size)
    (hr : r = .ok (.value (.pointer (some ⟨w.heap.size, 0, none⟩))) (w.alloc (.cells arr e (0, 0)))) (hv : VRs G.pu w vs arr.toList) (hsc : ∀ y ∈ arr.toList, Sc y) :
    Res P base G w idb ida hp r (.ptr vs 0) := by
  have hel := Elder.alloc w (.cells arr e (0, 0))
  have hg : Grow G w { G with S := fun q o => G.S q o ∨ (q = w.heap.size ∧ o < arr.size) } (w.alloc (.cells arr e (0, 0))) :=
    ⟨fun _ _ h => h, fun _ _ _ h => h, fun _ _ h => .inl h, fun q o hq => cell_of_heap (hel.block q (h.S q o hq))⟩
  have hnew := newBlk w (.cells arr e (0, 0))
  refine ⟨_, _, _, hr, Below.mono hel hB, hg, ⟨ow, h.keep hg (fun q o hq => ?_) (fun _ _ => rfl) fun q _ hq => ⟨hel.block q hq, fun o ho => ?_⟩⟩, ?_, fun _ _ => rfl, fun _ _ _ => rfl, fun q o hq hb => ?_⟩
  · rcases hq with hq | ⟨rfl, _⟩
    · exact Nat.lt_of_lt_of_le (h.S q o hq) hel.size
    · exact lt_of_heap hnew
  · rcases ho with ho | ⟨rfl, _⟩
    · exact ho
    · omega
  · refine ⟨w.heap.size, 0, rfl, ?_⟩
    have hl := hv.length
    refine VRC.of_row (n := arr.toList.length) hnew ?_ hsc (fun q _ hq => .inr ⟨rfl, by simp at hl; omega⟩)
    have := VRs.mono hg.pu _ _ hv
    rw [List.drop_zero, List.take_of_length_le (Nat.le_refl _)]
    exact this
  · rcases hq with hq | ⟨rfl, _⟩
    · exact hq
    · omega
/-- a row that is data from its beginning -/
theorem Res.frozenS {base : Nat} {ow : Nat → Option (Bool × Nat)} {G : Gh} {w : World} {idb ida : Nat} {hp : Hp} {r : Result Next} {vs : List V} {arr : Array Value} {e len : Nat} {cl : Bool} (h : HSimO base ow G hp w) (hB : base ≤ w.heap.size)
    (hr : r = .ok (.value (.slice (some ⟨w.heap.size, 0, none⟩) len len)) (w.alloc (.cells arr e (0, 0)))) (hv : VRs G.pu w vs arr.toList) (hsc : ∀ y ∈ arr.toList, Sc y) :
    Res P base G w idb ida hp r (.sl cl vs len) := by
  have hel := Elder.alloc w (.cells arr e (0, 0))
  have hg : Grow G w { G with S := fun q o => G.S q o ∨ (q = w.heap.size ∧ o < arr.size) } (w.alloc (.cells arr e (0, 0))) :=
    ⟨fun _ _ h => h, fun _ _ _ h => h, fun _ _ h => .inl h, fun q o hq => cell_of_heap (hel.block q (h.S q o hq))⟩
  have hnew := newBlk w (.cells arr e (0, 0))
  refine ⟨_, _, _, hr, Below.mono hel hB, hg, ⟨ow, h.keep hg (fun q o hq => ?_) (fun _ _ => rfl) fun q _ hq => ⟨hel.block q hq, fun o ho => ?_⟩⟩, ?_, fun _ _ => rfl, fun _ _ _ => rfl, fun q o hq hb => ?_⟩
  · rcases hq with hq | ⟨rfl, _⟩
    · exact Nat.lt_of_lt_of_le (h.S q o hq) hel.size
    · exact lt_of_heap hnew
  · rcases ho with ho | ⟨rfl, _⟩
    · exact ho
    · omega
  · refine ⟨_, len, rfl, Nat.le_refl _, fun _ => rfl, .inr ⟨w.heap.size, 0, rfl, ?_⟩⟩
    have hl := hv.length
    refine VRC.of_row (n := arr.toList.length) hnew ?_ hsc (fun q _ hq => .inr ⟨rfl, by simp at hl; omega⟩)
    have := VRs.mono hg.pu _ _ hv
    rw [List.drop_zero, List.take_of_length_le (Nat.le_refl _)]
    exact this
  · rcases hq with hq | ⟨rfl, _⟩
    · exact hq
    · omega
end Go.Ab
end

section
set_option linter.unusedVariables false
set_option linter.unusedSimpArgs false
set_option linter.unusedSimpArgs false
set_option linter.unusedVariables false
namespace Go.Ab
open Go.RowKit
variable {P : Program}

theorem value_run {s : Sem Value} {w w' : World} {x : Value} (h : s.run P w = .ok x w') : (do pure (Next.value (← s)) : Sem Next).run P w = .ok (.value x) w' := by
  simp [h]
theorem value_run' {s : Sem Value} {w w' : World} {x : Value} (h : s.run P w = .ok x w') : (Next.value <$> s).run P w = .ok (.value x) w' := by
  simp [h]

theorem isStrT_spec {t : Nat} (h : isStrT P t = true) : P.underlying t = some .string := by unfold isStrT at h; split at h <;> first | assumption | cases h
theorem VRs.index {G : Gh} {w : World} {vs : List V} {l : List Value} (h : VRs G w vs l) {i : Nat} {v : V} (hv : vs[i]? = some v) : ∃ x, l[i]? = some x ∧ VR G w v x := h.get i v hv

theorem VRs.maps {G : Gh} {w : World} {f : Operand → V} {g : Operand → Value} (h : ∀ x, VR G w (f x) (g x)) : ∀ l : List Operand, VRs G w (l.map f) (l.map g)
  | [] => rfl
  | x :: l => ⟨g x, l.map g, rfl, h x, VRs.maps h l⟩
theorem fill_length {place : Nat → Option (Nat × Nat)} : ∀ {parts : List (Nat × V)} {cells cs : List V}, Ab.fill place cells parts = some cs → cs.length = cells.length
  | [], cells, cs, h => by cases h; rfl
  | (i, v) :: parts, cells, cs, h => by
    simp only [Ab.fill] at h
    split at h <;> try cases h
    split at h <;> try cases h
    split at h <;> try cases h
    rename_i hle
    rw [fill_length h]
    simp [fillL]; omega
theorem core_ok (call : Call) (lim : Option (Nat × Nat)) {base : Nat} {ow : Nat → Option (Bool × Nat)} {G : Gh} {hp : Hp} {w : World} (h : HSimO base ow G hp w) (hB : base ≤ w.heap.size)
    (t : Nat → V) (a : Act) (ht : ∀ i, VR G w (t i) (a.tmps.getD i undef)) (o : Oper) (idb ida : Nat) (hidb : G.rb idb = none) (hida : ∀ v, G.ra ida v = none) {v : V} {new : New}
    (hc : core P call lim (val t) hp idb ida o = some (v, new)) (hnc : ∀ c f, o.op = .call c → c.callee ≠ .value f) :
    Res P base G w idb ida (hp.new idb ida new) ((execOp a.eval o).run P w) v := by
  have hs : HSim base G hp w := ⟨ow, h⟩
  have hev : ∀ x, VR G w (val t x) (a.eval x) := eval_ok ht
  obtain ⟨dst, op, ty, pos, after, guard⟩ := o
  cases op <;> simp only [core, reduceCtorEq] at hc
  case move x => cases hc; exact Res.same hs (by simp [execOp]) (hev x)
  case assign x => cases hc; exact Res.same hs (by simp [execOp]) (hev x)
  case pick c x y =>
    have h1 := hev c
    split at hc <;> cases hc
    · rename_i hcv; rw [hcv] at h1; simp only [VR] at h1
      exact Res.same hs (by simp [execOp, h1, asBool]) (hev x)
    · rename_i hcv; rw [hcv] at h1; simp only [VR] at h1
      exact Res.same hs (by simp [execOp, h1, asBool]) (hev y)
  case alloc e =>
    obtain ⟨z, hz, hc⟩ := Option.bind_eq_some_iff.1 hc
    cases hc
    obtain ⟨i, zv, h1, h2, h3, h4⟩ := tzero_spec hz
    subst h3
    refine Res.made h hB hidb (o := .cells zv.cells e (0, 0)) (by simp [execOp, Instr.alloc, run_zeroValue' h1 h2, newVar, newRow]) fun G' _ hS => ⟨_, _, newBlk w _, VRs.scalars _ _ _, h4, fun _ o ho => ?_⟩
    have := h.S _ _ (hS _ _ ho); omega
  case box e x =>
    split at hc <;> try cases hc
    rename_i cs hcs
    obtain ⟨h1, h2⟩ := (hev x).cells hcs
    have mk : Res P base G w idb ida (hp.new idb ida (.box (.cells cs false))) ((execOp a.eval { dst := dst, op := .box e x, type := ty, pos := pos, after := after, guard := guard }).run P w) (.ref idb 0) := by
      refine Res.made h hB hidb (o := .cells (a.eval x).cells e (0, 0)) (by simp [execOp, Instr.box, newVar, newRow]) fun G' hG hS => ⟨_, _, newBlk w _, VRs.mono hG _ _ h1, h2, fun _ o ho => ?_⟩
      have := h.S _ _ (hS _ _ ho); omega
    split at hc
    · cases hc; exact mk
    · split at hc <;> cases hc
      · rename_i cs' hz
        exact Res.frozen (e := e) h hB (by simp [execOp, Instr.box, newVar, newRow]) (fzPL_ok (fun v v' x h k => fzP_ok 6 v v' x h k) hz h1) h2
      · exact mk
  case build t' parts =>
    obtain ⟨z, hz, hc⟩ := Option.bind_eq_some_iff.1 hc
    obtain ⟨i, zv, h1, h2, h3, h4⟩ := zero_ok hz G w
    split at hc <;> try cases hc
    · rename_i fs hu
      obtain ⟨places, hp', hc⟩ := Option.bind_eq_some_iff.1 hc
      obtain ⟨cs, hf, hc⟩ := Option.bind_eq_some_iff.1 hc
      cases hc
      obtain ⟨arr, g1, g2, g3⟩ := fill_ok (place := fun i => places[i]?) (val t) a.eval hev (arr := zv.cells) h3 h4 hf
      have hb : P.built t' (parts.map fun (i, x) => (i, a.eval x)).toList = some arr := by
        simp only [Program.built, h1, hu, h2, hp']
        rw [← g1]
        simp
      exact Res.same hs (by simp [execOp, run_build w t' _ arr hb]) ⟨arr, rfl, g3, g2⟩
    · rename_i n e hu
      split at hc <;> try cases hc
      rename_i hie
      obtain ⟨ie, hie⟩ : ∃ ie, P.info? e = some ie := by
        cases hx : P.info? e with
        | none => simp [hx] at hie
        | some ie => exact ⟨ie, rfl⟩
      obtain ⟨cs, hf, hc⟩ := Option.bind_eq_some_iff.1 hc
      cases hc
      obtain ⟨arr, g1, g2, g3⟩ := fill_ok (place := fun i => some (i * tsize P e, tsize P e)) (val t) a.eval hev (arr := zv.cells) h3 h4 hf
      have hb : P.built t' (parts.map fun (i, x) => (i, a.eval x)).toList = some arr := by
        simp only [Program.built, h1, hu, h2, hie]
        rw [← g1, tsize_eq hie]
        simp
      exact Res.same hs (by simp [execOp, run_build w t' _ arr hb]) ⟨arr, rfl, g3, g2⟩
  case buildSlice t' len parts =>
    obtain ⟨e, he, hc⟩ := Option.bind_eq_some_iff.1 hc
    obtain ⟨z, hz, hc⟩ := Option.bind_eq_some_iff.1 hc
    obtain ⟨i, zv, h1, h2, h3, h4⟩ := tzero_spec hz
    subst h3
    split at hc <;> try cases hc
    rename_i hle
    obtain ⟨hle, hzs⟩ := hle
    obtain ⟨cs, hf, hc⟩ := Option.bind_eq_some_iff.1 hc
    have hu := tslice_spec he
    have hzs' : zv.cells.size = tsize P e := by simpa using hzs
    have hm := madeCells_ok (G := G) (w := w) zv h4 len (len * tsize P e) (by rw [hzs'])
    obtain ⟨arr, g1, g2, g3⟩ := fill_ok (place := fun i => some (i * tsize P e, tsize P e)) (val t) a.eval hev hm.1 hm.2 hf
    have hfl : cs.length = len * tsize P e := by
      rw [fill_length hf, hm.1.length.symm]; simp [size_madeCells]
    have hal : arr.size = len * tsize P e := by rw [← hfl, ← g2.length]; simp
    have g1' : Instr.fill (fun i => some (i * tsize P e, tsize P e)) (madeCells zv.cells (len * tsize P e)) (parts.toList.map fun (i, x) => (i, a.eval x)) = some arr := g1
    have hmk : ∀ zs : Array Value, (len * tsize P e ≠ 0 → zs = zv.cells) → (Array.range (len * tsize P e)).map (zs[· % zs.size]!) = madeCells zv.cells (len * tsize P e) := by
      intro zs hz
      by_cases h0 : len * tsize P e = 0
      · rw [h0]; simp [madeCells, Array.range_zero']
      · rw [hz h0]; rfl
    have hrun : (execOp a.eval { dst := dst, op := .buildSlice t' len parts, type := ty, pos := pos, after := after, guard := guard }).run P w = .ok (.value (.slice (some ⟨w.heap.size, 0, none⟩) len len)) (w.alloc (.cells arr e (0, 0))) := by
      simp only [execOp, Instr.buildSlice, Sem.run_bind, run_underlying hu, Result.andThen_ok, run_sizeOf' h1]
      rw [if_neg (by simp; omega)]
      by_cases h0 : len * tsize P e = 0
      · rw [if_pos h0]
        simp only [Sem.run_bind, Sem.run_pure, Result.andThen_ok]
        rw [hmk _ (fun h => absurd h0 h)]
        simp [g1', newRow]
      · rw [if_neg h0]
        simp only [Sem.run_bind, Sem.run_pure, Result.andThen_ok, run_zeroValue' h1 h2]
        rw [hmk _ (fun _ => rfl)]
        simp [g1', newRow]
    have mk : Res P base G w idb ida (hp.new idb ida (.arr ⟨0, tsize P e, cs, some len, 0⟩)) ((execOp a.eval { dst := dst, op := .buildSlice t' len parts, type := ty, pos := pos, after := after, guard := guard }).run P w) (.rsl false ida 0 0 len) := by
      refine Res.madeArr (o := .cells arr e (0, 0)) (x := .slice (some ⟨w.heap.size, 0, none⟩) len len) (C := len * tsize P e) h hB hida ?_ (fun G' hG hS => ⟨arr, e, newBlk w _, hal, by simp [hfl], ?_, g3, fun m hm' => ?_, fun q hq => ?_, by simp⟩) ?_
      · exact hrun
      · simp only
        rw [List.take_of_length_le (by simp [hfl, hal])]
        exact VRs.mono hG _ _ g2
      · cases hm'; exact ⟨rfl, by simp [hfl]⟩
      · have := h.S _ _ (hS _ _ hq); omega
      · intro G' w' hr
        exact ⟨_, _, _, 0, len, hr, rfl, Nat.le_refl _, .inr rfl, by simp, fun _ => by simp⟩
    split at hc
    · cases hc; exact mk
    · cases hc; exact mk
    · cases hz' : fzPL (fzP 6) cs with
      | some cs' =>
        rw [hz'] at hc
        cases hc
        exact Res.frozenS (e := e) h hB hrun (fzPL_ok (fun v v' x h k => fzP_ok 6 v v' x h k) hz' g2) g3
      | none => rw [hz'] at hc; cases hc
  case load t' x =>
    obtain ⟨cs, h1, hc⟩ := Option.bind_eq_some_iff.1 hc
    obtain ⟨v', h2, hc⟩ := Option.bind_eq_some_iff.1 hc
    cases hc
    obtain ⟨y, g1, g2⟩ := load_ok h (by rw [h1]; exact h2) (hev x)
    exact Res.same hs (by simp [execOp, g1]) g2
  case nilCheck x =>
    have hx := hev x
    split at hc <;> cases hc
    all_goals
      rename_i hv
      rw [hv] at hx
      have hx' := hx
      simp only [VR] at hx'
    · obtain ⟨_, _, e, _⟩ := hx'; exact Res.same hs (by simp [execOp, e]) hx
    · obtain ⟨_, _, e⟩ := hx'; exact Res.same hs (by simp [execOp, e]) hx
    · obtain ⟨_, _, _, _, e⟩ := hx'; exact Res.same hs (by simp [execOp, e]) hx
    · obtain ⟨_, e, _⟩ := hx'; exact Res.same hs (by simp [execOp, e]) hx
  case binOp op' t' x y yt =>
    obtain ⟨v', h1, hc⟩ := Option.bind_eq_some_iff.1 hc
    cases hc
    unfold binOpN at h1
    split at h1
    · rename_i h1'
      cases h1
      obtain ⟨g1, z, g2, g3⟩ := binOp_ok (hev x) (hev y) h1'
      exact Res.same hs (by simp [execOp, g1, g2]) g3
    · split at h1 <;> try cases h1
      rename_i hn
      obtain ⟨g1, z, g2, g3⟩ := nilTest_ok (hev x) h1
      have hy : a.eval y = .slice none 0 0 := isNilSl_eval hn a
      exact Res.same hs (by simp [execOp, hy, g1, g2]) g3
  case unOp op' t' x =>
    obtain ⟨v', h1, hc⟩ := Option.bind_eq_some_iff.1 hc
    cases hc
    obtain ⟨z, g2, g3⟩ := unOp_ok (P := P) (hev x) h1
    exact Res.same hs (by simp [execOp, g2]) g3
  case convert s d x =>
    obtain ⟨v', h1, hc⟩ := Option.bind_eq_some_iff.1 hc
    cases hc
    obtain ⟨z, g2, g3⟩ := convert_ok (P := P) (hev x) h1
    exact Res.same hs (by simp [execOp, g2]) g3
  case makeInterface t x =>
    split at hc <;> try cases hc
    rename_i u hn hu
    refine Res.same hs (x := .iface t (a.eval x)) ?_ ⟨_, rfl, ⟨_, _, rfl, hev x, rfl⟩⟩
    cases u <;> first | exact absurd rfl (hn _) | simp [execOp, Instr.makeInterface, run_underlying hu]
  case typeAssert x xt t ok =>
    split at hc <;> try cases hc
    rename_i u hn hu
    split at hc <;> try cases hc
    rename_i t' v hv
    split at hc <;> cases hc
    rename_i ht'
    subst ht'
    have hx := hev x
    rw [hv] at hx
    obtain ⟨y, e, hy⟩ := hx
    obtain ⟨y', ys, e2, h3, h4⟩ := hy
    cases e2
    cases ok with
    | true =>
      refine Res.same hs (x := .tuple #[y, .bool true]) ?_ ⟨_, rfl, ⟨_, _, rfl, h3, ⟨_, _, rfl, rfl, rfl⟩⟩⟩
      cases u <;> first | exact absurd rfl (hn _) | simp [execOp, Instr.typeAssert, run_underlying hu, e]
    | false =>
      refine Res.same hs (x := y) ?_ h3
      cases u <;> first | exact absurd rfl (hn _) | simp [execOp, Instr.typeAssert, run_underlying hu, e]
  case makeFunc fn first cap =>
    cases fn <;> simp only [reduceCtorEq] at hc
    split at hc <;> cases hc
    rename_i f hf
    have hf' : first = #[] := by simpa using hf
    subst hf'
    refine Res.same hs (x := .func (.func f) #[] (cap.map a.eval)) (by simp [execOp, Instr.makeFunc]) ⟨_, rfl, ?_⟩
    refine VRs.of_get (by simp) fun i v x hv hx => ?_
    simp only [Array.toList_map, List.getElem?_map, Option.map_eq_some_iff] at hv hx
    obtain ⟨y, hy, rfl⟩ := hv
    obtain ⟨y', hy', rfl⟩ := hx
    rw [hy] at hy'; cases hy'
    exact hev y
  case makeSlice t' l c =>
    have hl := hev l
    have hcc := hev c
    split at hc <;> try cases hc
    rename_i e kl lv kc cv he hlv hcv
    obtain ⟨z, hz, hc⟩ := Option.bind_eq_some_iff.1 hc
    obtain ⟨i, zv, h1, h2, h3, h4⟩ := tzero_spec hz
    subst h3
    split at hc <;> cases hc
    rename_i hle
    obtain ⟨c1, c2, c3, c4, c5⟩ := hle
    rw [hlv] at hl
    rw [hcv] at hcc
    simp only [VR] at hl hcc
    have hu := tslice_spec he
    have hsz := tsize_eq h1
    have hby := tbytes_eq h1
    have hzs' : zv.cells.size = tsize P e := by simpa using c5
    have hm := madeCells_ok (G := G) (w := w) zv h4 cv.toNat (cv.toNat * tsize P e) (by rw [hzs'])
    have hcl : ((List.replicate cv.toNat (zv.cells.toList.map scalar)).flatten).length = cv.toNat * tsize P e := by rw [hm.1.length.symm]; simp [size_madeCells]
    have hrun := run_make (P := P) w t' e i zv hu h1 h2 kl kc lv cv c1 c2 (by rw [← hby]; have : (cv.toNat : Int) = cv := Int.toNat_of_nonneg (by omega); have h' := c3; unfold maxRoom at h'; rw [← this, ← Int.natCast_mul]; rw [Nat.mul_comm]; omega) (by unfold maxRoom at c4; omega)
    rw [← hsz] at hrun
    refine Res.madeArr (o := .cells (madeCells zv.cells (cv.toNat * tsize P e)) e (0, 0)) (x := .slice (some ⟨w.heap.size, 0, none⟩) lv.toNat cv.toNat) (C := cv.toNat * tsize P e) h hB hida ?_ (fun G' hG hS => ⟨_, e, newBlk w _, size_madeCells _ _, by simp [hcl], ?_, hm.2, fun m hm' => ?_, fun q hq => ?_, by simp⟩) ?_
    · simp [execOp, hl, hcc, hrun]
    · simp only
      rw [List.take_of_length_le (by rw [hcl]; simp [size_madeCells])]
      exact VRs.mono hG _ _ hm.1
    · cases hm'; exact ⟨rfl, by simp [hcl]⟩
    · have := h.S _ _ (hS _ _ hq); omega
    · intro G' w' hr
      exact ⟨_, _, _, 0, cv.toNat, hr, rfl, by omega, .inr rfl, by simp, fun _ => by simp⟩
  case slice t' x lo hi mx =>
    split at hc <;> try cases hc
    rename_i hok
    obtain ⟨v', h1, hc⟩ := Option.bind_eq_some_iff.1 hc
    cases hc
    have hra : ∀ b vr r z C, G.ra b vr = some (r, z, C) → ∀ c o n e, val t x = .rsl c b vr o n → tslice P t' = some e → z = tsize P e := by
      intro b vr r z C hr c o n e hx he
      rw [hx] at hok
      simp only [arrOk] at hok
      split at hok
      · rename_i A e' hA he' _
        rw [he] at he'; cases he'
        have hok' : A.ver = vr ∧ A.sz = tsize P e := by simpa using hok
        obtain ⟨r', C', k1, _⟩ := h.arr b A hA
        rw [hok'.1, hr] at k1
        cases k1
        exact hok'.2
      · exact absurd rfl hok
    obtain ⟨z, g2, g3⟩ := sliceV_ok (P := P) (hev x) (Orel.map hev lo) (Orel.map hev hi) (Orel.map hev mx) hra h1
    exact Res.same hs (by simp [execOp, g2]) g3
  case fieldAddr s x f =>
    obtain ⟨fd, h1, hc⟩ := Option.bind_eq_some_iff.1 hc
    split at hc <;> try cases hc
    rename_i hz
    have hx := hev x
    split at hc <;> cases hc
    · rename_i hv; rw [hv] at hx; simp only [VR] at hx
      obtain ⟨r, k1, k2⟩ := hx
      exact Res.same hs (by simp [execOp, k2, run_fieldAt h1 hz]) ⟨r, k1, rfl⟩
    · rename_i hv; rw [hv] at hx; simp only [VR] at hx
      obtain ⟨r, b, k1, k2⟩ := hx
      exact Res.same hs (x := .pointer (some ⟨r, b + (_ + fd.offset), none⟩)) (by simp [execOp, k1, run_fieldAt h1 hz, Nat.add_assoc]) ⟨r, b, rfl, k2⟩
    · rename_i hv; rw [hv] at hx; simp only [VR] at hx
      obtain ⟨r, z, C, k1, k2⟩ := hx
      exact Res.same hs (by simp [execOp, k2, run_fieldAt h1 hz]) ⟨r, z, C, k1, rfl⟩
  case field s x f =>
    obtain ⟨fd, h1, hc⟩ := Option.bind_eq_some_iff.1 hc
    have hx := hev x
    split at hc <;> try cases hc
    rename_i cs hv
    split at hc <;> try cases hc
    rename_i hle
    obtain ⟨v', h2, hc⟩ := Option.bind_eq_some_iff.1 hc
    cases hc
    rw [hv] at hx
    obtain ⟨arr, e, k1, k2⟩ := hx
    obtain ⟨fs, f1, f2⟩ := tfield_spec h1
    obtain ⟨z, g1, g2⟩ := run_part (P := P) k2 k1 hle h2
    exact Res.same hs (by simp [execOp, Instr.field, run_underlying f1, f2, e, asAgg, g1]) g2
  case indexAddr t' x ix =>
    obtain ⟨e, h1, hc⟩ := Option.bind_eq_some_iff.1 hc
    have hx := hev x
    have hi := hev ix
    split at hc <;> try cases hc
    · rename_i c cs n k i hv hiv
      split at hc <;> cases hc
      rename_i hle
      rw [hv] at hx
      rw [hiv] at hi
      simp only [VR] at hx hi
      obtain ⟨ad, cap, k1, k2, k3, k4⟩ := hx
      rcases k4 with ⟨rfl, _⟩ | ⟨r, o, rfl, k5⟩
      · exact absurd hle.2 (by simp; omega)
      · exact Res.same hs (by simp [execOp, k1, hi, run_indexAt h1 (tslice_info h1) r o n cap k i hle.1 hle.2 w]) ⟨r, o, rfl, k5⟩
    · rename_i c b vr o n k i hv hiv
      split at hc <;> cases hc
      rename_i hle
      rw [hv] at hx
      rw [hiv] at hi
      simp only [VR] at hx hi
      obtain ⟨r, z, C, o', cap, k1, k2, k3, k4, _⟩ := hx
      have : o' = o := by rcases k4 with k4 | k4 <;> omega
      subst this
      exact Res.same hs (by simp [execOp, k2, hi, run_indexAt h1 (tslice_info h1) r o' n cap k i hle.1 hle.2 w]) ⟨r, z, C, k1, rfl⟩
  case index t' x ix =>
    have hx := hev x
    have hi := hev ix
    split at hc <;> try cases hc
    · rename_i s k i hv hiv
      split at hc <;> cases hc
      rename_i hle
      obtain ⟨q1, q2, q3⟩ := hle
      rw [hv] at hx
      rw [hiv] at hi
      simp only [VR] at hx hi
      have hu := isStrT_spec q1
      have hlt : i.toNat < s.size := by omega
      have hb : s[i.toNat]? = some (s.data.toList.getD i.toNat 0) := by
        have hlt' : i.toNat < s.data.size := hlt
        rw [getElem?_pos s i.toNat hlt]
        congr 1
        rw [List.getD_eq_getElem?_getD, List.getElem?_eq_getElem (by simpa using hlt')]
        rfl
      exact Res.same hs (by simp [execOp, Instr.index, hx, hi, asIntOf, run_underlying hu, q2, hb]) rfl
    · rename_i cs k i hv hiv
      split at hc <;> try cases hc
      rename_i n e hu
      split at hc <;> try cases hc
      rename_i hle
      obtain ⟨v', h2, hc⟩ := Option.bind_eq_some_iff.1 hc
      cases hc
      rw [hv] at hx
      rw [hiv] at hi
      simp only [VR] at hi
      obtain ⟨arr, ex, k1, k2⟩ := hx
      obtain ⟨z, g1, g2⟩ := run_part (P := P) k2 k1 hle.2.2 h2
      have hie : ∃ ie, P.info? e = some ie := by
        unfold one at h2
        cases ha : tagg P e with
        | none => rw [ha] at h2; cases h2
        | some _ =>
          unfold tagg at ha
          cases hx : P.underlying e with
          | none => rw [hx] at ha; cases ha
          | some d => exact info_of_under hx
      obtain ⟨ie, hie⟩ := hie
      exact Res.same hs (by simp [execOp, Instr.index, ex, hi, asIntOf, run_underlying hu, hle.1, hle.2.1, run_sizeOf' hie, g1]) g2
  case range t' x =>
    have hx := hev x
    split at hc <;> try cases hc
    rename_i s hv
    split at hc <;> cases hc
    rename_i hst
    have hu := isStrT_spec (by simpa using hst)
    rw [hv] at hx
    simp only [VR] at hx
    refine Res.made h hB hidb (o := .stringIter s 0) (by simp [execOp, Instr.range, hx, run_underlying hu]) fun G' _ hS => ⟨newBlk w _, fun o ho => ?_⟩
    have := h.S _ _ (hS _ _ ho); omega
  case extract x i =>
    have hx := hev x
    split at hc <;> try cases hc
    rename_i vs hv
    split at hc <;> cases hc
    rename_i hvi
    rw [hv] at hx
    obtain ⟨arr, e, k1⟩ := hx
    obtain ⟨z, g1, g2⟩ := k1.get i _ hvi
    exact Res.same hs (by simp [execOp, e, Instr.extract]; simp at g1; simp [g1]) g2
  case call c =>
    obtain ⟨callee, args, argTypes⟩ := c
    cases callee with
    | value f => exact absurd rfl (hnc _ f rfl)
    | invoke r m => cases hc
    | builtin b =>
      have harg : VRs G w (args.toList.map (val t)) (args.toList.map a.eval) := VRs.maps hev _
      have hmap : args.map a.eval = (args.toList.map a.eval).toArray := by rw [← Array.toList_map]
      cases b <;> first | (cases hc; done) | skip
      case len =>
        dsimp only at hc
        split at hc <;> try cases hc
        all_goals
          rename_i hal htl
          split at hc <;> cases hc
          rename_i hty
          rw [hal] at harg
          obtain ⟨x, xs, e1, e2, e3⟩ := harg
          simp only [VRs] at e3
          subst e3
          rw [e1] at hmap
          have hat : argTypes[0]? = argTypes.toList[0]? := by simp
          rw [htl] at hat
          simp only [List.getElem?_cons_zero] at hat
        · have hu := isStrT_spec hty
          simp only [VR] at e2; subst e2
          exact Res.same hs (by simp [execOp, resolve, invoke, builtin, hmap, Builtin.len_, hat, run_underlying hu]; rfl) (by simp [VR, goInt])
        · obtain ⟨e, hu⟩ := isSlT_spec hty
          simp only [VR] at e2
          obtain ⟨ad, cap, e2, _⟩ := e2
          subst e2
          exact Res.same hs (by simp [execOp, resolve, invoke, builtin, hmap, Builtin.len_, hat, run_underlying hu]; rfl) (by simp [VR, goInt])
        · obtain ⟨e, hu⟩ := isSlT_spec hty
          simp only [VR] at e2
          obtain ⟨r, z, C, o', cap, _, e2, _⟩ := e2
          subst e2
          exact Res.same hs (by simp [execOp, resolve, invoke, builtin, hmap, Builtin.len_, hat, run_underlying hu]; rfl) (by simp [VR, goInt])
      case min =>
        dsimp only at hc
        split at hc <;> cases hc
        rename_i hal
        rw [hal] at harg
        obtain ⟨x, xs, e1, e2, y, ys, rfl, e3, e4⟩ := harg
        simp only [VRs] at e4
        subst e4
        simp only [VR] at e2 e3
        subst e2 e3
        rw [e1] at hmap
        exact Res.same hs (by simp [execOp, resolve, invoke, builtin, hmap, Builtin.min_, Builtin.min2]) rfl
      case max =>
        dsimp only at hc
        split at hc <;> cases hc
        rename_i hal
        rw [hal] at harg
        obtain ⟨x, xs, e1, e2, y, ys, rfl, e3, e4⟩ := harg
        simp only [VRs] at e4
        subst e4
        simp only [VR] at e2 e3
        subst e2 e3
        rw [e1] at hmap
        exact Res.same hs (by simp [execOp, resolve, invoke, builtin, hmap, Builtin.max_, Builtin.max2]) rfl
end Go.Ab
end

section
set_option linter.unusedVariables false
set_option linter.unusedSimpArgs false
set_option linter.unusedSimpArgs false
set_option linter.unusedVariables false
namespace Go.Ab
open Go.RowKit
variable {P : Program}

/-- what an operation that writes leaves -/
def Res2 (P : Program) (base : Nat) (G : Gh) (w : World) (ida : Nat) (hp : Hp) (hp' : Hp) (r : Result Next) (v : V) : Prop :=
  ∃ x w' G', (r = .ok (.value x) w' ∨ (r = .ok .skip w' ∧ x = undef)) ∧ Below base w w' ∧ Grow G w G' w' ∧ HSim base G' hp' w' ∧ VR G' w' v x ∧ (∀ b, G'.rb b = G.rb b) ∧
    (∀ i, i ≠ ida → hp.a i = none → ∀ v, G'.ra i v = G.ra i v)

theorem sc_one {y : Value} (h : Sc y) : y.oneCell' = true := by cases y <;> first | rfl | cases h

theorem VRs.fill {G : Gh} {w : World} {cells vs : List V} {l m : List Value} {off : Nat} (h : VRs G w cells l) (hv : VRs G w vs m) : VRs G w (fillL cells off vs) (l.take off ++ m ++ l.drop (off + m.length)) := by
  unfold fillL; rw [← hv.length]; exact ((h.take off).append hv).append (h.drop _)

theorem take_fill {α : Type} (l m : List α) (o n : Nat) (h : o + m.length ≤ n) (hn : n ≤ l.length) : (l.take o ++ m ++ l.drop (o + m.length)).take n = (l.take n).take o ++ m ++ (l.take n).drop (o + m.length) := by
  apply List.ext_getElem?
  intro i
  grind

/-- a store into a block of the call's own -/
theorem store_ok {base : Nat} {ow : Nat → Option (Bool × Nat)} {G : Gh} {hp hp' : Hp} {w : World} (h : HSimO base ow G hp w) {a : V} {x : Value} {vs : List V} {l : List Value} (hx : VR G w a x) (hvs : VRs G w vs l) (hsc : ∀ y ∈ l, Sc y)
    (hs : storeV hp a vs = some hp') : ∃ r o w', x = .pointer (some ⟨r, o, none⟩) ∧ (storeCells ⟨r, o, none⟩ l).run P w = .ok () w' ∧ Below base w w' ∧ Grow G w G w' ∧ HSim base G hp' w' := by
  have hl := hvs.length
  cases a <;> simp only [storeV, reduceCtorEq] at hs
  case ref b o =>
    split at hs <;> try cases hs
    rename_i cs hb
    split at hs <;> cases hs
    rename_i hle
    simp only [VR] at hx
    obtain ⟨r, hr, rfl⟩ := hx
    obtain ⟨r', h1, h2, h3, h4⟩ := h.box b _ hb
    rw [hr] at h1; cases h1
    obtain ⟨arr, ty, g1, g2, g3, g4⟩ := h4
    have hal := g2.length
    have hrun := run_storeCells_at P r o ty l 0 arr w g1 (by simp at hal ⊢; omega) (fun v hv => sc_one (hsc v hv))
    simp only [Nat.add_zero] at hrun
    refine ⟨r, o, _, rfl, hrun, ?_, ?_, ?_⟩
    · exact ⟨rfl, rfl, rfl, by simp, fun k hk => setRow_other w r k _ (by omega)⟩
    · exact h.turn r (by simp) (fun q hq => setRow_other w r q _ hq) fun q hq => absurd hq (g4 rfl q)
    · have hg : Grow G w G (w.setRow r (arr.toList.take o ++ l ++ arr.toList.drop (o + l.length)).toArray) := h.turn r (by simp) (fun q hq => setRow_other w r q _ hq) fun q hq => absurd hq (g4 rfl q)
      refine ⟨ow, h.setBox b _ r hr h2 h3 (by simp) (fun q hq => setRow_other w r q _ hq) hg ⟨_, ty, setRow_heap w r arr _ ty _ g1, VRs.mono hg _ _ (g2.fill hvs), ?_, fun _ => g4 rfl⟩⟩
      intro y hy
      simp only [List.mem_append] at hy
      rcases hy with (hy | hy) | hy
      · exact g3 y (List.mem_of_mem_take hy)
      · exact hsc y hy
      · exact g3 y (List.mem_of_mem_drop hy)
  case aref b ver o =>
    split at hs <;> try cases hs
    rename_i A hb
    split at hs <;> cases hs
    rename_i hle
    obtain ⟨c1, c2, c3⟩ := hle
    simp only [VR] at hx
    obtain ⟨r, z, C, hr, rfl⟩ := hx
    obtain ⟨r', C', h1, h2, h3, h4, h5⟩ := h.arr b _ hb
    have h1' := h1
    rw [c1, hr] at h1; cases h1
    obtain ⟨arr, ty, g1, g2, g3, g4, g5, g6, g7, g8⟩ := h4
    have hrun := run_storeCells_at P r o ty l 0 arr w g1 (by simp; omega) (fun v hv => sc_one (hsc v hv))
    simp only [Nat.add_zero] at hrun
    have hg : Grow G w G (w.setRow r (arr.toList.take o ++ l ++ arr.toList.drop (o + l.length)).toArray) := h.turn r (by simp) (fun q hq => setRow_other w r q _ hq) fun q hq => by
      have hlt := g7 q hq
      rw [cell_of_row _ r q _ ty _ (setRow_heap w r arr _ ty _ g1), cell_of_row w r q arr ty _ g1]
      simp only [List.getElem?_toArray]
      rw [List.append_assoc, List.getElem?_append_left (by simp; omega), List.getElem?_take, if_pos (by omega)]
      simp
    refine ⟨r, o, _, rfl, hrun, ?_, hg, ?_⟩
    · exact ⟨rfl, rfl, rfl, by simp, fun k hk => setRow_other w r k _ (by omega)⟩
    · refine ⟨ow, h.setArr b { A with cs := fillL A.cs o vs } r C h1' h5 h2 h3 (by simp) (fun q hq => setRow_other w r q _ hq) hg ⟨_, ty, setRow_heap w r arr _ ty _ g1, ?_, ?_, ?_, ?_, fun m hm => ?_, g7, ?_⟩⟩
      · simp; omega
      · simp [fillL]; omega
      · have hfl : (fillL A.cs o vs).length = A.cs.length := by simp [fillL]; omega
        simp only
        rw [hfl]
        have := (g4.fill (off := o) hvs)
        have e : (arr.toList.take o ++ l ++ arr.toList.drop (o + l.length)).take A.cs.length = (arr.toList.take A.cs.length).take o ++ l ++ (arr.toList.take A.cs.length).drop (o + l.length) := by
          exact take_fill _ _ _ _ (by omega) (by simp; omega)
        rw [show ((arr.toList.take o ++ l ++ arr.toList.drop (o + l.length)).toArray.toList).take A.cs.length = _ from e]
        exact VRs.mono hg _ _ this
      · intro y hy
        simp only [List.mem_append] at hy
        rcases hy with (hy | hy) | hy
        · exact g5 y (List.mem_of_mem_take hy)
        · exact hsc y hy
        · exact g5 y (List.mem_of_mem_drop hy)
      · have hfl : (fillL A.cs o vs).length = A.cs.length := by simp [fillL]; omega
        simp only at hm ⊢
        rw [hfl]; exact g6 m hm
      · have hfl : (fillL A.cs o vs).length = A.cs.length := by simp [fillL]; omega
        simp only
        rw [hfl]; exact g8
end Go.Ab
end

section
set_option linter.unusedVariables false
set_option linter.unusedSimpArgs false
set_option linter.unusedSimpArgs false
set_option linter.unusedVariables false
namespace Go.Ab
open Go.RowKit
variable {P : Program}

/-- the cells of a slice are there -/
theorem content_ok {base : Nat} {ow : Nat → Option (Bool × Nat)} {G : Gh} {hp : Hp} {w : World} (h : HSimO base ow G hp w) {lim : Option (Nat × Nat)} {s : V} {x : Value} {sz n : Nat} {cs : List V} (hx : VR G w s x) (hc : content lim hp sz s = some (cs, n)) :
    ∃ ad cap ys, x = .slice ad n cap ∧ n ≤ cap ∧ VRs G w cs ys ∧ ys.length = n * sz ∧ (∀ y ∈ ys, Sc y) ∧ (ad = none → n = 0 ∧ ys = []) ∧ ∀ b, ad = some b → ∀ (j : Nat) v, ys[j]? = some v → w.cell? (b.add j) = some v := by
  cases s <;> simp only [content, reduceCtorEq] at hc
  case sl c qs k =>
    split at hc <;> cases hc
    rename_i hlen
    simp only [VR] at hx
    obtain ⟨ad, cap, rfl, h2, h3, h4⟩ := hx
    rcases h4 with ⟨rfl, rfl⟩ | ⟨r, o, rfl, hcs⟩
    · exact ⟨ad, cap, [], rfl, h2, rfl, by simp, by simp, fun _ => ⟨rfl, rfl⟩, fun b _ j v hv => by simp at hv⟩
    · have : ∀ j, j < cs.length → ∃ y, w.cell? ⟨r, o + j, none⟩ = some y ∧ Sc y ∧ ∀ v, cs[j]? = some v → VR G w v y := by
        intro j hj
        obtain ⟨v, hv⟩ : ∃ v, cs[j]? = some v := ⟨_, List.getElem?_eq_getElem hj⟩
        obtain ⟨_, y, h1, h2, h3⟩ := hcs.here j v hv
        exact ⟨y, h1, h2, fun v' hv' => by rw [hv] at hv'; cases hv'; exact h3⟩
      refine ⟨_, cap, (List.range cs.length).map (fun j => (w.cell? ⟨r, o + j, none⟩).getD undef), rfl, h2, ?_, by simp [hlen], ?_, by simp, ?_⟩
      · refine VRs.of_get (by simp) fun i v y hv hy => ?_
        have hi : i < cs.length := by
          rcases Nat.lt_or_ge i cs.length with h' | h'
          · exact h'
          · rw [List.getElem?_eq_none h'] at hv; cases hv
        obtain ⟨y', h1, _, h3⟩ := this i hi
        simp [hi, h1] at hy; subst hy; exact h3 v hv
      · intro y hy
        obtain ⟨j, hj, rfl⟩ := List.mem_map.1 hy
        obtain ⟨y', h1, h2, _⟩ := this j (by simpa using hj)
        simpa [h1] using h2
      · intro b hb j v hv
        cases hb
        have hj : j < cs.length := by
          rcases Nat.lt_or_ge j cs.length with h' | h'
          · exact h'
          · rw [List.getElem?_eq_none (by simpa using h')] at hv; cases hv
        obtain ⟨y', h1, _, _⟩ := this j hj
        simp [hj, h1] at hv; subst hv; rw [add_at]; exact h1
  case rsl c b ver o k =>
    split at hc <;> try cases hc
    rename_i A hA _
    split at hc <;> cases hc
    rename_i hle
    obtain ⟨c1, c2, c3⟩ := hle
    simp only [VR] at hx
    obtain ⟨r, z, C, o', cap, hr, rfl, hn, ho, _⟩ := hx
    obtain ⟨r', C', h1, _, _, h4, _⟩ := h.arr b A hA
    rw [c1, hr] at h1; cases h1
    obtain ⟨arr, ty, g1, g2, g3, g4, g5, _⟩ := h4
    have hk := g4.sub o (n * sz)
    have he : ((arr.toList.take A.cs.length).drop o).take (n * sz) = (arr.toList.drop o).take (n * sz) := by
      rw [List.drop_take, List.take_take]; congr 1; omega
    rw [he] at hk
    refine ⟨_, cap, _, rfl, hn, hk, by simp; omega, fun y hy => g5 y (List.mem_of_mem_drop (List.mem_of_mem_take hy)), by simp, fun b hb j v hv => ?_⟩
    cases hb
    rcases ho with ho | ho
    · have : n = 0 := by omega
      subst this
      simp at hv
    · subst ho
      rw [add_at, cell_of_row w r _ arr ty _ g1]
      rw [List.getElem?_take] at hv
      split at hv
      · rw [List.getElem?_drop] at hv; simpa using hv
      · cases hv

theorem tslice_under {t e : Nat} (h : tslice P t = some e) : P.underlying t = some (.slice e) := tslice_spec h

/-- the array grows into a new block -/
theorem append_grow {w : World} {t ty e : Nat} {i : TypeInfo} {zv : Value} (hu : P.underlying t = some (.slice e)) (hi : P.info? e = some i) (hz : i.zero = some zv) {ad xd : Option Addr} {n cap k kc : Nat} {ys xs : List Value}
    (hy : ys.length = n * i.size) (hx : xs.length = k * i.size) (hyc : ∀ b, ad = some b → ∀ (j : Nat) v, ys[j]? = some v → w.cell? (b.add j) = some v) (hxc : ∀ b, xd = some b → ∀ (j : Nat) v, xs[j]? = some v → w.cell? (b.add j) = some v)
    (hyn : ad = none → n = 0 ∧ ys = [] ∧ cap = 0) (hxn : xd ≠ none) (hk : 0 < k) (hcap : cap < n + k) (hbig : (n + k) * i.bytes ≤ maxRoom) (hbig' : n + k ≤ maxRoom) :
    ∃ NC, n + k ≤ NC ∧ (Builtin.append_ #[t, t] ty #[.slice ad n cap, .slice xd k kc]).run P w = .ok (.slice (some ⟨w.heap.size, 0, none⟩) (n + k) NC) (w.drew.alloc (.cells (ys ++ xs ++ (Builtin.zeroCells zv.cells (NC - (n + k))).toList).toArray e)) := by
  unfold maxRoom at hbig hbig'
  obtain ⟨xb, rfl⟩ := Option.ne_none_iff_exists'.1 hxn
  cases ad with
  | none =>
    obtain ⟨rfl, rfl, rfl⟩ := hyn rfl
    have := run_append_nil (P := P) w t ty e i zv hu hi hz xb k kc xs hx (hxc xb rfl) hk (by omega) (by rw [Nat.zero_add] at hbig; omega)
    refine ⟨grownCap w k 0 e, by have := grownCap_ge w k 0 e; omega, ?_⟩
    rw [this, Nat.zero_add, List.nil_append]
    congr 3
    apply Array.ext'; simp
  | some b =>
    have := run_append_grow (P := P) w t ty e i zv hu hi hz b n cap ys hy (hyc b rfl) xb k kc xs hx (hxc xb rfl) hcap (by omega) (growslice_fits hcap hbig)
    refine ⟨grownCap w (n + k) cap e, grownCap_ge w (n + k) cap e, ?_⟩
    rw [this]
    congr 3
    apply Array.ext'; simp

/-- there is room -/
theorem append_room {w : World} {t ty e : Nat} {i : TypeInfo} (hu : P.underlying t = some (.slice e)) (hi : P.info? e = some i) {xd : Option Addr} {r o n cap k kc : Nat} {xs : List Value} {arr : Array Value} {te : Nat}
    (hx : xs.length = k * i.size) (hxc : ∀ b, xd = some b → ∀ (j : Nat) v, xs[j]? = some v → w.cell? (b.add j) = some v) (hxn : xd = none → k = 0)
    (hg : w.heap[r]? = some (.cells arr te (0, 0))) (hsc : ∀ y ∈ xs, Sc y) (hroom : n + k ≤ cap) (hfit : o + n * i.size + xs.length ≤ arr.size) :
    (Builtin.append_ #[t, t] ty #[.slice (some ⟨r, o, none⟩) n cap, .slice xd k kc]).run P w =
      .ok (.slice (some ⟨r, o, none⟩) (n + k) cap) (w.setRow r (arr.toList.take (o + n * i.size) ++ xs ++ arr.toList.drop (o + n * i.size + xs.length)).toArray) := by
  have hst := run_storeCells_at P r (o + n * i.size) te xs 0 arr w hg (by simpa using hfit) (fun v hv => sc_one (hsc v hv))
  simp only [Nat.add_zero] at hst
  have hf : (Builtin.firstCells i.size k (.slice xd k kc)).run P w = .ok xs.toArray w := by
    cases xd with
    | none =>
      have hk := hxn rfl
      subst hk
      have : xs = [] := List.eq_nil_of_length_eq_zero (by simpa using hx)
      subst this
      simpa using run_firstCells_none (P := P) w i.size 0 0 kc
    | some b => exact run_firstCells_some (P := P) w i.size k b k kc xs hx (hxc b rfl)
  simp [Builtin.append_, run_underlying hu, sizeOf, typeInfo, hi, Builtin.lenOf, hroom, hf, add_at, hst]
theorem append_none {w : World} {t ty e : Nat} {i : TypeInfo} (hu : P.underlying t = some (.slice e)) (hi : P.info? e = some i) {ad xd : Option Addr} {n cap kc : Nat} (hn : n ≤ cap) :
    (Builtin.append_ #[t, t] ty #[.slice ad n cap, .slice xd 0 kc]).run P w = .ok (.slice ad n cap) w := by
  have hf : (Builtin.firstCells i.size 0 (.slice xd 0 kc)).run P w = .ok #[] w := by
    cases xd with
    | none => simpa using run_firstCells_none (P := P) w i.size 0 0 kc
    | some b => exact run_firstCells_some (P := P) w i.size 0 b 0 kc [] (by simp) (by simp)
  cases ad <;> simp [Builtin.append_, run_underlying hu, sizeOf, typeInfo, hi, Builtin.lenOf, hn, hf, storeCells]
end Go.Ab
end

section
set_option linter.unusedVariables false
set_option linter.unusedSimpArgs false
set_option linter.unusedSimpArgs false
set_option linter.unusedVariables false
namespace Go.Ab
open Go.RowKit
variable {P : Program}

theorem size_zeroC (z : Value) (n : Nat) : (Builtin.zeroCells z.cells n).size = n * z.cells.size := Go.size_zeroCells _ _
theorem zeroC_ok {G : Gh} {w : World} (z : Value) (hs : ∀ y ∈ z.cells.toList, Sc y) (c : Nat) : VRs G w (List.replicate c (z.cells.toList.map scalar)).flatten (Builtin.zeroCells z.cells c).toList := by
  have key : ∀ i, i < c * z.cells.size → ∃ y, z.cells[i % z.cells.size]? = some y ∧ (Builtin.zeroCells z.cells c).toList[i]? = some y := by
    intro i hi
    have h0 : 0 < z.cells.size := by
      rcases Nat.eq_zero_or_pos z.cells.size with h | h
      · rw [h] at hi; omega
      · exact h
    have hlt := Nat.mod_lt i h0
    refine ⟨z.cells[i % z.cells.size], by simp [hlt], ?_⟩
    simp [Builtin.zeroCells, hi, hlt]
  refine VRs.of_get ?_ ?_
  · simp [size_zeroC, List.length_flatten]
  · intro i v x hv hx
    rw [flat_get] at hv
    split at hv
    · rename_i hi
      simp only [List.length_map, Array.length_toList] at hi hv
      obtain ⟨y, h1, h2⟩ := key i hi
      rw [h2] at hx; cases hx
      simp [h1] at hv; subst hv; exact VR.scalar G w _
    · cases hv
theorem zeroC_sc (z : Value) (h : ∀ y ∈ z.cells.toList, Sc y) (n : Nat) : ∀ y ∈ (Builtin.zeroCells z.cells n).toList, Sc y := by
  intro y hy
  simp only [Builtin.zeroCells, Array.toList_map, List.mem_map] at hy
  obtain ⟨i, hi, rfl⟩ := hy
  have hi' : i < n * z.cells.size := by simpa using hi
  have h0 : 0 < z.cells.size := by
    rcases Nat.eq_zero_or_pos z.cells.size with h' | h'
    · rw [h'] at hi'; omega
    · exact h'
  have hlt := Nat.mod_lt i h0
  rw [getElem!_pos z.cells (i % z.cells.size) hlt]
  exact h _ (by simp)

theorem appendV_ok {base : Nat} {ow : Nat → Option (Bool × Nat)} {G : Gh} {hp hp' : Hp} {w : World} (h : HSimO base ow G hp w) (hB : base ≤ w.heap.size) {t ty e ida : Nat} {s x v : V} {sv xv : Value} {z : List V} (hs : VR G w s sv) (hx : VR G w x xv)
    (hida : ∀ v, G.ra ida v = none) (ht : tslice P t = some e) (hz : tzero P e = some z) (hzs : z.length = tsize P e) (hz0 : tsize P e ≠ 0) (ha : appendV (tsize P e) (tbytes P e) hp ida s x = some (v, hp')) :
    ∃ y w' G', (Builtin.append_ #[t, t] ty #[sv, xv]).run P w = .ok y w' ∧ Below base w w' ∧ Grow G w G' w' ∧ HSim base G' hp' w' ∧ VR G' w' v y ∧ (∀ b, G'.rb b = G.rb b) ∧ (∀ i, i ≠ ida → hp.a i = none → ∀ v, G'.ra i v = G.ra i v) ∧ (∀ q o, G'.S q o → G.S q o) := by
  have hu := tslice_spec ht
  obtain ⟨i, zv, hi, hzv, hzz, hzc⟩ := tzero_spec hz
  have hsz := tsize_eq hi
  have hby := tbytes_eq hi
  have hzl : zv.cells.size = i.size := by rw [← hsz, ← hzs, hzz]; simp
  unfold appendV at ha
  split at ha <;> try cases ha
  rename_i cs n xs k hcs hxs
  obtain ⟨ad, cap, ys, rfl, h1, h2, h3, h4, h5, h6⟩ := content_ok h hs hcs
  obtain ⟨xd, kc, qs, rfl, g1, g2, g3, g4, g5, g6⟩ := content_ok h hx hxs
  rw [hsz] at h3 g3
  split at ha
  · rename_i hk; subst hk
    cases ha
    exact ⟨_, w, G, append_none hu hi h1, Below.refl _ _, Grow.refl _ _, ⟨ow, h⟩, hs, fun _ => rfl, fun _ _ _ _ => rfl, fun _ _ h => h⟩
  rename_i hk
  have hk' : 0 < k := by omega
  split at ha <;> try cases ha
  rename_i hbig
  obtain ⟨hbig, hbig'⟩ := hbig
  rw [hby] at hbig
  have hxn : xd ≠ none := fun hn => hk (g5 hn).1
  -- a new block
  have grow : ∀ (c0 : cap < n + k) (i' : Nat) (A : Arr) (hA0 : A.sz = tsize P e) (hAcs : A.cs = cs ++ xs) (hAcap : A.cap = none) (hAro : A.ro ≤ A.cs.length) (hfree : ∀ v, A.ver ≤ v → G.ra i' v = none) (had : ad = none → cap = 0),
      ∃ y w' G', (Builtin.append_ #[t, t] ty #[.slice ad n cap, .slice xd k kc]).run P w = .ok y w' ∧ Below base w w' ∧ Grow G w G' w' ∧ HSim base G' { hp with a := upd hp.a i' (some A) } w' ∧ VR G' w' (.rsl false i' A.ver 0 (n + k)) y ∧ (∀ b, G'.rb b = G.rb b) ∧ (∀ j v, (j ≠ i' ∨ v ≠ A.ver) → G'.ra j v = G.ra j v) ∧ (∀ q o, G'.S q o → G.S q o) := by
    intro c0 i' A hA0 hAcs hAcap hAro hfree had
    obtain ⟨NC, hNC, hrun⟩ := append_grow (P := P) (ty := ty) (ad := ad) (xd := xd) (n := n) (cap := cap) (k := k) (kc := kc) hu hi hzv h3 g3 h6 g6 (fun hn => ⟨(h5 hn).1, (h5 hn).2, had hn⟩) hxn hk' c0 hbig hbig'
    have hel : Elder w (w.drew.alloc (.cells (ys ++ qs ++ (Builtin.zeroCells zv.cells (NC - (n + k))).toList).toArray e)) := Elder.trans (Elder.drew w) (Elder.alloc w.drew _)
    have hblk : (w.drew.alloc (.cells (ys ++ qs ++ (Builtin.zeroCells zv.cells (NC - (n + k))).toList).toArray e)).heap[w.heap.size]? = some (.cells (ys ++ qs ++ (Builtin.zeroCells zv.cells (NC - (n + k))).toList).toArray e (0, 0)) := newBlk w.drew _
    have hlen : (ys ++ qs).length = (cs ++ xs).length := by have := h2.length; have := g2.length; simp; omega
    have hC : (ys ++ qs ++ (Builtin.zeroCells zv.cells (NC - (n + k))).toList).toArray.size = NC * tsize P e := by
      simp only [List.size_toArray, List.length_append, h3, g3, Array.length_toList, size_zeroC, hzl, hsz, ← Nat.add_mul]
      congr 1; omega
    obtain ⟨G', k1, k2, k3, k4, k5, k6⟩ := h.newArr hel i' A hfree w.heap.size (NC * tsize P e) (Nat.le_refl _) hB (fun G' hG hS => by
      refine ⟨_, e, hblk, hC, ?_, ?_, ?_, fun m hm => (by rw [hAcap] at hm; cases hm), fun q hq => ?_, hAro⟩
      · rw [hAcs, ← hlen, ← hC]; simp
      · rw [hAcs, ← hlen]
        simp only [List.take_left]
        exact VRs.mono hG _ _ (h2.append g2)
      · intro y hy
        simp only [List.mem_append] at hy
        rcases hy with (hy | hy) | hy
        · exact h4 y hy
        · exact g4 y hy
        · exact zeroC_sc zv hzc _ y hy
      · have := h.S _ _ (hS _ _ hq); omega)
    refine ⟨_, _, G', hrun, Below.mono hel hB, k1, k2, ?_, k4, k5, k6⟩
    exact ⟨_, _, _, 0, NC, k3, rfl, by omega, .inr rfl, by simp, fun _ => by simp [hA0]⟩
  have newA : ∀ (c0 : cap < n + k) (had : ad = none → cap = 0), ∃ y w' G', (Builtin.append_ #[t, t] ty #[.slice ad n cap, .slice xd k kc]).run P w = .ok y w' ∧ Below base w w' ∧ Grow G w G' w' ∧
      HSim base G' { hp with a := upd hp.a ida (some ⟨0, tsize P e, cs ++ xs, none, 0⟩) } w' ∧ VR G' w' (.rsl false ida 0 0 (n + k)) y ∧ (∀ b, G'.rb b = G.rb b) ∧ (∀ i, i ≠ ida → hp.a i = none → ∀ v, G'.ra i v = G.ra i v) ∧ (∀ q o, G'.S q o → G.S q o) := by
    intro c0 had
    obtain ⟨y, w', G', q1, q2, q3, q4, q5, q6, q7, q8⟩ := grow c0 ida ⟨0, tsize P e, cs ++ xs, none, 0⟩ rfl rfl rfl (Nat.zero_le _) (fun v _ => hida v) had
    exact ⟨y, w', G', q1, q2, q3, q4, q5, q6, fun j hj _ v => q7 j v (.inl hj), q8⟩
  split at ha
  · -- sl true
    cases ha
    have hs' := hs
    simp only [VR] at hs'
    obtain ⟨ad', cap', e1, _, e2, _⟩ := hs'
    cases e1
    have hcn := e2 trivial
    exact newA (by omega) (fun hn => by rw [hcn]; exact (h5 hn).1)
  · -- rsl true
    cases ha
    have hs' := hs
    simp only [VR] at hs'
    obtain ⟨r, zz, C, o', cap', _, e1, _, _, e2, _⟩ := hs'
    cases e1
    have hcn := (e2 trivial).1
    exact newA (by omega) (by simp)
  · -- rsl false
    rename_i b ver o n' 
    have hs' := hs
    simp only [VR] at hs'
    obtain ⟨r, zz, C, o', cap', hr, e1, _, ho, _, e2⟩ := hs'
    cases e1
    have hoc := e2 trivial
    simp only [content] at hcs
    split at hcs <;> try cases hcs
    rename_i A hA _
    split at hcs <;> try cases hcs
    rename_i hle
    obtain ⟨l1, l2, l3⟩ := hle
    simp only [hA] at ha
    obtain ⟨r', C', p1, p2, p3, p4, p5⟩ := h.arr b A hA
    have p1' := p1
    rw [l1, hr] at p1; cases p1
    obtain ⟨arr, tyA, a1, a2, a3, a4, a5, a6, a7, a8⟩ := p4
    cases hcap : A.cap with
    | some m =>
      rw [hcap] at ha
      simp only at ha
      obtain ⟨m1, m2⟩ := a6 m hcap
      have hoc' : o + cap * tsize P e = m * tsize P e := by rw [← l2]; omega
      split at ha
      · rename_i hroom
        split at ha <;> cases ha
        rename_i hro
        have hroom' : n + k ≤ cap := by
          have : (n + k) * tsize P e ≤ cap * tsize P e := by omega
          exact Nat.le_of_mul_le_mul_right this (Nat.pos_of_ne_zero hz0)
        have hoo : o' = o := by rcases ho with ho | ho <;> omega
        subst hoo
        have hnk := Nat.add_mul n k (tsize P e)
        have hCm : C = m * tsize P e := by rw [← l2]; exact m1
        have hfit : o' + n * i.size + qs.length ≤ arr.size := by rw [g3, ← hsz]; omega
        have hrun := append_room (P := P) (ty := ty) (cap := cap) (kc := kc) (n := n) hu hi g3 g6 (fun hn => absurd hn hxn) a1 g4 hroom' hfit
        rw [← hsz] at hrun
        have hqx := g2.length
        rw [g3, ← hsz] at hqx
        have hst : storeV hp (.aref b ver (o' + n * tsize P e)) xs = some { hp with a := upd hp.a b (some { A with cs := fillL A.cs (o' + n * tsize P e) xs }) } := by
          simp only [storeV, hA]
          rw [if_pos ⟨l1, hro, by omega⟩]
        obtain ⟨r2, o2, w', q1, q2, q3, q4, q5⟩ := store_ok (P := P) h (show VR G w (.aref b ver (o' + n * tsize P e)) (.pointer (some ⟨r, o' + n * tsize P e, none⟩)) from ⟨r, _, _, hr, rfl⟩) g2 g4 hst
        cases q1
        have hst2 := run_storeCells_at P r (o' + n * tsize P e) tyA qs 0 arr w a1 (by rw [g3, ← hsz]; omega) (fun v hv => sc_one (g4 v hv))
        simp only [Nat.add_zero] at hst2
        rw [hst2] at q2
        cases q2
        rw [hcap] at q5
        refine ⟨_, _, G, hrun, q3, q4, q5, ?_, fun _ => rfl, fun _ _ _ _ => rfl, fun _ _ h => h⟩
        exact ⟨r, _, C, o', cap, hr, rfl, hroom', .inr rfl, by simp, fun _ => hoc⟩
      · rename_i hroom
        cases ha
        exact newA (by
          rcases Nat.lt_or_ge cap (n + k) with h' | h'
          · exact h'
          · exfalso
            apply hroom
            have : (n + k) * tsize P e ≤ cap * tsize P e := Nat.mul_le_mul_right _ h'
            omega) (by simp)
    | none =>
      rw [hcap] at ha
      simp only at ha
      split at ha <;> cases ha
      rename_i hend
      obtain ⟨e0, hend⟩ := hend
      subst e0
      have hcsA : sub A.cs 0 (n * tsize P e) = A.cs := by
        simp only [sub, List.drop_zero]
        exact List.take_of_length_le (by omega)
      have hnk := Nat.add_mul n k (tsize P e)
      have hqx := g2.length
      rw [g3, ← hsz] at hqx
      rcases Nat.lt_or_ge cap (n + k) with hlt | hge
      · obtain ⟨y, w', G', q1, q2, q3, q4, q5, q6, q7, q8⟩ := grow hlt b ⟨ver + 1, tsize P e, A.cs ++ xs, none, A.ro⟩ rfl (by rw [hcsA]) rfl (by simp; omega) (fun v hv => p5 v (by simp at hv; omega)) (by simp)
        refine ⟨y, w', G', q1, q2, q3, q4, q5, q6, fun j hj hn v => q7 j v (.inl ?_), q8⟩
        rintro rfl
        rw [hA] at hn; cases hn
      · have hoo : o' = 0 := by rcases ho with ho | ho <;> omega
        subst hoo
        have hmul : (n + k) * tsize P e ≤ cap * tsize P e := Nat.mul_le_mul_right _ hge
        rw [l2] at hoc
        have hfit : 0 + n * i.size + qs.length ≤ arr.size := by rw [g3, ← hsz]; omega
        have hrun := append_room (P := P) (ty := ty) (cap := cap) (kc := kc) (n := n) hu hi g3 g6 (fun hn => absurd hn hxn) a1 g4 hge hfit
        rw [← hsz, Nat.zero_add] at hrun
        have hq2 : qs.length = k * tsize P e := by rw [g3, hsz]
        -- the array's new version at the same block
        have hg : Grow G w { G with ra := fun i' v => if i' = b ∧ v = ver + 1 then some (r, tsize P e, C) else G.ra i' v } (w.setRow r (arr.toList.take (n * tsize P e) ++ qs ++ arr.toList.drop (n * tsize P e + qs.length)).toArray) := by
          refine ⟨fun _ _ h => h, fun i' v x hx' => ?_, fun _ _ h => h, fun q oq hq => ?_⟩
          · show (if i' = b ∧ v = ver + 1 then some (r, tsize P e, C) else G.ra i' v) = some x
            split
            · rename_i hh; obtain ⟨rfl, rfl⟩ := hh; rw [p5 _ (by omega)] at hx'; cases hx'
            · exact hx'
          · by_cases hqr : q = r
            · subst hqr
              have hlt := a7 oq hq
              rw [cell_of_row _ q oq _ tyA _ (setRow_heap w q arr _ tyA _ a1), cell_of_row w q oq arr tyA _ a1]
              simp only [List.getElem?_toArray]
              rw [List.append_assoc, List.getElem?_append_left (by simp; omega), List.getElem?_take, if_pos (by omega)]
              simp
            · exact cell_of_heap (setRow_other w r q _ hqr)
        refine ⟨_, _, _, hrun, ⟨rfl, rfl, rfl, by simp, fun k hk => setRow_other w r k _ (by omega)⟩, hg, ⟨ow, ?_, ?_, ?_⟩, ?_, fun _ => rfl, fun j hj hn v => ?_, fun _ _ h => h⟩
        · intro q oq hq; rw [size_setRow]; exact h.S q oq hq
        · intro b' x' hb'
          obtain ⟨r', k1, k2, k3, k4⟩ := h.box b' x' hb'
          have hne : r' ≠ r := by rintro rfl; rw [p2] at k2; cases k2
          exact ⟨r', k1, k2, k3, k4.mono hg (setRow_other w r r' _ hne) fun _ h => h⟩
        · intro i' A' hA'
          simp only [upd] at hA'
          by_cases hbb : i' = b
          · rw [if_pos hbb] at hA'; cases hA'; subst hbb
            refine ⟨r, C, by simp, p2, p3, ⟨_, tyA, setRow_heap w r arr _ tyA _ a1, ?_, ?_, ?_, ?_, fun m hm => (by cases hm), a7, ?_⟩, fun v hv => ?_⟩
            · simp; omega
            · simp; omega
            · simp only
              have e1 : (arr.toList.take (n * tsize P e) ++ qs ++ arr.toList.drop (n * tsize P e + qs.length)).take (A.cs ++ xs).length = arr.toList.take A.cs.length ++ qs := by
                have e2 : (A.cs ++ xs).length = (arr.toList.take (n * tsize P e) ++ qs).length := by simp; omega
                rw [e2, List.take_left, hend]
              rw [e1]
              exact VRs.mono hg _ _ (a4.append g2)
            · intro y hy
              simp only [List.mem_append] at hy
              rcases hy with (hy | hy) | hy
              · exact a5 y (List.mem_of_mem_take hy)
              · exact g4 y hy
              · exact a5 y (List.mem_of_mem_drop hy)
            · simp; omega
            · show (if i' = i' ∧ v = ver + 1 then some (r, tsize P e, C) else G.ra i' v) = none
              simp only at hv
              rw [if_neg (by omega)]; exact p5 v (by omega)
          · rw [if_neg hbb] at hA'
            obtain ⟨r', C', k1, k2, k3, k4, k5⟩ := h.arr i' A' hA'
            have hne : r' ≠ r := by rintro rfl; rw [p2] at k2; cases k2; exact hbb rfl
            refine ⟨r', C', hg.ra _ _ _ k1, k2, k3, k4.mono hg (setRow_other w r r' _ hne) fun _ h => h, fun v hv => ?_⟩
            show (if i' = b ∧ v = ver + 1 then some (r, tsize P e, C) else G.ra i' v) = none
            rw [if_neg (by omega)]; exact k5 v hv
        · exact ⟨r, _, C, 0, cap, by simp, rfl, hge, .inr rfl, by simp, fun _ => hoc⟩
        · show (if j = b ∧ v = ver + 1 then some (r, tsize P e, C) else G.ra j v) = _
          rw [if_neg]
          rintro ⟨rfl, _⟩
          rw [hA] at hn; cases hn
  · cases ha
end Go.Ab
end

section
set_option linter.unusedVariables false
set_option linter.unusedSimpArgs false
set_option linter.unusedSimpArgs false
set_option linter.unusedVariables false
namespace Go.Ab
open Go.RowKit
variable {P : Program}

/-- 'G'' knows the same boxes and arrays as 'G', and more stable cells -/
structure Froze (base : Nat) (G : Gh) (w : World) (G' : Gh) (hp hp' : Hp) (ow : Nat → Option (Bool × Nat)) : Prop where
  rb : ∀ b, G'.rb b = G.rb b
  ra : ∀ i v, G'.ra i v = G.ra i v
  grow : Grow G w G' w
  sim : HSimO base ow G' hp' w
  n : hp'.n = hp.n
  m : hp'.m = hp.m
  s0 : ∀ q o, G'.S q o → q < base → G.S q o
theorem Froze.refl {base : Nat} {G : Gh} {w : World} {hp : Hp} {ow : Nat → Option (Bool × Nat)} (h : HSimO base ow G hp w) : Froze base G w G hp hp ow := ⟨fun _ => rfl, fun _ _ => rfl, Grow.refl _ _, h, rfl, rfl, fun _ _ h _ => h⟩
theorem Froze.trans {base : Nat} {G G1 G2 : Gh} {w : World} {hp hp1 hp2 : Hp} {ow : Nat → Option (Bool × Nat)} (h : Froze base G w G1 hp hp1 ow) (k : Froze base G1 w G2 hp1 hp2 ow) : Froze base G w G2 hp hp2 ow :=
  ⟨fun b => (k.rb b).trans (h.rb b), fun i v => (k.ra i v).trans (h.ra i v), h.grow.trans k.grow, k.sim, k.n.trans h.n, k.m.trans h.m, fun q o hq hb => h.s0 q o (k.s0 q o hq hb) hb⟩

theorem fzL_ok {base : Nat} {w : World} {ow : Nat → Option (Bool × Nat)} {g : Hp → V → Option (V × Hp)}
    (hg : ∀ (G : Gh) hp v v' hp' x, g hp v = some (v', hp') → HSimO base ow G hp w → VR G w v x → ∃ G', Froze base G w G' hp hp' ow ∧ VR G'.pu w v' x) :
    ∀ {vs us : List V} {l : List Value} {hp hp' : Hp} {G : Gh}, fzL g hp vs = some (us, hp') → HSimO base ow G hp w → VRs G w vs l → ∃ G', Froze base G w G' hp hp' ow ∧ VRs G'.pu w us l
  | [], us, l, hp, hp', G, h, hs, hl => by cases h; exact ⟨G, Froze.refl hs, hl⟩
  | v :: vs, us, l, hp, hp', G, h, hs, hl => by
    simp only [fzL] at h
    cases hv : g hp v with
    | none => simp [hv] at h
    | some p =>
    obtain ⟨v', hp1⟩ := p
    simp only [hv] at h
    cases hus : fzL g hp1 vs with
    | none => simp [hus] at h
    | some p2 =>
    obtain ⟨us', hp2⟩ := p2
    simp only [hus] at h
    cases h
    obtain ⟨x, xs, rfl, h1, h2⟩ := hl
    obtain ⟨G1, k1, k2⟩ := hg _ _ _ _ _ _ hv hs h1
    obtain ⟨G2, k3, k4⟩ := fzL_ok hg hus k1.sim (VRs.mono k1.grow _ _ h2)
    exact ⟨G2, k1.trans k3, ⟨x, xs, rfl, VR.mono k3.grow.pu _ _ k2, k4⟩⟩
theorem fzL_length {g : Hp → V → Option (V × Hp)} : ∀ {vs us : List V} {hp hp' : Hp}, fzL g hp vs = some (us, hp') → us.length = vs.length
  | [], us, hp, hp', h => by cases h; rfl
  | v :: vs, us, hp, hp', h => by
    simp only [fzL] at h
    split at h <;> try cases h
    split at h <;> cases h
    rename_i hus
    simp [fzL_length hus]

theorem fz_ok {base : Nat} {w : World} {ow : Nat → Option (Bool × Nat)} : ∀ (d : Nat) (G : Gh) (hp : Hp) (v v' : V) (hp' : Hp) (x : Value), fz d hp v = some (v', hp') → HSimO base ow G hp w → VR G w v x →
    ∃ G', Froze base G w G' hp hp' ow ∧ VR G'.pu w v' x
  | 0, G, hp, v, v', hp', x, h, _, _ => by cases h
  | d + 1, G, hp, v, v', hp', x, h, hs, hx => by
    cases v <;> simp only [fz, reduceCtorEq] at h
    case bool => cases h; exact ⟨G, Froze.refl hs, hx⟩
    case int => cases h; exact ⟨G, Froze.refl hs, hx⟩
    case str => cases h; exact ⟨G, Froze.refl hs, hx⟩
    case sl c cs n =>
      cases h
      simp only [VR] at hx
      obtain ⟨a, cap, h1, h2, _, h4⟩ := hx
      exact ⟨G, Froze.refl hs, a, cap, h1, h2, by simp, h4⟩
    case ptr => cases h; exact ⟨G, Froze.refl hs, hx⟩
    case nilp => cases h; exact ⟨G, Froze.refl hs, hx⟩
    case nilfn => cases h; exact ⟨G, Froze.refl hs, hx⟩
    case fn f cap =>
      split at h <;> cases h
      rename_i c hc
      obtain ⟨cc, h1, h2⟩ := hx
      obtain ⟨G', k1, k2⟩ := fzL_ok (fun G hp v v' hp' x => fz_ok d G hp v v' hp' x) hc hs h2
      exact ⟨G', k1, cc, h1, k2⟩
    case agg cs =>
      split at h <;> cases h
      rename_i c hc
      obtain ⟨arr, h1, h2, h3⟩ := hx
      obtain ⟨G', k1, k2⟩ := fzL_ok (fun G hp v v' hp' x => fz_ok d G hp v v' hp' x) hc hs h3
      exact ⟨G', k1, arr, h1, h2, k2⟩
    case tup cs =>
      split at h <;> cases h
      rename_i c hc
      obtain ⟨arr, h1, h2⟩ := hx
      obtain ⟨G', k1, k2⟩ := fzL_ok (fun G hp v v' hp' x => fz_ok d G hp v v' hp' x) hc hs h2
      exact ⟨G', k1, arr, h1, k2⟩
    case nilif => cases h; exact ⟨G, Froze.refl hs, hx⟩
    case ifc t cs =>
      split at h <;> cases h
      rename_i c hc
      obtain ⟨y, h1, h2⟩ := hx
      obtain ⟨G', k1, k2⟩ := fzL_ok (fun G hp v v' hp' x => fz_ok d G hp v v' hp' x) hc hs h2
      exact ⟨G', k1, y, h1, k2⟩
    case ref b o =>
      split at h <;> try cases h
      rename_i cs ro hb
      split at h <;> cases h
      rename_i c hc
      simp only [VR] at hx
      obtain ⟨r, hr, rfl⟩ := hx
      obtain ⟨r', h1, h2, h3, h4⟩ := hs.box b _ hb
      rw [hr] at h1; cases h1
      obtain ⟨arr, ty, g1, g2, g3, g4⟩ := h4
      have hlt := lt_of_heap g1
      -- the box's cells are stable from now on
      have hg : Grow G w { G with S := fun q oq => G.S q oq ∨ (q = r ∧ oq < arr.size) } w := ⟨fun _ _ h => h, fun _ _ _ h => h, fun _ _ h => .inl h, fun _ _ _ => rfl⟩
      have hne : ∀ q, ow q ≠ some (true, b) → ∀ oq, (G.S q oq ∨ (q = r ∧ oq < arr.size)) → G.S q oq := by
        rintro q hq oq (h | ⟨rfl, _⟩)
        · exact h
        · exact absurd h2 hq
      have hF : Froze base G w { G with S := fun q oq => G.S q oq ∨ (q = r ∧ oq < arr.size) } hp { hp with h := upd hp.h b (some (.cells cs true)) } ow := by
        refine ⟨fun _ => rfl, fun _ _ => rfl, hg, ⟨?_, ?_, ?_⟩, rfl, rfl, fun q oq hq hb => by rcases hq with h | ⟨rfl, _⟩; exact h; omega⟩
        · rintro q oq (h | ⟨rfl, _⟩)
          · exact hs.S q oq h
          · exact hlt
        · intro b' x' hb'
          simp only [upd] at hb'
          by_cases hbb : b' = b
          · rw [if_pos hbb] at hb'; cases hb'; subst hbb
            exact ⟨r, hr, h2, h3, arr, ty, g1, VRs.mono hg _ _ g2, g3, by simp⟩
          · rw [if_neg hbb] at hb'
            obtain ⟨q, k1, k2, k3, k4⟩ := hs.box b' x' hb'
            exact ⟨q, k1, k2, k3, k4.mono hg rfl (hne q (by rw [k2]; simp [hbb]))⟩
        · intro i A hA
          obtain ⟨q, C, k1, k2, k3, k4, k5⟩ := hs.arr i A hA
          exact ⟨q, C, k1, k2, k3, k4.mono hg rfl (hne q (by rw [k2]; simp)), k5⟩
      obtain ⟨G', k1, k2⟩ := fzL_ok (fun G hp v v' hp' x => fz_ok d G hp v v' hp' x) hc hF.sim (VRs.mono hg _ _ g2)
      refine ⟨G', hF.trans k1, r, 0, by simp, ?_⟩
      have hlen := fzL_length hc
      have hl2 := g2.length
      refine VRC.of_row (G := G') (o := 0) (n := arr.size) g1 (by rw [List.drop_zero, List.take_of_length_le (by simp)]; exact k2) g3 fun q _ hq => k1.grow.S r q (.inr ⟨rfl, ?_⟩)
      simp at hl2; omega
    case rsl c b ver o n =>
      split at h <;> try cases h
      rename_i A hA
      split at h <;> try cases h
      rename_i hle
      obtain ⟨c1, c2⟩ := hle
      split at h <;> cases h
      rename_i cs' hc
      simp only [VR] at hx
      obtain ⟨r, z, C, o', cap, hr, rfl, hn, ho, _⟩ := hx
      obtain ⟨r', C', h1, h2, h3, h4, h5⟩ := hs.arr b A hA
      have h1' := h1
      rw [c1, hr] at h1; cases h1
      obtain ⟨arr, ty, g1, g2, g3, g4, g5, g6, g7, g8⟩ := h4
      have hlt := lt_of_heap g1
      have hg : Grow G w { G with S := fun q oq => G.S q oq ∨ (q = r ∧ o ≤ oq ∧ oq < o + n * A.sz) } w := ⟨fun _ _ h => h, fun _ _ _ h => h, fun _ _ h => .inl h, fun _ _ _ => rfl⟩
      have hne : ∀ q, ow q ≠ some (false, b) → ∀ oq, (G.S q oq ∨ (q = r ∧ o ≤ oq ∧ oq < o + n * A.sz)) → G.S q oq := by
        rintro q hq oq (h | ⟨rfl, _⟩)
        · exact h
        · exact absurd h2 hq
      have hF : Froze base G w { G with S := fun q oq => G.S q oq ∨ (q = r ∧ o ≤ oq ∧ oq < o + n * A.sz) } hp { hp with a := upd hp.a b (some { A with ro := max A.ro (o + n * A.sz) }) } ow := by
        refine ⟨fun _ => rfl, fun _ _ => rfl, hg, ⟨?_, ?_, ?_⟩, rfl, rfl, fun q oq hq hb => by rcases hq with h | ⟨rfl, _⟩; exact h; omega⟩
        · rintro q oq (h | ⟨rfl, _⟩)
          · exact hs.S q oq h
          · exact hlt
        · intro b' x' hb'
          obtain ⟨q, k1, k2, k3, k4⟩ := hs.box b' x' hb'
          exact ⟨q, k1, k2, k3, k4.mono hg rfl (hne q (by rw [k2]; simp))⟩
        · intro i A' hA'
          simp only [upd] at hA'
          by_cases hbb : i = b
          · rw [if_pos hbb] at hA'; cases hA'; subst hbb
            refine ⟨r, C, h1', h2, h3, ⟨arr, ty, g1, g2, g3, VRs.mono hg _ _ g4, g5, g6, ?_, ?_⟩, h5⟩
            · rintro oq (h | ⟨_, _, h⟩)
              · have := g7 oq h; simp only; omega
              · simp only; omega
            · simp only; omega
          · rw [if_neg hbb] at hA'
            obtain ⟨q, C', k1, k2, k3, k4, k5⟩ := hs.arr i A' hA'
            exact ⟨q, C', k1, k2, k3, k4.mono hg rfl (hne q (by rw [k2]; simp [hbb])), k5⟩
      have he : ((arr.toList.take A.cs.length).drop o).take (n * A.sz) = (arr.toList.drop o).take (n * A.sz) := by
        rw [List.drop_take, List.take_take]; congr 1; omega
      have hsub := (VRs.mono hg _ _ g4).sub o (n * A.sz)
      rw [he] at hsub
      obtain ⟨G', k1, k2⟩ := fzL_ok (fun G hp v v' hp' x => fz_ok d G hp v v' hp' x) hc hF.sim hsub
      have hlen := fzL_length hc
      have hsl : (sub A.cs o (n * A.sz)).length = n * A.sz := by simp [sub]; omega
      refine ⟨G', hF.trans k1, _, cap, rfl, hn, by simp, ?_⟩
      rcases ho with ho | ho
      · left
        have : n = 0 := by omega
        subst this
        exact ⟨rfl, List.eq_nil_of_length_eq_zero (by rw [hlen, hsl]; simp)⟩
      · right
        subst ho
        refine ⟨r, o', rfl, VRC.of_row (G := G') g1 k2 g5 fun q hq1 hq2 => k1.grow.S r q (.inr ⟨rfl, hq1, ?_⟩)⟩
        rw [hlen, hsl] at hq2; exact hq2
end Go.Ab
end

section
set_option linter.unusedVariables false
set_option linter.unusedSimpArgs false
set_option linter.unusedSimpArgs false
set_option linter.unusedVariables false
namespace Go.Ab
open Go.RowKit
variable {P : Program}

/-- what holds all along a call: G0, w0, hp0 as it began -/
structure FInv (base : Nat) (G0 : Gh) (w0 : World) (hp0 : Hp) (G : Gh) (hp : Hp) (w : World) : Prop where
  sim : HSim base G hp w
  grow : Grow G0 w0 G w
  below : Below base w0 w
  lb : base ≤ w.heap.size
  fb : ∀ b, hp.n ≤ b → G.rb b = none
  fa : ∀ i, hp.m ≤ i → ∀ v, G.ra i v = none
  n : hp0.n ≤ hp.n
  m : hp0.m ≤ hp.m
  eb : ∀ b, b < hp0.n → G.rb b = G0.rb b
  ea : ∀ i, i < hp0.m → (∀ v, G0.ra i v = none) → ∀ v, G.ra i v = none
  f0 : ∀ b, hp0.n ≤ b → G0.rb b = none
  s0 : ∀ q o, G.S q o → q < base → G0.S q o

def TOK (G : Gh) (w : World) (t : Nat → V) (tmps : Array Value) : Prop := ∀ i, VR G w (t i) (tmps.getD i undef)
theorem TOK.mono {G G' : Gh} {w w' : World} {t : Nat → V} {tmps : Array Value} (h : TOK G w t tmps) (e : Grow G w G' w') : TOK G' w' t tmps := fun i => VR.mono e _ _ (h i)
theorem undef_ok (G : Gh) (w : World) : VR G w (.tup []) undef := ⟨#[], rfl, rfl⟩
theorem TOK.put {G : Gh} {w : World} {s : St} {a : Act} {v : V} {x : Value} {dst : Option Nat} (h : TOK G w s.t a.tmps) (hv : VR G w v x) (hd : ∀ d, dst = some d → d < a.tmps.size) : TOK G w (s.put dst v).t (a.put dst x).tmps := by
  cases dst with
  | none => exact h
  | some d =>
    intro i
    simp only [St.put, Act.put, upd]
    have hd := hd d rfl
    by_cases hi : i = d
    · subst hi
      rw [if_pos rfl]
      simpa [hd] using hv
    · rw [if_neg hi]
      have : (a.tmps.setIfInBounds d x).getD i undef = a.tmps.getD i undef := by
        simp only [Array.getD_eq_getD_getElem?]
        rw [Array.getElem?_setIfInBounds_ne (by omega)]
      rw [this]; exact h i
theorem put_hp (s : St) (dst : Option Nat) (v : V) : (s.put dst v).hp = s.hp := by cases dst <;> rfl
theorem put_size (a : Act) (dst : Option Tmp) (x : Value) : (a.put dst x).tmps.size = a.tmps.size := by cases dst <;> simp [Act.put]
theorem put_defers (a : Act) (dst : Option Tmp) (x : Value) : (a.put dst x).defers = a.defers := by cases dst <;> rfl

def Goes (P : Program) (f : Nat) : Prop := ∃ fn, P.funcs[f]? = some fn ∧ fn.body.isSome = true ∧ fn.name ≠ "runtime.NumGoroutine"
def stab (S : Nat → Nat → Prop) : Gh := ⟨fun _ => none, fun _ _ => none, S⟩
/-- a call from data to data -/
def PureC (P : Program) (L : World → Prop) (f : Nat) (as : List V) (r : V) : Prop :=
  ∀ (S : Nat → Nat → Prop) (w : World) (xs : Array Value), L w → (∀ r o, S r o → r < w.heap.size) → VRs (stab S) w as xs.toList →
    Calls P f xs w fun e w' => ∃ x S', e = .returned x ∧ Below w.heap.size w w' ∧ (∀ r o, S r o → S' r o) ∧ (∀ r o, S' r o → r < w'.heap.size ∧ (r < w.heap.size → S r o)) ∧ VR (stab S') w' r x
/-- a call that is handed boxes and arrays -/
def RefC (P : Program) (L : World → Prop) (f : Nat) (as : List V) (hp : Hp) (r : V) (hp' : Hp) : Prop :=
  ∀ (base : Nat) (G : Gh) (w : World) (xs : Array Value), (∀ w', Below base w w' → L w') → HSim base G hp w → base ≤ w.heap.size → (∀ b, hp.n ≤ b → G.rb b = none) → (∀ i, hp.m ≤ i → ∀ v, G.ra i v = none) → VRs G w as xs.toList →
    Calls P f xs w fun e w' => ∃ x G', e = .returned x ∧ FInv base G w hp G' hp' w' ∧ VR G' w' r x
structure EnvOK (P : Program) (L : World → Prop) (E : Env) : Prop where
  call : ∀ f as r, E.call f as = some r → Goes P f ∧ PureC P L f as r
  callR : ∀ f as hp r hp', E.callR f as hp = some (r, hp') → Goes P f ∧ RefC P L f as hp r hp'

theorem run_call {a : Act} {o : Oper} {f : Operand} {args : Array Operand} {at_ : Array TypeId} {k : Nat} {caps : Array Value} (ho : o.op = .call ⟨.value f, args, at_⟩) (hf : a.eval f = .func (.func k) #[] caps) (hg : Goes P k) (w : World) :
    (execOp a.eval o).run P w = .ok (.enter k (args.map a.eval ++ caps)) w := by
  obtain ⟨fn, h1, h2, h3⟩ := hg
  obtain ⟨dst, op, ty, pos, after, guard⟩ := o
  simp only at ho
  subst ho
  have h2' : fn.body ≠ none := by rintro hb; simp [hb] at h2
  simp [execOp, resolve, Deferred.ofValue, hf, invoke, callFunc, h1, h2', h3]

theorem grow_pure {base : Nat} {G0 : Gh} {w0 : World} {hp0 : Hp} {G : Gh} {hp : Hp} {w w' : World} (inv : FInv base G0 w0 hp0 G hp w) {S' : Nat → Nat → Prop} (hb : Below w.heap.size w w') (h1 : ∀ r o, G.S r o → S' r o) (h2 : ∀ r o, S' r o → r < w'.heap.size ∧ (r < w.heap.size → G.S r o)) :
    Grow G w { G with S := S' } w' ∧ FInv base G0 w0 hp0 { G with S := S' } hp w' := by
  obtain ⟨ow, hs⟩ := inv.sim
  have hg : Grow G w { G with S := S' } w' := ⟨fun _ _ h => h, fun _ _ _ h => h, h1, fun r o hr => cell_of_heap (hb.block r (hs.S r o hr))⟩
  refine ⟨hg, ⟨ow, hs.keep hg (fun r o hr => (h2 r o hr).1) (fun _ _ => rfl) fun r _ hr => ⟨hb.block r hr, fun o ho => (h2 r o ho).2 hr⟩⟩, inv.grow.trans hg, inv.below.trans (hb.mono inv.lb), Nat.le_trans inv.lb hb.size, inv.fb, inv.fa, inv.n, inv.m, inv.eb, inv.ea, inv.f0, fun q o hq hb' => inv.s0 q o ((h2 q o hq).2 (Nat.lt_of_lt_of_le hb' inv.lb)) hb'⟩

/-- a step from 'G, hp, w' to 'G', hp', w'' that leaves what the call's beginning knew -/
theorem FInv.step {base : Nat} {G0 : Gh} {w0 : World} {hp0 : Hp} {G G' : Gh} {hp hp' : Hp} {w w' : World} (inv : FInv base G0 w0 hp0 G hp w) (hs : HSim base G' hp' w') (hg : Grow G w G' w') (hb : Below base w w') {idb ida : Nat} (hn : hp'.n = hp.n) (hm : hp'.m = hp.m)
    (hidb : hp0.n ≤ idb) (hidb' : idb < hp.n) (hida : hp0.m ≤ ida) (hida' : ida < hp.m) (h1 : ∀ b, b ≠ idb → G'.rb b = G.rb b) (h2 : ∀ i, i ≠ ida → (∀ v, G.ra i v = none) → ∀ v, G'.ra i v = none) (h3 : ∀ q o, G'.S q o → q < base → G.S q o) : FInv base G0 w0 hp0 G' hp' w' :=
  ⟨hs, inv.grow.trans hg, inv.below.trans hb, Nat.le_trans inv.lb hb.size, fun b hb' => by rw [h1 b (by omega)]; exact inv.fb b (by omega), fun i hi => h2 i (by omega) (inv.fa i (by omega)), by rw [hn]; exact inv.n, by rw [hm]; exact inv.m,
    fun b hb' => by rw [h1 b (by omega)]; exact inv.eb b hb', fun i hi hf => h2 i (by omega) (inv.ea i hi hf), inv.f0, fun q o hq hb' => inv.s0 q o (h3 q o hq hb') hb'⟩
theorem arr_none {base : Nat} {G : Gh} {hp : Hp} {w : World} (hs : HSim base G hp w) {i : Nat} (h : ∀ v, G.ra i v = none) : hp.a i = none := by
  obtain ⟨ow, hs⟩ := hs
  cases hA : hp.a i with
  | none => rfl
  | some A =>
    obtain ⟨r, C, h1, _⟩ := hs.arr i A hA
    rw [h] at h1; cases h1

/-- what holds in a region of which the operations of U are still to come -/
structure RInv (D : List Deferred) (U : Nat → Prop) (n0 m0 : Nat) (base : Nat) (G0 : Gh) (w0 : World) (hp0 : Hp) (N : Nat) (s : St) (a : Act) (w : World) (G : Gh) : Prop where
  inv : FInv base G0 w0 hp0 G s.hp w
  t : TOK G w s.t a.tmps
  d : a.defers = D
  N : a.tmps.size = N
  ln : hp0.n ≤ n0
  lm : hp0.m ≤ m0
  ub : ∀ j, U j → n0 + j < s.hp.n ∧ G.rb (n0 + j) = none
  ua : ∀ j, U j → m0 + j < s.hp.m ∧ ∀ v, G.ra (m0 + j) v = none

theorem RInv.step {D : List Deferred} {U : Nat → Prop} {n0 m0 : Nat} {base : Nat} {G0 : Gh} {w0 : World} {hp0 : Hp} {N : Nat} {s : St} {a : Act} {w : World} {G : Gh} (h : RInv D U n0 m0 base G0 w0 hp0 N s a w G) {i : Nat} (hU : U i) {dst : Option Nat} (hd : ∀ d, dst = some d → d < N)
    {G' : Gh} {hp' : Hp} {w' : World} {v : V} {x : Value} (hs : HSim base G' hp' w') (hg : Grow G w G' w') (hb : Below base w w') (hn : hp'.n = s.hp.n) (hm : hp'.m = s.hp.m) (h1 : ∀ b, b ≠ n0 + i → G'.rb b = G.rb b)
    (h2 : ∀ j, j ≠ m0 + i → (∀ v, G.ra j v = none) → ∀ v, G'.ra j v = none) (h3 : ∀ q o, G'.S q o → q < base → G.S q o) (hv : VR G' w' v x) :
    RInv D (fun j => U j ∧ j ≠ i) n0 m0 base G0 w0 hp0 N (({ s with hp := hp' } : St).put dst v) (a.put dst x) w' G' := by
  refine ⟨?_, ?_, by rw [put_defers]; exact h.d, by rw [put_size]; exact h.N, h.ln, h.lm, ?_, ?_⟩
  · rw [put_hp]
    exact h.inv.step hs hg hb (idb := n0 + i) (ida := m0 + i) hn hm (by have := h.ln; omega) (h.ub i hU).1 (by have := h.lm; omega) (h.ua i hU).1 h1 h2 h3
  · exact TOK.put (s := { s with hp := hp' }) (h.t.mono hg) hv (by rw [h.N]; exact hd)
  · rintro j ⟨hj, hne⟩
    rw [put_hp]
    exact ⟨by simp only [hn]; exact (h.ub j hj).1, by rw [h1 _ (by omega)]; exact (h.ub j hj).2⟩
  · rintro j ⟨hj, hne⟩
    rw [put_hp]
    exact ⟨by simp only [hm]; exact (h.ua j hj).1, h2 _ (by omega) (h.ua j hj).2⟩
end Go.Ab
end

section
set_option linter.unusedVariables false
set_option linter.unusedSimpArgs false
set_option linter.unusedSimpArgs false
set_option linter.unusedVariables false
namespace Go.Ab
open Go.RowKit
variable {P : Program}

theorem FInv.trans {base : Nat} {G0 G1 G2 : Gh} {w0 w1 w2 : World} {hp0 hp1 hp2 : Hp} (h : FInv base G0 w0 hp0 G1 hp1 w1) (k : FInv base G1 w1 hp1 G2 hp2 w2) : FInv base G0 w0 hp0 G2 hp2 w2 :=
  ⟨k.sim, h.grow.trans k.grow, h.below.trans k.below, k.lb, k.fb, k.fa, Nat.le_trans h.n k.n, Nat.le_trans h.m k.m,
    fun b hb => (k.eb b (Nat.lt_of_lt_of_le hb h.n)).trans (h.eb b hb), fun i hi hf => k.ea i (Nat.lt_of_lt_of_le hi h.m) (h.ea i hi hf), h.f0, fun q o hq hb => h.s0 q o (k.s0 q o hq hb) hb⟩

theorem wanted_ok {ops : Array Oper} {t : Nat → V} {tmps : Array Value} {G : Gh} {w : World} (h : TOK G w t tmps) {o : Oper} {b : Bool} (hw : wantedV ops.toList t o = some b) : Region.wanted o (yielded ops tmps) = b := by
  unfold wantedV at hw
  unfold Region.wanted
  cases hg : o.guard with
  | none => rw [hg] at hw; cases hw; rfl
  | some p =>
    obtain ⟨j, want⟩ := p
    rw [hg] at hw
    simp only at hw ⊢
    have hj : ops.toList[j]? = ops[j]? := by simp
    rw [hj] at hw
    unfold yielded
    cases ho : ops[j]? with
    | none => rw [ho] at hw; cases hw
    | some g =>
      rw [ho] at hw
      simp only at hw
      cases hd : g.dst with
      | none => rw [hd] at hw; cases hw
      | some d =>
        rw [hd] at hw
        simp only at hw
        have hx := h d
        simp only [Option.bind_some, hd]
        have hcase : tmps[d]? = some (tmps.getD d undef) ∨ (tmps[d]? = none ∧ tmps.getD d undef = undef) := by
          cases hq : tmps[d]? with
          | none => right; exact ⟨rfl, by simp [hq]⟩
          | some x => left; simp [hq]
        split at hw <;> cases hw
        · rename_i b' hb
          rw [hb] at hx
          simp only [VR] at hx
          rcases hcase with h1 | ⟨_, h2⟩
          · rw [h1, hx]
            cases b' <;> cases want <;> rfl
          · rw [hx] at h2; cases h2
        · rename_i hb
          rw [hb] at hx
          obtain ⟨arr, hx, hr⟩ := hx
          rcases hcase with h1 | ⟨h1, _⟩
          · rw [h1, hx]; simp
          · rw [h1]; simp

theorem wpOp_at {ops : Array Oper} {Q : Exit → Act → World → Prop} {i : Nat} {o : Oper} {K : Act → World → Prop} {a : Act} {w : World} (ho : ops[i]? = some o) (hw : Region.wanted o (yielded ops a.tmps) = true) (h : o.wp P a w K Q) : wpOp P ops Q i K a w := by
  simp only [wpOp, ho, hw, if_true]; exact .inl h

theorem flat1_ok {G G' : Gh} {w w' : World} {v : V} {x : Value} (h : flat1 v = true) (hv : VR G w v x) : VR G' w' v x := by
  cases v <;> simp only [flat1, Bool.false_eq_true] at h <;> exact hv
theorem flat1s_ok {G G' : Gh} {w w' : World} : ∀ (vs : List V) (l : List Value), vs.all flat1 = true → VRs G w vs l → VRs G' w' vs l
  | [], l, _, h => h
  | v :: vs, l, ha, h => by
    simp only [List.all_cons, Bool.and_eq_true] at ha
    obtain ⟨x, xs, rfl, h1, h2⟩ := h
    exact ⟨x, xs, rfl, flat1_ok ha.1 h1, flat1s_ok vs xs ha.2 h2⟩
theorem flatR_ok {G G' : Gh} {w w' : World} {v : V} {x : Value} (h : flatR v = true) (hv : VR G w v x) : VR G' w' v x := by
  cases v <;> simp only [flatR, Bool.false_eq_true] at h <;> first | exact hv | skip
  case tup vs =>
    obtain ⟨arr, h1, h2⟩ := hv
    exact ⟨arr, h1, flat1s_ok vs _ h h2⟩
theorem fzPL_length {g : V → Option V} : ∀ {vs us : List V}, fzPL g vs = some us → us.length = vs.length
  | [], us, h => by cases h; rfl
  | v :: vs, us, h => by
    simp only [fzPL] at h
    split at h <;> try cases h
    split at h <;> cases h
    rename_i us' hus
    simp [fzPL_length hus]
theorem coreF_cases {E : Env} {fr : Bool} {lim : Option (Nat × Nat)} {ρ : Operand → V} {hp : Hp} {idb ida : Nat} {o : Oper} {p : V × New} (h : coreF P E fr lim ρ hp idb ida o = some p) : (∃ k as r, freshK E ρ o = some (k, as) ∧ E.callR k as Hp.empty = some r ∧ freshOf ida r = some p) ∨ core P E.call lim ρ hp idb ida o = some p := by
  unfold coreF at h
  split at h
  · split at h
    · rename_i k as hq
      split at h <;> try cases h
      rename_i r hr
      split at h
      · rename_i q hf; cases h; exact .inl ⟨k, as, r, hq, hr, hf⟩
      · exact .inr h
    · exact .inr h
  · exact .inr h
theorem freshK_spec {E : Env} {ρ : Operand → V} {o : Oper} {k : Nat} {as : List V} (h : freshK E ρ o = some (k, as)) : ∃ f args at_ cap, o.op = .call ⟨.value f, args, at_⟩ ∧ ρ f = .fn k cap ∧ fzPL (fzP 6) (args.toList.map ρ ++ cap) = some as := by
  unfold freshK at h
  split at h <;> try cases h
  rename_i f args at_ hop
  split at h <;> try cases h
  rename_i k' cap hf
  split at h <;> try cases h
  split at h <;> try cases h
  rename_i h1
  exact ⟨f, args, at_, cap, hop, hf, h1⟩
theorem freshOf_spec {ida : Nat} {r : V} {hp1 : Hp} {p : V × New} (h : freshOf ida (r, hp1) = some p) : ∃ b n sz cs cs', r = .rsl false b 0 0 n ∧ hp1.a b = some ⟨0, sz, cs, none, 0⟩ ∧ fzPL (fzP 5) cs = some cs' ∧ p = (.rsl false ida 0 0 n, .arr ⟨0, sz, cs', none, 0⟩) := by
  unfold freshOf at h
  split at h <;> try cases h
  rename_i b n hr
  split at h <;> try cases h
  rename_i sz cs ha
  obtain ⟨cs', h3, h⟩ := Option.bind_eq_some_iff.1 h
  cases h
  exact ⟨b, n, sz, cs, cs', hr, ha, h3, rfl⟩
/-- one operation, the calls' laws given -/
theorem stepOp_ok {D : List Deferred} {L : World → Prop} {E : Env} (hE : EnvOK P L E) {ops : Array Oper} {Q : Exit → Act → World → Prop} {draw : Bool} {U : Nat → Prop} {n0 m0 : Nat} {base : Nat} {G0 : Gh} {w0 : World} {hp0 : Hp} {N : Nat} {s s' : St} {a : Act} {w : World} {G : Gh}
    (hL : ∀ w', Below base w0 w' → L w') (R : RInv D U n0 m0 base G0 w0 hp0 N s a w G) {i : Nat} (hU : U i) {o : Oper} (hi : ops[i]? = some o) (hd : ∀ d, o.dst = some d → d < N) (hs : stepOp P E ops.toList draw n0 m0 i o s = some s')
    {K : Act → World → Prop} (hK : ∀ a' w' G', RInv D (fun j => U j ∧ j ≠ i) n0 m0 base G0 w0 hp0 N s' a' w' G' → K a' w') : wpOp P ops Q i K a w := by
  obtain ⟨ow, hsim⟩ := R.inv.sim
  have hidb := (R.ub i hU).2
  have hida := (R.ua i hU).2
  have hev : ∀ x, VR G w (val s.t x) (a.eval x) := eval_ok R.t
  unfold stepOp at hs
  cases hwv : wantedV ops.toList s.t o with
  | none => rw [hwv] at hs; cases hs
  | some b =>
  rw [hwv] at hs
  cases b with
  | false =>
    cases hs
    have hw := wanted_ok R.t hwv
    simp only [wpOp, hi, hw, Bool.false_eq_true, if_false]
    exact hK _ _ _ (R.step hU hd (hp' := s.hp) R.inv.sim (Grow.refl _ _) (Below.refl _ _) rfl rfl (fun _ _ => rfl) (fun _ _ h => h) (fun _ _ h _ => h) (undef_ok G w))
  | true =>
  have hw := wanted_ok R.t hwv
  refine wpOp_at hi hw ?_
  simp only at hs
  split at hs
  · -- loud
    rename_i hl
    cases hlo : loud P E.call E.callR E.byref (val s.t) s.hp (m0 + i) o with
    | none => rw [hlo] at hs; cases hs
    | some p =>
    obtain ⟨v, hp'⟩ := p
    rw [hlo] at hs
    cases hs
    obtain ⟨dst, op, ty, pos, after, guard⟩ := o
    cases op <;> simp only [loud, reduceCtorEq] at hlo
    case store t' ad x =>
      cases hcs : (val s.t x).cells with
      | none => rw [hcs] at hlo; cases hlo
      | some vs =>
      rw [hcs] at hlo
      simp only at hlo
      split at hlo <;> try cases hlo
      rename_i hle
      obtain ⟨hp1, h1, hlo⟩ := Option.bind_eq_some_iff.1 hlo
      cases hlo
      obtain ⟨k1, k2⟩ := (hev x).cells hcs
      obtain ⟨r, o', w', g1, g2, g3, g4, g5⟩ := store_ok (P := P) hsim (hev ad) k1 k2 h1
      obtain ⟨ti, hti⟩ := info_of_size hle.2
      have hsz : (a.eval x).cells.size = tsize P t' := by have := k1.length; simp at this; omega
      have hrun : (execOp a.eval { dst := dst, op := .store t' ad x, type := ty, pos := pos, after := after, guard := guard }).run P w = .ok .skip w' := by
        simp [execOp, Instr.storeAt, g1, Instr.sureAddr, storeVar, run_sizeOf' hti, hsz, g2]
      unfold Oper.wp
      rw [hrun, Oper.upon_skip]
      refine hK _ _ _ (R.step hU hd g5 g4 g3 ?_ ?_ (fun _ _ => rfl) (fun _ _ h => h) (fun _ _ h _ => h) (undef_ok G w'))
      · unfold storeV at h1
        split at h1 <;> try cases h1
        all_goals (split at h1 <;> try cases h1)
        all_goals (split at h1 <;> cases h1; rfl)
      · unfold storeV at h1
        split at h1 <;> try cases h1
        all_goals (split at h1 <;> try cases h1)
        all_goals (split at h1 <;> cases h1; rfl)
    case next it isS =>
      cases isS <;> simp only [reduceCtorEq] at hlo
      have hx := hev it
      split at hlo <;> try cases hlo
      rename_i b' hb'
      rw [hb'] at hx
      obtain ⟨r, hr, hx⟩ := hx
      split at hlo <;> try cases hlo
      rename_i st pos' hbx
      obtain ⟨r', h1, h2, h3, h4⟩ := hsim.box b' _ hbx
      rw [hr] at h1; cases h1
      obtain ⟨g1, g2⟩ := h4
      split at hlo <;> cases hlo
      · rename_i hlt
        have hw1 : (World.mk (w.heap.setIfInBounds r (.stringIter st (pos' + (Utf8.decode st pos').2))) w.tape w.drawn w.os w.output).heap.size = w.heap.size := by simp
        have hoth : ∀ q, q ≠ r → (World.mk (w.heap.setIfInBounds r (.stringIter st (pos' + (Utf8.decode st pos').2))) w.tape w.drawn w.os w.output).heap[q]? = w.heap[q]? := fun q hq => by
          show (w.heap.setIfInBounds r _)[q]? = _
          rw [Array.getElem?_setIfInBounds_ne (by omega)]
        have hrun : (execOp a.eval { dst := dst, op := .next it true, type := ty, pos := pos, after := after, guard := guard }).run P w =
            .ok (.value (.tuple #[.bool true, goInt pos', .int .i32 (Utf8.decode st pos').1])) (World.mk (w.heap.setIfInBounds r (.stringIter st (pos' + (Utf8.decode st pos').2))) w.tape w.drawn w.os w.output) := by
          simp [execOp, Instr.next, hx, getObj, setObj, Sem.run, g1, hlt]
        unfold Oper.wp
        rw [hrun, Oper.upon_value]
        have hg : Grow G w G (World.mk (w.heap.setIfInBounds r (.stringIter st (pos' + (Utf8.decode st pos').2))) w.tape w.drawn w.os w.output) := hsim.turn r hw1 hoth fun q hq => absurd hq (g2 q)
        have hsim' := hsim.setBox b' (.iter st (pos' + (Utf8.decode st pos').2)) r hr h2 h3 hw1 hoth hg ⟨by show (w.heap.setIfInBounds r _)[r]? = _; simp [lt_of_heap g1], g2⟩
        exact hK _ _ _ (R.step hU hd ⟨ow, hsim'⟩ hg ⟨rfl, rfl, rfl, by rw [hw1]; exact Nat.le_refl _, fun k hk => hoth k (by omega)⟩ rfl rfl (fun _ _ => rfl) (fun _ _ h => h) (fun _ _ h _ => h) ⟨_, rfl, _, _, rfl, rfl, _, _, rfl, rfl, _, _, rfl, rfl, rfl⟩)
      · rename_i hlt
        have hrun : (execOp a.eval { dst := dst, op := .next it true, type := ty, pos := pos, after := after, guard := guard }).run P w = .ok (.value (.tuple #[.bool false])) w := by
          simp [execOp, Instr.next, hx, getObj, setObj, Sem.run, g1, hlt]
        unfold Oper.wp
        rw [hrun, Oper.upon_value]
        exact hK _ _ _ (R.step hU hd (hp' := s.hp) R.inv.sim (Grow.refl _ _) (Below.refl _ _) rfl rfl (fun _ _ => rfl) (fun _ _ h => h) (fun _ _ h _ => h) ⟨_, rfl, _, _, rfl, rfl, rfl⟩)
    case call c =>
      obtain ⟨callee, args, at_⟩ := c
      cases callee with
      | invoke r m => cases hlo
      | value f =>
        simp only at hlo
        split at hlo <;> try cases hlo
        rename_i k cap hf
        have hfx := hev f
        rw [hf] at hfx
        obtain ⟨caps, e1, e2⟩ := hfx
        have hargs : VRs G w (args.toList.map (val s.t) ++ cap) (args.map a.eval ++ caps).toList := by
          rw [Array.toList_append, Array.toList_map]
          exact (VRs.maps hev _).append e2
        split at hlo
        · -- handed on
          obtain ⟨hgo, href⟩ := hE.callR _ _ _ _ _ hlo
          unfold Oper.wp
          rw [run_call rfl e1 hgo w, Oper.upon_enter]
          refine (href base G w _ (fun w' hw' => hL w' (R.inv.below.trans hw')) R.inv.sim R.inv.lb R.inv.fb R.inv.fa hargs).mono ?_
          rintro e w' ⟨x, G', rfl, q1, q2⟩
          refine hK _ _ G' ⟨?_, ?_, by rw [put_defers]; exact R.d, by rw [put_size]; exact R.N, R.ln, R.lm, ?_, ?_⟩
          · rw [put_hp]; exact R.inv.trans q1
          · exact TOK.put (s := { s with hp := hp' }) (R.t.mono q1.grow) q2 (by rw [R.N]; exact hd)
          · rintro j ⟨hj, hne⟩
            rw [put_hp]
            have := R.ub j hj
            exact ⟨Nat.lt_of_lt_of_le this.1 q1.n, by rw [q1.eb _ this.1]; exact this.2⟩
          · rintro j ⟨hj, hne⟩
            rw [put_hp]
            have := R.ua j hj
            exact ⟨Nat.lt_of_lt_of_le this.1 q1.m, q1.ea _ this.1 this.2⟩
        · -- as data
          cases hfzl : fzL (fz 6) s.hp (args.toList.map (val s.t) ++ cap) with
          | none => rw [hfzl] at hlo; cases hlo
          | some p =>
          obtain ⟨as, hp1⟩ := p
          rw [hfzl] at hlo
          simp only at hlo
          obtain ⟨r, h2, hlo⟩ := Option.bind_eq_some_iff.1 hlo
          cases hlo
          obtain ⟨hgo, hpure⟩ := hE.call _ _ _ h2
          obtain ⟨G1, F, k1⟩ := fzL_ok (fun G hp v v' hp1 x => fz_ok 6 G hp v v' hp1 x) hfzl hsim hargs
          unfold Oper.wp
          rw [run_call rfl e1 hgo w, Oper.upon_enter]
          refine (hpure G1.S w _ (hL w R.inv.below) F.sim.S k1).mono ?_
          rintro e w' ⟨x, S', rfl, hb, g1, g2, g3⟩
          have inv1 : FInv base G0 w0 hp0 G1 hp1 w := ⟨⟨ow, F.sim⟩, R.inv.grow.trans F.grow, R.inv.below, R.inv.lb, fun b hb' => by rw [F.rb]; exact R.inv.fb b (by rw [← F.n]; exact hb'), fun i hi v => by rw [F.ra]; exact R.inv.fa i (by rw [← F.m]; exact hi) v,
            by rw [F.n]; exact R.inv.n, by rw [F.m]; exact R.inv.m, fun b hb' => by rw [F.rb]; exact R.inv.eb b hb', fun i hi hf v => (by rw [F.ra]; exact R.inv.ea i hi hf v), R.inv.f0, fun q o hq hb => R.inv.s0 q o (F.s0 q o hq hb) hb⟩
          obtain ⟨q1, q2⟩ := grow_pure inv1 hb g1 g2
          cases hfl : flatR v with
          | true =>
            have e : keepH v s.hp hp1 = s.hp := by unfold keepH; rw [hfl]
            rw [e] at hK
            have hsz : ∀ q o, G.S q o → q < w'.heap.size := fun q o hq => Nat.lt_of_lt_of_le (hsim.S q o hq) hb.size
            obtain ⟨p1, p2⟩ := grow_pure (S' := G.S) R.inv hb (fun _ _ h => h) (fun q o hq => ⟨hsz q o hq, fun _ => hq⟩)
            exact hK _ _ _ (R.step hU hd (hp' := s.hp) p2.sim p1 (hb.mono R.inv.lb) rfl rfl (fun _ _ => rfl) (fun _ _ h => h) (fun _ _ h _ => h) (flatR_ok hfl g3))
          | false =>
          have e : keepH v s.hp hp1 = hp1 := by unfold keepH; rw [hfl]
          rw [e] at hK
          exact hK _ _ _ (R.step hU hd q2.sim (F.grow.trans q1) (hb.mono R.inv.lb) F.n F.m (fun b _ => F.rb b) (fun i _ hf v => by show G1.ra i v = none; rw [F.ra]; exact hf v) (fun q o hq hb' => F.s0 q o ((g2 q o hq).2 (Nat.lt_of_lt_of_le hb' R.inv.lb)) hb') (VR.mono (Grow.of_pu { G1 with S := S' } w') _ _ g3))
      | builtin b =>
        have harg : VRs G w (args.toList.map (val s.t)) (args.toList.map a.eval) := VRs.maps hev _
        have hmap : args.map a.eval = (args.toList.map a.eval).toArray := by rw [← Array.toList_map]
        cases b <;> first | (cases hlo; done) | skip
        case append =>
          dsimp only at hlo
          split at hlo <;> try cases hlo
          rename_i sv xv t1 u1 hal htl
          split at hlo <;> try cases hlo
          rename_i htu
          subst htu
          obtain ⟨e, he, hlo⟩ := Option.bind_eq_some_iff.1 hlo
          obtain ⟨z, hz, hlo⟩ := Option.bind_eq_some_iff.1 hlo
          split at hlo <;> try cases hlo
          rename_i hzz
          rw [hal] at harg
          obtain ⟨x, xs, e1, e2, y, ys, rfl, e3, e4⟩ := harg
          simp only [VRs] at e4
          subst e4
          rw [e1] at hmap
          have hat : at_ = #[t1, t1] := by rw [← Array.toArray_toList (xs := at_), htl]
          obtain ⟨y', w', G', k1, k2, k3, k4, k5, k6, k7, k8⟩ := appendV_ok (P := P) (ty := ty) hsim R.inv.lb e2 e3 hida he hz hzz.1 hzz.2 hlo
          have hrun : (execOp a.eval { dst := dst, op := .call ⟨.builtin .append, args, at_⟩, type := ty, pos := pos, after := after, guard := guard }).run P w = .ok (.value y') w' := by
            simp [execOp, resolve, invoke, builtin, hmap, hat, k1]
          unfold Oper.wp
          rw [hrun, Oper.upon_value]
          have hnm : hp'.n = s.hp.n ∧ hp'.m = s.hp.m := by
            unfold appendV at hlo
            split at hlo <;> try cases hlo
            split at hlo <;> try (cases hlo; exact ⟨rfl, rfl⟩)
            split at hlo <;> try cases hlo
            split at hlo <;> try cases hlo
            · exact ⟨rfl, rfl⟩
            · exact ⟨rfl, rfl⟩
            · split at hlo <;> try cases hlo
              split at hlo
              · split at hlo
                · split at hlo <;> cases hlo; exact ⟨rfl, rfl⟩
                · cases hlo; exact ⟨rfl, rfl⟩
              · split at hlo <;> cases hlo; exact ⟨rfl, rfl⟩
          exact hK _ _ _ (R.step hU hd k4 k3 k2 hnm.1 hnm.2 (fun b _ => k6 b) (fun j hj hf v => by rw [k7 j hj (arr_none R.inv.sim hf)]; exact hf v) (fun q o hq _ => k8 q o hq) k5)
        case clear =>
          dsimp only at hlo
          split at hlo <;> try cases hlo
          rename_i dv t1 hal htl
          obtain ⟨e, he, hlo⟩ := Option.bind_eq_some_iff.1 hlo
          obtain ⟨z, hz, hlo⟩ := Option.bind_eq_some_iff.1 hlo
          split at hlo <;> try cases hlo
          rename_i c b vr o n _ _
          split at hlo <;> try cases hlo
          rename_i hzz
          rw [hal] at harg
          obtain ⟨x, xs', e1, e2, e4⟩ := harg
          simp only [VRs] at e4
          subst e4
          rw [e1] at hmap
          have hat : at_ = #[t1] := by rw [← Array.toArray_toList (xs := at_), htl]
          simp only [VR] at e2
          obtain ⟨r, zz, C, o', cap, hr, rfl, hn, ho, hc1, hc2⟩ := e2
          have hu := tslice_spec he
          obtain ⟨ti, zv, hti, hzv, hzeq, hzc⟩ := tzero_spec hz
          have hsz := tsize_eq hti
          have hzl : zv.cells.size = tsize P e := by rw [← hzz.1, hzeq]; simp
          have hn0 : n ≠ 0 := by rintro rfl; simp at hzz
          have hs0 : tsize P e ≠ 0 := by intro h0; rw [h0] at hzz; simp at hzz
          obtain ⟨hp1, h7, hlo⟩ := Option.bind_eq_some_iff.1 hlo
          cases hlo
          have hoo : o' = o := by
            rcases ho with ho | ho
            · omega
            · exact ho
          subst hoo
          have hvz : VRs G w ((List.replicate n z).flatten) (Builtin.zeroCells zv.cells n).toList := by
            rw [hzeq]
            exact zeroC_ok _ hzc _
          obtain ⟨r2, o2, w', g1, g2, g3, g4, g5⟩ := store_ok (P := P) hsim (show VR G w (.aref b vr o') (.pointer (some ⟨r, o', none⟩)) from ⟨r, _, _, hr, rfl⟩) hvz (fun y hy => zeroC_sc zv hzc _ y hy) h7
          cases g1
          have hrun : (execOp a.eval { dst := dst, op := .call ⟨.builtin .clear, args, at_⟩, type := ty, pos := pos, after := after, guard := guard }).run P w = .ok (.value (.tuple #[])) w' := by
            obtain ⟨m, rfl⟩ : ∃ m, n = m + 1 := ⟨n - 1, by omega⟩
            simp [execOp, resolve, invoke, builtin, hmap, hat, Builtin.clear_, run_underlying hu, zeroValue, typeInfo, hti, hzv, g2]
          unfold Oper.wp
          rw [hrun, Oper.upon_value]
          refine hK _ _ _ (R.step hU hd g5 g4 g3 ?_ ?_ (fun _ _ => rfl) (fun _ _ h => h) (fun _ _ h _ => h) ⟨#[], rfl, rfl⟩)
          · unfold storeV at h7
            split at h7 <;> try cases h7
            all_goals (split at h7 <;> try cases h7)
            all_goals (split at h7 <;> cases h7; rfl)
          · unfold storeV at h7
            split at h7 <;> try cases h7
            all_goals (split at h7 <;> try cases h7)
            all_goals (split at h7 <;> cases h7; rfl)
        case copy =>
          dsimp only at hlo
          split at hlo <;> try cases hlo
          rename_i dv xv t1 u1 hal htl
          split at hlo <;> try cases hlo
          rename_i htu
          have htu : t1 = u1 := by simpa using htu
          subst htu
          obtain ⟨e, he, hlo⟩ := Option.bind_eq_some_iff.1 hlo
          split at hlo <;> try cases hlo
          rename_i c b vr o n xs k hcon _
          rw [hal] at harg
          obtain ⟨x, xs', e1, e2, y, ys', rfl, e3, e4⟩ := harg
          simp only [VRs] at e4
          subst e4
          rw [e1] at hmap
          have hat : at_ = #[t1, t1] := by rw [← Array.toArray_toList (xs := at_), htl]
          obtain ⟨ad, kc, ys, rfl, h1, h2, h3, h4, h5, h6⟩ := content_ok hsim e3 hcon
          simp only [VR] at e2
          obtain ⟨r, z, C, o', cap, hr, rfl, hn, ho, _⟩ := e2
          have hu := tslice_spec he
          obtain ⟨ti, hti⟩ := tslice_info he
          have hsz := tsize_eq hti
          have hf : (Builtin.firstCells (tsize P e) (min k n) (.slice ad k kc)).run P w = .ok (ys.take (min k n * tsize P e)).toArray w := by
            cases ad with
            | none =>
              have := (h5 rfl).1
              subst this
              simp [Builtin.firstCells]
            | some ab =>
              refine run_firstCells_some (P := P) w (tsize P e) (min k n) ab k kc _ ?_ fun j v hj => ?_
              · rw [List.length_take, h3, Nat.min_eq_left]
                exact Nat.mul_le_mul_right _ (Nat.min_le_left _ _)
              · rw [List.getElem?_take] at hj
                split at hj
                · exact h6 ab rfl j v hj
                · cases hj
          have hrun : ∀ w', (storeCells ⟨r, o', none⟩ (ys.take (min k n * tsize P e))).run P w = .ok () w' → (execOp a.eval { dst := dst, op := .call ⟨.builtin .copy, args, at_⟩, type := ty, pos := pos, after := after, guard := guard }).run P w = .ok (.value (goInt ((min k n : Nat) : Int))) w' := by
            intro w' hw'
            have hmn : Nat.min k n = min k n := rfl
            simp [execOp, resolve, invoke, builtin, hmap, hat, Builtin.copy_, run_underlying hu, Builtin.lenOf, run_sizeOf' hti, hf, hw', hmn]
          split at hlo
          · rename_i h0
            cases hlo
            have hst : (storeCells ⟨r, o', none⟩ (ys.take (min k n * tsize P e))).run P w = .ok () w := by rw [h0]; simp [storeCells]
            unfold Oper.wp
            rw [hrun w hst, Oper.upon_value]
            exact hK _ _ _ (R.step hU hd (hp' := s.hp) R.inv.sim (Grow.refl _ _) (Below.refl _ _) rfl rfl (fun _ _ => rfl) (fun _ _ h => h) (fun _ _ h _ => h) (by rw [h0]; rfl))
          · rename_i h0
            obtain ⟨hp1, h7, hlo⟩ := Option.bind_eq_some_iff.1 hlo
            cases hlo
            have hoo : o' = o := by rcases ho with ho | ho <;> omega
            subst hoo
            obtain ⟨r2, o2, w', g1, g2, g3, g4, g5⟩ := store_ok (P := P) hsim (show VR G w (.aref b vr o') (.pointer (some ⟨r, o', none⟩)) from ⟨r, _, _, hr, rfl⟩) (h2.take _) (fun y hy => h4 y (List.mem_of_mem_take hy)) h7
            cases g1
            unfold Oper.wp
            rw [hrun w' g2, Oper.upon_value]
            refine hK _ _ _ (R.step hU hd g5 g4 g3 ?_ ?_ (fun _ _ => rfl) (fun _ _ h => h) (fun _ _ h _ => h) rfl)
            · unfold storeV at h7
              split at h7 <;> try cases h7
              all_goals (split at h7 <;> try cases h7)
              all_goals (split at h7 <;> cases h7; rfl)
            · unfold storeV at h7
              split at h7 <;> try cases h7
              all_goals (split at h7 <;> try cases h7)
              all_goals (split at h7 <;> cases h7; rfl)
  · -- quiet
    rename_i hl
    cases hc0 : coreF P E (frB ops.toList draw i o) (if draw then some (n0, m0) else none) (val s.t) s.hp (n0 + i) (m0 + i) o with
    | none => rw [hc0] at hs; cases hs
    | some p =>
    obtain ⟨v, new⟩ := p
    rw [hc0] at hs
    cases hs
    rcases coreF_cases hc0 with hc | hc
    · obtain ⟨k, as, ⟨r, hp1⟩, hk, h2, hfr⟩ := hc
      obtain ⟨f, args, at_, cap, hop, hf, h1⟩ := freshK_spec hk
      obtain ⟨b, n, sz, cs, cs', rfl, ha, h3, he⟩ := freshOf_spec hfr
      cases he
      obtain ⟨hgo, href⟩ := hE.callR _ _ _ _ _ h2
      have hfx := hev f
      rw [hf] at hfx
      obtain ⟨caps, e1, e2⟩ := hfx
      have hargs : VRs G w (args.toList.map (val s.t) ++ cap) (args.map a.eval ++ caps).toList := by
        rw [Array.toList_append, Array.toList_map]
        exact (VRs.maps hev _).append e2
      have hfz := fzPL_ok (fun v v' x h k => fzP_ok 6 v v' x h k) h1 hargs
      unfold Oper.wp
      rw [run_call hop e1 hgo w, Oper.upon_enter]
      refine (href w.heap.size (stab G.S) w _ (fun w' hw' => hL w' (R.inv.below.trans (hw'.mono R.inv.lb))) ⟨fun _ => none, hsim.S, fun _ _ h => (by cases h), fun _ _ h => (by cases h)⟩ (Nat.le_refl _) (fun _ _ => rfl) (fun _ _ _ => rfl) hfz).mono ?_
      rintro e w' ⟨x, G1, rfl, F, hv⟩
      obtain ⟨blk, z, D', o', cp, k1, rfl, k3, k4, k5, k6⟩ := hv
      obtain ⟨ow1, hs1⟩ := F.sim
      obtain ⟨r1, C1, g1, g2, g3, ⟨arr, te, g4, g5, g6, g7, g8, g9, g10, g11⟩, g12⟩ := hs1.arr b _ ha
      simp only at g1 g6 g7 g10
      rw [k1] at g1
      cases g1
      have hlen := fzPL_length h3
      obtain ⟨G', q0, q1, q2, q3, q4, q5⟩ := hsim.newArrS (w' := w') F.below G1.S F.grow.S (fun q o hq => ⟨hs1.S q o hq, fun hlt => F.s0 q o hq hlt⟩) (m0 + i) ⟨0, sz, cs', none, 0⟩ (fun v _ => hida v) blk D' g3 (Nat.le_trans R.inv.lb g3) (fun G' hG' => by
        refine ⟨arr, te, g4, g5, by simp only [hlen]; exact g6, ?_, g8, fun m hm => (by cases hm), fun o ho => by rw [hG'] at ho; exact g10 o ho, Nat.zero_le _⟩
        simp only [hlen]
        have hh := fzPL_ok (fun v v' x h k => fzP_ok 5 v v' x h k) h3 g7
        have e : G1.pu = G'.pu := by unfold Gh.pu; rw [hG']
        rw [e] at hh
        exact VRs.mono (Grow.of_pu G' w') _ _ hh)
      refine hK _ _ G' (R.step hU hd (hp' := { s.hp with a := upd s.hp.a (m0 + i) (some ⟨0, sz, cs', none, 0⟩) }) q2 q1 (F.below.mono R.inv.lb) rfl rfl (fun b' _ => q4 b') (fun j hj hf' v => by rw [q5 j v (.inl hj)]; exact hf' v) (fun q o hq hb => by rw [q0] at hq; exact F.s0 q o hq (Nat.lt_of_lt_of_le hb R.inv.lb)) ?_)
      exact ⟨blk, sz, D', o', cp, q3, rfl, k3, k4, k5, k6⟩
    by_cases hcall : ∃ c f, o.op = .call c ∧ c.callee = .value f
    · obtain ⟨c, f, hop, hcf⟩ := hcall
      obtain ⟨callee, args, at_⟩ := c
      simp only at hcf
      subst hcf
      have hc' := hc
      unfold core at hc'
      rw [hop] at hc'
      simp only at hc'
      split at hc' <;> try cases hc'
      rename_i k cap hf
      split at hc' <;> try cases hc'
      obtain ⟨as, h1, hc'⟩ := Option.bind_eq_some_iff.1 hc'
      obtain ⟨r, h2, hc'⟩ := Option.bind_eq_some_iff.1 hc'
      cases hc'
      obtain ⟨hgo, hpure⟩ := hE.call _ _ _ h2
      have hfx := hev f
      rw [hf] at hfx
      obtain ⟨caps, e1, e2⟩ := hfx
      have hargs : VRs G w (args.toList.map (val s.t) ++ cap) (args.map a.eval ++ caps).toList := by
        rw [Array.toList_append, Array.toList_map]
        exact (VRs.maps hev _).append e2
      have hfz := fzPL_ok (fun v v' x h k => fzP_ok 6 v v' x h k) h1 hargs
      unfold Oper.wp
      rw [run_call hop e1 hgo w, Oper.upon_enter]
      refine (hpure G.S w _ (hL w R.inv.below) hsim.S hfz).mono ?_
      rintro e w' ⟨x, S', rfl, hb, k1, k2, k3⟩
      obtain ⟨q1, q2⟩ := grow_pure R.inv hb k1 k2
      have hrr : RInv D (fun j => U j ∧ j ≠ i) n0 m0 base G0 w0 hp0 N (({ s with hp := s.hp } : St).put o.dst v) (a.put o.dst x) w' { G with S := S' } :=
        R.step hU hd q2.sim q1 (hb.mono R.inv.lb) rfl rfl (fun _ _ => rfl) (fun _ _ h => h) (fun q o hq hb' => (k2 q o hq).2 (Nat.lt_of_lt_of_le hb' R.inv.lb)) (VR.mono (Grow.of_pu { G with S := S' } w') _ _ k3)
      exact hK _ _ _ hrr
    · have hnc : ∀ c f, o.op = .call c → c.callee ≠ .value f := fun c f h1 h2 => hcall ⟨c, f, h1, h2⟩
      obtain ⟨x, w', G', h1, h2, h3, h4, h5, h6, h7, h8⟩ := core_ok E.call _ hsim R.inv.lb s.t a R.t o (n0 + i) (m0 + i) hidb hida hc hnc
      unfold Oper.wp
      rw [h1, Oper.upon_value]
      refine hK _ _ G' ?_
      rw [St.new_eq]
      exact R.step hU hd h4 h3 h2 (by cases new <;> rfl) (by cases new <;> rfl) h6 (fun j hj hf v => by rw [h7 j hj]; exact hf v) (fun q o hq hb => h8 q o hq hb) h5
end Go.Ab
end

section
set_option linter.unusedVariables false
set_option linter.unusedSimpArgs false
set_option linter.unusedSimpArgs false
set_option linter.unusedVariables false
namespace Go.Ab
open Go.RowKit
variable {P : Program}

/-! ### in which order the operations of a region come makes no difference -/
theorem core_pure (call : Call) (l : Nat × Nat) (ρ : Operand → V) (hp hp' : Hp) (idb ida idb' ida' : Nat) (o : Oper) (h : pureOp o.op = true) :
    core P call (some l) ρ hp idb ida o = core P call (some l) ρ hp' idb' ida' o ∧ ∀ v x, core P call (some l) ρ hp idb ida o = some (v, x) → x = .nothing := by
  obtain ⟨dst, op, ty, pos, after, guard⟩ := o
  cases op <;> simp only [pureOp, Bool.false_eq_true] at h
  case buildSlice t len parts =>
    cases len with
    | zero => cases h
    | succ k =>
      refine ⟨rfl, fun v x hc => ?_⟩
      simp only [core] at hc
      repeat' (first | (cases hc; rfl) | (cases hc; done) | split at hc | (obtain ⟨_, _, hc⟩ := Option.bind_eq_some_iff.1 hc))
  case makeFunc fn first cap =>
    cases fn
    case func f =>
      refine ⟨rfl, fun v x hc => ?_⟩
      simp only [core] at hc
      split at hc <;> cases hc
      rfl
    all_goals exact ⟨rfl, fun v x hc => by cases hc⟩
  case call c =>
    obtain ⟨callee, args, at_⟩ := c
    cases callee with
    | value f =>
      refine ⟨rfl, fun v x hc => ?_⟩
      simp only [core] at hc
      split at hc <;> try cases hc
      obtain ⟨_, _, hc⟩ := Option.bind_eq_some_iff.1 hc
      obtain ⟨_, _, hc⟩ := Option.bind_eq_some_iff.1 hc
      cases hc; rfl
    | invoke r m => cases h
    | builtin b =>
      cases b <;> first | (cases h; done) | skip
      all_goals
        refine ⟨rfl, fun v x hc => ?_⟩
        dsimp only [core] at hc
        repeat' (first | (cases hc; rfl) | (cases hc; done) | split at hc)
  all_goals
    refine ⟨rfl, fun v x hc => ?_⟩
    simp only [core] at hc
    repeat' (first | (cases hc; rfl) | (cases hc; done) | split at hc | (obtain ⟨_, _, hc⟩ := Option.bind_eq_some_iff.1 hc))

def agrees (l : Nat × Nat) (hp hp' : Hp) : Prop := (∀ b, b < l.1 → hp.h b = hp'.h b) ∧ ∀ b, b < l.2 → hp.a b = hp'.a b
theorem look_congr {l : Nat × Nat} {hp hp' : Hp} (h : agrees l hp hp') (a : V) (n : Nat) : look (some l) hp a n = look (some l) hp' a n := by
  cases a <;> simp only [look]
  case ref b o =>
    by_cases hb : b < l.1
    · rw [h.1 b hb]
    · simp [hb]
  case aref b v o =>
    by_cases hb : b < l.2
    · rw [h.2 b hb]
    · simp [hb]
theorem arrOk_congr {l : Nat × Nat} {hp hp' : Hp} (h : agrees l hp hp') (t : Nat) (a : V) : arrOk P (some l) hp t a = arrOk P (some l) hp' t a := by
  cases a <;> simp only [arrOk]
  case rsl c b v o n =>
    by_cases hb : b < l.2
    · rw [h.2 b hb]
    · simp [hb]

theorem core_congr (call : Call) (l : Nat × Nat) {ρ ρ' : Operand → V} {hp hp' : Hp} (idb ida : Nat) (o : Oper) (h : ∀ x ∈ o.op.operands, ρ x = ρ' x) (hh : agrees l hp hp') :
    core P call (some l) ρ hp idb ida o = core P call (some l) ρ' hp' idb ida o := by
  obtain ⟨dst, op, ty, pos, after, guard⟩ := o
  have pairs : ∀ ps : Array (Nat × Operand), (∀ x ∈ (ps.toList.map (·.2)).toArray, ρ x = ρ' x) → (ps.toList.map fun (i, x) => (i, ρ x)) = (ps.toList.map fun (i, x) => (i, ρ' x)) := fun ps hp =>
    List.map_congr_left fun p hm => by
      obtain ⟨i, x⟩ := p
      simp only [hp x (by simp; exact ⟨i, by simpa using hm⟩)]
  cases op <;> simp only [Op.operands] at h <;> simp only [core]
  case call c =>
    obtain ⟨callee, args, at_⟩ := c
    have hargs : args.toList.map ρ = args.toList.map ρ' := List.map_congr_left fun x hx => h x (by simp [Call.operands]; right; simpa using hx)
    cases callee with
    | value f =>
      have hf : ρ f = ρ' f := h f (by simp [Call.operands])
      simp only [hf, hargs]
    | invoke r m => rfl
    | builtin b => cases b <;> simp only [hargs]
  case build t ps => rw [pairs ps h]
  case buildSlice t n ps => rw [pairs ps h]
  case makeFunc fn first cap =>
    have : cap.toList.map ρ = cap.toList.map ρ' := List.map_congr_left fun x hx => h x (by simp; right; simpa using hx)
    cases fn <;> simp only [this]
  case slice t x lo hi mx =>
    have h0 : ρ x = ρ' x := h x (by simp)
    have hlo : lo.map ρ = lo.map ρ' := by
      cases lo with
      | none => rfl
      | some y => simp only [Option.map_some]; rw [h y (by simp)]
    have hhi : hi.map ρ = hi.map ρ' := by
      cases hi with
      | none => rfl
      | some y => simp only [Option.map_some]; rw [h y (by simp)]
    have hmx : mx.map ρ = mx.map ρ' := by
      cases mx with
      | none => rfl
      | some y => simp only [Option.map_some]; rw [h y (by simp)]
    rw [h0, hlo, hhi, hmx, arrOk_congr hh]
  case makeSlice t l' c => rw [h l' (by simp), h c (by simp)]
  case move x => rw [h x (by simp)]
  case assign x => rw [h x (by simp)]
  case pick c a b => rw [h c (by simp), h a (by simp), h b (by simp)]
  case box e x => rw [h x (by simp)]
  case load t x => rw [h x (by simp), look_congr hh]
  case nilCheck x => rw [h x (by simp)]
  case binOp op t x y yt => rw [h x (by simp), h y (by simp)]
  case unOp op t x => rw [h x (by simp)]
  case makeInterface t x => rw [h x (by simp)]
  case typeAssert x xt t ok => rw [h x (by simp)]
  case convert s d x => rw [h x (by simp)]
  case fieldAddr s x f => rw [h x (by simp)]
  case field s x f => rw [h x (by simp)]
  case indexAddr t x y => rw [h x (by simp), h y (by simp)]
  case index t x y => rw [h x (by simp), h y (by simp)]
  case range t x => rw [h x (by simp)]
  case extract x i => rw [h x (by simp)]
end Go.Ab
end
