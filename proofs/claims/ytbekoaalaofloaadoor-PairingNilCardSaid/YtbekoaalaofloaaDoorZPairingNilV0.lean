/- What PairingNil is proved with: what the program's functions make of their arguments, by the evaluator. -/
import Derived.Test.YtbekoaalaofloaaDoorProg
import Derived.Test.YtbekoaalaofloaaDoorZPairingNilA1
import Derived.Test.YtbekoaalaofloaaDoorZPairingNilL0
import Derived.KernelRfl
import Derived.Test.YtbekoaalaofloaaDoorChecked
import Derived.Test.YtbekoaalaofloaaDoorShelf
import Derived.Lib.LaidU8T
import Derived.Lib.LaidIn
section
open Go Go.Ab Go.Proofs Go.Vl
namespace Go.Proofs.YtbekoaalaofloaaDoor.AB
mutual
def enc : T → List V
  | ⟨a, b, c, l⟩ => [.int .i64 a, .int .i64 b, .str c, .sl false (encL l) l.length]
def encL : List T → List V
  | [] => []
  | v :: l => enc v ++ encL l
end
def A (v : T) : V := .agg [.int .i64 v.f0, .int .i64 v.f1, .str v.f2, .sl false (encL v.f3) v.f3.length]
theorem enc_eq (v : T) : enc v = [.int .i64 v.f0, .int .i64 v.f1, .str v.f2, .sl false (encL v.f3) v.f3.length] := by cases v; simp only [enc]
theorem encL_len : ∀ l : List T, (encL l).length = l.length * 4
  | [] => by simp only [encL]; rfl
  | v :: l => by simp only [encL, List.length_append, encL_len l, enc_eq, List.length_cons, List.length_nil]; omega
theorem encL_drop : ∀ (l : List T) (i : Nat), (encL l).drop (i * 4) = encL (l.drop i)
  | l, 0 => by simp
  | [], i + 1 => by simp [encL]
  | v :: l, i + 1 => by
    have : (i + 1) * 4 = 4 + i * 4 := by omega
    rw [this, List.drop_drop.symm, List.drop_succ_cons, ← encL_drop l i]
    simp only [encL, enc_eq]
    rfl
theorem subL {l : List T} {i : Nat} (h : i < l.length) : sub (encL l) (i * 4) 4 = enc l[i] := by
  unfold sub
  rw [encL_drop, List.drop_eq_getElem_cons h]
  simp only [encL, enc_eq]
  rfl
theorem oneA (v : T) : one (some true) (enc v) = some (A v) := by rw [enc_eq]; rfl
/-- an element, read -/
theorem ldA {l : List T} {i : Nat} {Q : V → Prop} (h : i < l.length) (hq : Q (A l[i])) : i * 4 + 4 ≤ (encL l).length ∧ opt (one (some true) (sub (encL l) (i * 4) 4)) fun v => fv v Q := by
  refine ⟨by rw [encL_len]; omega, ?_⟩
  rw [subL h, oneA]
  exact (fv_eq _ _).2 hq
theorem Ev.cast {C : Cfg} {f : Nat} {xs : List V} {r r1 : V} (h : C.Ev f xs r) (e : r = r1) : C.Ev f xs r1 := e ▸ h
theorem sel_yes {t : Bool} {A B : Prop} (h : t = true) (a : A) : sel t A B := by rw [h]; exact a
theorem sel_no {t : Bool} {A B : Prop} (h : t = false) (b : B) : sel t A B := by rw [h]; exact b
def firstLoop : Code → Option Code
  | .seq a b => match firstLoop a with | some c => some c | none => firstLoop b
  | .cond _ a b => match firstLoop a with | some c => some c | none => firstLoop b
  | .block _ c => firstLoop c
  | .scope c => firstLoop c
  | .loop c => some c
  | _ => none
def lpOf (f : Func) : Code := match f.body with | some b => (match firstLoop b with | some c => c | none => .skip) | none => .skip
/-- what is known of a state's slots -/
def Has {α : Type} (t : Nat → α) : List (Nat × α) → Prop
  | [] => True
  | p :: L => t p.1 = p.2 ∧ Has t L
def updL {α : Type} (t : Nat → α) : List (Nat × α) → Nat → α
  | [] => t
  | p :: L => upd (updL t L) p.1 p.2
theorem updL_has {α : Type} (t : Nat → α) : ∀ L, Has t L → updL t L = t
  | [], _ => rfl
  | p :: L, h => by
    rw [updL, updL_has t L h.2]
    funext j
    unfold upd
    split
    · rename_i e; rw [e]; exact h.1.symm
    · rfl
theorem St.knows {s : St} (L : List (Nat × V)) (n : Nat) (h : Has s.t L) (hn : s.hp.n = n) (B : List (Nat × Option Bx) := []) (hB : Has s.hp.h B := by trivial) : s = ⟨updL s.t L, ⟨updL s.hp.h B, n, s.hp.a, s.hp.m⟩⟩ := by
  rw [updL_has _ _ h, updL_has _ _ hB, ← hn]
def okF (f : Nat) : Bool := match f with
  | 45 | 48 => false
  | f => Nat.blt f 80
def byref (f : Nat) : Bool := match f with
  | 1000000 => true
  | _ => false
def extR (f : Nat) : Option (List V → Hp → Option (V × Hp)) := match f with
  | _ => none
noncomputable def cfg (ext : Exts) : Cfg := ⟨Tryd.prog, okF, ext, extR, byref⟩
def cmp3 (x y : Int) : Int := if x < y then -1 else if x > y then 1 else 0
theorem le_rfl' {a b : Nat} (h : Nat.ble a b = true) : a ≤ b := Nat.le_of_ble_eq_true h
theorem vi {k : IntKind} {a b : Int} (h : a = b) : V.int k a = V.int k b := by rw [h]
set_option maxRecDepth 100000
section
variable {ext : Exts}
theorem t33 (h0 : ext 60 = none) (x : Int) : (cfg ext).Ev 60 [.int .i64 x] (.bool false) := by
  refine Ev.of h0 Tryd.func60 rfl rfl ?_
  conv => whnf
  exact congrArg V.bool (by simp)
theorem t34 (h0 : ext 61 = none) (x : Int) : (cfg ext).Ev 61 [.int .i64 x] (.bool false) := by
  refine Ev.of h0 Tryd.func61 rfl rfl ?_
  conv => whnf
  exact congrArg V.bool (by simp)
theorem t60 (h0 : ext 63 = none) (x : Int) : (cfg ext).Ev 63 [.int .u32 x] (.bool false) := by
  refine Ev.of h0 Tryd.func63 rfl rfl ?_
  conv => whnf
  exact congrArg V.bool (by simp)
theorem t62 (h0 : ext 65 = none) (x : Int) : (cfg ext).Ev 65 [.int .u64 x] (.bool false) := by
  refine Ev.of h0 Tryd.func65 rfl rfl ?_
  conv => whnf
  exact congrArg V.bool (by simp)
theorem t24 (h0 : ext 60 = none) (h1 : ext 46 = none) (x y : Int) : (cfg ext).Ev 46 [.int .i64 x, .int .i64 y] (.int .i64 (cmp3 x y)) := by
  refine Ev.of h1 Tryd.func46 rfl rfl ?_
  conv => whnf
  refine ⟨_, t33 h0 x, ?_⟩
  conv => whnf
  refine ⟨_, t33 h0 y, ?_⟩
  conv => whnf
  refine sel_split (fun h => ?_) (fun h => ?_)
  · conv => whnf
    exact vi (by simp at h; simp [cmp3, h])
  · conv => whnf
    refine sel_split (fun h' => ?_) (fun h' => ?_)
    · conv => whnf
      exact vi (by simp at h h'; simp [cmp3, h']; omega)
    · conv => whnf
      exact vi (by simp at h h'; simp [cmp3]; omega)
theorem t25 (h0 : ext 61 = none) (h1 : ext 47 = none) (x y : Int) : (cfg ext).Ev 47 [.int .i64 x, .int .i64 y] (.int .i64 (cmp3 x y)) := by
  refine Ev.of h1 Tryd.func47 rfl rfl ?_
  conv => whnf
  refine ⟨_, t34 h0 x, ?_⟩
  conv => whnf
  refine ⟨_, t34 h0 y, ?_⟩
  conv => whnf
  refine sel_split (fun h => ?_) (fun h => ?_)
  · conv => whnf
    exact vi (by simp at h; simp [cmp3, h])
  · conv => whnf
    refine sel_split (fun h' => ?_) (fun h' => ?_)
    · conv => whnf
      exact vi (by simp at h h'; simp [cmp3, h']; omega)
    · conv => whnf
      exact vi (by simp at h h'; simp [cmp3]; omega)
theorem t50 (h0 : ext 63 = none) (h1 : ext 52 = none) (x y : Int) : (cfg ext).Ev 52 [.int .u32 x, .int .u32 y] (.int .i64 (cmp3 x y)) := by
  refine Ev.of h1 Tryd.func52 rfl rfl ?_
  conv => whnf
  refine ⟨_, t60 h0 x, ?_⟩
  conv => whnf
  refine ⟨_, t60 h0 y, ?_⟩
  conv => whnf
  refine sel_split (fun h => ?_) (fun h => ?_)
  · conv => whnf
    exact vi (by simp at h; simp [cmp3, h])
  · conv => whnf
    refine sel_split (fun h' => ?_) (fun h' => ?_)
    · conv => whnf
      exact vi (by simp at h h'; simp [cmp3, h']; omega)
    · conv => whnf
      exact vi (by simp at h h'; simp [cmp3]; omega)
theorem t55 (h0 : ext 65 = none) (h1 : ext 57 = none) (x y : Int) : (cfg ext).Ev 57 [.int .u64 x, .int .u64 y] (.int .i64 (cmp3 x y)) := by
  refine Ev.of h1 Tryd.func57 rfl rfl ?_
  conv => whnf
  refine ⟨_, t62 h0 x, ?_⟩
  conv => whnf
  refine ⟨_, t62 h0 y, ?_⟩
  conv => whnf
  refine sel_split (fun h => ?_) (fun h => ?_)
  · conv => whnf
    exact vi (by simp at h; simp [cmp3, h])
  · conv => whnf
    refine sel_split (fun h' => ?_) (fun h' => ?_)
    · conv => whnf
      exact vi (by simp at h h'; simp [cmp3, h']; omega)
    · conv => whnf
      exact vi (by simp at h h'; simp [cmp3]; omega)
theorem t37 (h0 : ext 38 = none) (a b : T) (r : Int) (hc : (cfg ext).Ev 37 [A b, A a] (.int .i64 r)) : (cfg ext).Ev 38 [A a, A b] (.int .i64 r) := by
  refine Ev.of h0 Tryd.func38 rfl rfl ?_
  conv => whnf
  refine ⟨_, hc, ?_⟩
  conv => whnf
theorem t49 (h0 : ext 51 = none) (x y : Int) : (cfg ext).Ev 51 [.sl false [.int .i64 x, .int .i64 y] 2] (.int .i64 (if x = 0 then y else x)) := by
  refine Ev.of h0 Tryd.func51 rfl rfl ?_
  conv => whnf
  refine Loop.round ?_
  conv => whnf
  refine ⟨by decide, ?_⟩
  conv => whnf
  refine ⟨le_rfl' rfl, ?_⟩
  conv => whnf
  refine sel_split (fun h => ?_) (fun h => ?_)
  · conv => whnf
    exact vi (by simp at h; simp [h])
  · conv => whnf
    refine Loop.round ?_
    conv => whnf
    refine ⟨by decide, ?_⟩
    conv => whnf
    refine ⟨le_rfl' rfl, ?_⟩
    conv => whnf
    refine sel_split (fun h' => ?_) (fun h' => ?_)
    · conv => whnf
      exact vi (by simp at h; simp [h])
    · conv => whnf
      refine Loop.round ?_
      conv => whnf
      exact vi (by simp at h h'; simp [h, h'])


theorem t39 (h0 : ext 40 = none) (a : T) (h e : Int) (hc : (cfg ext).Ev 53 [A a] (.tup [.int .u32 h, .int .i64 e])) : (cfg ext).Ev 40 [A a] (.int .u32 h) := by
  refine Ev.of h0 Tryd.func40 rfl rfl ?_
  conv => whnf
  refine ⟨_, hc, ?_⟩
  conv => whnf
theorem t41 (h0 : ext 42 = none) (a : T) (h e : Int) (hc : (cfg ext).Ev 55 [A a] (.tup [.int .i64 h, .int .i64 e])) : (cfg ext).Ev 42 [A a] (.int .i64 h) := by
  refine Ev.of h0 Tryd.func42 rfl rfl ?_
  conv => whnf
  refine ⟨_, hc, ?_⟩
  conv => whnf
def awy (n : Int) : Int := if n < 0 then IntKind.u64.wrap (0 - IntKind.u64.wrap n) else IntKind.u64.wrap n
theorem t56 (h0 : ext 58 = none) (n : Int) : (cfg ext).Ev 58 [.int .i64 n] (.int .u64 (awy n)) := by
  refine Ev.of h0 Tryd.func58 rfl rfl ?_
  conv => whnf
  refine sel_split (fun h => ?_) (fun h => ?_)
  · conv => whnf
    exact vi (by simp at h; simp [awy, h])
  · conv => whnf
    exact vi (by simp at h; simp [awy]; omega)
theorem t48 (h0 : ext 50 = none) (h1 : ext 52 = none) (h2 : ext 63 = none) (h3 : ext 51 = none) (a b : T) (x y c : Int) (ha : (cfg ext).Ev 40 [A a] (.int .u32 x)) (hb : (cfg ext).Ev 40 [A b] (.int .u32 y)) (hc : (cfg ext).Ev 37 [A a, A b] (.int .i64 c)) :
    (cfg ext).Ev 50 [A a, A b, .ptr [.fn 40 []] 0] (.int .i64 (if cmp3 x y = 0 then c else cmp3 x y)) := by
  refine Ev.of h0 Tryd.func50 rfl rfl ?_
  conv => whnf
  refine ⟨le_rfl' rfl, ?_⟩
  conv => whnf
  refine ⟨_, ha, ?_⟩
  conv => whnf
  refine ⟨le_rfl' rfl, ?_⟩
  conv => whnf
  refine ⟨_, hb, ?_⟩
  conv => whnf
  refine ⟨_, t50 h2 h1 x y, ?_⟩
  conv => whnf
  refine ⟨_, hc, ?_⟩
  conv => whnf
  refine ⟨_, t49 h3 _ _, ?_⟩
  conv => whnf
theorem t52 (h0 : ext 54 = none) (h1 : ext 46 = none) (h2 : ext 60 = none) (h3 : ext 51 = none) (a b : T) (x y c : Int) (ha : (cfg ext).Ev 42 [A a] (.int .i64 x)) (hb : (cfg ext).Ev 42 [A b] (.int .i64 y)) (hc : (cfg ext).Ev 37 [A a, A b] (.int .i64 c)) :
    (cfg ext).Ev 54 [A a, A b, .ptr [.fn 42 []] 0] (.int .i64 (if cmp3 x y = 0 then c else cmp3 x y)) := by
  refine Ev.of h0 Tryd.func54 rfl rfl ?_
  conv => whnf
  refine ⟨le_rfl' rfl, ?_⟩
  conv => whnf
  refine ⟨_, ha, ?_⟩
  conv => whnf
  refine ⟨le_rfl' rfl, ?_⟩
  conv => whnf
  refine ⟨_, hb, ?_⟩
  conv => whnf
  refine ⟨_, t24 h2 h1 x y, ?_⟩
  conv => whnf
  refine ⟨_, hc, ?_⟩
  conv => whnf
  refine ⟨_, t49 h3 _ _, ?_⟩
  conv => whnf
theorem t42 (h0 : ext 43 = none) (h1 : ext 46 = none) (h2 : ext 60 = none) (h3 : ext 51 = none) (a b : T) (x y c : Int) (ha : (cfg ext).Ev 56 [.str a.f2] (.int .i64 x)) (hb : (cfg ext).Ev 56 [.str b.f2] (.int .i64 y)) (hc : (cfg ext).Ev 37 [A a, A b] (.int .i64 c)) :
    (cfg ext).Ev 43 [A a, A b] (.int .i64 (if a.f0 = 3 ∧ b.f0 = 3 then (if cmp3 x y = 0 then c else cmp3 x y) else c)) := by
  refine Ev.of h0 Tryd.func43 rfl rfl ?_
  conv => whnf
  cases h4 : (a.f0 == 3) with
  | false =>
    conv => whnf
    refine ⟨_, hc, ?_⟩
    conv => whnf
    exact vi (by simp at h4; simp [h4])
  | true =>
    conv => whnf
    cases h5 : (b.f0 == 3) with
    | false =>
      conv => whnf
      refine ⟨_, hc, ?_⟩
      conv => whnf
      exact vi (by simp at h5; simp [h5])
    | true =>
      conv => whnf
      refine ⟨_, ha, ?_⟩
      conv => whnf
      refine ⟨_, hb, ?_⟩
      conv => whnf
      refine ⟨_, t24 h2 h1 x y, ?_⟩
      conv => whnf
      refine ⟨_, hc, ?_⟩
      conv => whnf
      refine ⟨_, t49 h3 _ _, ?_⟩
      conv => whnf
      exact vi (by simp at h4 h5; simp [h4, h5])
end
end Go.Proofs.YtbekoaalaofloaaDoor.AB
end

section
open Go Go.Ab Go.Proofs Go.Vl
namespace Go.Proofs.YtbekoaalaofloaaDoor.AB
set_option maxRecDepth 100000
section
variable {ext : Exts}
theorem wrap_add1 {i : Nat} (h : i + 1 ≤ 9223372036854775807) : IntKind.i64.wrap ((i : Int) + 1) = ((i + 1 : Nat) : Int) := by
  rw [IntKind.wrap_i64]; omega
def k27 (l m : List T) (i : Nat) : List (Nat × V) := [(13, .int .i64 i), (12, .int .i64 l.length), (11, .sl false (encL l) l.length), (1, .sl false (encL m) m.length), (0, .sl false (encL l) l.length), (2, .fn 37 [])]
theorem l27 (l m : List T) (hl : l.length ≤ 9223372036854775807) (E : ∀ a ∈ l, ∀ b ∈ m, (cfg ext).Ev 37 [A a, A b] (.int .i64 (cmpV a b))) (Q : Ex → St → Prop) (d : Nat) :
    ∀ (i : Nat) (s : St), l.length - i = d → i ≤ l.length → i ≤ m.length → Has s.t (k27 l m i) → s.hp.n = 4 →
      (∀ s', s'.t 6 = .int .i64 (cmpL (l.drop i) (m.drop i)) → Q .ret s') →
      (∀ s', s'.t 0 = .sl false (encL l) l.length → s'.t 1 = .sl false (encL m) m.length → l.length ≤ m.length → cmpL (l.drop i) (m.drop i) = cmpL [] (m.drop l.length) → Q (.exit 0) s') →
      Go.Ab.Loop (cfg ext) (lpOf Tryd.f49) 4 s Q := by
  induction d with
  | zero =>
    intro i s hd hi him hs en hr hq
    obtain rfl : i = l.length := by omega
    rw [St.knows _ _ hs en]
    refine Loop.round ?_
    conv => whnf
    refine sel_split (fun h => ?_) (fun h => ?_)
    · simp at h
    conv => whnf
    exact hq _ rfl rfl him (by rw [List.drop_length])
  | succ d ih =>
    intro i s hd hi him hs en hr hq
    rw [St.knows _ _ hs en]
    refine Loop.round ?_
    conv => whnf
    refine sel_split (fun h => ?_) (fun h => ?_)
    · have hlt : i < l.length := by simpa using h
      have eD := List.drop_eq_getElem_cons hlt
      conv => whnf
      refine ⟨⟨by omega, by omega⟩, ?_⟩
      conv => whnf
      refine ldA (i := i) hlt ?_
      conv => whnf
      refine sel_split (fun h2 => ?_) (fun h2 => ?_)
      · conv => whnf
        have : m.length = i := by simp at h2; omega
        exact hr _ (vi (by rw [eD, show m.drop i = [] from List.drop_eq_nil_of_le (by omega), cmpL]))
      have hlt2 : i < m.length := by simp at h2; omega
      have eM := List.drop_eq_getElem_cons hlt2
      conv => whnf
      refine ⟨⟨by omega, by omega⟩, ?_⟩
      conv => whnf
      refine ldA (i := i) hlt2 ?_
      conv => whnf
      refine ⟨_, E _ (List.getElem_mem hlt) _ (List.getElem_mem hlt2), ?_⟩
      conv => whnf
      refine sel_split (fun h3 => ?_) (fun h3 => ?_)
      · conv => whnf
        refine hr _ (vi ?_)
        rw [eD, eM, cmpL, if_neg (by simpa using h3)]
      conv => whnf
      have h3 : cmpV l[i] m[i] = 0 := by simpa using h3
      have eC : cmpL (l.drop i) (m.drop i) = cmpL (l.drop (i + 1)) (m.drop (i + 1)) := by rw [eD, eM, cmpL, if_pos h3]
      refine ih (i + 1) _ (by omega) (by omega) (by omega) ⟨?_, rfl, rfl, rfl, rfl, rfl, trivial⟩ rfl (fun s' h => hr s' (by rw [eC]; exact h)) (fun s' h1 h2 h3 h4 => hq s' h1 h2 h3 (by rw [eC]; exact h4))
      conv => lhs; whnf
      exact vi (wrap_add1 (by omega))
    simp at h; omega
theorem t27 (h0 : ext 49 = none) (l m : List T) (hl : l.length ≤ 9223372036854775807) (E : ∀ a ∈ l, ∀ b ∈ m, (cfg ext).Ev 37 [A a, A b] (.int .i64 (cmpV a b))) :
    (cfg ext).Ev 49 [.sl false (encL l) l.length, .sl false (encL m) m.length, .fn 37 []] (.int .i64 (cmpL l m)) := by
  refine Ev.of h0 Tryd.func49 rfl rfl ?_
  conv => whnf
  refine l27 l m hl E _ _ 0 _ rfl (by omega) (by omega) ⟨rfl, rfl, rfl, rfl, rfl, rfl, trivial⟩ rfl (fun s' e => ?_) (fun s' e0 e1 hle e => ?_)
  · conv => whnf
    rw [e]
    rfl
  · rw [St.knows [(0, _), (1, _)] _ ⟨e0, e1, trivial⟩ rfl]
    conv => whnf
    simp only [List.drop_zero] at e
    rw [e]
    refine sel_split (fun h => ?_) (fun h => ?_)
    · conv => whnf
      have : l.length < m.length := by simpa using h
      exact vi (by rw [List.drop_eq_getElem_cons this, cmpL])
    · conv => whnf
      have : m.length ≤ l.length := by simpa using h
      exact vi (by rw [List.drop_eq_nil_of_le this, cmpL])
end
end Go.Proofs.YtbekoaalaofloaaDoor.AB
end

section
open Go Go.Ab Go.Proofs Go.Vl
namespace Go.Proofs.YtbekoaalaofloaaDoor.AB
set_option maxRecDepth 100000
section
variable {ext : Exts}
/-- the externals: comparing two texts -/
def E26 (ext : Exts) : Prop := ∀ s t : ByteArray, (cfg ext).Ev 48 [.str s, .str t] (.int .i64 (Lib.compareBytes s.data.toList t.data.toList))
/-- what is none of the externals -/
def Non (ext : Exts) : Prop := ∀ f, f ≠ 48 → f ≠ 45 → ext f = none
mutual
theorem t15 (hn : Non ext) (h26 : E26 ext) : (a : T) → WfV a → (b : T) → (cfg ext).Ev 37 [A a, A b] (.int .i64 (cmpV a b))
  | ⟨k, n, t, l⟩, hw, b => by
    refine Ev.of (hn 37 (by decide) (by decide)) Tryd.func37 rfl rfl ?_
    conv => whnf
    refine sel_split (fun h => ?_) (fun h => ?_)
    · conv => whnf
      refine ⟨_, t24 (hn 60 (by decide) (by decide)) (hn 46 (by decide) (by decide)) _ _, ?_⟩
      conv => whnf
      exact vi (by rw [cmpV, if_neg (by simpa using h)]; rfl)
    conv => whnf
    have hk : k = b.f0 := by simpa using h
    have eC : cmpV ⟨k, n, t, l⟩ b = if k = 1 ∨ k = 2 then cmpI n b.f1 else if k = 3 then Lib.compareBytes t.data.toList b.f2.data.toList else if k = 4 ∨ k = 5 ∨ k = 6 then cmpL l b.f3 else 0 := by rw [cmpV, if_pos hk]
    refine sel_split (fun g1 => ?_) (fun g1 => ?_)
    · conv => whnf
      refine sel_yes g1 ?_
      conv => whnf
      have g1 : k = 1 := by simpa using g1
      refine ⟨_, t25 (hn 61 (by decide) (by decide)) (hn 47 (by decide) (by decide)) _ _, ?_⟩
      conv => whnf
      exact vi (by rw [eC, if_pos (.inl g1)]; rfl)
    have g1 : k ≠ 1 := by simpa using g1
    conv => whnf
    refine sel_split (fun g2 => ?_) (fun g2 => ?_)
    · conv => whnf
      have g2 : k = 2 := by simpa using g2
      refine ⟨_, t25 (hn 61 (by decide) (by decide)) (hn 47 (by decide) (by decide)) _ _, ?_⟩
      conv => whnf
      exact vi (by rw [eC, if_pos (.inr g2)]; rfl)
    conv => whnf
    have g2 : k ≠ 2 := by simpa using g2
    have g12 : ¬ (k = 1 ∨ k = 2) := by omega
    refine sel_split (fun g3 => ?_) (fun g3 => ?_)
    · conv => whnf
      have g3 : k = 3 := by simpa using g3
      refine ⟨_, h26 _ _, ?_⟩
      conv => whnf
      exact vi (by rw [eC, if_neg g12, if_pos g3])
    have g3 : k ≠ 3 := by simpa using g3
    have row (g : k = 4 ∨ k = 5 ∨ k = 6) : (cfg ext).Ev 49 [.sl false (encL l) l.length, .sl false (encL b.f3) b.f3.length, .fn 37 []] (.int .i64 (cmpV ⟨k, n, t, l⟩ b)) := by
      rw [eC, if_neg g12, if_neg g3, if_pos g]
      simp only [WfV] at hw
      exact t27 (hn 49 (by decide) (by decide)) l b.f3 hw.2.2.2.1 fun a ha c _ => t15L hn h26 l hw.2.2.2.2 a ha c
    conv => whnf
    refine sel_split (fun g4 => ?_) (fun g4 => ?_)
    · conv => whnf
      refine sel_yes g4 ?_
      conv => whnf
      refine ⟨_, row (.inl (by simpa using g4)), ?_⟩
      conv => whnf
    have g4 : k ≠ 4 := by simpa using g4
    conv => whnf
    refine sel_split (fun g5 => ?_) (fun g5 => ?_)
    · conv => whnf
      refine sel_yes g5 ?_
      conv => whnf
      refine ⟨_, row (.inr (.inl (by simpa using g5))), ?_⟩
      conv => whnf
    have g5 : k ≠ 5 := by simpa using g5
    conv => whnf
    refine sel_split (fun g6 => ?_) (fun g6 => ?_)
    · conv => whnf
      refine ⟨_, row (.inr (.inr (by simpa using g6))), ?_⟩
      conv => whnf
    conv => whnf
    have g6 : k ≠ 6 := by simpa using g6
    exact vi (by rw [eC, if_neg g12, if_neg g3, if_neg (by omega)])
theorem t15L (hn : Non ext) (h26 : E26 ext) : (l : List T) → WfL l → ∀ a ∈ l, ∀ b : T, (cfg ext).Ev 37 [A a, A b] (.int .i64 (cmpV a b))
  | [], _, a, ha, _ => by cases ha
  | v :: l, hw, a, ha, b => by
    simp only [WfL] at hw
    rcases List.mem_cons.1 ha with e | h
    · rw [e]; exact t15 hn h26 v hw.1 b
    · exact t15L hn h26 l hw.2 a h b
end
end
end Go.Proofs.YtbekoaalaofloaaDoor.AB
end

section
open Go Go.Ab Go.Proofs Go.Vl
namespace Go.Proofs.YtbekoaalaofloaaDoor.AB
set_option maxRecDepth 100000
set_option maxHeartbeats 1600000
section
variable {ext : Exts}
def E73 (ext : Exts) : Prop := ∀ s : ByteArray, (cfg ext).Ev 45 [.str s] (.tup [.int .i32 (decGo s).1, .int .i64 (decGo s).2])
theorem vb {a b : Bool} (h : a = b) : V.bool a = V.bool b := by rw [h]
theorem slStr {P : Program} {t : Nat} {s : ByteArray} {k : IntKind} {i : Nat} (ht : isStrT P t = true) (h : i ≤ s.size) : sliceV P t (.str s) (some (.int k i)) none none = some (.str (s.extract i s.size)) := by
  simp only [sliceV, ht, boundO, bound, Option.bind_some]
  rw [if_pos (by omega)]
  rfl
theorem l63 (h73 : E73 ext) (s : ByteArray) (Q : Ex → St → Prop) (d : Nat) :
    ∀ (p : Nat) (z : St), s.size ≤ p + d → Has z.t [(8, .ref 2 0), (0, .str s)] → Has z.hp.h [(2, some (.iter s p))] → z.hp.n = 3 →
      (∀ z', z'.t 2 = .bool false → utfGo s d p = false → Q .ret z') →
      (∀ z', utfGo s d p = true → Q (.exit 0) z') →
      Go.Ab.Loop (cfg ext) (lpOf Tryd.f36) 3 z Q := by
  induction d with
  | zero =>
    intro p z hd hz hb hn hr hq
    rw [St.knows _ _ hz hn _ hb]
    refine Loop.round ?_
    conv => whnf
    refine sel_split (fun h => ?_) (fun h => ?_)
    · simp at h; omega
    conv => whnf
    exact hq _ rfl
  | succ d ih =>
    intro p z hd hz hb hn hr hq
    rw [St.knows _ _ hz hn _ hb]
    refine Loop.round ?_
    conv => whnf
    refine sel_split (fun h => ?_) (fun h => ?_)
    · have hp : p < s.size := by simpa using h
      have hl := dec_le s p
      have next : ∀ (h : ¬ ((Utf8.decode s p).1 = 65533 ∧ (Utf8.decode s p).2 = 1)), utfGo s (d + 1) p = utfGo s d (p + (Utf8.decode s p).2) := fun h => by rw [utfGo, if_pos hp, if_neg h]
      conv => whnf
      refine sel_split (fun h2 => ?_) (fun h2 => ?_)
      · have h2 : (Utf8.decode s p).1 = 65533 := by have := eq_of_beq h2; omega
        conv => whnf
        refine ⟨_, slStr rfl (by omega : p ≤ s.size), ?_⟩
        conv => whnf
        refine ⟨_, h73 _, ?_⟩
        rw [decGo_extract s p hp]
        conv => whnf
        refine sel_split (fun h3 => ?_) (fun h3 => ?_)
        · have h3 : (Utf8.decode s p).2 = 1 := by have := eq_of_beq h3; omega
          conv => whnf
          exact hr _ rfl (by rw [utfGo, if_pos hp, if_pos ⟨h2, h3⟩])
        · have h3 : (Utf8.decode s p).2 ≠ 1 := by have := ne_of_beq_false h3; omega
          conv => whnf
          exact ih _ _ (by omega) ⟨rfl, rfl, trivial⟩ ⟨rfl, trivial⟩ rfl (fun z' h h' => hr z' h (by rw [next (fun g => h3 g.2)]; exact h')) (fun z' h' => hq z' (by rw [next (fun g => h3 g.2)]; exact h'))
      · have h2 : (Utf8.decode s p).1 ≠ 65533 := by have := ne_of_beq_false h2; omega
        conv => whnf
        exact ih _ _ (by omega) ⟨rfl, rfl, trivial⟩ ⟨rfl, trivial⟩ rfl (fun z' h h' => hr z' h (by rw [next (fun g => h2 g.1)]; exact h')) (fun z' h' => hq z' (by rw [next (fun g => h2 g.1)]; exact h'))
    · have hp : ¬ p < s.size := by simpa using h
      conv => whnf
      exact hq _ (by rw [utfGo, if_neg hp])
theorem t63 (hn : Non ext) (h73 : E73 ext) (s : ByteArray) : (cfg ext).Ev 36 [.str s] (.bool (utfB s)) := by
  refine Ev.of (hn 36 (by decide) (by decide)) Tryd.func36 rfl rfl ?_
  conv => whnf
  refine l63 h73 s _ s.size 0 _ (by omega) ⟨rfl, rfl, trivial⟩ ⟨rfl, trivial⟩ rfl (fun z h1 h2 => ?_) (fun z h => ?_)
  · conv => whnf
    rw [h1]
    exact vb h2.symm
  · conv => whnf
    exact vb h.symm
theorem l54 (s : ByteArray) (Q : Ex → St → Prop) (d : Nat) :
    ∀ (p : Nat) (c : Int) (z : St), s.size ≤ p + d → Has z.t [(4, .ref 2 0), (2, .int .i64 c)] → Has z.hp.h [(2, some (.iter s p))] → z.hp.n = 3 →
      (∀ z' c', z'.t 2 = .int .i64 c' → Q (.exit 0) z') →
      Go.Ab.Loop (cfg ext) (lpOf Tryd.f56) 3 z Q := by
  induction d with
  | zero =>
    intro p c z hd hz hb hn hq
    rw [St.knows _ _ hz hn _ hb]
    refine Loop.round ?_
    conv => whnf
    refine sel_split (fun h => ?_) (fun h => ?_)
    · simp at h; omega
    conv => whnf
    exact hq _ _ rfl
  | succ d ih =>
    intro p c z hd hz hb hn hq
    rw [St.knows _ _ hz hn _ hb]
    refine Loop.round ?_
    conv => whnf
    refine sel_split (fun h => ?_) (fun h => ?_)
    · have hl := dec_le s p
      conv => whnf
      exact ih _ _ _ (by omega) ⟨rfl, rfl, trivial⟩ ⟨rfl, trivial⟩ rfl hq
    · conv => whnf
      exact hq _ _ rfl
theorem t54 (hn : Non ext) (s : ByteArray) : ∃ c, (cfg ext).Ev 56 [.str s] (.int .i64 c) := by
  have key : ∃ r, (cfg ext).Ev 56 [.str s] r ∧ ∃ c, r = .int .i64 c := by
    refine Ev.ofE (hn 56 (by decide) (by decide)) Tryd.func56 rfl rfl ?_
    conv => whnf
    refine l54 s _ s.size 0 0 _ (by omega) ⟨rfl, rfl, trivial⟩ ⟨rfl, trivial⟩ rfl (fun z c h => ?_)
    rw [St.knows [(2, _)] _ ⟨h, trivial⟩ rfl]
    conv => whnf
    exact ⟨_, rfl⟩
  obtain ⟨r, h, c, rfl⟩ := key
  exact ⟨c, h⟩
theorem t57 (hn : Non ext) (h73 : E73 ext) (v : T) : (cfg ext).Ev 33 [A v] (.bool (decide (PlainV v.f0 v.f1 v.f2))) := by
  refine Ev.of (hn 33 (by decide) (by decide)) Tryd.func33 rfl rfl ?_
  have u := t63 hn h73 v.f2
  have no (h : ¬ PlainV v.f0 v.f1 v.f2) : V.bool false = V.bool (decide (PlainV v.f0 v.f1 v.f2)) := vb (by simp [h])
  have tx (h : (!(v.f2.toList == (⟨#[]⟩ : ByteArray).toList)) = true) (h3 : v.f0 ≠ 3) : ¬ PlainV v.f0 v.f1 v.f2 := fun g => by
    have := g.1.resolve_left h3
    rw [this] at h; simp at h
  have tx2 (h : (!(v.f2.toList == (⟨#[]⟩ : ByteArray).toList)) = false) : v.f2 = ⟨#[]⟩ := by
    have h : v.f2.toList = (⟨#[]⟩ : ByteArray).toList := by simpa using h
    rw [ByteArray.toList_eq, ByteArray.toList_eq] at h
    exact Go.WideShapes.bytes_inj h
  conv => whnf
  by_cases k3 : v.f0 = 3
  · rw [show (v.f0 != 3) = false by simp [k3]]
    conv => whnf
    rw [show (v.f0 != 2) = true by simp [k3]]
    conv => whnf
    rw [show (v.f0 != 1) = true by simp [k3]]
    conv => whnf
    cases hn : (v.f1 != 0) with
    | true =>
      conv => whnf
      exact no fun g => by have := g.2.1; simp at hn; omega
    | false =>
      conv => whnf
      rw [show (v.f0 == 1) = false by simp [k3]]
      conv => whnf
      rw [show (v.f0 == 3) = true by simp [k3]]
      conv => whnf
      have hn : v.f1 = 0 := by simpa using hn
      refine sel_split (fun hz => ?_) (fun hz => ?_)
      · conv => whnf
        refine sel_yes hz ?_
        conv => whnf
        refine sel_yes hz ?_
        conv => whnf
        refine ⟨_, u, ?_⟩
        conv => whnf
        have hz' : decide ((v.f2.size : Int) ≤ 256) = true := by simpa using hz
        refine sel_yes hz' ?_
        conv => whnf
        refine vb ?_
        have hz : v.f2.size ≤ 256 := by simp at hz'; omega
        have : PlainV v.f0 v.f1 v.f2 ↔ utfB v.f2 = true := by
          unfold PlainV
          rw [if_neg (show ¬ v.f0 = 1 by omega), if_pos k3]
          exact ⟨fun h => h.2.2.2, fun h => ⟨.inl k3, .inr (.inr hn), hz, h⟩⟩
        rw [Bool.eq_iff_iff, decide_eq_true_iff]; exact this.symm
      · conv => whnf
        refine sel_no hz ?_
        conv => whnf
        refine sel_no hz ?_
        conv => whnf
        have hz' : decide ((v.f2.size : Int) ≤ 256) = false := by simpa using hz
        refine sel_no hz' ?_
        conv => whnf
        exact no fun g => by have := g.2.2; rw [if_neg (by omega), if_pos k3] at this; simp at hz'; omega
  · rw [show (v.f0 != 3) = true by simp [k3]]
    conv => whnf
    cases ht : (!(v.f2.toList == (⟨#[]⟩ : ByteArray).toList)) with
    | true => 
      conv => whnf
      exact no (tx ht k3)
    | false => 
      have ht := tx2 ht
      conv => whnf
      by_cases k2 : v.f0 = 2
      · rw [show (v.f0 != 2) = false by simp [k2]]
        conv => whnf
        rw [show (v.f0 == 1) = false by simp [k2]]
        conv => whnf
        rw [show (v.f0 == 3) = false by simp [k2]]
        conv => whnf
        have h0 : (decide (v.f0 ≥ 0) == true) = true := by simp [k2]
        refine sel_yes h0 ?_
        conv => whnf
        refine sel_yes h0 ?_
        conv => whnf
        refine sel_yes h0 ?_
        conv => whnf
        refine sel_yes (show decide (v.f0 ≥ 0) = true by simp [k2]) ?_
        conv => whnf
        refine vb ?_
        rw [decide_eq_true (show v.f0 ≤ 6 by omega), decide_eq_true]
        exact ⟨.inr ht, .inr (.inl k2), by rw [if_neg (by omega), if_neg (by omega)]; omega⟩
      · rw [show (v.f0 != 2) = true by simp [k2]]
        conv => whnf
        by_cases k1 : v.f0 = 1
        · rw [show (v.f0 != 1) = false by simp [k1]]
          conv => whnf
          rw [show (v.f0 == 1) = true by simp [k1]]
          conv => whnf
          have pl : PlainV v.f0 v.f1 v.f2 ↔ v.f1 = 0 ∨ v.f1 = 1 := by
            unfold PlainV
            rw [if_pos k1]
            exact ⟨fun h => h.2.2, fun h => ⟨.inr ht, .inl k1, h⟩⟩
          cases hz : (v.f1 == 0) with
          | true =>
            conv => whnf
            have : v.f1 = 0 := by simpa using hz
            exact vb (by rw [decide_eq_true (pl.2 (.inl this))])
          | false =>
            conv => whnf
            have : v.f1 ≠ 0 := by simpa using hz
            refine vb ?_
            rw [Bool.eq_iff_iff, decide_eq_true_iff, pl]
            exact ⟨fun h => .inr (by simpa using h), fun h => by simpa using h.resolve_left this⟩
        · rw [show (v.f0 != 1) = true by simp [k1]]
          conv => whnf
          cases hn : (v.f1 != 0) with
          | true =>
            conv => whnf
            exact no fun g => by have := g.2.1; simp at hn; omega
          | false =>
            conv => whnf
            rw [show (v.f0 == 1) = false by simp [k1]]
            conv => whnf
            rw [show (v.f0 == 3) = false by simp [k3]]
            conv => whnf
            have hn : v.f1 = 0 := by simpa using hn
            have pl : PlainV v.f0 v.f1 v.f2 ↔ 0 ≤ v.f0 ∧ v.f0 ≤ 6 := by
              unfold PlainV
              rw [if_neg k1, if_neg k3]
              exact ⟨fun h => h.2.2, fun h => ⟨.inr ht, .inr (.inr hn), h⟩⟩
            refine sel_split (fun h0 => ?_) (fun h0 => ?_)
            · conv => whnf
              refine sel_yes h0 ?_
              conv => whnf
              refine sel_yes h0 ?_
              conv => whnf
              have h0 : decide (v.f0 ≥ 0) = true := by simpa using h0
              refine sel_yes h0 ?_
              conv => whnf
              refine vb ?_
              have h0 : 0 ≤ v.f0 := by simpa using h0
              rw [Bool.eq_iff_iff, decide_eq_true_iff, decide_eq_true_iff, pl]
              exact ⟨fun h => ⟨h0, h⟩, fun h => h.2⟩
            · conv => whnf
              refine sel_no h0 ?_
              conv => whnf
              refine sel_no h0 ?_
              conv => whnf
              have h0 : decide (v.f0 ≥ 0) = false := by simpa using h0
              refine sel_no h0 ?_
              conv => whnf
              exact no fun g => by have := (pl.1 g).1; simp at h0; omega
end
end Go.Proofs.YtbekoaalaofloaaDoor.AB
end

section
open Go Go.Ab Go.Proofs Go.Vl
namespace Go.Proofs.YtbekoaalaofloaaDoor.AB
set_option maxRecDepth 100000
set_option maxHeartbeats 1600000
section
variable {ext : Exts}
theorem wrapN {k : Int} {i : Nat} (e : k = i) (h : i ≤ 9223372036854775807) : IntKind.i64.wrap k = (i : Int) := by
  rw [IntKind.wrap_i64]; omega
def cellsV (v : T) : List V := [.int .i64 v.f0, .int .i64 v.f1, .str v.f2, .sl false (encL v.f3) v.f3.length]
theorem l58 (v : T) (hl : v.f3.length ≤ 4611686018427387904) (E : ∀ a ∈ v.f3, ∀ b, (cfg ext).Ev 37 [A a, A b] (.int .i64 (cmpV a b))) (st : Nat) (hs : st = 1 ∨ st = 2) (M : Nat) (Q : Ex → St → Prop) (d : Nat) :
    ∀ (i : Nat) (z : St), v.f3.length - i ≤ d → st ≤ i → i % st = 0 → i ≤ v.f3.length + 2 → Has z.t [(1, .ref 0 0), (3, .int .i64 st), (4, .int .i64 i)] → Has z.hp.h [(0, some (.cells (cellsV v) false))] → z.hp.n = M + 1 →
      (∀ z', z'.t 2 = .bool false → (¬ ∀ j : Nat, i ≤ j + st → j % st = 0 → ∀ (h : j + st < v.f3.length), cmpV (v.f3[j]'(by omega)) (v.f3[j + st]) < 0) → Q .ret z') →
      (∀ z', (∀ j : Nat, i ≤ j + st → j % st = 0 → ∀ (h : j + st < v.f3.length), cmpV (v.f3[j]'(by omega)) (v.f3[j + st]) < 0) → Q (.exit 1) z') →
      Go.Ab.Loop (cfg ext) (lpOf Tryd.f34) (M + 1) z Q := by
  have stop : ∀ (i : Nat) (z : St), v.f3.length ≤ i → Has z.t [(1, .ref 0 0), (3, .int .i64 st), (4, .int .i64 i)] → Has z.hp.h [(0, some (.cells (cellsV v) false))] → z.hp.n = M + 1 →
      (∀ z', (∀ j : Nat, i ≤ j + st → j % st = 0 → ∀ (h : j + st < v.f3.length), cmpV (v.f3[j]'(by omega)) (v.f3[j + st]) < 0) → Q (.exit 1) z') →
      Go.Ab.Loop (cfg ext) (lpOf Tryd.f34) (M + 1) z Q := by
    intro i z hi hz hb hn hq
    rw [St.knows _ _ hz hn _ hb]
    refine Loop.round ?_
    conv => whnf
    refine sel_split (fun h => ?_) (fun h => ?_)
    · simp at h; omega
    conv => whnf
    exact hq _ (by intro j h1 _ h2; omega)
  induction d with
  | zero => intro i z hd _ _ _ hz hb hn _ hq; exact stop i z (by omega) hz hb hn hq
  | succ d ih =>
    intro i z hd hi hm hi2 hz hb hn hr hq
    by_cases hlt : i < v.f3.length
    · rw [St.knows _ _ hz hn _ hb]
      refine Loop.round ?_
      conv => whnf
      refine sel_split (fun h => ?_) (fun h => ?_)
      · have e1 : IntKind.i64.wrap ((i : Int) - (st : Int)) = ((i - st : Nat) : Int) := wrapN (by omega) (by omega)
        have e2 : IntKind.i64.wrap ((i : Int) + (st : Int)) = ((i + st : Nat) : Int) := wrapN (by omega) (by omega)
        conv => whnf
        rw [e1]
        refine ⟨⟨by omega, by omega⟩, ?_⟩
        conv => whnf
        refine ldA (i := i - st) (by omega) ?_
        conv => whnf
        refine ⟨⟨by omega, by omega⟩, ?_⟩
        conv => whnf
        refine ldA (i := i) (by omega) ?_
        conv => whnf
        refine ⟨_, E _ (List.getElem_mem _) _, ?_⟩
        conv => whnf
        refine sel_split (fun h3 => ?_) (fun h3 => ?_)
        · conv => whnf
          refine hr _ rfl ?_
          intro h
          have e3 : i - st + st = i := by omega
          have := h (i - st) (by omega) (by rcases hs with rfl | rfl <;> omega) (by omega)
          simp only [e3] at this
          simp at h3
          omega
        · conv => whnf
          have hc : cmpV (v.f3[i - st]'(by omega)) (v.f3[i]) < 0 := by simp at h3; omega
          have both : (∀ j : Nat, i + st ≤ j + st → j % st = 0 → ∀ (h : j + st < v.f3.length), cmpV (v.f3[j]'(by omega)) (v.f3[j + st]) < 0) ↔ (∀ j : Nat, i ≤ j + st → j % st = 0 → ∀ (h : j + st < v.f3.length), cmpV (v.f3[j]'(by omega)) (v.f3[j + st]) < 0) := by
            constructor
            · intro h j hj hjm hjl
              by_cases e : i + st ≤ j + st
              · exact h j e hjm hjl
              · have : j = i - st := by rcases hs with rfl | rfl <;> omega
                subst this
                have e3 : i - st + st = i := by omega
                simp only [e3]
                exact hc
            · intro h j hj hjm hjl
              exact h j (by omega) hjm hjl
          refine ih (i + st) _ (by omega) (by omega) (by rcases hs with rfl | rfl <;> omega) (by omega) ⟨rfl, rfl, ?_, trivial⟩ ⟨rfl, trivial⟩ rfl (fun z' h1 h2 => hr z' h1 (fun g => h2 (both.2 g))) (fun z' h1 => hq z' (both.1 h1))
          conv => lhs; whnf
          exact vi e2
      · simp at h; omega
    · exact stop i z (by omega) hz hb hn hq
noncomputable def formB (k : Int) (l : List T) : Bool := @decide (FormV k l) (Classical.propDecidable _)
theorem formB_iff {k : Int} {l : List T} : formB k l = true ↔ FormV k l := by unfold formB; exact @decide_eq_true_iff _ (Classical.propDecidable _)
theorem formB_t {k : Int} {l : List T} (h : FormV k l) : V.bool true = V.bool (formB k l) := vb (formB_iff.2 h).symm
theorem formB_f {k : Int} {l : List T} (h : ¬ FormV k l) : V.bool false = V.bool (formB k l) := vb (by cases e : formB k l with | true => exact absurd (formB_iff.1 e) h | false => rfl)
theorem t58 (hn : Non ext) (v : T) (hl : v.f3.length ≤ 4611686018427387904) (E : ∀ a ∈ v.f3, ∀ b, (cfg ext).Ev 37 [A a, A b] (.int .i64 (cmpV a b))) : (cfg ext).Ev 34 [A v] (.bool (formB v.f0 v.f3)) := by
  refine Ev.of (hn 34 (by decide) (by decide)) Tryd.func34 rfl rfl ?_
  conv => whnf
  refine sel_split (fun c4 => ?_) (fun c4 => ?_)
  · conv => whnf
    have c4 : v.f0 = 4 := by simpa using c4
    exact formB_t (by unfold FormV; rw [if_pos c4]; trivial)
  conv => whnf
  have c4 : v.f0 ≠ 4 := by simpa using c4
  refine sel_split (fun c6 => ?_) (fun c6 => ?_)
  · conv => whnf
    have c6 : v.f0 = 6 := by simpa using c6
    refine ⟨rfl, by decide, ?_⟩
    conv => whnf
    refine sel_split (fun ho => ?_) (fun ho => ?_)
    · conv => whnf
      refine formB_f ?_
      unfold FormV
      rw [if_neg c4, if_pos c6]
      have ho : ((v.f3.length : Int).tmod 2) = 1 := by simpa using ho
      rw [Int.tmod_eq_emod_of_nonneg (by omega)] at ho
      omega
    · conv => whnf
      have ho : v.f3.length % 2 = 0 := by
        have ho : ((v.f3.length : Int).tmod 2) ≠ 1 := by simpa using ho
        rw [Int.tmod_eq_emod_of_nonneg (by omega)] at ho
        omega
      refine l58 v hl E 2 (.inr rfl) _ _ v.f3.length 2 _ (by omega) (by omega) (by omega) (by omega) ⟨rfl, rfl, rfl, trivial⟩ ⟨rfl, trivial⟩ rfl (fun z h1 h2 => ?_) (fun z h => ?_)
      · conv => whnf
        rw [h1]
        refine formB_f ?_
        unfold FormV
        rw [if_neg c4, if_pos c6]
        exact fun h => h2 fun j _ hj hh => h.2 j hj hh
      · conv => whnf
        refine formB_t ?_
        unfold FormV
        rw [if_neg c4, if_pos c6]
        exact ⟨ho, fun j hj hh => h j (by omega) hj hh⟩
  conv => whnf
  have c6 : v.f0 ≠ 6 := by simpa using c6
  refine sel_split (fun c5 => ?_) (fun c5 => ?_)
  · conv => whnf
    have c5 : v.f0 = 5 := by simpa using c5
    refine l58 v hl E 1 (.inl rfl) _ _ v.f3.length 1 _ (by omega) (by omega) (by omega) (by omega) ⟨rfl, rfl, rfl, trivial⟩ ⟨rfl, trivial⟩ rfl (fun z h1 h2 => ?_) (fun z h => ?_)
    · conv => whnf
      rw [h1]
      refine formB_f ?_
      unfold FormV
      rw [if_neg c4, if_neg c6, if_pos c5]
      exact fun h => h2 fun j _ hj hh => h j hj hh
    · conv => whnf
      refine formB_t ?_
      unfold FormV
      rw [if_neg c4, if_neg c6, if_pos c5]
      exact fun j hj hh => h j (by omega) hj hh
  · conv => whnf
    have c5 : v.f0 ≠ 5 := by simpa using c5
    refine vb ?_
    rw [Bool.eq_iff_iff, formB_iff, beq_iff_eq]
    unfold FormV
    rw [if_neg c4, if_neg c6, if_neg c5]
    constructor
    · intro h; exact List.eq_nil_of_length_eq_zero (by omega)
    · intro h; rw [h]; rfl
end
end Go.Proofs.YtbekoaalaofloaaDoor.AB
end

section
open Go Go.Ab Go.Proofs Go.Vl
namespace Go.Proofs.YtbekoaalaofloaaDoor.AB
set_option maxRecDepth 100000
set_option maxHeartbeats 1600000
section
variable {ext : Exts}
def CntE (ext : Exts) (a : T) : Prop := ∀ a1 a2 : Int, 0 ≤ a1 → a1 ≤ 65536 → -1048576 ≤ a2 → a2 ≤ 1048576 → (cfg ext).Ev 31 [A a, .int .i64 a1, .int .i64 a2] (.int .i64 (cntZ a a1 a2))
def k44 (l : List T) (a1 a2 x7 : Int) (i : Nat) : List (Nat × V) := [(38, .int .i64 i), (37, .int .i64 l.length), (36, .sl false (encL l) l.length), (1, .int .i64 a1), (2, .int .i64 a2), (7, .int .i64 x7), (3, .ref 0 0)]
theorem l44 (v : T) (E : ∀ a ∈ v.f3, CntE ext a) (a1 a2 : Int) (h0 : 0 ≤ a1) (h1 : v.f3 ≠ [] → 1 ≤ a1) (h2 : a1 ≤ 65536) (h3 : a2 ≤ 1048576) (hl : v.f3.length ≤ 1048576) (Q : Ex → St → Prop) (d : Nat) :
    ∀ (i : Nat) (x7 : Int) (z : St), v.f3.length - i = d → i ≤ v.f3.length → 1 ≤ x7 → x7 ≤ a2 → Has z.t (k44 v.f3 a1 a2 x7 i) → Has z.hp.h [(0, some (.cells (cellsV v) false))] → z.hp.n = 31 →
      (∀ z', z'.t 6 = .int .i64 0 → cntL v.f0 v.f3 (v.f3.drop i) x7 a1 a2 = 0 → Q .ret z') →
      (∀ z' x, Has z'.t [(3, .ref 0 0), (7, .int .i64 x)] → Has z'.hp.h [(0, some (.cells (cellsV v) false))] → z'.hp.n = 32 → cntL v.f0 v.f3 (v.f3.drop i) x7 a1 a2 = cntL v.f0 v.f3 [] x a1 a2 → x ≤ a2 → Q (.exit 0) z') →
      Go.Ab.Loop (cfg ext) (lpOf Tryd.f31) (31) z Q := by
  induction d with
  | zero =>
    intro i x7 z hd hi hx hxa hz hb hn hr hq
    obtain rfl : i = v.f3.length := by omega
    rw [St.knows _ _ hz hn _ hb]
    refine Loop.round ?_
    conv => whnf
    refine sel_split (fun h => ?_) (fun h => ?_)
    · simp at h
    conv => whnf
    exact hq _ x7 ⟨rfl, rfl, trivial⟩ ⟨rfl, trivial⟩ rfl (by rw [List.drop_length]) hxa
  | succ d ih =>
    intro i x7 z hd hi hx hxa hz hb hn hr hq
    have hlt : i < v.f3.length := by omega
    have ha1 := h1 (fun e => by rw [e] at hlt; simp at hlt)
    have e1 : IntKind.i64.wrap (a1 - 1) = a1 - 1 := by rw [IntKind.wrap_i64]; omega
    have e2 : IntKind.i64.wrap (a2 - x7) = a2 - x7 := by rw [IntKind.wrap_i64]; omega
    have hr' := E _ (List.getElem_mem hlt) (a1 - 1) (a2 - x7) (by omega) (by omega) (by omega) (by omega)
    have hp := partsV_pos v.f3[i]
    have hdrop := List.drop_eq_getElem_cons hlt
    rw [St.knows _ _ hz hn _ hb]
    refine Loop.round ?_
    conv => whnf
    refine sel_split (fun h => ?_) (fun h => ?_)
    · conv => whnf
      refine ⟨⟨by omega, by omega⟩, ?_⟩
      conv => whnf
      refine ldA (i := i) hlt ?_
      conv => whnf
      rw [e1, e2]
      refine ⟨_, hr', ?_⟩
      conv => whnf
      refine sel_split (fun hz => ?_) (fun hz => ?_)
      · conv => whnf
        have hz : cntZ v.f3[i] (a1 - 1) (a2 - x7) = 0 := by simpa using hz
        refine hr _ rfl ?_
        unfold cntL
        rw [hdrop]
        refine if_neg (fun g => ?_)
        simp only [OkL, deepL, partsL] at g
        have : cntZ v.f3[i] (a1 - 1) (a2 - x7) = (partsV v.f3[i] : Int) := if_pos ⟨g.2.1.1, by omega, by omega⟩
        omega
      · conv => whnf
        have hz' : cntZ v.f3[i] (a1 - 1) (a2 - x7) ≠ 0 := by simpa using hz
        have hz : OkV v.f3[i] ∧ (deepV v.f3[i] : Int) ≤ a1 - 1 ∧ (partsV v.f3[i] : Int) ≤ a2 - x7 := by
          by_cases g : OkV v.f3[i] ∧ (deepV v.f3[i] : Int) ≤ a1 - 1 ∧ (partsV v.f3[i] : Int) ≤ a2 - x7
          · exact g
          · exact absurd (if_neg g) hz'
        have hc : cntZ v.f3[i] (a1 - 1) (a2 - x7) = (partsV v.f3[i] : Int) := if_pos hz
        have e4 : IntKind.i64.wrap (x7 + (partsV v.f3[i] : Int)) = x7 + (partsV v.f3[i] : Int) := by rw [IntKind.wrap_i64]; omega
        have hk : cntL v.f0 v.f3 (v.f3.drop i) x7 a1 a2 = cntL v.f0 v.f3 (v.f3.drop (i + 1)) (x7 + (partsV v.f3[i] : Int)) a1 a2 := by
          unfold cntL
          rw [hdrop]
          refine ite_zero ⟨fun g => ?_, fun g => ?_⟩ (fun g => ?_)
          · simp only [OkL, deepL, partsL] at g
            exact ⟨g.1, g.2.1.2, by omega, by omega⟩
          · simp only [OkL, deepL, partsL]
            exact ⟨g.1, ⟨hz.1, g.2.1⟩, by omega, by omega⟩
          · simp only [partsL]
            omega
        rw [hk] at hr hq
        refine ih (i + 1) (x7 + (partsV v.f3[i] : Int)) _ (by omega) (by omega) (by omega) (by omega) ⟨?_, rfl, rfl, rfl, rfl, ?_, rfl, trivial⟩ ⟨rfl, trivial⟩ rfl hr hq
        · conv => lhs; whnf
          exact vi (wrap_add1 (by omega))
        · conv => lhs; whnf
          exact vi (by rw [hc]; exact e4)
    · simp at h; omega
theorem okV_eq (v : T) : OkV v = (PlainV v.f0 v.f1 v.f2 ∧ FormV v.f0 v.f3 ∧ OkL v.f3) := by cases v; simp only [OkV]
theorem deepV_eq (v : T) : deepV v = deepL v.f3 := by cases v; simp only [deepV]
theorem partsV_eq (v : T) : partsV v = 1 + partsL v.f3 := by cases v; simp only [partsV]
theorem t44_one (hn : Non ext) (h73 : E73 ext) (v : T) (E : ∀ a ∈ v.f3, CntE ext a) (E15 : ∀ a ∈ v.f3, ∀ b, (cfg ext).Ev 37 [A a, A b] (.int .i64 (cmpV a b))) : CntE ext v := by
  intro a1 a2 h0 h1 h2 h3
  refine Ev.of (hn 31 (by decide) (by decide)) Tryd.func31 rfl rfl ?_
  have hpl := partsL_len v.f3
  have pl := t57 hn h73 v
  have zero (h : ¬ (PlainV v.f0 v.f1 v.f2 ∧ (deepL v.f3 : Int) ≤ a1 ∧ ((1 + partsL v.f3 : Nat) : Int) ≤ a2)) : V.int .i64 0 = .int .i64 (cntZ v a1 a2) := by
    refine vi (if_neg fun g => h ?_).symm
    rw [okV_eq, deepV_eq, partsV_eq] at g
    exact ⟨g.1.1, g.2.1, g.2.2⟩
  have hk (hp : PlainV v.f0 v.f1 v.f2) : cntZ v a1 a2 = cntL v.f0 v.f3 (v.f3.drop 0) 1 a1 a2 := by
    unfold cntZ cntL
    rw [List.drop_zero]
    rw [deepV_eq, partsV_eq]
    refine ite_zero ⟨fun g => ?_, fun g => ?_⟩ (fun g => ?_)
    · rw [okV_eq] at g
      exact ⟨g.1.2.1, g.1.2.2, g.2.1, by omega⟩
    · rw [okV_eq]
      exact ⟨⟨hp, g.1, g.2.1⟩, g.2.2.1, by omega⟩
    · omega
  conv => whnf
  by_cases c1 : a2 < 1
  · have g : (decide (a2 < 1) == false) = false := by simp [c1]
    refine sel_no g ?_
    conv => whnf
    refine sel_no g ?_
    conv => whnf
    refine sel_no g ?_
    conv => whnf
    refine sel_no g ?_
    conv => whnf
    refine sel_no g ?_
    conv => whnf
    refine sel_yes (decide_eq_true c1) ?_
    conv => whnf
    exact zero fun g => by omega
  have hn1 : a2 ≥ 1 := by omega
  have g1 : (decide (a2 < 1) == false) = true := by simp; omega
  refine sel_yes g1 ?_
  conv => whnf
  refine sel_yes g1 ?_
  conv => whnf
  refine sel_yes g1 ?_
  conv => whnf
  refine sel_yes g1 ?_
  conv => whnf
  refine sel_yes g1 ?_
  conv => whnf
  refine sel_no (decide_eq_false c1) ?_
  conv => whnf
  by_cases c5 : (v.f3.length : Int) ≥ a2
  · have g : (decide ((v.f3.length : Int) ≥ a2) == false) = false := by simp; omega
    refine sel_no g ?_
    conv => whnf
    refine sel_no g ?_
    conv => whnf
    refine sel_no g ?_
    conv => whnf
    refine sel_no g ?_
    conv => whnf
    refine sel_no g ?_
    conv => whnf
    refine sel_no g ?_
    conv => whnf
    refine sel_yes (decide_eq_true c5) ?_
    conv => whnf
    exact zero fun g => by omega
  have g5 : (decide ((v.f3.length : Int) ≥ a2) == false) = true := by simp; omega
  have fo := t58 hn v (by omega) E15
  refine sel_yes g5 ?_
  conv => whnf
  refine sel_yes g5 ?_
  conv => whnf
  refine sel_yes g5 ?_
  conv => whnf
  refine sel_yes g5 ?_
  conv => whnf
  refine sel_yes g5 ?_
  conv => whnf
  by_cases c2 : (v.f3.length : Int) > 0
  · have g : (decide ((v.f3.length : Int) > 0) == true) = true := by simpa using c2
    refine sel_yes g ?_
    conv => whnf
    refine sel_yes g ?_
    conv => whnf
    refine sel_yes g5 ?_
    conv => whnf
    refine sel_yes (decide_eq_true c2) ?_
    conv => whnf
    refine sel_no (decide_eq_false c5) ?_
    conv => whnf
    by_cases c0 : a1 = 0
    · have g0 : ((a1 == 0) == false) = false := by simp [c0]
      refine sel_no g0 ?_
      conv => whnf
      refine sel_no g0 ?_
      conv => whnf
      refine sel_no g0 ?_
      conv => whnf
      refine sel_yes (by simp [c0]) ?_
      conv => whnf
      refine zero fun g => ?_
      have : ∃ x m, v.f3 = x :: m := List.exists_cons_of_ne_nil (fun e => by rw [e] at c2; simp at c2)
      obtain ⟨x, m, e⟩ := this
      have := g.2.1
      rw [e] at this
      simp only [deepL] at this
      omega
    · have g0 : ((a1 == 0) == false) = true := by simp [c0]
      have hne : v.f3 ≠ [] → 1 ≤ a1 := fun _ => by omega
      refine sel_yes g0 ?_
      conv => whnf
      refine sel_yes g0 ?_
      conv => whnf
      refine ⟨_, pl, ?_⟩
      conv => whnf
      refine sel_yes g0 ?_
      conv => whnf
      refine sel_no (by simpa using c0) ?_
      conv => whnf
      cases hp : decide (PlainV v.f0 v.f1 v.f2) with
      | false =>
        conv => whnf
        exact zero fun g => absurd g.1 (of_decide_eq_false hp)
      | true =>
        have hp : PlainV v.f0 v.f1 v.f2 := of_decide_eq_true hp
        conv => whnf
        refine l44 v E a1 a2 h0 hne h1 h3 (by omega) _ v.f3.length 0 1 _ (by omega) (by omega) (by omega) (by omega) ⟨rfl, rfl, rfl, rfl, rfl, rfl, rfl, trivial⟩ ⟨rfl, trivial⟩ rfl (fun z e1 e2 => ?_) (fun z x e1 e2 e3 e4 e5 => ?_)
        · conv => whnf
          rw [e1]
          exact vi (by rw [hk hp, e2])
        · rw [St.knows _ _ e1 e3 _ e2]
          conv => whnf
          refine ⟨_, fo, ?_⟩
          conv => whnf
          cases hf : formB v.f0 v.f3 with
          | false =>
            conv => whnf
            refine vi ?_
            rw [hk hp, e4]
            exact (if_neg fun g => by rw [formB_iff.2 g.1] at hf; cases hf).symm
          | true =>
            conv => whnf
            refine vi ?_
            rw [hk hp, e4]
            unfold cntL
            rw [if_pos ⟨formB_iff.1 hf, by simp only [OkL], by simp only [deepL]; omega, by simp only [partsL]; omega⟩]
            simp only [partsL]; omega
  · have g : (decide ((v.f3.length : Int) > 0) == true) = false := by simpa using c2
    refine sel_no g ?_
    conv => whnf
    refine sel_no g ?_
    conv => whnf
    refine sel_yes g5 ?_
    conv => whnf
    refine sel_no (decide_eq_false c2) ?_
    conv => whnf
    refine sel_no (decide_eq_false c5) ?_
    conv => whnf
    have hne : v.f3 ≠ [] → 1 ≤ a1 := fun h => by
      have : v.f3.length ≠ 0 := fun e => h (List.eq_nil_of_length_eq_zero e)
      omega
    refine ⟨_, pl, ?_⟩
    conv => whnf
    cases hp : decide (PlainV v.f0 v.f1 v.f2) with
    | false =>
      conv => whnf
      exact zero fun g => absurd g.1 (of_decide_eq_false hp)
    | true =>
      have hp : PlainV v.f0 v.f1 v.f2 := of_decide_eq_true hp
      conv => whnf
      refine l44 v E a1 a2 h0 hne h1 h3 (by omega) _ v.f3.length 0 1 _ (by omega) (by omega) (by omega) (by omega) ⟨rfl, rfl, rfl, rfl, rfl, rfl, rfl, trivial⟩ ⟨rfl, trivial⟩ rfl (fun z e1 e2 => ?_) (fun z x e1 e2 e3 e4 e5 => ?_)
      · conv => whnf
        rw [e1]
        exact vi (by rw [hk hp, e2])
      · rw [St.knows _ _ e1 e3 _ e2]
        conv => whnf
        refine ⟨_, fo, ?_⟩
        conv => whnf
        cases hf : formB v.f0 v.f3 with
        | false =>
          conv => whnf
          refine vi ?_
          rw [hk hp, e4]
          exact (if_neg fun g => by rw [formB_iff.2 g.1] at hf; cases hf).symm
        | true =>
          conv => whnf
          refine vi ?_
          rw [hk hp, e4]
          unfold cntL
          rw [if_pos ⟨formB_iff.1 hf, by simp only [OkL], by simp only [deepL]; omega, by simp only [partsL]; omega⟩]
          simp only [partsL]; omega
mutual
theorem t44 (hn : Non ext) (h26 : E26 ext) (h73 : E73 ext) : (v : T) → WfV v → CntE ext v
  | ⟨k, n, t, l⟩, h => by
    simp only [WfV] at h
    exact t44_one hn h73 ⟨k, n, t, l⟩ (t44L hn h26 h73 l h.2.2.2.2) (t15L hn h26 l h.2.2.2.2)
theorem t44L (hn : Non ext) (h26 : E26 ext) (h73 : E73 ext) : (l : List T) → WfL l → ∀ a ∈ l, CntE ext a
  | [], _, a, ha => by cases ha
  | v :: l, hw, a, ha => by
    simp only [WfL] at hw
    rcases List.mem_cons.1 ha with e | h
    · rw [e]; exact t44 hn h26 h73 v hw.1
    · exact t44L hn h26 h73 l hw.2 a h
end
noncomputable def okB (v : T) : Bool := @decide (OK v) (Classical.propDecidable _)
theorem okB_iff {v : T} : okB v = true ↔ OK v := by unfold okB; exact @decide_eq_true_iff _ (Classical.propDecidable _)
theorem cnt_ok (v : T) : (cntZ v 16 1024 > 0) = OK v := by
  have := partsV_pos v
  apply propext
  unfold cntZ
  by_cases hh : OkV v ∧ (deepV v : Int) ≤ 16 ∧ (partsV v : Int) ≤ 1024
  · rw [if_pos hh]; exact ⟨fun _ => ⟨hh.1, by omega, by omega⟩, fun _ => by omega⟩
  · rw [if_neg hh]; exact ⟨fun h => by omega, fun g => absurd ⟨g.1, by have := g.2.1; omega, by have := g.2.2; omega⟩ hh⟩
theorem t32 (hn : Non ext) (h26 : E26 ext) (h73 : E73 ext) (v : T) (hw : WfV v) : (cfg ext).Ev 29 [A v] (.bool (okB v)) := by
  refine Ev.of (hn 29 (by decide) (by decide)) Tryd.func29 rfl rfl ?_
  conv => whnf
  refine ⟨_, t44 hn h26 h73 v hw 16 1024 (by omega) (by omega) (by omega) (by omega), ?_⟩
  conv => whnf
  refine vb ?_
  rw [Bool.eq_iff_iff, decide_eq_true_iff, cnt_ok, okB_iff]
theorem t22 (hn : Non ext) (h26 : E26 ext) (h73 : E73 ext) (v : T) (hw : WfV v) : (cfg ext).Ev 22 [A v] (.int .i64 (if okB v = true then 0 else 3)) := by
  refine Ev.of (hn 22 (by decide) (by decide)) Tryd.func22 rfl rfl ?_
  conv => whnf
  refine ⟨_, t32 hn h26 h73 v hw, ?_⟩
  conv => whnf
  cases okB v <;> rfl
theorem t53 (hn : Non ext) (h26 : E26 ext) (h73 : E73 ext) (v : T) (hw : WfV v) : ∃ e, (cfg ext).Ev 55 [A v] (.tup [.int .i64 (cntZ v 16 1024), .int .i64 e]) := by
  have c := t44 hn h26 h73 v hw 16 1024 (by omega) (by omega) (by omega) (by omega)
  by_cases h : cntZ v 16 1024 = 0
  · refine ⟨3, Ev.of (hn 55 (by decide) (by decide)) Tryd.func55 rfl rfl ?_⟩
    conv => whnf
    refine ⟨_, c, ?_⟩
    conv => whnf
    refine sel_yes (by simpa using h) ?_
    conv => whnf
    rw [h]
  · refine ⟨0, Ev.of (hn 55 (by decide) (by decide)) Tryd.func55 rfl rfl ?_⟩
    conv => whnf
    refine ⟨_, c, ?_⟩
    conv => whnf
    refine sel_no (by simpa using h) ?_
    conv => whnf
end
end Go.Proofs.YtbekoaalaofloaaDoor.AB
end

section
open Go Go.Ab Go.Proofs Go.Vl
namespace Go.Ab
/-- a slice that grows: nothing yet, or an array of the call's own -/
def Acc (a : Nat → Option Arr) (m : Nat) (s : V) (xs : List V) : Prop := (s = .sl true [] 0 ∧ xs = []) ∨ ∃ b v, b < m ∧ s = .rsl false b v 0 xs.length ∧ a b = some ⟨v, 1, xs, none, 0⟩
theorem Acc.upd {a : Nat → Option Arr} {m k : Nat} {s : V} {xs : List V} {x : Option Arr} (h : Acc a m s xs) (hk : m ≤ k) : Acc (Go.Ab.upd a k x) m s xs := by
  rcases h with h | ⟨b, v, hb, e, ha⟩
  · exact .inl h
  · exact .inr ⟨b, v, hb, e, by unfold Go.Ab.upd; rw [if_neg (by omega)]; exact ha⟩
theorem upd_self {α : Type} (f : Nat → α) (i : Nat) (x : α) : upd f i x i = x := by unfold upd; rw [if_pos rfl]
theorem Acc.trunc {a : Nat → Option Arr} {m n : Nat} {s : V} {k : IntKind} {l : List Int} (h : Acc a m s (l.map (.int k))) : Acc (fun b => match a b with | some A => some { A with cs := A.cs.map (cleanV n) } | none => none) m (cleanV n s) (l.map (.int k)) := by
  rcases h with ⟨rfl, h⟩ | ⟨b, v, hb, rfl, ha⟩
  · exact .inl ⟨rfl, h⟩
  · refine .inr ⟨b, v, hb, rfl, ?_⟩
    show (match a b with | some A => some { A with cs := A.cs.map (cleanV n) } | none => none) = _
    rw [ha]
    simp only [List.map_map, Option.some.injEq, Arr.mk.injEq, true_and, and_true]
    exact List.map_congr_left fun _ _ => rfl
theorem opt_app {bytes : Nat} {hp : Hp} {ida m M bx ro : Nat} {c : Bool} {cp : Option Nat} {s val : V} {xs : List V} {Q : V → Hp → Prop} (h1 : Acc hp.a m s xs) (h2 : hp.a bx = some ⟨0, 1, [val], cp, ro⟩) (hb : (xs.length + 1) * bytes ≤ maxRoom) (hl : xs.length + 1 ≤ maxRoom) (hi : ida < M) (hm : m ≤ M)
    (k : ∀ s' a', Acc a' M s' (xs ++ [val]) → (∃ b v, s' = .rsl false b v 0 (xs ++ [val]).length) → Q s' ⟨hp.h, hp.n, a', hp.m⟩) : opt (appendV 1 bytes hp ida s (.rsl c bx 0 0 1)) fun p => Q p.1 p.2 := by
  have hx : content none hp 1 (.rsl c bx 0 0 1) = some ([val], 1) := by
    simp [content, h2, sub]
  rcases h1 with ⟨rfl, rfl⟩ | ⟨b, v, hbm, rfl, ha⟩
  · have : appendV 1 bytes hp ida (.sl true [] 0) (.rsl c bx 0 0 1) = some (.rsl false ida 0 0 1, { hp with a := upd hp.a ida (some ⟨0, 1, [val], none, 0⟩) }) := by
      unfold appendV
      rw [hx, show content none hp 1 (.sl true [] 0) = some ([], 0) from by simp [content]]
      simp only
      rw [if_neg (by decide), if_pos ⟨by simpa using hb, by simpa using hl⟩]
      rfl
    rw [this]
    exact k _ _ (.inr ⟨ida, 0, hi, rfl, upd_self _ _ _⟩) ⟨_, _, rfl⟩
  · have hs : content none hp 1 (.rsl false b v 0 xs.length) = some (xs, xs.length) := by
      simp [content, ha, sub]
    have : appendV 1 bytes hp ida (.rsl false b v 0 xs.length) (.rsl c bx 0 0 1) = some (.rsl false b (v + 1) 0 (xs.length + 1), { hp with a := upd hp.a b (some ⟨v + 1, 1, xs ++ [val], none, 0⟩) }) := by
      unfold appendV
      rw [hx, hs]
      simp only
      rw [if_neg (by decide), if_pos ⟨hb, hl⟩, ha]
      simp only
      rw [if_pos (by simp)]
    rw [this]
    exact k _ _ (.inr ⟨b, v + 1, by omega, by simp, upd_self _ _ _⟩) ⟨b, v + 1, by simp⟩
end Go.Ab
end

section
open Go Go.Ab Go.Proofs Go.Vl
namespace Go.Proofs.YtbekoaalaofloaaDoor.AB
set_option maxRecDepth 100000
set_option maxHeartbeats 1600000
section
variable {ext : Exts}
theorem t79 (hn : Non ext) (x y : Int) (hy : y = 15 ∨ y = 13) : ∃ r, (cfg ext).Ev 79 [.int .u32 x, .int .i64 y] (.int .u32 r) := by
  have key : ∃ r, (cfg ext).Ev 79 [.int .u32 x, .int .i64 y] r ∧ ∃ c, r = .int .u32 c := by
    refine Ev.ofE (hn 79 (by decide) (by decide)) Tryd.func79 rfl rfl ?_
    rcases hy with rfl | rfl
    · conv => whnf
      exact ⟨_, rfl⟩
    · conv => whnf
      exact ⟨_, rfl⟩
  obtain ⟨r, h, c, rfl⟩ := key
  exact ⟨c, h⟩
theorem t76 (hn : Non ext) (x : Int) : ∃ r, (cfg ext).Ev 77 [.int .u32 x] (.int .u32 r) := by
  have key : ∃ r, (cfg ext).Ev 77 [.int .u32 x] r ∧ ∃ c, r = .int .u32 c := by
    refine Ev.ofE (hn 77 (by decide) (by decide)) Tryd.func77 rfl rfl ?_
    conv => whnf
    obtain ⟨r1, h1⟩ := t79 hn _ _ (.inl rfl)
    refine ⟨_, h1, ?_⟩
    conv => whnf
    exact ⟨_, rfl⟩
  obtain ⟨r, h, c, rfl⟩ := key
  exact ⟨c, h⟩
theorem t75 (hn : Non ext) (x : Int) (y : Int) : ∃ r, (cfg ext).Ev 76 [.int .u32 x, .int .u32 y] (.int .u32 r) := by
  have key : ∃ r, (cfg ext).Ev 76 [.int .u32 x, .int .u32 y] r ∧ ∃ c, r = .int .u32 c := by
    refine Ev.ofE (hn 76 (by decide) (by decide)) Tryd.func76 rfl rfl ?_
    conv => whnf
    obtain ⟨r1, h1⟩ := t79 hn _ _ (.inr rfl)
    refine ⟨_, h1, ?_⟩
    conv => whnf
    exact ⟨_, rfl⟩
  obtain ⟨r, h, c, rfl⟩ := key
  exact ⟨c, h⟩
theorem t74 (hn : Non ext) (x : Int) (y : Int) : ∃ r, (cfg ext).Ev 75 [.int .u32 x, .int .u32 y] (.int .u32 r) := by
  have key : ∃ r, (cfg ext).Ev 75 [.int .u32 x, .int .u32 y] r ∧ ∃ c, r = .int .u32 c := by
    refine Ev.ofE (hn 75 (by decide) (by decide)) Tryd.func75 rfl rfl ?_
    conv => whnf
    exact ⟨_, rfl⟩
  obtain ⟨r, h, c, rfl⟩ := key
  exact ⟨c, h⟩
theorem t77 (hn : Non ext) (x : Int) (y : Int) : ∃ r, (cfg ext).Ev 78 [.int .u32 x, .int .i64 y] (.int .u32 r) := by
  have key : ∃ r, (cfg ext).Ev 78 [.int .u32 x, .int .i64 y] r ∧ ∃ c, r = .int .u32 c := by
    refine Ev.ofE (hn 78 (by decide) (by decide)) Tryd.func78 rfl rfl ?_
    conv => whnf
    obtain ⟨r1, h1⟩ := t76 hn _
    refine ⟨_, h1, ?_⟩
    conv => whnf
    obtain ⟨r2, h2⟩ := t75 hn _ _
    refine ⟨_, h2, ?_⟩
    conv => whnf
    obtain ⟨r3, h3⟩ := t74 hn _ _
    refine ⟨_, h3, ?_⟩
    conv => whnf
    exact ⟨_, rfl⟩
  obtain ⟨r, h, c, rfl⟩ := key
  exact ⟨c, h⟩
theorem t65 (hn : Non ext) (x : Int) : ∃ r, (cfg ext).Ev 67 [.int .i64 x] (.int .u32 r) := by
  have key : ∃ r, (cfg ext).Ev 67 [.int .i64 x] r ∧ ∃ c, r = .int .u32 c := by
    refine Ev.ofE (hn 67 (by decide) (by decide)) Tryd.func67 rfl rfl ?_
    conv => whnf
    refine sel_split (fun h => ?_) (fun h => ?_)
    · conv => whnf
      exact ⟨_, rfl⟩
    conv => whnf
    obtain ⟨r1, h1⟩ := t76 hn _
    refine ⟨_, h1, ?_⟩
    conv => whnf
    obtain ⟨r2, h2⟩ := t75 hn _ _
    refine ⟨_, h2, ?_⟩
    conv => whnf
    obtain ⟨r3, h3⟩ := t76 hn _
    refine ⟨_, h3, ?_⟩
    conv => whnf
    obtain ⟨r4, h4⟩ := t75 hn _ _
    refine ⟨_, h4, ?_⟩
    conv => whnf
    obtain ⟨r5, h5⟩ := t74 hn _ _
    refine ⟨_, h5, ?_⟩
    conv => whnf
    exact ⟨_, rfl⟩
  obtain ⟨r, h, c, rfl⟩ := key
  exact ⟨c, h⟩
theorem t66 (hn : Non ext) (x : Int) : ∃ r, (cfg ext).Ev 68 [.int .i32 x] (.int .u32 r) := by
  have key : ∃ r, (cfg ext).Ev 68 [.int .i32 x] r ∧ ∃ c, r = .int .u32 c := by
    refine Ev.ofE (hn 68 (by decide) (by decide)) Tryd.func68 rfl rfl ?_
    conv => whnf
    refine sel_split (fun h => ?_) (fun h => ?_)
    · conv => whnf
      exact ⟨_, rfl⟩
    conv => whnf
    obtain ⟨r1, h1⟩ := t76 hn _
    refine ⟨_, h1, ?_⟩
    conv => whnf
    obtain ⟨r2, h2⟩ := t75 hn _ _
    refine ⟨_, h2, ?_⟩
    conv => whnf
    obtain ⟨r3, h3⟩ := t74 hn _ _
    refine ⟨_, h3, ?_⟩
    conv => whnf
    exact ⟨_, rfl⟩
  obtain ⟨r, h, c, rfl⟩ := key
  exact ⟨c, h⟩
end
end Go.Proofs.YtbekoaalaofloaaDoor.AB
end

section
open Go Go.Ab Go.Proofs Go.Vl
namespace Go.Ab
theorem ldI {l : List Int} {i : Nat} {k : IntKind} {Q : V → Prop} (h : i < l.length) (hq : Q (.int k l[i])) : i * 1 + 1 ≤ (l.map (V.int k)).length ∧ opt (one (some false) (sub (l.map (V.int k)) (i * 1) 1)) fun v => fv v Q := by
  refine ⟨by simp; omega, ?_⟩
  have : sub (l.map (V.int k)) (i * 1) 1 = [.int k l[i]] := by
    unfold sub
    rw [Nat.mul_one, ← List.map_drop, List.drop_eq_getElem_cons h]
    rfl
  rw [this]
  exact hq
/-- what has grown, handed out -/
theorem fz_acc {hp : Hp} {m : Nat} {s : V} {k : IntKind} {l : List Int} {d : Nat} (h : Acc hp.a m s (l.map (.int k))) : ∃ a', fz (d + 2) hp s = some (.sl false (l.map (.int k)) l.length, ⟨hp.h, hp.n, a', hp.m⟩) := by
  have ints : ∀ (g : Hp → V → Option (V × Hp)) (hp : Hp) (l : List Int), (∀ hp x, g hp (.int k x) = some (.int k x, hp)) → fzL g hp (l.map (V.int k)) = some (l.map (V.int k), hp) := by
    intro g hp l hg
    induction l with
    | nil => rfl
    | cons x l ih => simp only [List.map_cons, fzL, hg, ih]
  rcases h with ⟨rfl, h⟩ | ⟨b, v, hb, rfl, ha⟩
  · have : l = [] := by simpa using h
    subst this
    exact ⟨hp.a, rfl⟩
  · refine ⟨upd hp.a b (some ⟨v, 1, l.map (.int k), none, max 0 (0 + (l.map (V.int k)).length * 1)⟩), ?_⟩
    rw [fz]
    simp only [ha]
    rw [if_pos (by simp)]
    have : sub (l.map (V.int k)) 0 ((l.map (V.int k)).length * 1) = l.map (V.int k) := by
      unfold sub
      rw [List.drop_zero, Nat.mul_one, List.take_length]
    rw [this, ints _ _ _ (fun _ _ => rfl)]
    simp
end Go.Ab
namespace Go.Proofs.YtbekoaalaofloaaDoor.AB
set_option maxRecDepth 100000
set_option maxHeartbeats 1600000
section
variable {ext : Exts}
def I (k : IntKind) (l : List Int) : V := .sl false (l.map (.int k)) l.length
theorem l67 (l : List Int) (hl : l.length ≤ 9223372036854775806) (Q : Ex → St → Prop) (d : Nat) :
    ∀ (i : Nat) (c : Int) (z : St), l.length - i = d → i ≤ l.length → Has z.t [(8, .int .i64 i), (7, .int .i64 l.length), (6, I .u16 l), (3, .int .i32 c), (0, I .u16 l)] → z.hp.n = 5 →
      (∀ z' c', Has z'.t [(3, .int .i32 c'), (0, I .u16 l)] → z'.hp.n = 6 → Q (.exit 0) z') → Go.Ab.Loop (cfg ext) (lpOf Tryd.f69) 5 z Q := by
  induction d with
  | zero =>
    intro i c z hd hi hz hn hq
    rw [St.knows _ _ hz hn]
    refine Loop.round ?_
    conv => whnf
    refine sel_split (fun h => ?_) (fun h => ?_)
    · simp at h; omega
    conv => whnf
    exact hq _ c ⟨rfl, rfl, trivial⟩ rfl
  | succ d ih =>
    intro i c z hd hi hz hn hq
    have hlt : i < l.length := by omega
    rw [St.knows _ _ hz hn]
    refine Loop.round ?_
    conv => whnf
    refine sel_split (fun h => ?_) (fun h => ?_)
    · conv => whnf
      refine ⟨⟨by omega, by omega⟩, ?_⟩
      conv => whnf
      refine ldI (i := i) hlt ?_
      conv => whnf
      refine ih (i + 1) _ _ (by omega) (by omega) ⟨?_, rfl, rfl, rfl, rfl, trivial⟩ rfl hq
      conv => lhs; whnf
      exact vi (wrap_add1 (by omega))
    · simp at h; omega
theorem t67 (hn : Non ext) (l : List Int) (hl : l.length ≤ 9223372036854775806) : ∃ r, (cfg ext).Ev 69 [I .u16 l] (.int .i32 r) := by
  have key : ∃ r, (cfg ext).Ev 69 [I .u16 l] r ∧ ∃ c, r = .int .i32 c := by
    refine Ev.ofE (hn 69 (by decide) (by decide)) Tryd.func69 rfl rfl ?_
    conv => whnf
    refine l67 l hl _ l.length 0 _ _ (by omega) (by omega) ⟨rfl, rfl, rfl, rfl, rfl, trivial⟩ rfl (fun z c h1 h2 => ?_)
    rw [St.knows _ _ h1 h2]
    conv => whnf
    exact ⟨_, rfl⟩
  obtain ⟨r, h, c, rfl⟩ := key
  exact ⟨c, h⟩
theorem l69 (l : List Int) (hl : l.length ≤ 9223372036854775806) (Q : Ex → St → Prop) (d : Nat) :
    ∀ (i : Nat) (c : Int) (z : St), l.length - i = d → i ≤ l.length → Has z.t [(8, .int .i64 i), (7, .int .i64 l.length), (6, I .u32 l), (3, .int .u32 c), (0, I .u32 l)] → z.hp.n = 5 →
      (∀ z' c', Has z'.t [(3, .int .u32 c'), (0, I .u32 l)] → z'.hp.n = 6 → Q (.exit 0) z') → Go.Ab.Loop (cfg ext) (lpOf Tryd.f71) 5 z Q := by
  induction d with
  | zero =>
    intro i c z hd hi hz hn hq
    rw [St.knows _ _ hz hn]
    refine Loop.round ?_
    conv => whnf
    refine sel_split (fun h => ?_) (fun h => ?_)
    · simp at h; omega
    conv => whnf
    exact hq _ c ⟨rfl, rfl, trivial⟩ rfl
  | succ d ih =>
    intro i c z hd hi hz hn hq
    have hlt : i < l.length := by omega
    rw [St.knows _ _ hz hn]
    refine Loop.round ?_
    conv => whnf
    refine sel_split (fun h => ?_) (fun h => ?_)
    · conv => whnf
      refine ⟨⟨by omega, by omega⟩, ?_⟩
      conv => whnf
      refine ldI (i := i) hlt ?_
      conv => whnf
      refine ih (i + 1) _ _ (by omega) (by omega) ⟨?_, rfl, rfl, rfl, rfl, trivial⟩ rfl hq
      conv => lhs; whnf
      exact vi (wrap_add1 (by omega))
    · simp at h; omega
theorem t69 (hn : Non ext) (l : List Int) (hl : l.length ≤ 9223372036854775806) : ∃ r, (cfg ext).Ev 71 [I .u32 l] (.int .u32 r) := by
  have key : ∃ r, (cfg ext).Ev 71 [I .u32 l] r ∧ ∃ c, r = .int .u32 c := by
    refine Ev.ofE (hn 71 (by decide) (by decide)) Tryd.func71 rfl rfl ?_
    conv => whnf
    refine l69 l hl _ l.length 0 _ _ (by omega) (by omega) ⟨rfl, rfl, rfl, rfl, rfl, trivial⟩ rfl (fun z c h1 h2 => ?_)
    rw [St.knows _ _ h1 h2]
    conv => whnf
    obtain ⟨r1, g1⟩ := t77 hn _ _
    refine ⟨_, g1, ?_⟩
    conv => whnf
    exact ⟨_, rfl⟩
  obtain ⟨r, h, c, rfl⟩ := key
  exact ⟨c, h⟩
theorem l71 (l : List Int) (hl : l.length ≤ 9223372036854775806) (Q : Ex → St → Prop) (d : Nat) :
    ∀ (i : Nat) (c : Int) (z : St), l.length - i = d → i ≤ l.length → Has z.t [(8, .int .i64 i), (7, .int .i64 l.length), (6, I .u32 l), (3, .int .u32 c), (0, I .u32 l)] → z.hp.n = 5 →
      (∀ z' c', Has z'.t [(3, .int .u32 c'), (0, I .u32 l)] → z'.hp.n = 6 → Q (.exit 0) z') → Go.Ab.Loop (cfg ext) (lpOf Tryd.f73) 5 z Q := by
  induction d with
  | zero =>
    intro i c z hd hi hz hn hq
    rw [St.knows _ _ hz hn]
    refine Loop.round ?_
    conv => whnf
    refine sel_split (fun h => ?_) (fun h => ?_)
    · simp at h; omega
    conv => whnf
    exact hq _ c ⟨rfl, rfl, trivial⟩ rfl
  | succ d ih =>
    intro i c z hd hi hz hn hq
    have hlt : i < l.length := by omega
    rw [St.knows _ _ hz hn]
    refine Loop.round ?_
    conv => whnf
    refine sel_split (fun h => ?_) (fun h => ?_)
    · conv => whnf
      refine ⟨⟨by omega, by omega⟩, ?_⟩
      conv => whnf
      refine ldI (i := i) hlt ?_
      conv => whnf
      refine ih (i + 1) _ _ (by omega) (by omega) ⟨?_, rfl, rfl, rfl, rfl, trivial⟩ rfl hq
      conv => lhs; whnf
      exact vi (wrap_add1 (by omega))
    · simp at h; omega
theorem t71 (hn : Non ext) (l : List Int) (hl : l.length ≤ 9223372036854775806) : ∃ r, (cfg ext).Ev 73 [I .u32 l] (.int .u32 r) := by
  have key : ∃ r, (cfg ext).Ev 73 [I .u32 l] r ∧ ∃ c, r = .int .u32 c := by
    refine Ev.ofE (hn 73 (by decide) (by decide)) Tryd.func73 rfl rfl ?_
    conv => whnf
    refine l71 l hl _ l.length 0 _ _ (by omega) (by omega) ⟨rfl, rfl, rfl, rfl, rfl, trivial⟩ rfl (fun z c h1 h2 => ?_)
    rw [St.knows _ _ h1 h2]
    conv => whnf
    obtain ⟨r1, g1⟩ := t77 hn _ _
    refine ⟨_, g1, ?_⟩
    conv => whnf
    exact ⟨_, rfl⟩
  obtain ⟨r, h, c, rfl⟩ := key
  exact ⟨c, h⟩
theorem t72 (hn : Non ext) (x y : Int) : ∃ r, (cfg ext).Ev 74 [.int .u32 x, .int .u32 y] (.int .u32 r) := by
  have key : ∃ r, (cfg ext).Ev 74 [.int .u32 x, .int .u32 y] r ∧ ∃ c, r = .int .u32 c := by
    refine Ev.ofE (hn 74 (by decide) (by decide)) Tryd.func74 rfl rfl ?_
    conv => whnf
    obtain ⟨r1, g1⟩ := t69 hn [x, y] (by simp)
    refine ⟨_, g1, ?_⟩
    conv => whnf
    exact ⟨_, rfl⟩
  obtain ⟨r, h, c, rfl⟩ := key
  exact ⟨c, h⟩
end
end Go.Proofs.YtbekoaalaofloaaDoor.AB
end

section
open Go Go.Ab Go.Proofs Go.Vl
namespace Go.Ab
theorem Acc.form {a : Nat → Option Arr} {m : Nat} {s : V} {xs : List V} (h : Acc a m s xs) : s = .sl true [] 0 ∨ ∃ b v n, s = .rsl false b v 0 n := by
  rcases h with ⟨e, _⟩ | ⟨b, v, _, e, _⟩
  · exact .inl e
  · exact .inr ⟨b, v, _, e⟩
theorem Acc.le {a : Nat → Option Arr} {m k : Nat} {s : V} {xs : List V} (h : Acc a m s xs) (hk : m ≤ k) : Acc a k s xs := by
  rcases h with h | ⟨b, v, hb, e, ha⟩
  · exact .inl h
  · exact .inr ⟨b, v, by omega, e, ha⟩
theorem Acc.truncS {z : St} {m M n : Nat} {s : V} {k : IntKind} {l : List Int} (h : Acc z.hp.a m s (l.map (.int k))) (hm : m ≤ M) : Acc (z.trunc n).hp.a M (cleanV n s) (l.map (.int k)) := Acc.trunc (h.le hm)
theorem opt_app' {size bytes : Nat} {hp : Hp} {ida m M : Nat} {s x : V} {kd : IntKind} {l : List Int} {Q : V × Hp → Prop} (hsz : size = 1) (h2 : ∃ c bx n cp ro, x = .rsl c bx 0 0 1 ∧ hp.a bx = some ⟨0, 1, [.int kd n], cp, ro⟩) (h1 : Acc hp.a m s (l.map (.int kd))) (hb : (l.length + 1) * bytes ≤ maxRoom) (hl : l.length + 1 ≤ maxRoom) (hi : ida < M) (hm : m ≤ M)
    (k : ∀ n b v a', Acc a' M (.rsl false b v 0 (l.length + 1)) ((l ++ [n]).map (.int kd)) → Q (.rsl false b v 0 (l.length + 1), ⟨hp.h, hp.n, a', hp.m⟩)) : opt (appendV size bytes hp ida s x) Q := by
  obtain ⟨c, bx, n, cp, ro, hx, h2⟩ := h2
  subst hsz hx
  exact opt_app (Q := fun v h => Q (v, h)) h1 h2 (by simpa using hb) (by simpa using hl) hi hm fun s' a' h hr => by
    obtain ⟨b, v, rfl⟩ := hr
    have e : (l.map (V.int kd) ++ [V.int kd n]).length = l.length + 1 := by simp
    rw [e] at h ⊢
    exact k n b v a' (by simpa using h)
theorem Fin.acc {P : Program} {fn : Func} {s : St} {R : V → Prop} {m : Nat} {k : IntKind} {l : List Int} {x : V} (h : resOf P fn s = some x) (ha : Acc s.hp.a m x (l.map (.int k))) (hR : R (.sl false (l.map (.int k)) l.length)) : Fin P fn s R := by
  refine ⟨?_⟩
  rw [h]
  obtain ⟨a', e⟩ := fz_acc (d := 4) ha
  show opt (fz 6 s.hp x) fun p => R p.1
  rw [e]
  exact hR
theorem Ev.ofF {C : Cfg} {f : Nat} {fn : Func} {body : Code} {xs : List V} {R : V → Prop} (h0 : C.ext f = none) (h1 : C.P.funcs[f]? = some fn) (h2 : fn.body = some body) (h3 : C.okF f = true)
    (h : xCode C body ⟨init xs, Hp.empty⟩ fun ex s' => match ex with | .exit _ => False | .normal => Fin C.P fn s' R | .ret => Fin C.P fn s' R) : ∃ r, C.Ev f xs r ∧ R r := by
  obtain ⟨K, ex, s', h4, h5⟩ := xCode_ok _ _ _ h
  have key : ∀ r' v hp1, (∀ i, ex ≠ .exit i) → resOf C.P fn s' = some r' → fz 6 s'.hp r' = some (v, hp1) → C.Ev f xs v := by
    intro r' v hp1 hne h6 h8
    refine ⟨K + 1, fun k hk => ?_⟩
    obtain ⟨k, rfl⟩ : ∃ m, k = m + 1 := ⟨k - 1, by omega⟩
    have := h4 k (by omega)
    have e : evalCode C.P ⟨dataCall C.ext (evalR C.P C.okF C.ext C.extR C.byref k), evalR C.P C.okF C.ext C.extR C.byref k, C.byref⟩ k body ⟨init xs, Hp.empty⟩ = some (ex, s') := this
    simp only [Cfg.call, dataCall, h0, Cfg.R, evalR, h1, h2, h3, Bool.true_eq_false, if_false, e]
    cases ex with
    | exit i => exact absurd rfl (hne i)
    | normal => simp only [h6, h8]
    | ret => simp only [h6, h8]
  cases ex with
  | exit i => exact h5.elim
  | normal => obtain ⟨r', h6, h7⟩ := opt_ex h5.out; obtain ⟨⟨v, hp1⟩, h8, h9⟩ := opt_ex h7; exact ⟨v, key r' v hp1 (by simp) h6 h8, h9⟩
  | ret => obtain ⟨r', h6, h7⟩ := opt_ex h5.out; obtain ⟨⟨v, hp1⟩, h8, h9⟩ := opt_ex h7; exact ⟨v, key r' v hp1 (by simp) h6 h8, h9⟩
end Go.Ab
namespace Go.Proofs.YtbekoaalaofloaaDoor.AB
set_option maxRecDepth 100000
set_option maxHeartbeats 1600000
section
variable {ext : Exts}
theorem l68 (s : ByteArray) (hs : s.size ≤ 256) (Q : Ex → St → Prop) (d : Nat) :
    ∀ (p : Nat) (l : List Int) (S : V) (z : St), s.size ≤ p + d → l.length ≤ 2 * p → p ≤ s.size + 4 → Has z.t [(7, .ref 3 0), (3, S)] → Has z.hp.h [(3, some (.iter s p))] → z.hp.n = 4 → Acc z.hp.a z.hp.m S (l.map (.int .u16)) →
      (∀ (z' : St) (l' : List Int) (S' : V), Has z'.t [(3, S')] → z'.hp.n = 6 → l'.length ≤ 1024 → Acc z'.hp.a z'.hp.m S' (l'.map (.int .u16)) → Q (.exit 0) z') →
      Go.Ab.Loop (cfg ext) (lpOf Tryd.f70) 4 z Q := by
  induction d with
  | zero =>
    intro p l S z hd hl hp hz hb hn ha hq
    rw [St.knows _ _ hz hn _ hb]
    refine Loop.round ?_
    conv => whnf
    refine sel_split (fun h => ?_) (fun h => ?_)
    · simp at h; omega
    conv => whnf
    exact hq _ l S ⟨rfl, trivial⟩ rfl (by omega) (ha.le (Nat.le_add_right _ _))
  | succ d ih =>
    intro p l S z hd hl hp hz hb hn ha hq
    have hm0 : z.hp.m = z.hp.m := rfl
    rw [St.knows _ _ hz hn _ hb]
    refine Loop.round ?_
    conv => whnf
    refine sel_split (fun h => ?_) (fun h => ?_)
    · have hlt : p < s.size := by simpa using h
      have hdl := dec_le s p
      conv => whnf
      refine sel_split (fun h => ?_) (fun h => ?_)
      · rcases ha.form with hS | ⟨b, v, n, hS⟩
        all_goals
          subst hS
          conv => whnf
          refine ⟨rfl, ?_⟩
          conv => whnf
          refine ⟨⟨rfl, Nat.one_ne_zero⟩, ?_⟩
          refine opt_app' (m := z.hp.m + 0) (M := z.hp.m + 17) (l := l) (kd := .u16) rfl ⟨_, _, _, _, _, rfl, upd_self _ _ _⟩ (ha.upd (show z.hp.m + 0 ≤ z.hp.m + 15 by omega)) ?_ ?_ ?_ (show z.hp.m + 0 ≤ z.hp.m + 17 by omega) ?_
          · show (_ + 1) * 2 ≤ 140737488355328
            (try simp only [List.length_append, List.length_cons, List.length_nil])
            omega
          · show _ + 1 ≤ 140737488355328
            (try simp only [List.length_append, List.length_cons, List.length_nil])
            omega
          · exact (show z.hp.m + 16 < z.hp.m + 17 by omega)
          intro n1 b1 v1 a1 h1
          conv => whnf
          refine ⟨rfl, ?_⟩
          conv => whnf
          refine ⟨⟨rfl, Nat.one_ne_zero⟩, ?_⟩
          refine opt_app' (m := z.hp.m + 17) (M := z.hp.m + 27) (l := (l ++ [n1])) (kd := .u16) rfl ⟨_, _, _, _, _, rfl, upd_self _ _ _⟩ (h1.upd (show z.hp.m + 17 ≤ z.hp.m + 25 by omega)) ?_ ?_ ?_ (show z.hp.m + 17 ≤ z.hp.m + 27 by omega) ?_
          · show (_ + 1) * 2 ≤ 140737488355328
            (try simp only [List.length_append, List.length_cons, List.length_nil])
            omega
          · show _ + 1 ≤ 140737488355328
            (try simp only [List.length_append, List.length_cons, List.length_nil])
            omega
          · exact (show z.hp.m + 26 < z.hp.m + 27 by omega)
          intro n3 b3 v3 a3 h3
          conv => whnf
          refine ih (p + (Utf8.decode s p).2) ((l ++ [n1]) ++ [n3]) _ _ (by omega) (by simp only [List.length_append, List.length_cons, List.length_nil]; omega) (by omega) ⟨rfl, rfl, trivial⟩ ⟨rfl, trivial⟩ rfl ?_ hq
          exact Acc.trunc (n := 4) (h3.le (show z.hp.m + 27 ≤ z.hp.m + 28 by omega))
      · rcases ha.form with hS | ⟨b, v, n, hS⟩
        all_goals
          subst hS
          conv => whnf
          refine ⟨rfl, ?_⟩
          conv => whnf
          refine ⟨⟨rfl, Nat.one_ne_zero⟩, ?_⟩
          refine opt_app' (m := z.hp.m + 0) (M := z.hp.m + 12) (l := l) (kd := .u16) rfl ⟨_, _, _, _, _, rfl, upd_self _ _ _⟩ (ha.upd (show z.hp.m + 0 ≤ z.hp.m + 10 by omega)) ?_ ?_ ?_ (show z.hp.m + 0 ≤ z.hp.m + 12 by omega) ?_
          · show (_ + 1) * 2 ≤ 140737488355328
            (try simp only [List.length_append, List.length_cons, List.length_nil])
            omega
          · show _ + 1 ≤ 140737488355328
            (try simp only [List.length_append, List.length_cons, List.length_nil])
            omega
          · exact (show z.hp.m + 11 < z.hp.m + 12 by omega)
          intro n1 b1 v1 a1 h1
          conv => whnf
          refine ih (p + (Utf8.decode s p).2) (l ++ [n1]) _ _ (by omega) (by simp only [List.length_append, List.length_cons, List.length_nil]; omega) (by omega) ⟨rfl, rfl, trivial⟩ ⟨rfl, trivial⟩ rfl ?_ hq
          exact Acc.trunc (n := 4) (h1.le (show z.hp.m + 12 ≤ z.hp.m + 13 by omega))
    · conv => whnf
      exact hq _ l S ⟨rfl, trivial⟩ rfl (by omega) (ha.le (Nat.le_add_right _ _))
theorem t68 (hn : Non ext) (s : ByteArray) (hs : s.size ≤ 256) : ∃ l : List Int, l.length ≤ 1024 ∧ (cfg ext).Ev 70 [.str s] (I .u16 l) := by
  have key : ∃ r, (cfg ext).Ev 70 [.str s] r ∧ ∃ l : List Int, l.length ≤ 1024 ∧ r = I .u16 l := by
    refine Ev.ofF (hn 70 (by decide) (by decide)) Tryd.func70 rfl rfl ?_
    conv => whnf
    refine l68 s hs _ s.size 0 [] (.sl true [] 0) _ (by omega) (by simp) (by omega) ⟨rfl, rfl, trivial⟩ ⟨rfl, trivial⟩ rfl (.inl ⟨rfl, rfl⟩) (fun z l S h1 h2 h3 h4 => ?_)
    rw [St.knows _ _ h1 h2]
    rcases h4.form with hS | ⟨b, v, n, hS⟩
    all_goals
      subst hS
      conv => whnf
      exact Fin.acc rfl h4 ⟨l, h3, rfl⟩
  obtain ⟨r, h, l, hl, rfl⟩ := key
  exact ⟨l, hl, h⟩
end
end Go.Proofs.YtbekoaalaofloaaDoor.AB
end

section
open Go Go.Ab Go.Proofs Go.Vl
namespace Go.Proofs.YtbekoaalaofloaaDoor.AB
set_option maxRecDepth 100000
set_option maxHeartbeats 1600000
section
variable {ext : Exts}
def FullE (ext : Exts) (v : T) : Prop := ∃ r, (cfg ext).Ev 64 [A v] (.int .u32 r)
theorem l70 (l : List T) (hl : l.length ≤ 1024) (E : ∀ a ∈ l, FullE ext a) (Q : Ex → St → Prop) (d : Nat) :
    ∀ (i : Nat) (hs : List Int) (S : V) (z : St), l.length - i = d → i ≤ l.length → hs.length = i → Has z.t [(8, .int .i64 i), (7, .int .i64 l.length), (6, .sl false (encL l) l.length), (3, S)] → z.hp.n = 5 → Acc z.hp.a z.hp.m S (hs.map (.int .u32)) →
      (∀ (z' : St) (hs' : List Int) (S' : V), Has z'.t [(3, S')] → z'.hp.n = 6 → hs'.length = l.length → Acc z'.hp.a z'.hp.m S' (hs'.map (.int .u32)) → Q (.exit 0) z') →
      Go.Ab.Loop (cfg ext) (lpOf Tryd.f72) 5 z Q := by
  induction d with
  | zero =>
    intro i hs S z hd hi hh hz hn ha hq
    rw [St.knows _ _ hz hn]
    refine Loop.round ?_
    conv => whnf
    refine sel_split (fun h => ?_) (fun h => ?_)
    · simp at h; omega
    conv => whnf
    exact hq _ hs S ⟨rfl, trivial⟩ rfl (by omega) (ha.le (Nat.le_add_right _ _))
  | succ d ih =>
    intro i hs S z hd hi hh hz hn ha hq
    have hlt : i < l.length := by omega
    rw [St.knows _ _ hz hn]
    refine Loop.round ?_
    conv => whnf
    refine sel_split (fun h => ?_) (fun h => ?_)
    · conv => whnf
      refine ⟨⟨by omega, by omega⟩, ?_⟩
      conv => whnf
      refine ldA (i := i) hlt ?_
      rcases ha.form with hS | ⟨b, v, n, hS⟩
      all_goals
        subst hS
        conv => whnf
        obtain ⟨r, hr⟩ := E _ (List.getElem_mem hlt)
        refine ⟨_, hr, ?_⟩
        conv => whnf
        refine ⟨rfl, ?_⟩
        conv => whnf
        refine ⟨⟨rfl, Nat.one_ne_zero⟩, ?_⟩
        refine opt_app' (m := z.hp.m + 0) (M := z.hp.m + 10) (l := hs) (kd := .u32) rfl ⟨_, _, _, _, _, rfl, upd_self _ _ _⟩ (ha.upd (show z.hp.m + 0 ≤ z.hp.m + 8 by omega)) ?_ ?_ ?_ (show z.hp.m + 0 ≤ z.hp.m + 10 by omega) ?_
        · show (_ + 1) * 4 ≤ 140737488355328
          (try simp only [List.length_append, List.length_cons, List.length_nil])
          omega
        · show _ + 1 ≤ 140737488355328
          (try simp only [List.length_append, List.length_cons, List.length_nil])
          omega
        · exact (show z.hp.m + 9 < z.hp.m + 10 by omega)
        intro n1 b1 v1 a1 h1
        conv => whnf
        refine ih (i + 1) (hs ++ [n1]) _ _ (by omega) (by omega) (by simp; omega) ⟨?_, rfl, rfl, rfl, trivial⟩ rfl ?_ hq
        · conv => lhs; whnf
          exact vi (wrap_add1 (by omega))
        · exact Acc.trunc (n := 5) (h1.le (show z.hp.m + 10 ≤ z.hp.m + 13 by omega))
    · simp at h; omega
theorem t70 (hn : Non ext) (l : List T) (hl : l.length ≤ 1024) (E : ∀ a ∈ l, FullE ext a) : ∃ hs : List Int, hs.length = l.length ∧ (cfg ext).Ev 72 [.sl false (encL l) l.length] (I .u32 hs) := by
  have key : ∃ r, (cfg ext).Ev 72 [.sl false (encL l) l.length] r ∧ ∃ hs : List Int, hs.length = l.length ∧ r = I .u32 hs := by
    refine Ev.ofF (hn 72 (by decide) (by decide)) Tryd.func72 rfl rfl ?_
    conv => whnf
    refine l70 l hl E _ l.length 0 [] (.sl true [] 0) _ (by omega) (by omega) rfl ⟨rfl, rfl, rfl, rfl, trivial⟩ rfl (.inl ⟨rfl, rfl⟩) (fun z hs S h1 h2 h3 h4 => ?_)
    rw [St.knows _ _ h1 h2]
    rcases h4.form with hS | ⟨b, v, n, hS⟩
    all_goals
      subst hS
      conv => whnf
      exact Fin.acc rfl h4 ⟨hs, h3, rfl⟩
  obtain ⟨r, h, hs, hl, rfl⟩ := key
  exact ⟨hs, hl, h⟩
theorem l61 (hn : Non ext) (l : List Int) (hl : l.length ≤ 1024) (he : l.length % 2 = 0) (N : Nat) (Q : Ex → St → Prop) (d : Nat) :
    ∀ (i : Nat) (hs : List Int) (S : V) (z : St), l.length - i ≤ 2 * d → i ≤ l.length → i % 2 = 0 → hs.length ≤ i → Has z.t [(5, .int .i64 i), (4, I .u32 l), (3, S)] → z.hp.n = N → Acc z.hp.a z.hp.m S (hs.map (.int .u32)) →
      (∀ (z' : St) (hs' : List Int) (S' : V), Has z'.t [(3, S')] → z'.hp.n = N + 4 → hs'.length ≤ 1024 → Acc z'.hp.a z'.hp.m S' (hs'.map (.int .u32)) → Q (.exit 1) z') →
      Go.Ab.Loop (cfg ext) (lpOf Tryd.f64) N z Q := by
  induction d with
  | zero =>
    intro i hs S z hd hi hi2 hh hz hn' ha hq
    rw [St.knows _ _ hz hn']
    refine Loop.round ?_
    conv => whnf
    refine sel_split (fun h => ?_) (fun h => ?_)
    · simp at h; omega
    conv => whnf
    exact hq _ hs S ⟨rfl, trivial⟩ rfl (by omega) (ha.le (Nat.le_add_right _ _))
  | succ d ih =>
    intro i hs S z hd hi hi2 hh hz hn' ha hq
    rw [St.knows _ _ hz hn']
    refine Loop.round ?_
    conv => whnf
    refine sel_split (fun h => ?_) (fun h => ?_)
    · have hlt : i < l.length := by simpa using h
      have e1 : IntKind.i64.wrap ((i : Int) + 1) = ((i + 1 : Nat) : Int) := wrapN (by omega) (by omega)
      have e2 : IntKind.i64.wrap ((i : Int) + 2) = ((i + 2 : Nat) : Int) := wrapN (by omega) (by omega)
      rcases ha.form with hS | ⟨b, v, n, hS⟩
      all_goals
        subst hS
        conv => whnf
        refine ⟨⟨by omega, by omega⟩, ?_⟩
        conv => whnf
        refine ldI (i := i) hlt ?_
        conv => whnf
        rw [e1]
        refine ⟨⟨by omega, by omega⟩, ?_⟩
        conv => whnf
        refine ldI (i := i + 1) (by omega) ?_
        conv => whnf
        obtain ⟨r, hr⟩ := t72 hn l[i] (l[i + 1]'(by omega))
        refine ⟨_, hr, ?_⟩
        conv => whnf
        refine ⟨rfl, ?_⟩
        conv => whnf
        refine ⟨⟨rfl, Nat.one_ne_zero⟩, ?_⟩
        refine opt_app' (m := z.hp.m + 0) (M := z.hp.m + 17) (l := hs) (kd := .u32) rfl ⟨_, _, _, _, _, rfl, upd_self _ _ _⟩ (ha.upd (show z.hp.m + 0 ≤ z.hp.m + 15 by omega)) ?_ ?_ ?_ (show z.hp.m + 0 ≤ z.hp.m + 17 by omega) ?_
        · show (_ + 1) * 4 ≤ 140737488355328
          (try simp only [List.length_append, List.length_cons, List.length_nil])
          omega
        · show _ + 1 ≤ 140737488355328
          (try simp only [List.length_append, List.length_cons, List.length_nil])
          omega
        · exact (show z.hp.m + 16 < z.hp.m + 17 by omega)
        intro n1 b1 v1 a1 h1
        conv => whnf
        refine ih (i + 2) (hs ++ [n1]) _ _ (by omega) (by omega) (by omega) (by simp; omega) ⟨?_, rfl, rfl, trivial⟩ rfl ?_ hq
        · conv => lhs; whnf
          exact vi e2
        · exact Acc.trunc (n := N) (h1.le (show z.hp.m + 17 ≤ z.hp.m + 21 by omega))
    · conv => whnf
      exact hq _ hs S ⟨rfl, trivial⟩ rfl (by omega) (ha.le (Nat.le_add_right _ _))
end
end Go.Proofs.YtbekoaalaofloaaDoor.AB
end

section
open Go Go.Ab Go.Proofs Go.Vl
namespace Go.Proofs.YtbekoaalaofloaaDoor.AB
set_option maxRecDepth 100000
set_option maxHeartbeats 1600000
theorem opt_acc1 {d : Bool} {hp : Hp} {xs : List V} {m : Nat} {s : V} {k : IntKind} {l : List Int} {Q : List V × Hp → Prop} (h : Acc hp.a m s (l.map (.int k))) (hd : d = false) (hx : xs = [s]) (hq : ∀ a', Q ([I k l], ⟨hp.h, hp.n, a', hp.m⟩)) : opt (asData d hp xs) Q := by
  subst hd hx
  obtain ⟨a', e⟩ := fz_acc (d := 4) h
  show opt (fzL (fz 6) hp [s]) Q
  have : fzL (fz 6) hp [s] = some ([I k l], ⟨hp.h, hp.n, a', hp.m⟩) := by
    simp only [fzL]
    rw [show fz 6 hp s = _ from e]
    rfl
  rw [this]
  exact hq a'
/-- a part of a function's code: left/then, right/else, what is inside -/
def atP : Code → List Bool → Code
  | c, [] => c
  | .seq a b, p :: ps => match p with | true => atP b ps | false => atP a ps
  | .cond _ a b, p :: ps => match p with | true => atP b ps | false => atP a ps
  | .block _ c, _ :: ps => atP c ps
  | .loop c, _ :: ps => atP c ps
  | .scope c, _ :: ps => atP c ps
  | c, _ :: _ => c
def bodyOf (f : Func) : Code := match f.body with | some b => b | none => .skip
section
variable {ext : Exts}
theorem c61 (hn : Non ext) (k n : Int) (t : ByteArray) (l : List T) (h0 : k = 0 ∨ k = 4 ∨ k = 5) (h3 : l.length ≤ 1024) (E : ∀ a ∈ l, FullE ext a) (z : St) (K : Ex → St → Prop)
    (hz : Has z.t [(1, .ref 0 0), (7, .int .i64 k)]) (hb : Has z.hp.h [(0, some (.cells (cellsV ⟨k, n, t, l⟩) false))]) (hN : z.hp.n = 10) (hr : ∀ z' r, z'.t 2 = .int .u32 r → K .ret z') (hq : ∀ z', K .normal z') : xCode (cfg ext) (atP (bodyOf Tryd.f64) [true, false, true, false, true, true, true, true, true, true]) z K := by
  obtain ⟨hs, hl, ha⟩ := t70 hn l h3 E
  have hb1 : hs.length ≤ 9223372036854775806 := by omega
  obtain ⟨r69, g69⟩ := t69 hn hs hb1
  obtain ⟨r71, g71⟩ := t71 hn hs hb1
  rw [St.knows _ _ hz hN _ hb]
  rcases h0 with rfl | rfl | rfl
  · conv => whnf
    exact hq _
  · conv => whnf
    refine ⟨_, ha, ?_⟩
    conv => whnf
    refine ⟨_, g69, ?_⟩
    conv => whnf
    exact hr _ _ rfl
  · conv => whnf
    refine ⟨_, ha, ?_⟩
    conv => whnf
    refine ⟨_, g71, ?_⟩
    conv => whnf
    exact hr _ _ rfl
theorem c61b (hn : Non ext) (n : Int) (t : ByteArray) (l : List T) (h3 : l.length ≤ 1024) (h6 : l.length % 2 = 0) (E : ∀ a ∈ l, FullE ext a) (z : St) (K : Ex → St → Prop)
    (hz : Has z.t [(1, .ref 0 0), (7, .int .i64 6)]) (hb : Has z.hp.h [(0, some (.cells (cellsV ⟨6, n, t, l⟩) false))]) (hN : z.hp.n = 10) (hr : ∀ z' r, z'.t 2 = .int .u32 r → K .ret z') : xCode (cfg ext) (atP (bodyOf Tryd.f64) [true, false, true, false, true, true, true, true, true, true]) z K := by
  obtain ⟨hs, hl, ha⟩ := t70 hn l h3 E
  have hb1 : hs.length ≤ 9223372036854775806 := by omega
  have hb2 : hs.length ≤ 1024 := by omega
  have ev : hs.length % 2 = 0 := by omega
  have z0 : hs.length - 0 ≤ 2 * hs.length := by omega
  have big : ∀ xs : List Int, xs.length ≤ 1024 → xs.length ≤ 9223372036854775806 := fun xs h => by omega
  rw [St.knows _ _ hz hN _ hb]
  conv => whnf
  refine ⟨_, ha, ?_⟩
  conv => whnf
  refine l61 hn hs hb2 ev _ _ hs.length 0 [] (.sl true [] 0) _ z0 (Nat.zero_le _) rfl (Nat.le_refl _) ⟨rfl, rfl, rfl, trivial⟩ rfl (.inl ⟨rfl, rfl⟩) (fun z xs S e1 e2 e3 e4 => ?_)
  rw [St.knows _ _ e1 e2]
  obtain ⟨r2, g2⟩ := t71 hn xs (big _ e3)
  rcases e4 with ⟨rfl, e4⟩ | ⟨b, w, hb, rfl, e4⟩
  · have : xs = [] := by simpa using e4
    subst this
    conv => whnf
    refine ⟨_, g2, ?_⟩
    conv => whnf
    exact hr _ _ rfl
  · have ha4 : Acc z.hp.a z.hp.m (.rsl false b w 0 (xs.map (V.int .u32)).length) (xs.map (.int .u32)) := .inr ⟨b, w, hb, rfl, e4⟩
    conv => whnf
    refine opt_acc1 (k := .u32) (l := xs) (m := z.hp.m) ha4 rfl rfl (fun a' => ?_)
    refine ⟨_, g2, ?_⟩
    conv => whnf
    exact hr _ _ rfl
theorem t61_one (hn : Non ext) (k n : Int) (t : ByteArray) (l : List T) (h0 : 0 ≤ k) (h1 : k ≤ 6) (h2 : t.size ≤ 256) (h3 : l.length ≤ 1024) (h6 : k = 6 → l.length % 2 = 0) (E : ∀ a ∈ l, FullE ext a) : FullE ext ⟨k, n, t, l⟩ := by
  have big : ∀ xs : List Int, xs.length ≤ 1024 → xs.length ≤ 9223372036854775806 := fun xs h => by omega
  have ks (n1 : (k == 1) = false) (n2 : (k == 2) = false) (n3 : (k == 3) = false) : (k = 0 ∨ k = 4 ∨ k = 5) ∨ k = 6 := by
    have n1 : k ≠ 1 := by simpa using n1
    have n2 : k ≠ 2 := by simpa using n2
    have n3 : k ≠ 3 := by simpa using n3
    omega
  have key : ∃ r, (cfg ext).Ev 64 [A ⟨k, n, t, l⟩] r ∧ ∃ c, r = .int .u32 c := by
    refine Ev.ofE (hn 64 (by decide) (by decide)) Tryd.func64 rfl rfl ?_
    conv => whnf
    refine sel_split (fun n1 => ?_) (fun n1 => ?_)
    · conv => whnf
      refine sel_split (fun h => ?_) (fun h => ?_)
      · conv => whnf
        exact ⟨_, rfl⟩
      · conv => whnf
        exact ⟨_, rfl⟩
    conv => whnf
    refine sel_split (fun n2 => ?_) (fun n2 => ?_)
    · conv => whnf
      obtain ⟨r1, g1⟩ := t65 hn n
      refine ⟨_, g1, ?_⟩
      conv => whnf
      exact ⟨_, rfl⟩
    conv => whnf
    refine sel_split (fun n3 => ?_) (fun n3 => ?_)
    · conv => whnf
      obtain ⟨l, hl, g1⟩ := t68 hn t h2
      refine ⟨_, g1, ?_⟩
      conv => whnf
      obtain ⟨r2, g2⟩ := t67 hn l (big _ hl)
      refine ⟨_, g2, ?_⟩
      conv => whnf
      obtain ⟨r3, g3⟩ := t66 hn r2
      refine ⟨_, g3, ?_⟩
      conv => whnf
      exact ⟨_, rfl⟩
    rcases ks n1 n2 n3 with c | rfl
    · refine c61 hn k n t l c h3 E _ _ ⟨rfl, rfl, trivial⟩ ⟨rfl, trivial⟩ rfl (fun z r e => ?_) (fun z => ?_)
      · rw [St.knows [(2, _)] _ ⟨e, trivial⟩ rfl]
        conv => whnf
        exact ⟨_, rfl⟩
      · conv => whnf
        exact ⟨_, rfl⟩
    · refine c61b hn n t l h3 (h6 rfl) E _ _ ⟨rfl, rfl, trivial⟩ ⟨rfl, trivial⟩ rfl (fun z r e => ?_)
      rw [St.knows [(2, _)] _ ⟨e, trivial⟩ rfl]
      conv => whnf
      exact ⟨_, rfl⟩
  obtain ⟨r, h, c, rfl⟩ := key
  exact ⟨c, h⟩
mutual
theorem t61 (hn : Non ext) : (v : T) → OkV v → partsV v ≤ 1024 → FullE ext v
  | ⟨k, n, t, l⟩, h, hp => by
    simp only [OkV] at h
    simp only [partsV] at hp
    have hl := partsL_len l
    have hk : 0 ≤ k ∧ k ≤ 6 ∧ t.size ≤ 256 := by
      have hp := h.1
      unfold PlainV at hp
      obtain ⟨a, b, c⟩ := hp
      have ht : k ≠ 3 → t.size ≤ 256 := fun h3 => by rw [a.resolve_left h3]; show 0 ≤ 256; omega
      split at c
      · exact ⟨by omega, by omega, ht (by omega)⟩
      · split at c
        · exact ⟨by omega, by omega, c.1⟩
        · exact ⟨c.1, c.2, ht ‹_›⟩
    have h6 : k = 6 → l.length % 2 = 0 := fun e => by
      have := h.2.1
      unfold FormV at this
      rw [if_neg (by omega), if_pos e] at this
      exact this.1
    exact t61_one hn k n t l hk.1 hk.2.1 hk.2.2 (by omega) h6 (t61L hn l h.2.2 (by omega))
theorem t61L (hn : Non ext) : (l : List T) → OkL l → partsL l ≤ 1024 → ∀ a ∈ l, FullE ext a
  | [], _, _, a, ha => by cases ha
  | v :: l, h, hp, a, ha => by
    simp only [OkL] at h
    simp only [partsL] at hp
    rcases List.mem_cons.1 ha with e | ha
    · rw [e]; exact t61 hn v h.1 (by omega)
    · exact t61L hn l h.2 (by omega) a ha
end
theorem t51 (hn : Non ext) (h26 : E26 ext) (h73 : E73 ext) (v : T) (hw : WfV v) : ∃ h e, (cfg ext).Ev 53 [A v] (.tup [.int .u32 h, .int .i64 e]) := by
  have key : ∃ r, (cfg ext).Ev 53 [A v] r ∧ ∃ h e, r = .tup [.int .u32 h, .int .i64 e] := by
    refine Ev.ofE (hn 53 (by decide) (by decide)) Tryd.func53 rfl rfl ?_
    have c := t22 hn h26 h73 v hw
    conv => whnf
    refine ⟨_, c, ?_⟩
    cases ho : okB v with
    | false =>
      conv => whnf
      exact ⟨_, _, rfl⟩
    | true =>
      obtain ⟨r, hr⟩ := t61 hn v (okB_iff.1 ho).1 (okB_iff.1 ho).2.2
      conv => whnf
      refine ⟨_, hr, ?_⟩
      conv => whnf
      exact ⟨_, _, rfl⟩
  obtain ⟨r, h, a, b, rfl⟩ := key
  exact ⟨a, b, h⟩
end
end Go.Proofs.YtbekoaalaofloaaDoor.AB
end

section
open Go Go.Ab Go.Proofs Go.Vl
namespace Go.Proofs.YtbekoaalaofloaaDoor.AB
set_option maxRecDepth 100000
set_option maxHeartbeats 1600000
section
variable {ext : Exts}
theorem t38 (hn : Non ext) : (cfg ext).Ev 39 [.fn 40 []] (.agg [.fn 50 [.ptr [.fn 40 []] 0]]) := by
  refine Ev.of (hn 39 (by decide) (by decide)) Tryd.func39 rfl rfl ?_
  conv => whnf
theorem t40 (hn : Non ext) : (cfg ext).Ev 41 [.fn 42 []] (.agg [.fn 54 [.ptr [.fn 42 []] 0]]) := by
  refine Ev.of (hn 41 (by decide) (by decide)) Tryd.func41 rfl rfl ?_
  conv => whnf
end
end Go.Proofs.YtbekoaalaofloaaDoor.AB
end

section
open Go Go.Ab Go.Proofs Go.Vl
namespace Go.Proofs.YtbekoaalaofloaaDoor.AB
set_option maxRecDepth 100000
set_option maxHeartbeats 1600000
section
variable {ext : Exts}
def nearC (a b : T) : Int := if a.f0 = 2 ∧ b.f0 = 2 then (if cmp3 (awy a.f1) (awy b.f1) = 0 then cmp3 a.f1 b.f1 else cmp3 (awy a.f1) (awy b.f1)) else cmpV a b
theorem t43 (hn : Non ext) (a b : T) (hc : (cfg ext).Ev 37 [A a, A b] (.int .i64 (cmpV a b))) : (cfg ext).Ev 44 [A a, A b] (.int .i64 (nearC a b)) := by
  refine Ev.of (hn 44 (by decide) (by decide)) Tryd.func44 rfl rfl ?_
  conv => whnf
  cases h4 : (a.f0 == 2) with
  | false =>
    conv => whnf
    refine ⟨_, hc, ?_⟩
    conv => whnf
    exact vi (by unfold nearC; simp at h4; simp [h4])
  | true =>
    conv => whnf
    cases h5 : (b.f0 == 2) with
    | false =>
      conv => whnf
      refine ⟨_, hc, ?_⟩
      conv => whnf
      exact vi (by unfold nearC; simp at h5; simp [h5])
    | true =>
      conv => whnf
      refine ⟨_, t56 (hn 58 (by decide) (by decide)) a.f1, ?_⟩
      conv => whnf
      refine ⟨_, t56 (hn 58 (by decide) (by decide)) b.f1, ?_⟩
      conv => whnf
      refine ⟨_, t55 (hn 65 (by decide) (by decide)) (hn 57 (by decide) (by decide)) _ _, ?_⟩
      conv => whnf
      refine ⟨_, t25 (hn 61 (by decide) (by decide)) (hn 47 (by decide) (by decide)) _ _, ?_⟩
      conv => whnf
      refine ⟨_, t49 (hn 51 (by decide) (by decide)) _ _, ?_⟩
      conv => whnf
      exact vi (by unfold nearC; simp at h4 h5; simp [h4, h5])
end
end Go.Proofs.YtbekoaalaofloaaDoor.AB
end

section
open Go Go.Ab Go.Proofs Go.Vl
namespace Go.Ab
theorem Fin.of_eq {P : Program} {fn : Func} {s : St} {R : V → Prop} {v : V} (h : (resOf P fn s).bind (fun r => (fz 6 s.hp r).map Prod.fst) = some v) (hR : R v) : Fin P fn s R := by
  obtain ⟨r, h1, h2⟩ := Option.bind_eq_some_iff.1 h
  obtain ⟨p, h3, h4⟩ := Option.map_eq_some_iff.1 h2
  refine ⟨?_⟩
  rw [h1]
  show opt (fz 6 s.hp r) fun p => R p.1
  rw [h3]
  show R p.1
  rw [h4]; exact hR
end Go.Ab
namespace Go.Proofs.YtbekoaalaofloaaDoor.AB
set_option maxRecDepth 100000
set_option maxHeartbeats 1600000
section
variable {ext : Exts}
def rows : List V := [.fn 37 [], .fn 38 [], .fn 50 [.ptr [.fn 40 []] 0], .fn 54 [.ptr [.fn 42 []] 0], .fn 43 [], .fn 44 []]
theorem t31 (hn : Non ext) : (cfg ext).Ev 35 [] (.sl false rows 6) := by
  have key : ∃ r, (cfg ext).Ev 35 [] r ∧ r = .sl false rows 6 := by
    refine Ev.ofF (hn 35 (by decide) (by decide)) Tryd.func35 rfl rfl ?_
    conv => whnf
    refine ⟨_, t38 hn, ?_⟩
    conv => whnf
    refine ⟨_, t40 hn, ?_⟩
    conv => whnf
    exact Fin.of_eq (v := .sl false rows 6) (by kernel_rfl) rfl
  obtain ⟨r, h, rfl⟩ := key
  exact h
end
end Go.Proofs.YtbekoaalaofloaaDoor.AB
end

section
open Go Go.Ab Go.Proofs Go.Vl
namespace Go.Proofs.YtbekoaalaofloaaDoor.AB
set_option maxRecDepth 100000
set_option maxHeartbeats 1600000
section
variable {ext : Exts}
def rowOf (o : Nat) : V := match o with | 0 => .fn 37 [] | 1 => .fn 38 [] | 2 => .fn 50 [.ptr [.fn 40 []] 0] | 3 => .fn 54 [.ptr [.fn 42 []] 0] | 4 => .fn 43 [] | 5 => .fn 44 [] | _ => .nilfn
theorem t21 (hn : Non ext) (o : Nat) (h5 : o ≤ 5) : (cfg ext).Ev 32 [.int .i64 o] (.tup [.agg [rowOf o], .int .i64 0]) := by
  have key : ∃ r, (cfg ext).Ev 32 [.int .i64 o] r ∧ r = .tup [.agg [rowOf o], .int .i64 0] := by
    refine Ev.ofF (hn 32 (by decide) (by decide)) Tryd.func32 rfl rfl ?_
    conv => whnf
    have g3 : decide ((o : Int) > 5) = false := by simp; omega
    refine sel_no g3 ?_
    conv => whnf
    refine ⟨_, t31 hn, ?_⟩
    have c : o = 0 ∨ o = 1 ∨ o = 2 ∨ o = 3 ∨ o = 4 ∨ o = 5 := by omega
    rcases c with rfl | rfl | rfl | rfl | rfl | rfl
    all_goals
      conv => whnf
      refine ⟨by decide, ?_⟩
      conv => whnf
      refine ⟨le_rfl' rfl, ?_⟩
      conv => whnf
      exact Fin.of_eq (by kernel_rfl) rfl
  obtain ⟨r, h, rfl⟩ := key
  exact h
end
end Go.Proofs.YtbekoaalaofloaaDoor.AB
end

section
open Go Go.Ab Go.Proofs Go.Vl
namespace Go.Proofs.YtbekoaalaofloaaDoor.AB
set_option maxRecDepth 100000
set_option maxHeartbeats 1600000
section
variable {ext : Exts}
theorem l11 (l : List T) (hl : l.length ≤ 65536) (E : ∀ a ∈ l, (cfg ext).Ev 22 [A a] (.int .i64 (if okB a = true then 0 else 3))) (f : V) (hf : cleanV 18 f = f) (Q : Ex → St → Prop) (d : Nat) :
    ∀ (i : Nat) (z : St), l.length - i = d → i ≤ l.length → Has z.t [(26, .int .i64 i), (25, .int .i64 l.length), (24, .sl false (encL l) l.length), (4, .ref 0 0), (6, .ref 7 0)] → Has z.hp.h [(0, some (.cells [.nilfn] false)), (7, some (.cells [f] false))] → z.hp.n = 18 →
      (∀ z' : St, Has z'.t [(4, .ref 0 0), (5, .int .i64 3)] → Has z'.hp.h [(0, some (.cells [f] false))] → (¬ ∀ a ∈ l.drop i, okB a = true) → Q .ret z') →
      (∀ z' : St, Has z'.t [(4, .ref 0 0), (6, .ref 7 0)] → Has z'.hp.h [(0, some (.cells [.nilfn] false)), (7, some (.cells [f] false))] → z'.hp.n = 19 → (∀ a ∈ l.drop i, okB a = true) → Q (.exit 0) z') →
      Go.Ab.Loop (cfg ext) (lpOf Tryd.f30) 18 z Q := by
  induction d with
  | zero =>
    intro i z hd hi hz hb hn hr hq
    rw [St.knows _ _ hz hn _ hb]
    refine Loop.round ?_
    conv => whnf
    refine sel_split (fun h => ?_) (fun h => ?_)
    · simp at h; omega
    conv => whnf
    exact hq _ ⟨rfl, rfl, trivial⟩ ⟨rfl, rfl, trivial⟩ rfl (by intro a ha; rw [List.drop_eq_nil_of_le (by omega)] at ha; cases ha)
  | succ d ih =>
    intro i z hd hi hz hb hn hr hq
    have hlt : i < l.length := by omega
    have eD := List.drop_eq_getElem_cons hlt
    have e1 : IntKind.i64.wrap ((i : Int) + 1) = ((i + 1 : Nat) : Int) := wrapN (by omega) (by omega)
    have hE := E _ (List.getElem_mem hlt)
    rw [St.knows _ _ hz hn _ hb]
    refine Loop.round ?_
    conv => whnf
    refine sel_split (fun h => ?_) (fun h => ?_)
    · conv => whnf
      refine ⟨⟨by omega, by omega⟩, ?_⟩
      conv => whnf
      refine ldA (i := i) hlt ?_
      conv => whnf
      refine ⟨_, hE, ?_⟩
      cases ho : okB l[i] with
      | false =>
        conv => whnf
        exact hr _ ⟨rfl, rfl, trivial⟩ ⟨rfl, trivial⟩ (fun g => by have := g l[i] (by rw [eD]; exact List.mem_cons_self); rw [ho] at this; cases this)
      | true =>
        conv => whnf
        refine ih (i + 1) _ (by omega) (by omega) ⟨?_, rfl, rfl, rfl, rfl, trivial⟩ ⟨rfl, ?_, trivial⟩ rfl (fun z' a b c => hr z' a b (fun g => c (fun x hx => g x (by rw [eD]; exact List.mem_cons_of_mem _ hx)))) (fun z' a b c e => hq z' a b c (fun x hx => by rw [eD] at hx; rcases List.mem_cons.1 hx with rfl | hx; exact ho; exact e x hx))
        · conv => lhs; whnf
          exact vi e1
        · show some (Bx.cells [cleanV 18 f] false) = _
          rw [hf]
    · simp at h; omega
end
end Go.Proofs.YtbekoaalaofloaaDoor.AB
end

section
open Go Go.Ab Go.Proofs Go.Vl
namespace Go.Proofs.YtbekoaalaofloaaDoor.AB
set_option maxRecDepth 100000
set_option maxHeartbeats 1600000
section
variable {ext : Exts}
theorem t11 (hn : Non ext) (o : Nat) (h5 : o ≤ 5) (l : List T) (hl : l.length ≤ 65536) (E : ∀ a ∈ l, (cfg ext).Ev 22 [A a] (.int .i64 (if okB a = true then 0 else 3))) :
    ∃ e : Int, (cfg ext).Ev 30 [.int .i64 o, .sl false (encL l) l.length] (.tup [.agg [rowOf o], .int .i64 e]) ∧ (e = 0 ↔ ∀ a ∈ l, okB a = true) := by
  have hf : cleanV 18 (rowOf o) = rowOf o := by
    have c : o = 0 ∨ o = 1 ∨ o = 2 ∨ o = 3 ∨ o = 4 ∨ o = 5 := by omega
    rcases c with rfl | rfl | rfl | rfl | rfl | rfl <;> rfl
  have h65 : decide ((l.length : Int) > 65536) = false := by simp; omega
  have key : ∃ r, (cfg ext).Ev 30 [.int .i64 o, .sl false (encL l) l.length] r ∧ ∃ e : Int, r = .tup [.agg [rowOf o], .int .i64 e] ∧ (e = 0 ↔ ∀ a ∈ l, okB a = true) := by
    refine Ev.ofF (hn 30 (by decide) (by decide)) Tryd.func30 rfl rfl ?_
    conv => whnf
    refine ⟨_, t21 hn o h5, ?_⟩
    conv => whnf
    refine sel_no h65 ?_
    conv => whnf
    refine l11 l hl E (rowOf o) hf _ l.length 0 _ rfl (by omega) ⟨rfl, rfl, rfl, rfl, rfl, trivial⟩ ⟨rfl, rfl, trivial⟩ rfl (fun z a b c => ?_) (fun z a b c d => ?_)
    · have e0 := a.1
      have e5 := a.2.1
      have eb := b.1
      refine Fin.of_eq (v := .tup [.agg [rowOf o], .int .i64 3]) ?_ ⟨3, rfl, ⟨fun h => absurd h (by decide), fun h => absurd h c⟩⟩
      rw [St.knows _ z.hp.n a rfl _ b]
      have c6 : o = 0 ∨ o = 1 ∨ o = 2 ∨ o = 3 ∨ o = 4 ∨ o = 5 := by omega
      rcases c6 with rfl | rfl | rfl | rfl | rfl | rfl <;> rfl
    · rw [St.knows _ _ a c _ b]
      conv => whnf
      refine Fin.of_eq (v := .tup [.agg [rowOf o], .int .i64 0]) ?_ ⟨0, rfl, ⟨fun _ => d, fun _ => rfl⟩⟩
      have c6 : o = 0 ∨ o = 1 ∨ o = 2 ∨ o = 3 ∨ o = 4 ∨ o = 5 := by omega
      rcases c6 with rfl | rfl | rfl | rfl | rfl | rfl <;> rfl
  obtain ⟨r, h, e, rfl, he⟩ := key
  exact ⟨e, h, he⟩
end
end Go.Proofs.YtbekoaalaofloaaDoor.AB
end

section
open Go Go.Ab Go.Proofs Go.Vl
namespace Go.Proofs.YtbekoaalaofloaaDoor.AB
set_option maxRecDepth 100000
set_option maxHeartbeats 1600000
section
variable {ext : Exts}
/-- an order's row, called -/
def RowE (ext : Exts) (o : Nat) (a b : T) (r : Int) : Prop := match o with
  | 0 => (cfg ext).Ev 37 [A a, A b] (.int .i64 r)
  | 1 => (cfg ext).Ev 38 [A a, A b] (.int .i64 r)
  | 2 => (cfg ext).Ev 50 [A a, A b, .ptr [.fn 40 []] 0] (.int .i64 r)
  | 3 => (cfg ext).Ev 54 [A a, A b, .ptr [.fn 42 []] 0] (.int .i64 r)
  | 4 => (cfg ext).Ev 43 [A a, A b] (.int .i64 r)
  | _ => (cfg ext).Ev 44 [A a, A b] (.int .i64 r)
theorem t5 (hn : Non ext) (o : Nat) (h5 : o ≤ 5) (a b : T) (E : ∀ v ∈ [a, b], (cfg ext).Ev 22 [A v] (.int .i64 (if okB v = true then 0 else 3))) (r : Int) (hr : RowE ext o a b r) :
    ∃ c e : Int, (cfg ext).Ev 28 [.int .i64 o, A a, A b] (.tup [.int .i64 c, .int .i64 e]) ∧ (e = 0 ↔ okB a = true ∧ okB b = true) ∧ (e = 0 → c = r) := by
  obtain ⟨e, h11, he⟩ := t11 hn o h5 [a, b] (by simp) E
  have eL : encL [a, b] = enc a ++ enc b := by simp only [encL, List.append_nil]
  rw [eL, enc_eq, enc_eq] at h11
  have he : e = 0 ↔ okB a = true ∧ okB b = true := by rw [he]; simp
  by_cases e0 : e = 0
  · refine ⟨r, e, ?_, he, fun _ => rfl⟩
    refine Ev.of (hn 28 (by decide) (by decide)) Tryd.func28 rfl rfl ?_
    conv => whnf
    refine ⟨_, h11, ?_⟩
    conv => whnf
    refine sel_no (by simpa using e0) ?_
    have c6 : o = 0 ∨ o = 1 ∨ o = 2 ∨ o = 3 ∨ o = 4 ∨ o = 5 := by omega
    rcases c6 with rfl | rfl | rfl | rfl | rfl | rfl
    all_goals
      conv => whnf
      refine ⟨_, hr, ?_⟩
      conv => whnf
      rw [e0]
  · refine ⟨0, e, ?_, he, fun h => absurd h e0⟩
    refine Ev.of (hn 28 (by decide) (by decide)) Tryd.func28 rfl rfl ?_
    conv => whnf
    refine ⟨_, h11, ?_⟩
    conv => whnf
    refine sel_yes (by simpa using e0) ?_
    conv => whnf
end
end Go.Proofs.YtbekoaalaofloaaDoor.AB
end

section
open Go Go.Ab Go.Proofs Go.Vl
namespace Go.Proofs.YtbekoaalaofloaaDoor.AB
set_option maxRecDepth 100000
set_option maxHeartbeats 1600000
section
variable {ext : Exts}
/-- an order's row says one line -/
def Line (f : T → T → Int) : Prop := (∀ a b, f b a = - f a b) ∧ (∀ a b, Shp a → Shp b → (f a b = 0 ↔ a = b)) ∧ (∀ a b c, Shp a → Shp b → Shp c → f a b ≤ 0 → f b c ≤ 0 → f a c ≤ 0) ∧ ∀ a b, One (f a b)
theorem near_is (a b : T) : nearC a b = kindC 2 (fun v => awy v.f1) a b := by
  unfold nearC kindC
  by_cases h : a.f0 = 2 ∧ b.f0 = 2
  · rw [if_pos h, if_pos h]
    have : cmpV a b = cmpI a.f1 b.f1 := by
      cases a with | mk k n t l =>
      rw [cmpV, if_pos (h.1.trans h.2.symm), if_pos (.inr h.1)]
    unfold lexC
    rw [this]
    rfl
  · rw [if_neg h, if_neg h]
theorem row_line (hn : Non ext) (h26 : E26 ext) (h73 : E73 ext) (o : Nat) (h5 : o ≤ 5) : ∃ f, Line f ∧ ∀ a b, WfV a → WfV b → RowE ext o a b (f a b) := by
  have lex (m : T → Int) : Line (lexC m) := ⟨lexC_turn m, fun _ _ => lexC_eq m, fun _ _ _ => lexC_trans m, lexC_one m⟩
  have kin (q : Int) (m : T → Int) : Line (kindC q m) := ⟨kindC_turn q m, fun _ _ => kindC_eq q m, fun _ _ _ => kindC_trans q m, kindC_one q m⟩
  have e (f : Nat) (h : f ≠ 48) (h' : f ≠ 45) := hn f h h'
  have c6 : o = 0 ∨ o = 1 ∨ o = 2 ∨ o = 3 ∨ o = 4 ∨ o = 5 := by omega
  rcases c6 with rfl | rfl | rfl | rfl | rfl | rfl
  · exact ⟨cmpV, ⟨cmpV_turn, fun _ _ => cmpV_eq, fun _ _ _ => cmpV_le, cmpV_one⟩, fun a b ha hb => t15 hn h26 a ha b⟩
  · refine ⟨fun a b => cmpV b a, ⟨fun a b => cmpV_turn b a, fun a b ha hb => (cmpV_eq hb ha).trans ⟨Eq.symm, Eq.symm⟩, fun a b c ha hb hc h1 h2 => cmpV_le hc hb ha h2 h1, fun a b => cmpV_one b a⟩, fun a b ha hb => ?_⟩
    exact t37 (e 38 (by decide) (by decide)) a b _ (t15 hn h26 b hb a)
  · have ex : ∀ v, ∃ h : Int, WfV v → ∃ e, (cfg ext).Ev 53 [A v] (.tup [.int .u32 h, .int .i64 e]) := fun v => by
      by_cases hw : WfV v
      · obtain ⟨h, e, g⟩ := t51 hn h26 h73 v hw
        exact ⟨h, fun _ => ⟨e, g⟩⟩
      · exact ⟨0, fun h => absurd h hw⟩
    refine ⟨lexC fun v => Classical.choose (ex v), lex _, fun a b ha hb => ?_⟩
    obtain ⟨ea, ga⟩ := Classical.choose_spec (ex a) ha
    obtain ⟨eb, gb⟩ := Classical.choose_spec (ex b) hb
    exact t48 (e 50 (by decide) (by decide)) (e 52 (by decide) (by decide)) (e 63 (by decide) (by decide)) (e 51 (by decide) (by decide)) a b _ _ _ (t39 (e 40 (by decide) (by decide)) a _ _ ga) (t39 (e 40 (by decide) (by decide)) b _ _ gb) (t15 hn h26 a ha b)
  · refine ⟨lexC fun v => cntZ v 16 1024, lex _, fun a b ha hb => ?_⟩
    obtain ⟨ea, ga⟩ := t53 hn h26 h73 a ha
    obtain ⟨eb, gb⟩ := t53 hn h26 h73 b hb
    exact t52 (e 54 (by decide) (by decide)) (e 46 (by decide) (by decide)) (e 60 (by decide) (by decide)) (e 51 (by decide) (by decide)) a b _ _ _ (t41 (e 42 (by decide) (by decide)) a _ _ ga) (t41 (e 42 (by decide) (by decide)) b _ _ gb) (t15 hn h26 a ha b)
  · refine ⟨kindC 3 fun v => Classical.choose (t54 hn v.f2), kin 3 _, fun a b ha hb => ?_⟩
    exact t42 (e 43 (by decide) (by decide)) (e 46 (by decide) (by decide)) (e 60 (by decide) (by decide)) (e 51 (by decide) (by decide)) a b _ _ _ (Classical.choose_spec (t54 hn a.f2)) (Classical.choose_spec (t54 hn b.f2)) (t15 hn h26 a ha b)
  · refine ⟨kindC 2 fun v => awy v.f1, kin 2 _, fun a b ha hb => ?_⟩
    rw [← near_is]
    exact t43 hn a b (t15 hn h26 a ha b)
end
end Go.Proofs.YtbekoaalaofloaaDoor.AB
end

section
open Go Go.Ab Go.Proofs Go.Vl
namespace Go.Proofs.YtbekoaalaofloaaDoor.AB
set_option maxRecDepth 100000
set_option maxHeartbeats 1600000
section
variable {ext : Exts}
theorem t21x (hn : Non ext) (o : Int) (h : o < 0 ∨ o > 5) : (cfg ext).Ev 32 [.int .i64 o] (.tup [.agg [.nilfn], .int .i64 4]) := by
  refine Ev.of (hn 32 (by decide) (by decide)) Tryd.func32 rfl rfl ?_
  conv => whnf
  by_cases h0 : o < 0
  · have g : (decide (o < 0) == false) = false := by simp [h0]
    refine sel_no g ?_
    conv => whnf
    refine sel_no g ?_
    conv => whnf
    refine sel_yes (decide_eq_true h0) ?_
    conv => whnf
  · have g : (decide (o < 0) == false) = true := by simp; omega
    refine sel_yes g ?_
    conv => whnf
    refine sel_yes g ?_
    conv => whnf
    refine sel_no (decide_eq_false h0) ?_
    conv => whnf
    refine sel_yes (decide_eq_true (show o > 5 by omega)) ?_
    conv => whnf
theorem t11x (hn : Non ext) (o : Int) (h : o < 0 ∨ o > 5) (cs : List V) (n : Nat) : (cfg ext).Ev 30 [.int .i64 o, .sl false cs n] (.tup [.agg [.nilfn], .int .i64 4]) := by
  refine Ev.of (hn 30 (by decide) (by decide)) Tryd.func30 rfl rfl ?_
  conv => whnf
  refine ⟨_, t21x hn o h, ?_⟩
  conv => whnf
theorem t5x (hn : Non ext) (o : Int) (h : o < 0 ∨ o > 5) (a b : T) : (cfg ext).Ev 28 [.int .i64 o, A a, A b] (.tup [.int .i64 0, .int .i64 4]) := by
  refine Ev.of (hn 28 (by decide) (by decide)) Tryd.func28 rfl rfl ?_
  conv => whnf
  refine ⟨_, t11x hn o h _ _, ?_⟩
  conv => whnf
end
end Go.Proofs.YtbekoaalaofloaaDoor.AB
end

section
open Go Go.Ab Go.Proofs Go.Vl
namespace Go.Proofs.YtbekoaalaofloaaDoor.AB
def ext0 : Exts := fun f => match f with
  | 48 => some fun xs => match xs with
    | [.str s, .str t] => some (.int .i64 (Lib.compareBytes s.data.toList t.data.toList))
    | _ => none
  | 45 => some fun xs => match xs with
    | [.str s] => some (.tup [.int .i32 (decGo s).1, .int .i64 (decGo s).2])
    | _ => none
  | _ => none
theorem non0 : Non ext0 := fun f h1 h2 => by
  unfold ext0
  split
  · exact absurd rfl h1
  · exact absurd rfl h2
  · rfl
theorem e26 : E26 ext0 := fun _ _ => Ev.ext rfl rfl
theorem e73 : E73 ext0 := fun _ => Ev.ext rfl rfl
end Go.Proofs.YtbekoaalaofloaaDoor.AB
end

section
open Go Go.Ab Go.Proofs Go.Vl Go.RowKit
namespace Go.Proofs.YtbekoaalaofloaaDoor.AB
theorem own : ownKnob Tryd.prog.godebug = none := by kernel_rfl
theorem laidOut : laidOutB Tryd.prog = true := by kernel_rfl
def LaidW (w : World) : Prop := Lib.Utf8Tabs 0 1 w
theorem LaidW.below (w w' : World) (h : LaidW w) (hb : Below w.heap.size w w') : LaidW w' := Go.Proofs.Utf8Tabs_below h hb
set_option maxRecDepth 100000 in
/-- the witness's world: the settled one, the two tables holding what their initialisers lay -/
noncomputable def laidWorld (os : Os) : World :=
  let w0 := World.holding Tryd.prog os ⟨#[], #[], []⟩
  let put (h : Array Obj) (g : Nat) (cs : Array Value) : Array Obj := h.modify g fun
    | .cells _ t frozen => .cells cs t frozen
    | o => o
  let h1 := put w0.heap 0 (Lib.firstTab.map fun z => Value.int .u8 z).toArray
  let h2 := put h1 1 ((List.range 16).flatMap fun i => [Value.int .u8 (Lib.accLo i), Value.int .u8 (Lib.accHi i)]).toArray
  { w0 with heap := h2 }
theorem in64_of_wf {n : Int} (h : (Lit.int .i64 n).wf = true) : In64 n := by
  simp only [Lit.wf, Bool.and_eq_true, decide_eq_true_eq] at h
  have e1 : IntKind.i64.min = -9223372036854775808 := by decide +kernel
  have e2 : IntKind.i64.max = 9223372036854775807 := by decide +kernel
  rw [e1, e2] at h
  exact h
theorem list4 {α : Type} {l : List α} (h : l.length = 4) : ∃ a b c d, l = [a, b, c, d] := by
  match l, h with
  | [a, b, c, d], _ => exact ⟨a, b, c, d, rfl⟩
theorem pick_all {α β : Type} {R : α → β → Prop} : ∀ {l : List β}, (∀ p ∈ l, ∃ x, R x p) → ∃ xs : List α, xs.length = l.length ∧ ∀ (i : Nat) x p, xs[i]? = some x → l[i]? = some p → R x p
  | [], _ => ⟨[], rfl, fun i x p h => by simp at h⟩
  | b :: l, h => by
    obtain ⟨x, hx⟩ := h b List.mem_cons_self
    obtain ⟨xs, h1, h2⟩ := pick_all (l := l) fun p hp => h p (List.mem_cons_of_mem _ hp)
    refine ⟨x :: xs, by simp [h1], fun i y p hy hp => ?_⟩
    cases i with
    | zero => simp at hy hp; subst hy hp; exact hx
    | succ i => exact h2 i y p (by simpa using hy) (by simpa using hp)
theorem rows_enc {parts : List (List V)} (h : ∀ p ∈ parts, ∃ v : T, WfV v ∧ p = enc v) : ∃ l : List T, l.length = parts.length ∧ (∀ v ∈ l, WfV v) ∧ parts.flatten = encL l := by
  induction parts with
  | nil => exact ⟨[], rfl, fun v hv => (by cases hv), by simp only [encL]; rfl⟩
  | cons p ps ih =>
    obtain ⟨v, hv, rfl⟩ := h p List.mem_cons_self
    obtain ⟨l, h1, h2, h3⟩ := ih fun q hq => h q (List.mem_cons_of_mem _ hq)
    refine ⟨v :: l, by simp [h1], fun x hx => ?_, by simp only [List.flatten_cons, h3, encL]⟩
    rcases List.mem_cons.1 hx with rfl | hx
    · exact hv
    · exact h2 x hx
set_option maxRecDepth 100000
/-- what reads as a value is one -/
theorem opens_V : ∀ N, Opens Tryd.prog N 30 (fun vs => ∃ v : T, WfV v ∧ vs = enc v) := by
  intro N
  induction N with
  | zero => exact ⟨fun e w base spare held fuel hf => by omega⟩
  | succ N ih =>
    have hL : Opens Tryd.prog N 22 (fun vs => ∃ parts : List (List V), vs = [.sl false parts.flatten parts.length] ∧ parts.length ≤ 9223372036854775807 ∧ ∀ p ∈ parts, ∃ v : T, WfV v ∧ p = enc v) := by
      cases N with
      | zero => exact ⟨fun e w base spare held fuel hf => by omega⟩
      | succ M =>
        refine opens_slice (m := 4) Tryd.underlying22 (by kernel_rfl) (by decide) (fun vs => ?_) (Opens.le (Nat.le_succ M) ih)
        rintro ⟨v, _, rfl⟩
        rw [enc_eq]; rfl
    refine Opens.mono (opens_struct (Rf := fun j vs => match j with
      | 0 => ∃ n : Int, vs = [.int .i64 n] ∧ (Lit.int .i64 n).wf = true
      | 1 => ∃ n : Int, vs = [.int .i64 n] ∧ (Lit.int .i64 n).wf = true
      | 2 => ∃ s : ByteArray, vs = [.str s] ∧ s.size ≤ 9223372036854775807
      | _ => ∃ parts : List (List V), vs = [.sl false parts.flatten parts.length] ∧ parts.length ≤ 9223372036854775807 ∧ ∀ p ∈ parts, ∃ v : T, WfV v ∧ p = enc v) Tryd.underlying30 (by kernel_rfl) ?_) ?_
    · intro j f hf
      match j, hf with
      | 0, hf => cases hf; exact opens_int Tryd.underlying3
      | 1, hf => cases hf; exact opens_int Tryd.underlying2
      | 2, hf => cases hf; exact opens_string Tryd.underlying9
      | 3, hf => cases hf; exact hL
      | j + 4, hf => simp at hf
    · rintro vs ⟨parts, hp, rfl, hR⟩
      obtain ⟨p0, p1, p2, p3, rfl⟩ := list4 (show parts.length = 4 from hp)
      obtain ⟨k, rfl, wk⟩ := hR 0 p0 rfl
      obtain ⟨n, rfl, wn⟩ := hR 1 p1 rfl
      obtain ⟨t, rfl, wt⟩ := hR 2 p2 rfl
      obtain ⟨rows, rfl, wl, hrows⟩ := hR 3 p3 rfl
      obtain ⟨l, h1, h2, h3⟩ := rows_enc hrows
      refine ⟨⟨k, n, t, l⟩, ?_, ?_⟩
      · simp only [WfV]
        exact ⟨in64_of_wf wk, in64_of_wf wn, wt, by omega, wfL_of l h2⟩
      · simp only [enc, h1, h3, List.flatten_cons, List.flatten_nil, List.append_nil, List.cons_append, List.nil_append]
theorem opens_L (N : Nat) : Opens Tryd.prog N 22 (fun vs => ∃ l : List T, vs = [.sl false (encL l) l.length] ∧ l.length ≤ 9223372036854775807 ∧ ∀ v ∈ l, WfV v) := by
  cases N with
  | zero => exact ⟨fun e w base spare held fuel hf => by omega⟩
  | succ M =>
    refine Opens.mono (opens_slice (m := 4) Tryd.underlying22 (by kernel_rfl) (by decide) (fun vs => ?_) (opens_V M)) ?_
    · rintro ⟨v, _, rfl⟩
      rw [enc_eq]; rfl
    · rintro vs ⟨parts, rfl, hl, hp⟩
      obtain ⟨l, h1, h2, h3⟩ := rows_enc hp
      exact ⟨l, by rw [h3, h1], by omega, h2⟩
end Go.Proofs.YtbekoaalaofloaaDoor.AB
end

section
open Go Go.Ab Go.Proofs Go.Vl Go.RowKit
namespace Go.Proofs.YtbekoaalaofloaaDoor.AB
set_option maxRecDepth 100000
theorem mixed : Tryd.prog.follows .mixedOrders = true := by kernel_rfl
theorem okf : OKF Tryd.prog okF := OKF.of 80 (fun f h => by
  unfold okF at h
  split at h <;> first | (cases h; done) | (have : f + 1 ≤ 80 := Nat.le_of_ble_eq_true h; omega)) (by kernel_rfl)
theorem ext_ok : EXT Tryd.prog LaidW ext0 := by
  intro f g xs r hf hg
  unfold ext0 at hf
  split at hf
  · cases hf
    dsimp only at hg
    split at hg <;> cases hg
    rename_i s t
    refine ⟨⟨_, Tryd.func48, rfl, by decide⟩, fun S w vs hL hS hv => ?_⟩
    obtain ⟨x, ys, hvs, rfl, y, zs, rfl, rfl, h3⟩ := hv
    simp only [VRs] at h3
    subst h3
    obtain rfl : vs = #[.string s, .string t] := by cases vs; simp_all
    refine (Tryd.strings_Compare s t w).mono ?_
    rintro e w' ⟨rfl, rfl⟩
    exact ⟨_, S, rfl, Below.refl _ _, fun _ _ h => h, fun r o h => ⟨hS r o h, fun _ => h⟩, rfl⟩
  · cases hf
    dsimp only at hg
    split at hg <;> cases hg
    rename_i s
    refine ⟨⟨_, Tryd.func45, rfl, by decide⟩, fun S w vs hL hS hv => ?_⟩
    obtain ⟨x, ys, hvs, rfl, h3⟩ := hv
    simp only [VRs] at h3
    subst h3
    obtain rfl : vs = #[.string s] := by cases vs; simp_all
    refine (Tryd.utf8_DecodeRuneInString s w hL).mono ?_
    rintro e w' ⟨rfl, hb⟩
    refine ⟨_, S, rfl, hb, fun _ _ h => h, fun r o h => ⟨Nat.lt_of_lt_of_le (hS r o h) hb.size, fun _ => h⟩, ?_⟩
    exact ⟨_, rfl, ⟨_, _, rfl, rfl, ⟨_, _, rfl, rfl, rfl⟩⟩⟩
  · cases hf
theorem extR_ok : EXTR Tryd.prog LaidW okF extR := by
  intro f g xs hp r hp' _ hf hg
  unfold extR at hf
  cases hf
/-- what the evaluator says of a law, the machine does -/
theorem ev_calls {f : Nat} {vs : List V} (h : (cfg ext0).Ev f vs (.bool true)) (W : World) (hT : LaidW W) (xs : Array Value) (hv : VRs (stab (inW W)) W vs xs.toList) :
    Calls Tryd.prog f xs W fun e w' => e = .returned (.bool true) ∧ Below W.heap.size W w' := by
  refine (Ev.pure (C := cfg ext0) LaidW.below mixed okf ext_ok extR_ok h (inW W) W xs hT (fun r o h => h) hv).mono ?_
  rintro e w' ⟨x, S', rfl, hb, _, _, hx⟩
  exact ⟨by rw [show x = .bool true from hx], hb⟩
end Go.Proofs.YtbekoaalaofloaaDoor.AB
end

section
open Go Go.Ab Go.Proofs Go.Vl
namespace Go.Proofs.YtbekoaalaofloaaDoor.AB
set_option maxRecDepth 100000
set_option maxHeartbeats 1600000
set_option linter.unusedSimpArgs false
section
variable {ext : Exts}
noncomputable def eqT (a b : T) : Bool := @decide (a = b) (Classical.propDecidable _)
theorem eqT_iff {a b : T} : eqT a b = true ↔ a = b := by unfold eqT; exact @decide_eq_true_iff _ (Classical.propDecidable _)
theorem eqT_self (a : T) : eqT a a = true := eqT_iff.2 rfl
noncomputable def eqL (a b : List T) : Bool := @decide (a = b) (Classical.propDecidable _)
theorem eqL_iff {a b : List T} : eqL a b = true ↔ a = b := by unfold eqL; exact @decide_eq_true_iff _ (Classical.propDecidable _)
theorem eqL_self (a : List T) : eqL a a = true := eqL_iff.2 rfl
theorem eqL_cons {a b : T} {l m : List T} : eqL (a :: l) (b :: m) = (eqT a b && eqL l m) := by
  rw [Bool.eq_iff_iff, Bool.and_eq_true, eqL_iff, eqT_iff, eqL_iff]
  exact ⟨fun h => by injection h with h1 h2; exact ⟨h1, h2⟩, fun h => by rw [h.1, h.2]⟩
theorem eqL_drop {l m : List T} {i : Nat} (h1 : i < l.length) (h2 : i < m.length) : eqL (l.drop i) (m.drop i) = (eqT l[i] m[i] && eqL (l.drop (i + 1)) (m.drop (i + 1))) := by
  rw [List.drop_eq_getElem_cons h1, List.drop_eq_getElem_cons h2, eqL_cons]
theorem wrapN1 {i : Nat} (h : i + 1 ≤ 9223372036854775807) : V.int .i64 (IntKind.i64.wrap ((i : Int) + 1)) = V.int .i64 ((i + 1 : Nat) : Int) := by
  rw [IntKind.wrap_i64]; exact vi (by omega)
theorem lplain (k n : Int) (t : ByteArray) (l : List T) (k' n' : Int) (t' : ByteArray) (m : List T) (hm : l.length = m.length) (hl : l.length ≤ 9223372036854775807) (E : ∀ a ∈ l, ∀ b ∈ m, (cfg ext).Ev 9 [A a, A b] (.bool (eqT a b))) (Q : Ex → St → Prop) (d : Nat) :
    ∀ (i : Nat) (z : St), l.length - i = d → i ≤ l.length → Has z.t [(37, .int .i64 i), (36, .int .i64 l.length), (2, .ref 0 0), (3, .ref 1 0)] →
      Has z.hp.h [(0, some (.cells [.int .i64 k, .int .i64 n, .str t, .sl false (encL l) l.length] false)), (1, some (.cells [.int .i64 k', .int .i64 n', .str t', .sl false (encL m) m.length] false))] → z.hp.n = 35 →
      (∀ z', z'.t 4 = .bool false → eqL (l.drop i) (m.drop i) = false → Q .ret z') → (∀ z', eqL (l.drop i) (m.drop i) = true → Q (.exit 0) z') →
      Go.Ab.Loop (cfg ext) (lpOf Tryd.f9) 35 z Q := by
  induction d with
  | zero =>
    intro i z hd hi ht hh hn hr hq
    obtain rfl : i = l.length := by omega
    rw [St.knows _ _ ht hn _ hh]
    refine Loop.round ?_
    conv => whnf
    refine sel_no (by simp) ?_
    conv => whnf
    exact hq _ (by rw [List.drop_length, hm, List.drop_length]; exact eqL_self _)
  | succ d ih =>
    intro i z hd hi ht hh hn hr hq
    have h1 : i < l.length := by omega
    have h2 : i < m.length := by omega
    have hE := E _ (List.getElem_mem h1) _ (List.getElem_mem h2)
    have eD := eqL_drop h1 h2
    rw [St.knows _ _ ht hn _ hh]
    refine Loop.round ?_
    conv => whnf
    refine sel_yes (by simp; omega) ?_
    conv => whnf
    refine ⟨⟨by omega, by omega⟩, ?_⟩
    conv => whnf
    refine ldA (i := i) h1 ?_
    conv => whnf
    refine ⟨⟨by omega, by omega⟩, ?_⟩
    conv => whnf
    refine ldA (i := i) h2 ?_
    conv => whnf
    refine ⟨_, hE, ?_⟩
    cases he : eqT l[i] m[i] with
    | false =>
      conv => whnf
      exact hr _ rfl (by rw [eD, he]; rfl)
    | true =>
      conv => whnf
      refine ih (i + 1) _ (by omega) (by omega) ⟨?_, rfl, rfl, rfl, trivial⟩ ⟨rfl, rfl, trivial⟩ rfl (fun z' a b => hr z' a (by rw [eD, he]; exact b)) (fun z' a => hq z' (by rw [eD, he]; exact a))
      conv => lhs; whnf
      exact wrapN1 (by omega)
mutual
theorem tplain (hn : Non ext) : (a : T) → WfV a → (b : T) → (cfg ext).Ev 9 [A a, A b] (.bool (eqT a b))
  | ⟨k, n, t, l⟩, hw, ⟨k', n', t', m⟩ => by
    have E : ∀ a ∈ l, ∀ b ∈ m, (cfg ext).Ev 9 [A a, A b] (.bool (eqT a b)) := fun a ha b _ => tplainL hn l (by simp only [WfV] at hw; exact hw.2.2.2.2) a ha b
    have hl : l.length ≤ 9223372036854775807 := by simp only [WfV] at hw; exact hw.2.2.2.1
    have no (h : ¬ (k = k' ∧ n = n' ∧ t = t' ∧ l.length = m.length)) : eqT ⟨k, n, t, l⟩ ⟨k', n', t', m⟩ = false := by
      cases e : eqT ⟨k, n, t, l⟩ ⟨k', n', t', m⟩ with
      | false => rfl
      | true => have := eqT_iff.1 e; injection this with e1 e2 e3 e4; exact absurd ⟨e1, e2, e3, by rw [e4]⟩ h
    refine Ev.of (hn 9 (by decide) (by decide)) Tryd.func9 rfl rfl ?_
    conv => whnf
    by_cases h1 : k = k'
    · by_cases h2 : n = n'
      · by_cases h3 : t = t'
        · have h3' : (!(t.toList == t'.toList)) = false := by rw [h3]; simp
          by_cases h4 : l.length = m.length
          · have h4' : ((l.length : Int) != (m.length : Int)) = false := by rw [h4]; simp
            repeat (first
              | (refine sel_no ?_ ?_; (first | exact h3' | exact h4' | (simp only [bne_eq_false_iff_eq, beq_eq_false_iff_ne, beq_iff_eq, beq_false, Bool.not_eq_true']; omega) | (rw [h3']; rfl) | (rw [h4']; rfl)); conv => whnf)
              | (refine sel_yes ?_ ?_; (first | (simp only [bne_eq_false_iff_eq, beq_eq_false_iff_ne, beq_iff_eq, beq_false, Bool.not_eq_true']; omega) | (rw [h3']; rfl) | (rw [h4']; rfl)); conv => whnf))
            refine lplain k n t l k' n' t' m h4 hl E _ _ 0 _ rfl (by omega) ⟨rfl, rfl, rfl, rfl, trivial⟩ ⟨rfl, rfl, trivial⟩ rfl (fun z a b => ?_) (fun z a => ?_)
            · conv => whnf
              rw [a]
              refine congrArg V.bool ?_
              simp only [List.drop_zero] at b
              cases e : eqT ⟨k, n, t, l⟩ ⟨k', n', t', m⟩ with
              | false => rfl
              | true => have := eqT_iff.1 e; injection this with e1 e2 e3 e4; rw [e4, eqL_self] at b; cases b
            · conv => whnf
              refine congrArg V.bool ?_
              simp only [List.drop_zero] at a
              have := eqL_iff.1 a
              rw [h1, h2, h3, this, eqT_self]
          · rw [no (fun h => h4 h.2.2.2)]
            have h4' : ((l.length : Int) != (m.length : Int)) = true := by simp; omega
            repeat (first
              | (refine sel_no ?_ ?_; (first | exact h3' | (simp only [bne_eq_false_iff_eq, beq_eq_false_iff_ne, beq_iff_eq, beq_false, Bool.not_eq_true']; omega) | (rw [h3']; rfl)); conv => whnf)
              | (refine sel_yes ?_ ?_; (first | exact h4' | (simp only [bne_eq_false_iff_eq, beq_eq_false_iff_ne, beq_iff_eq, beq_false, Bool.not_eq_true']; omega) | (rw [h3']; rfl) | (rw [h4']; rfl)); conv => whnf))
        · rw [no (fun h => h3 h.2.2.1)]
          have h3' : (!(t.toList == t'.toList)) = true := by
            rw [Bool.not_eq_true', beq_eq_false_iff_ne]
            intro h
            exact h3 (Go.WideShapes.bytes_inj (by rw [ByteArray.toList_eq, ByteArray.toList_eq] at h; exact h))
          repeat (first
            | (refine sel_no ?_ ?_; (first | (simp only [bne_eq_false_iff_eq, beq_eq_false_iff_ne, beq_iff_eq, beq_false, Bool.not_eq_true']; omega) | (rw [h3']; rfl)); conv => whnf)
            | (refine sel_yes ?_ ?_; (first | exact h3' | (simp only [bne_eq_false_iff_eq, beq_eq_false_iff_ne, beq_iff_eq, beq_false, Bool.not_eq_true']; omega) | (rw [h3']; rfl)); conv => whnf))
      · rw [no (fun h => h2 h.2.1)]
        repeat (first
          | (refine sel_yes ?_ ?_; (first | assumption | (simp only [beq_iff_eq, bne_iff_ne, beq_eq_false_iff_ne, bne_eq_false_iff_eq, decide_eq_true_eq, decide_eq_false_iff_not, Bool.not_eq_true', Bool.not_eq_false', ne_eq, beq_true, beq_false, bne_self_eq_false, not_true_eq_false, not_false_eq_true, gt_iff_lt, ge_iff_le, Int.not_lt, Int.not_le, Bool.true_eq_false, Bool.false_eq_true] <;> omega)); conv => whnf)
          | (refine sel_no ?_ ?_; (first | assumption | (simp only [beq_iff_eq, bne_iff_ne, beq_eq_false_iff_ne, bne_eq_false_iff_eq, decide_eq_true_eq, decide_eq_false_iff_not, Bool.not_eq_true', Bool.not_eq_false', ne_eq, beq_true, beq_false, bne_self_eq_false, not_true_eq_false, not_false_eq_true, gt_iff_lt, ge_iff_le, Int.not_lt, Int.not_le, Bool.true_eq_false, Bool.false_eq_true] <;> omega)); conv => whnf)
          | (refine ⟨le_rfl' ?_, ?_⟩; rfl; conv => whnf)
          | (refine ⟨⟨?_, ?_⟩, ?_⟩; omega; omega; conv => whnf))
    · rw [no (fun h => h1 h.1)]
      repeat (first
        | (refine sel_yes ?_ ?_; (first | assumption | (simp only [beq_iff_eq, bne_iff_ne, beq_eq_false_iff_ne, bne_eq_false_iff_eq, decide_eq_true_eq, decide_eq_false_iff_not, Bool.not_eq_true', Bool.not_eq_false', ne_eq, beq_true, beq_false, bne_self_eq_false, not_true_eq_false, not_false_eq_true, gt_iff_lt, ge_iff_le, Int.not_lt, Int.not_le, Bool.true_eq_false, Bool.false_eq_true] <;> omega)); conv => whnf)
        | (refine sel_no ?_ ?_; (first | assumption | (simp only [beq_iff_eq, bne_iff_ne, beq_eq_false_iff_ne, bne_eq_false_iff_eq, decide_eq_true_eq, decide_eq_false_iff_not, Bool.not_eq_true', Bool.not_eq_false', ne_eq, beq_true, beq_false, bne_self_eq_false, not_true_eq_false, not_false_eq_true, gt_iff_lt, ge_iff_le, Int.not_lt, Int.not_le, Bool.true_eq_false, Bool.false_eq_true] <;> omega)); conv => whnf)
        | (refine ⟨le_rfl' ?_, ?_⟩; rfl; conv => whnf)
        | (refine ⟨⟨?_, ?_⟩, ?_⟩; omega; omega; conv => whnf))
theorem tplainL (hn : Non ext) : (l : List T) → WfL l → ∀ a ∈ l, ∀ b : T, (cfg ext).Ev 9 [A a, A b] (.bool (eqT a b))
  | [], _, a, ha, _ => by cases ha
  | v :: l, hw, a, ha, b => by
    simp only [WfL] at hw
    rcases List.mem_cons.1 ha with e | h
    · rw [e]; exact tplain hn v hw.1 b
    · exact tplainL hn l hw.2 a h b
end
end
end Go.Proofs.YtbekoaalaofloaaDoor.AB
end

section
open Go Go.Ab Go.Proofs Go.Vl
namespace Go.Proofs.YtbekoaalaofloaaDoor.AB
set_option maxRecDepth 100000
set_option maxHeartbeats 1600000
set_option linter.unusedSimpArgs false
theorem St.knowsA {s : St} (L : List (Nat × V)) (n : Nat) (h : Has s.t L) (hn : s.hp.n = n) (B : List (Nat × Option Bx) := []) (hB : Has s.hp.h B := by trivial) (D : List (Nat × Option Arr) := []) (hD : Has s.hp.a D := by trivial) : s = ⟨updL s.t L, ⟨updL s.hp.h B, n, updL s.hp.a D, s.hp.m⟩⟩ := by
  rw [updL_has _ _ h, updL_has _ _ hB, updL_has _ _ hD, ← hn]
section
variable {ext : Exts}
theorem lvals (l m : List T) (hm : l.length = m.length) (hl : l.length ≤ 9223372036854775807) (E : ∀ a ∈ l, ∀ b ∈ m, (cfg ext).Ev 9 [A a, A b] (.bool (eqT a b))) (Q : Ex → St → Prop) (d : Nat) :
    ∀ (i : Nat) (z : St), l.length - i = d → i ≤ l.length → Has z.t [(13, .int .i64 i), (12, .int .i64 l.length), (0, .sl false (encL l) l.length), (1, .sl false (encL m) m.length)] → z.hp.n = 9 →
      (∀ z', z'.t 4 = .bool false → eqL (l.drop i) (m.drop i) = false → Q .ret z') → (∀ z', eqL (l.drop i) (m.drop i) = true → Q (.exit 0) z') →
      Go.Ab.Loop (cfg ext) (lpOf Tryd.f12) 9 z Q := by
  induction d with
  | zero =>
    intro i z hd hi ht hn hr hq
    obtain rfl : i = l.length := by omega
    rw [St.knows _ _ ht hn]
    refine Loop.round ?_
    conv => whnf
    refine sel_no (by simp) ?_
    conv => whnf
    exact hq _ (by rw [List.drop_length, hm, List.drop_length]; exact eqL_self _)
  | succ d ih =>
    intro i z hd hi ht hn hr hq
    have h1 : i < l.length := by omega
    have h2 : i < m.length := by omega
    have hE := E _ (List.getElem_mem h1) _ (List.getElem_mem h2)
    have eD := eqL_drop h1 h2
    rw [St.knows _ _ ht hn]
    refine Loop.round ?_
    conv => whnf
    refine sel_yes (by simp; omega) ?_
    conv => whnf
    refine ⟨⟨by omega, by omega⟩, ?_⟩
    conv => whnf
    refine ldA (i := i) h1 ?_
    conv => whnf
    refine ⟨⟨by omega, by omega⟩, ?_⟩
    conv => whnf
    refine ldA (i := i) h2 ?_
    conv => whnf
    refine ⟨_, hE, ?_⟩
    cases he : eqT l[i] m[i] with
    | false =>
      conv => whnf
      exact hr _ rfl (by rw [eD, he]; rfl)
    | true =>
      conv => whnf
      refine ih (i + 1) _ (by omega) (by omega) ⟨?_, rfl, rfl, rfl, trivial⟩ rfl (fun z' a b => hr z' a (by rw [eD, he]; exact b)) (fun z' a => hq z' (by rw [eD, he]; exact a))
      conv => lhs; whnf
      exact wrapN1 (by omega)
theorem tvals (hn : Non ext) (l m : List T) (hl : l.length ≤ 9223372036854775807) (hw : ∀ v ∈ l, WfV v) : (cfg ext).Ev 12 [.sl false (encL l) l.length, .sl false (encL m) m.length] (.bool (eqL l m)) := by
  refine Ev.of (hn 12 (by decide) (by decide)) Tryd.func12 rfl rfl ?_
  conv => whnf
  by_cases h : l.length = m.length
  · have h' : ((l.length : Int) != (m.length : Int)) = false := by rw [h]; simp
    refine sel_no h' ?_
    conv => whnf
    refine lvals l m h hl (fun a ha b _ => tplain hn a (hw a ha) b) _ _ 0 _ rfl (by omega) ⟨rfl, rfl, rfl, rfl, trivial⟩ rfl (fun z a b => ?_) (fun z a => ?_)
    · conv => whnf
      rw [a]
      simp only [List.drop_zero] at b
      rw [b]
      exact rfl
    · conv => whnf
      simp only [List.drop_zero] at a
      rw [a]
  · have h' : ((l.length : Int) != (m.length : Int)) = true := by simp; omega
    refine sel_yes h' ?_
    conv => whnf
    refine congrArg V.bool ?_
    cases e : eqL l m with
    | false => rfl
    | true => exact absurd (by rw [eqL_iff.1 e]) h
end
end Go.Proofs.YtbekoaalaofloaaDoor.AB
end

section
open Go Go.Ab Go.Proofs Go.Vl
namespace Go.Proofs.YtbekoaalaofloaaDoor.AB
set_option maxRecDepth 100000
set_option maxHeartbeats 1600000
set_option linter.unusedSimpArgs false
section
variable {ext : Exts}
mutual
def heapV : H → V
  | .mk x k => .ptr (enc x ++ [kidsV k]) 0
def kidsV : List H → V
  | [] => .nilp
  | h :: t => .ptr [heapV h, kidsV t] 0
end
def topV : Option H → V
  | none => .nilp
  | some h => heapV h
theorem heapV_eq (h : H) : heapV h = .ptr [.int .i64 h.x.f0, .int .i64 h.x.f1, .str h.x.f2, .sl false (encL h.x.f3) h.x.f3.length, kidsV h.kids] 0 := by
  cases h; simp only [heapV, enc_eq, H.x, H.kids, List.cons_append, List.nil_append]
/-- a queue -/
def QV (o n : Int) (h : Option H) : V := .ptr [.int .i64 o, .int .i64 n, topV h] 0
/-- how a queue compares -/
def byV (q : V) : V := .fn 27 [.ptr [q] 0]
theorem cmp_ex (o : Int) (a b : T) : ∃ c : Int, Non ext → E26 ext → E73 ext → WfV a → WfV b → ∃ e : Int, (cfg ext).Ev 28 [.int .i64 o, A a, A b] (.tup [.int .i64 c, .int .i64 e]) := by
  by_cases hn : Non ext
  · by_cases h26 : E26 ext
    · by_cases h73 : E73 ext
      · by_cases ho : o < 0 ∨ o > 5
        · exact ⟨0, fun _ _ _ _ _ => ⟨4, t5x hn o ho a b⟩⟩
        · obtain ⟨k, rfl⟩ : ∃ k : Nat, o = k := ⟨o.toNat, by omega⟩
          have hk : k ≤ 5 := by omega
          obtain ⟨f, _, hf⟩ := row_line hn h26 h73 k hk
          by_cases ha : WfV a
          · by_cases hb : WfV b
            · have two : ∀ v ∈ [a, b], (cfg ext).Ev 22 [A v] (.int .i64 (if okB v = true then 0 else 3)) := by
                intro v hv
                rcases List.mem_cons.1 hv with rfl | hv
                · exact t22 hn h26 h73 v ha
                · rcases List.mem_cons.1 hv with rfl | hv
                  · exact t22 hn h26 h73 v hb
                  · cases hv
              obtain ⟨c, e, h, _⟩ := t5 hn k hk a b two (f a b) (hf a b ha hb)
              exact ⟨c, fun _ _ _ _ _ => ⟨e, h⟩⟩
            · exact ⟨0, fun _ _ _ _ h => absurd h hb⟩
          · exact ⟨0, fun _ _ _ h _ => absurd h ha⟩
      · exact ⟨0, fun _ _ h _ _ => absurd h h73⟩
    · exact ⟨0, fun _ h _ _ _ => absurd h h26⟩
  · exact ⟨0, fun h _ _ _ _ => absurd h hn⟩
/-- what a queue's order says of two values -/
noncomputable def cO (ext : Exts) (o : Int) (a b : T) : Int := Classical.choose (cmp_ex (ext := ext) o a b)
theorem tby1 (hn : Non ext) (h26 : E26 ext) (h73 : E73 ext) (o n : Int) (h : Option H) (a b : T) (ha : WfV a) (hb : WfV b) : (cfg ext).Ev 27 [A a, A b, .ptr [QV o n h] 0] (.int .i64 (cO ext o a b)) := by
  obtain ⟨e, he⟩ := Classical.choose_spec (cmp_ex (ext := ext) o a b) hn h26 h73 ha hb
  refine Ev.of (hn 27 (by decide) (by decide)) Tryd.func27 rfl rfl ?_
  conv => whnf
  repeat (first
    | (refine sel_yes ?_ ?_; (first | assumption | (simp only [beq_iff_eq, bne_iff_ne, beq_eq_false_iff_ne, bne_eq_false_iff_eq, decide_eq_true_eq, decide_eq_false_iff_not, Bool.not_eq_true', Bool.not_eq_false', ne_eq, beq_true, beq_false, bne_self_eq_false, not_true_eq_false, not_false_eq_true, gt_iff_lt, ge_iff_le, Int.not_lt, Int.not_le, Bool.true_eq_false, Bool.false_eq_true] <;> omega)); conv => whnf)
    | (refine sel_no ?_ ?_; (first | assumption | (simp only [beq_iff_eq, bne_iff_ne, beq_eq_false_iff_ne, bne_eq_false_iff_eq, decide_eq_true_eq, decide_eq_false_iff_not, Bool.not_eq_true', Bool.not_eq_false', ne_eq, beq_true, beq_false, bne_self_eq_false, not_true_eq_false, not_false_eq_true, gt_iff_lt, ge_iff_le, Int.not_lt, Int.not_le, Bool.true_eq_false, Bool.false_eq_true] <;> omega)); conv => whnf)
    | (refine ⟨_, he, ?_⟩; conv => whnf)
    | (refine ⟨le_rfl' ?_, ?_⟩; rfl; conv => whnf)
    | (refine ⟨⟨?_, ?_⟩, ?_⟩; omega; omega; conv => whnf))
  try exact rfl
theorem tby (hn : Non ext) (q : V) (o n : Int) (h : Option H) (hq : q = QV o n h) : (cfg ext).Ev 19 [q] (byV q) := by
  subst hq
  refine Ev.of (hn 19 (by decide) (by decide)) Tryd.func19 rfl rfl ?_
  cases h with
  | none =>
    conv => whnf
    exact rfl
  | some h =>
    conv => whnf
    exact rfl
theorem tsome (hn : Non ext) (o n : Int) (h : Option H) : (cfg ext).Ev 20 [QV o n h] (QV o n h) := by
  refine Ev.of (hn 20 (by decide) (by decide)) Tryd.func20 rfl rfl ?_
  conv => whnf
  try exact rfl
theorem tsome0 (hn : Non ext) : (cfg ext).Ev 20 [.nilp] (QV 0 0 none) := by
  refine Ev.of (hn 20 (by decide) (by decide)) Tryd.func20 rfl rfl ?_
  conv => whnf
  try exact rfl
theorem tLen (hn : Non ext) (o n : Int) (h : Option H) : (cfg ext).Ev 10 [QV o n h] (.int .i64 n) := by
  refine Ev.of (hn 10 (by decide) (by decide)) Tryd.func10 rfl rfl ?_
  conv => whnf
  repeat (first
    | (refine sel_yes ?_ ?_; (first | assumption | (simp only [beq_iff_eq, bne_iff_ne, beq_eq_false_iff_ne, bne_eq_false_iff_eq, decide_eq_true_eq, decide_eq_false_iff_not, Bool.not_eq_true', Bool.not_eq_false', ne_eq, beq_true, beq_false, bne_self_eq_false, not_true_eq_false, not_false_eq_true, gt_iff_lt, ge_iff_le, Int.not_lt, Int.not_le, Bool.true_eq_false, Bool.false_eq_true] <;> omega)); conv => whnf)
    | (refine sel_no ?_ ?_; (first | assumption | (simp only [beq_iff_eq, bne_iff_ne, beq_eq_false_iff_ne, bne_eq_false_iff_eq, decide_eq_true_eq, decide_eq_false_iff_not, Bool.not_eq_true', Bool.not_eq_false', ne_eq, beq_true, beq_false, bne_self_eq_false, not_true_eq_false, not_false_eq_true, gt_iff_lt, ge_iff_le, Int.not_lt, Int.not_le, Bool.true_eq_false, Bool.false_eq_true] <;> omega)); conv => whnf)
    | (refine ⟨_, tsome hn o n h, ?_⟩; conv => whnf)
    | (refine ⟨le_rfl' ?_, ?_⟩; rfl; conv => whnf)
    | (refine ⟨⟨?_, ?_⟩, ?_⟩; omega; omega; conv => whnf))
  try exact rfl
theorem tLen0 (hn : Non ext) : (cfg ext).Ev 10 [.nilp] (.int .i64 0) := by
  refine Ev.of (hn 10 (by decide) (by decide)) Tryd.func10 rfl rfl ?_
  conv => whnf
  repeat (first
    | (refine sel_yes ?_ ?_; (first | assumption | (simp only [beq_iff_eq, bne_iff_ne, beq_eq_false_iff_ne, bne_eq_false_iff_eq, decide_eq_true_eq, decide_eq_false_iff_not, Bool.not_eq_true', Bool.not_eq_false', ne_eq, beq_true, beq_false, bne_self_eq_false, not_true_eq_false, not_false_eq_true, gt_iff_lt, ge_iff_le, Int.not_lt, Int.not_le, Bool.true_eq_false, Bool.false_eq_true] <;> omega)); conv => whnf)
    | (refine sel_no ?_ ?_; (first | assumption | (simp only [beq_iff_eq, bne_iff_ne, beq_eq_false_iff_ne, bne_eq_false_iff_eq, decide_eq_true_eq, decide_eq_false_iff_not, Bool.not_eq_true', Bool.not_eq_false', ne_eq, beq_true, beq_false, bne_self_eq_false, not_true_eq_false, not_false_eq_true, gt_iff_lt, ge_iff_le, Int.not_lt, Int.not_le, Bool.true_eq_false, Bool.false_eq_true] <;> omega)); conv => whnf)
    | (refine ⟨_, tsome0 hn, ?_⟩; conv => whnf)
    | (refine ⟨le_rfl' ?_, ?_⟩; rfl; conv => whnf)
    | (refine ⟨⟨?_, ?_⟩, ?_⟩; omega; omega; conv => whnf))
  try exact rfl
theorem tNew (hn : Non ext) (o : Int) (h0 : 0 ≤ o) (h5 : o ≤ 5) : (cfg ext).Ev 14 [.int .i64 o] (.tup [QV o 0 none, .int .i64 0]) := by
  refine Ev.of (hn 14 (by decide) (by decide)) Tryd.func14 rfl rfl ?_
  conv => whnf
  repeat (first
    | (refine sel_yes ?_ ?_; (first | assumption | (simp only [beq_iff_eq, bne_iff_ne, beq_eq_false_iff_ne, bne_eq_false_iff_eq, decide_eq_true_eq, decide_eq_false_iff_not, Bool.not_eq_true', Bool.not_eq_false', ne_eq, beq_true, beq_false, bne_self_eq_false, not_true_eq_false, not_false_eq_true, gt_iff_lt, ge_iff_le, Int.not_lt, Int.not_le, Bool.true_eq_false, Bool.false_eq_true] <;> omega)); conv => whnf)
    | (refine sel_no ?_ ?_; (first | assumption | (simp only [beq_iff_eq, bne_iff_ne, beq_eq_false_iff_ne, bne_eq_false_iff_eq, decide_eq_true_eq, decide_eq_false_iff_not, Bool.not_eq_true', Bool.not_eq_false', ne_eq, beq_true, beq_false, bne_self_eq_false, not_true_eq_false, not_false_eq_true, gt_iff_lt, ge_iff_le, Int.not_lt, Int.not_le, Bool.true_eq_false, Bool.false_eq_true] <;> omega)); conv => whnf)
    | (refine ⟨le_rfl' ?_, ?_⟩; rfl; conv => whnf)
    | (refine ⟨⟨?_, ?_⟩, ?_⟩; omega; omega; conv => whnf))
  try exact rfl
theorem tNewx (hn : Non ext) (o : Int) (h : o < 0 ∨ o > 5) : (cfg ext).Ev 14 [.int .i64 o] (.tup [.nilp, .int .i64 4]) := by
  refine Ev.of (hn 14 (by decide) (by decide)) Tryd.func14 rfl rfl ?_
  conv => whnf
  by_cases h0 : o < 0
  · repeat (first
      | (refine sel_yes ?_ ?_; (first | assumption | (simp only [beq_iff_eq, bne_iff_ne, beq_eq_false_iff_ne, bne_eq_false_iff_eq, decide_eq_true_eq, decide_eq_false_iff_not, Bool.not_eq_true', Bool.not_eq_false', ne_eq, beq_true, beq_false, bne_self_eq_false, not_true_eq_false, not_false_eq_true, gt_iff_lt, ge_iff_le, Int.not_lt, Int.not_le, Bool.true_eq_false, Bool.false_eq_true] <;> omega)); conv => whnf)
      | (refine sel_no ?_ ?_; (first | assumption | (simp only [beq_iff_eq, bne_iff_ne, beq_eq_false_iff_ne, bne_eq_false_iff_eq, decide_eq_true_eq, decide_eq_false_iff_not, Bool.not_eq_true', Bool.not_eq_false', ne_eq, beq_true, beq_false, bne_self_eq_false, not_true_eq_false, not_false_eq_true, gt_iff_lt, ge_iff_le, Int.not_lt, Int.not_le, Bool.true_eq_false, Bool.false_eq_true] <;> omega)); conv => whnf)
      | (refine ⟨le_rfl' ?_, ?_⟩; rfl; conv => whnf)
      | (refine ⟨⟨?_, ?_⟩, ?_⟩; omega; omega; conv => whnf))
    try exact rfl
  · repeat (first
      | (refine sel_yes ?_ ?_; (first | assumption | (simp only [beq_iff_eq, bne_iff_ne, beq_eq_false_iff_ne, bne_eq_false_iff_eq, decide_eq_true_eq, decide_eq_false_iff_not, Bool.not_eq_true', Bool.not_eq_false', ne_eq, beq_true, beq_false, bne_self_eq_false, not_true_eq_false, not_false_eq_true, gt_iff_lt, ge_iff_le, Int.not_lt, Int.not_le, Bool.true_eq_false, Bool.false_eq_true] <;> omega)); conv => whnf)
      | (refine sel_no ?_ ?_; (first | assumption | (simp only [beq_iff_eq, bne_iff_ne, beq_eq_false_iff_ne, bne_eq_false_iff_eq, decide_eq_true_eq, decide_eq_false_iff_not, Bool.not_eq_true', Bool.not_eq_false', ne_eq, beq_true, beq_false, bne_self_eq_false, not_true_eq_false, not_false_eq_true, gt_iff_lt, ge_iff_le, Int.not_lt, Int.not_le, Bool.true_eq_false, Bool.false_eq_true] <;> omega)); conv => whnf)
      | (refine ⟨le_rfl' ?_, ?_⟩; rfl; conv => whnf)
      | (refine ⟨⟨?_, ?_⟩, ?_⟩; omega; omega; conv => whnf))
    try exact rfl
end
end Go.Proofs.YtbekoaalaofloaaDoor.AB
end

section
open Go Go.Ab Go.Proofs Go.Vl
namespace Go.Proofs.YtbekoaalaofloaaDoor.AB
set_option maxRecDepth 100000
set_option maxHeartbeats 1600000
set_option linter.unusedSimpArgs false
section
variable {ext : Exts}
abbrev encX (v : T) : List V := [.int .i64 v.f0, .int .i64 v.f1, .str v.f2, .sl false (encL v.f3) v.f3.length]
theorem enc_flat (v : T) : ∀ c ∈ enc v, flatV c = true := by
  intro c hc
  rw [enc_eq] at hc
  simp only [List.mem_cons, List.not_mem_nil, or_false] at hc
  rcases hc with rfl | rfl | rfl | rfl <;> rfl
theorem encL_cold : ∀ (l : List T), ∀ c ∈ encL l, cold c = true
  | [], c, hc => by simp only [encL] at hc; cases hc
  | v :: l, c, hc => by
    simp only [encL, enc_eq] at hc
    rcases List.mem_append.1 hc with hc | hc
    · simp only [List.mem_cons, List.not_mem_nil, or_false] at hc
      rcases hc with rfl | rfl | rfl | rfl <;> rfl
    · exact encL_cold l c hc
theorem encL_app : ∀ (l m : List T), encL (l ++ m) = encL l ++ encL m
  | [], m => by simp only [List.nil_append, encL]
  | v :: l, m => by simp only [List.cons_append, encL, encL_app l m, List.append_assoc]
theorem lown (l : List T) (hl : l.length ≤ 1024) (k n : Int) (t : ByteArray) (E : ∀ a ∈ l, (cfg ext).Ev 21 [A a] (A a)) (Q : Ex → St → Prop) (d : Nat) :
    ∀ (i : Nat) (z : St) (cs : List V), l.length - i = d → i ≤ l.length → cs.length = l.length * 4 → cs.take (i * 4) = encL (l.take i) → (∀ c ∈ cs, flatV c = true) →
      Has z.t [(19, .int .i64 i), (18, .int .i64 l.length), (17, .sl false (encL l) l.length), (3, .rsl false 9 0 0 l.length), (1, .ref 0 0), (2, .ref 1 0)] →
      Has z.hp.h [(0, some (.cells [.int .i64 k, .int .i64 n, .str t, .sl false (encL l) l.length] false)), (1, some (.cells [.int .i64 0, .int .i64 0, .str ⟨#[]⟩, .sl true [] 0] false))] → z.hp.n = 15 → Has z.hp.a [(9, some ⟨0, 4, cs, some l.length, 0⟩)] →
      (∀ (z' : St), Has z'.t [(3, .rsl false 9 0 0 l.length), (1, .ref 0 0), (2, .ref 1 0)] → Has z'.hp.h [(0, some (.cells [.int .i64 k, .int .i64 n, .str t, .sl false (encL l) l.length] false)), (1, some (.cells [.int .i64 0, .int .i64 0, .str ⟨#[]⟩, .sl true [] 0] false))] → z'.hp.n = 16 → Has z'.hp.a [(9, some ⟨0, 4, encL l, some l.length, 0⟩)] → Q (.exit 0) z') →
      Go.Ab.Loop (cfg ext) (lpOf Tryd.f21) 15 z Q := by
  induction d with
  | zero =>
    intro i z cs hd hi hcs hp hf ht hh hn ha hq
    obtain rfl : i = l.length := by omega
    have hcs' : cs = encL l := by
      rw [List.take_of_length_le (by omega), List.take_length] at hp
      exact hp
    subst hcs'
    rw [St.knowsA _ _ ht hn _ hh _ ha]
    refine Loop.round ?_
    conv => whnf
    refine sel_no (by simp) ?_
    conv => whnf
    exact hq _ ⟨rfl, rfl, rfl, trivial⟩ ⟨rfl, rfl, trivial⟩ rfl ⟨rfl, trivial⟩
  | succ d ih =>
    intro i z cs hd hi hcs hp hf ht hh hn ha hq
    have h1 : i < l.length := by omega
    have hE := E _ (List.getElem_mem h1)
    rw [St.knowsA _ _ ht hn _ hh _ ha]
    refine Loop.round ?_
    conv => whnf
    refine sel_yes (by simp; omega) ?_
    conv => whnf
    refine ⟨⟨by omega, by omega⟩, ?_⟩
    conv => whnf
    refine ldA (i := i) h1 ?_
    conv => whnf
    refine ⟨_, hE, ?_⟩
    conv => whnf
    refine ⟨⟨by omega, by omega⟩, ?_⟩
    conv => whnf
    have hx : (encX l[i]).length = 4 := rfl
    have hle : 0 + i * 4 + (encX l[i]).length ≤ cs.length := by rw [hx, hcs]; omega
    refine opt_store (b := 9) (v := 0) (sz := 4) (ro := 0) (cs := cs) (cap := some l.length) (o := 0 + i * 4) (vs := encX l[i]) rfl (Nat.zero_le _) hle fun a' b1 b2 => ?_
    conv => whnf
    have e0 : 0 + i * 4 = i * 4 := Nat.zero_add _
    rw [e0] at b1 hle
    refine ih (i + 1) _ (fillL cs (i * 4) (encX l[i])) (by omega) (by omega) (by rw [fill_len hle, hcs]) ?_ ?_ ⟨?_, rfl, rfl, rfl, rfl, rfl, trivial⟩ ⟨rfl, rfl, trivial⟩ rfl ⟨?_, trivial⟩ hq
    · have := fill_take hle
      rw [hx] at this
      rw [show (i + 1) * 4 = i * 4 + 4 by omega, this, hp, List.take_succ_eq_append_getElem h1, encL_app]
      simp only [encL, List.append_nil]
      rw [enc_eq]
    · intro c hc
      rcases fill_mem hc with hc | hc
      · exact hf c hc
      · exact enc_flat l[i] c (by rw [enc_eq]; exact hc)
    · conv => lhs; whnf
      exact wrapN1 (by omega)
    · show (match a' 9 with | some A => some { A with cs := A.cs.map (cleanV 15) } | none => none) = _
      rw [b1]
      have : ∀ c ∈ fillL cs (i * 4) (encX l[i]), flatV c = true := by
        intro c hc
        rcases fill_mem hc with hc | hc
        · exact hf c hc
        · exact enc_flat l[i] c (by rw [enc_eq]; exact hc)
      simp only [cleans_flat 15 this]
mutual
theorem town (hn : Non ext) : (v : T) → partsV v ≤ 1024 → (cfg ext).Ev 21 [A v] (A v)
  | ⟨k, n, t, l⟩, hp => by
    simp only [partsV] at hp
    have hl := partsL_len l
    have E := townL hn l (by omega)
    have key : ∃ r, (cfg ext).Ev 21 [A ⟨k, n, t, l⟩] r ∧ r = A ⟨k, n, t, l⟩ := by
      refine Ev.ofF (hn 21 (by decide) (by decide)) Tryd.func21 rfl rfl ?_
      conv => whnf
      by_cases h0 : l = []
      · subst h0
        conv => whnf
        exact ⟨rfl⟩
      · have h0' : ((l.length : Int) == 0) = false := by
          rw [beq_eq_false_iff_ne]
          intro h
          exact h0 (List.eq_nil_of_length_eq_zero (by omega))
        refine sel_no h0' ?_
        conv => whnf
        refine opt_make (n := l.length) (k := .i64) (k' := .i64) (t := 22) (e := 30) (l := .tmp 14) (c := .tmp 14) (z := [V.int .i64 0, V.int .i64 0, V.str ⟨#[]⟩, V.sl true [] 0]) ?_ ?_ ?_ ?_ ?_ ?_ ?_ ?_
        · rfl
        · rfl
        · rfl
        · rfl
        · rfl
        · rfl
        · exact ⟨by show l.length * 56 ≤ 140737488355328; omega, by show l.length ≤ 140737488355328; omega⟩
        conv => whnf
        refine lown l (by omega) k n t E _ _ 0 _ ((List.replicate l.length [V.int .i64 0, V.int .i64 0, V.str ⟨#[]⟩, V.sl true [] 0]).flatten) rfl (by omega) (by rw [len_zero]; rfl) (by simp only [Nat.zero_mul, List.take_zero]; simp only [encL]) (flat_zero (fun c hc => ?_) _) ⟨rfl, rfl, rfl, rfl, rfl, rfl, trivial⟩ ⟨rfl, rfl, trivial⟩ rfl ⟨rfl, trivial⟩ (fun z a b c d => ?_)
        · simp only [List.mem_cons, List.not_mem_nil, or_false] at hc
          rcases hc with rfl | rfl | rfl | rfl <;> rfl
        · rw [St.knowsA _ _ a c _ b _ d]
          conv => whnf
          exact Fin.row (k1 := .i64) (k2 := .i64) rfl (by rfl) (encL_len l) (encL_cold l) rfl
    obtain ⟨r, h, rfl⟩ := key
    exact h
theorem townL (hn : Non ext) : (l : List T) → partsL l ≤ 1024 → ∀ a ∈ l, (cfg ext).Ev 21 [A a] (A a)
  | [], _, a, ha => by cases ha
  | v :: l, hp, a, ha => by
    simp only [partsL] at hp
    rcases List.mem_cons.1 ha with e | ha
    · rw [e]; exact town hn v (by omega)
    · exact townL hn l (by omega) a ha
end
end
end Go.Proofs.YtbekoaalaofloaaDoor.AB
end

section
open Go Go.Ab Go.Proofs Go.Vl
namespace Go.Proofs.YtbekoaalaofloaaDoor.AB
set_option maxRecDepth 100000
set_option maxHeartbeats 1600000
set_option linter.unusedSimpArgs false
section
variable {ext : Exts}
theorem heapV_form (h : H) : ∃ cs, heapV h = .ptr cs 0 := ⟨_, heapV_eq h⟩
theorem kidsV_form (l : List H) : (kidsV l = .nilp ∧ l = []) ∨ ∃ cs, kidsV l = .ptr cs 0 := by
  cases l with
  | nil => exact .inl ⟨by simp only [kidsV], rfl⟩
  | cons h t => exact .inr ⟨[heapV h, kidsV t], by simp only [kidsV]⟩
theorem topV_form (o : Option H) : (topV o = .nilp ∧ o = none) ∨ ∃ cs, topV o = .ptr cs 0 := by
  cases o with
  | none => exact .inl ⟨rfl, rfl⟩
  | some h => exact .inr (heapV_form h)
theorem topV_cold (o : Option H) : cold (topV o) = true := by
  rcases topV_form o with ⟨h, _⟩ | ⟨cs, h⟩ <;> rw [h] <;> rfl
theorem tmeld (hn : Non ext) (h26 : E26 ext) (h73 : E73 ext) (o n : Int) (q : Option H) (a b : Option H) (ha : AllO WfV a) (hb : AllO WfV b) :
    (cfg ext).Ev 23 [topV a, topV b, byV (QV o n q)] (topV (meldH (cO ext o) a b)) := by
  cases a with
  | none =>
    show (cfg ext).Ev 23 [.nilp, topV b, byV (QV o n q)] (topV b)
    rcases topV_form b with ⟨h, _⟩ | ⟨cs, h⟩ <;> rw [h]
    · refine Ev.of (hn 23 (by decide) (by decide)) Tryd.func23 rfl rfl ?_
      conv => whnf
      try exact rfl
    · refine Ev.of (hn 23 (by decide) (by decide)) Tryd.func23 rfl rfl ?_
      conv => whnf
      try exact rfl
  | some a =>
    cases b with
    | none =>
      show (cfg ext).Ev 23 [heapV a, .nilp, byV (QV o n q)] (heapV a)
      obtain ⟨cs, h⟩ := heapV_form a
      rw [h]
      refine Ev.of (hn 23 (by decide) (by decide)) Tryd.func23 rfl rfl ?_
      conv => whnf
      try exact rfl
    | some b =>
      have wa : WfV a.x := by cases a; simp only [AllO, AllH] at ha; exact ha.1
      have wb : WfV b.x := by cases b; simp only [AllO, AllH] at hb; exact hb.1
      have hc := tby1 hn h26 h73 o n q b.x a.x wb wa
      by_cases hlt : cO ext o b.x a.x < 0
      · have e : topV (meldH (cO ext o) (some a) (some b)) = .ptr [.int .i64 b.x.f0, .int .i64 b.x.f1, .str b.x.f2, .sl false (encL b.x.f3) b.x.f3.length, .ptr [heapV a, kidsV b.kids] 0] 0 := by
          rw [show meldH (cO ext o) (some a) (some b) = some (.mk b.x (a :: b.kids)) from if_pos hlt]
          show heapV _ = _
          rw [heapV_eq]
          exact rfl
        rw [e]
        show (cfg ext).Ev 23 [heapV a, heapV b, byV (QV o n q)] _
        rw [heapV_eq a, heapV_eq b]
        rcases kidsV_form b.kids with ⟨hk, _⟩ | ⟨ck, hk⟩ <;> rw [hk]
        all_goals
          refine Ev.of (hn 23 (by decide) (by decide)) Tryd.func23 rfl rfl ?_
          conv => whnf
          repeat (first
            | (refine sel_yes ?_ ?_; (first | assumption | (simp only [beq_iff_eq, bne_iff_ne, beq_eq_false_iff_ne, bne_eq_false_iff_eq, decide_eq_true_eq, decide_eq_false_iff_not, Bool.not_eq_true', Bool.not_eq_false', ne_eq, beq_true, beq_false, bne_self_eq_false, not_true_eq_false, not_false_eq_true, gt_iff_lt, ge_iff_le, Int.not_lt, Int.not_le, Bool.true_eq_false, Bool.false_eq_true] <;> omega)); conv => whnf)
            | (refine sel_no ?_ ?_; (first | assumption | (simp only [beq_iff_eq, bne_iff_ne, beq_eq_false_iff_ne, bne_eq_false_iff_eq, decide_eq_true_eq, decide_eq_false_iff_not, Bool.not_eq_true', Bool.not_eq_false', ne_eq, beq_true, beq_false, bne_self_eq_false, not_true_eq_false, not_false_eq_true, gt_iff_lt, ge_iff_le, Int.not_lt, Int.not_le, Bool.true_eq_false, Bool.false_eq_true] <;> omega)); conv => whnf)
            | (refine ⟨_, hc, ?_⟩; conv => whnf)
            | (refine ⟨le_rfl' ?_, ?_⟩; rfl; conv => whnf)
            | (refine ⟨⟨?_, ?_⟩, ?_⟩; omega; omega; conv => whnf))
          try exact rfl
      · have e : topV (meldH (cO ext o) (some a) (some b)) = .ptr [.int .i64 a.x.f0, .int .i64 a.x.f1, .str a.x.f2, .sl false (encL a.x.f3) a.x.f3.length, .ptr [heapV b, kidsV a.kids] 0] 0 := by
          rw [show meldH (cO ext o) (some a) (some b) = some (.mk a.x (b :: a.kids)) from if_neg hlt]
          show heapV _ = _
          rw [heapV_eq]
          exact rfl
        rw [e]
        show (cfg ext).Ev 23 [heapV a, heapV b, byV (QV o n q)] _
        rw [heapV_eq a, heapV_eq b]
        rcases kidsV_form a.kids with ⟨hk, _⟩ | ⟨ck, hk⟩ <;> rw [hk]
        all_goals
          refine Ev.of (hn 23 (by decide) (by decide)) Tryd.func23 rfl rfl ?_
          conv => whnf
          repeat (first
            | (refine sel_yes ?_ ?_; (first | assumption | (simp only [beq_iff_eq, bne_iff_ne, beq_eq_false_iff_ne, bne_eq_false_iff_eq, decide_eq_true_eq, decide_eq_false_iff_not, Bool.not_eq_true', Bool.not_eq_false', ne_eq, beq_true, beq_false, bne_self_eq_false, not_true_eq_false, not_false_eq_true, gt_iff_lt, ge_iff_le, Int.not_lt, Int.not_le, Bool.true_eq_false, Bool.false_eq_true] <;> omega)); conv => whnf)
            | (refine sel_no ?_ ?_; (first | assumption | (simp only [beq_iff_eq, bne_iff_ne, beq_eq_false_iff_ne, bne_eq_false_iff_eq, decide_eq_true_eq, decide_eq_false_iff_not, Bool.not_eq_true', Bool.not_eq_false', ne_eq, beq_true, beq_false, bne_self_eq_false, not_true_eq_false, not_false_eq_true, gt_iff_lt, ge_iff_le, Int.not_lt, Int.not_le, Bool.true_eq_false, Bool.false_eq_true] <;> omega)); conv => whnf)
            | (refine ⟨_, hc, ?_⟩; conv => whnf)
            | (refine ⟨le_rfl' ?_, ?_⟩; rfl; conv => whnf)
            | (refine ⟨⟨?_, ?_⟩, ?_⟩; omega; omega; conv => whnf))
          try exact rfl
end
end Go.Proofs.YtbekoaalaofloaaDoor.AB
end

section
open Go Go.Ab Go.Proofs Go.Vl
namespace Go.Proofs.YtbekoaalaofloaaDoor.AB
set_option maxRecDepth 100000
set_option maxHeartbeats 16000000
set_option linter.unusedSimpArgs false
section
variable {ext : Exts}
theorem map_cold (l : List (Option H)) : ∀ c ∈ l.map topV, cold c = true := by
  intro c hc
  obtain ⟨o, _, rfl⟩ := List.mem_map.1 hc
  exact topV_cold o
theorem lpair (hn : Non ext) (h26 : E26 ext) (h73 : E73 ext) (o n : Int) (q : Option H) (Q : Ex → St → Prop) (d : Nat) :
    ∀ (l : List H) (D : List (Option H)) (S : V) (z : St), l.length ≤ d → D.length + d ≤ 100000 → AllK WfV l → Has z.t [(0, kidsV l), (1, byV (QV o n q)), (5, S)] → z.hp.n = 2 → Gro 1 z.hp.a z.hp.m S (D.map topV) D.length →
      (∀ (S' : V) (D' : List (Option H)) (z' : St), Has z'.t [(1, byV (QV o n q)), (5, S')] → z'.hp.n = 4 → D' = D ++ twoH (cO ext o) l → D'.length ≤ 100000 → Gro 1 z'.hp.a z'.hp.m S' (D'.map topV) D'.length → Q (.exit 0) z') →
      Go.Ab.Loop (cfg ext) (lpOf Tryd.f18) 2 z Q := by
  induction d with
  | zero =>
    intro l D S z hl hD hw ht hz hg hq
    obtain rfl : l = [] := List.eq_nil_of_length_eq_zero (by omega)
    simp only [kidsV] at ht
    rw [St.knows _ _ ht hz]
    refine Loop.round ?_
    conv => whnf
    exact hq S D _ ⟨rfl, rfl, trivial⟩ rfl (by simp [twoH]) (by omega) (hg.mono (fun _ _ => rfl) (by simp only [St.put, St.new, St.bump]; exact Nat.le_add_right _ _))
  | succ d ih =>
    intro l D S z hl hD hw ht hz hg hq
    cases l with
    | nil =>
      simp only [kidsV] at ht
      rw [St.knows _ _ ht hz]
      refine Loop.round ?_
      conv => whnf
      exact hq S D _ ⟨rfl, rfl, trivial⟩ rfl (by simp [twoH]) (by omega) (hg.mono (fun _ _ => rfl) (by simp only [St.put, St.new, St.bump]; exact Nat.le_add_right _ _))
    | cons h t =>
      cases t with
      | nil =>
        simp only [kidsV] at ht
        obtain ⟨ch, eh⟩ := heapV_form h
        rw [eh] at ht
        have eA : D.map topV ++ [.ptr ch 0] = (D ++ [some h]).map topV := by simp [topV, eh]
        have eB : D.length + 1 = (D ++ [some h]).length := by simp
        rcases hg.form with ⟨eS, _⟩ | ⟨bS, vS, eS⟩ <;> subst eS
        all_goals
          rw [St.knows _ _ ht hz]
          refine Loop.round ?_
          conv => whnf
          repeat (first
            | (refine sel_yes ?_ ?_; (first | assumption | (simp only [beq_iff_eq, bne_iff_ne, beq_eq_false_iff_ne, bne_eq_false_iff_eq, decide_eq_true_eq, decide_eq_false_iff_not, Bool.not_eq_true', Bool.not_eq_false', ne_eq, beq_true, beq_false, bne_self_eq_false, not_true_eq_false, not_false_eq_true, gt_iff_lt, ge_iff_le, Int.not_lt, Int.not_le, Bool.true_eq_false, Bool.false_eq_true] <;> omega)); conv => whnf)
            | (refine sel_no ?_ ?_; (first | assumption | (simp only [beq_iff_eq, bne_iff_ne, beq_eq_false_iff_ne, bne_eq_false_iff_eq, decide_eq_true_eq, decide_eq_false_iff_not, Bool.not_eq_true', Bool.not_eq_false', ne_eq, beq_true, beq_false, bne_self_eq_false, not_true_eq_false, not_false_eq_true, gt_iff_lt, ge_iff_le, Int.not_lt, Int.not_le, Bool.true_eq_false, Bool.false_eq_true] <;> omega)); conv => whnf)
            | (refine ⟨le_rfl' ?_, ?_⟩; rfl; conv => whnf)
            | (refine ⟨⟨?_, ?_⟩, ?_⟩; omega; omega; conv => whnf))
          try exact rfl
          refine ⟨rfl, ?_⟩
          conv => whnf
          refine ⟨⟨rfl, (show (1 : Nat) ≠ 0 by decide)⟩, ?_⟩
          refine Gro.one hg ⟨_, _, _, _, rfl, upd_is _ _ _⟩ ?_ ?_ ?_ ?_ ?_ ?_ (fun b1 v1 a1 h1 => ?_)
          · intro b0 hb0
            exact upd_lt (Nat.lt_of_lt_of_le hb0 (by ((conv => lhs; whnf); (repeat ((conv => rhs; whnf); first | with_reducible exact Nat.le_refl _ | refine Nat.le_trans ?_ (Nat.le_add_right _ _) | refine Nat.le_succ_of_le ?_)))))
          · rfl
          · exact (fun c hc => by rcases List.mem_singleton.1 hc with rfl; rfl)
          · exact ⟨by show (_ + 1) * 8 ≤ 140737488355328; (try simp only [List.length_append, List.length_cons, List.length_nil]); omega, by show _ + 1 ≤ 140737488355328; (try simp only [List.length_append, List.length_cons, List.length_nil]); omega⟩
          · exact Nat.add_lt_add_left (by decide) _
          · ((conv => lhs; whnf); (repeat ((conv => rhs; whnf); first | with_reducible exact Nat.le_refl _ | refine Nat.le_trans ?_ (Nat.le_add_right _ _) | refine Nat.le_succ_of_le ?_)))
          conv => whnf
          refine ih [] (D ++ [some h]) (.rsl false b1 v1 0 (D.length + 1)) _ (by simp) (by simp; omega) (by simp only [AllK]) ⟨rfl, rfl, rfl, trivial⟩ rfl ?_ (fun S' D' z' a b c => hq S' D' z' a b (by rw [c]; simp [twoH]))
          refine Gro.to (Gro.truncR h1 ?_) eA eB
          (conv => lhs; whnf); (repeat ((conv => rhs; whnf); first | with_reducible exact Nat.le_refl _ | refine Nat.le_trans ?_ (Nat.le_add_right _ _) | refine Nat.le_succ_of_le ?_))
      | cons g t =>
        simp only [AllK] at hw
        have hm : (cfg ext).Ev 23 [heapV h, heapV g, byV (QV o n q)] (topV (meldH (cO ext o) (some h) (some g))) := tmeld hn h26 h73 o n q (some h) (some g) hw.1 hw.2.1
        have et : twoH (cO ext o) (h :: g :: t) = meldH (cO ext o) (some h) (some g) :: twoH (cO ext o) t := rfl
        rw [et] at hq
        generalize meldH (cO ext o) (some h) (some g) = r at hm hq
        obtain ⟨ch, eh⟩ := heapV_form h
        obtain ⟨cg, eg⟩ := heapV_form g
        simp only [kidsV] at ht
        rw [eh, eg] at ht hm
        obtain ⟨er, hr⟩ : ∃ e, topV r = e := ⟨_, rfl⟩
        have hcr : cold er = true := by rw [← hr]; exact topV_cold r
        have hfr : er = .nilp ∨ ∃ cs, er = .ptr cs 0 := by rw [← hr]; rcases topV_form r with ⟨h, _⟩ | h; exact .inl h; exact .inr h
        obtain ⟨ek, hk⟩ : ∃ e, kidsV t = e := ⟨_, rfl⟩
        have hfk : ek = .nilp ∨ ∃ cs, ek = .ptr cs 0 := by rw [← hk]; rcases kidsV_form t with ⟨h, _⟩ | h; exact .inl h; exact .inr h
        rw [hk] at ht
        rw [hr] at hm
        have eA : D.map topV ++ [er] = (D ++ [r]).map topV := by simp [hr]
        have eB : D.length + 1 = (D ++ [r]).length := by simp
        rcases hg.form with ⟨eS, _⟩ | ⟨bS, vS, eS⟩ <;> subst eS <;> rcases hfr with rfl | ⟨cr, rfl⟩ <;> rcases hfk with rfl | ⟨ck, rfl⟩
        all_goals
          rw [St.knows _ _ ht hz]
          refine Loop.round ?_
          conv => whnf
          repeat (first
            | (refine sel_yes ?_ ?_; (first | assumption | (simp only [beq_iff_eq, bne_iff_ne, beq_eq_false_iff_ne, bne_eq_false_iff_eq, decide_eq_true_eq, decide_eq_false_iff_not, Bool.not_eq_true', Bool.not_eq_false', ne_eq, beq_true, beq_false, bne_self_eq_false, not_true_eq_false, not_false_eq_true, gt_iff_lt, ge_iff_le, Int.not_lt, Int.not_le, Bool.true_eq_false, Bool.false_eq_true] <;> omega)); conv => whnf)
            | (refine sel_no ?_ ?_; (first | assumption | (simp only [beq_iff_eq, bne_iff_ne, beq_eq_false_iff_ne, bne_eq_false_iff_eq, decide_eq_true_eq, decide_eq_false_iff_not, Bool.not_eq_true', Bool.not_eq_false', ne_eq, beq_true, beq_false, bne_self_eq_false, not_true_eq_false, not_false_eq_true, gt_iff_lt, ge_iff_le, Int.not_lt, Int.not_le, Bool.true_eq_false, Bool.false_eq_true] <;> omega)); conv => whnf)
            | (refine ⟨_, hm, ?_⟩; conv => whnf)
            | (refine ⟨le_rfl' ?_, ?_⟩; rfl; conv => whnf)
            | (refine ⟨⟨?_, ?_⟩, ?_⟩; omega; omega; conv => whnf))
          try exact rfl
          refine ⟨rfl, ?_⟩
          conv => whnf
          refine ⟨⟨rfl, (show (1 : Nat) ≠ 0 by decide)⟩, ?_⟩
          refine Gro.one hg ⟨_, _, _, _, rfl, upd_is _ _ _⟩ ?_ ?_ ?_ ?_ ?_ ?_ (fun b1 v1 a1 h1 => ?_)
          · intro b0 hb0
            exact upd_lt (Nat.lt_of_lt_of_le hb0 (by ((conv => lhs; whnf); (repeat ((conv => rhs; whnf); first | with_reducible exact Nat.le_refl _ | refine Nat.le_trans ?_ (Nat.le_add_right _ _) | refine Nat.le_succ_of_le ?_)))))
          · rfl
          · exact (fun c hc => by rcases List.mem_singleton.1 hc with rfl; rfl)
          · exact ⟨by show (_ + 1) * 8 ≤ 140737488355328; (try simp only [List.length_append, List.length_cons, List.length_nil]); omega, by show _ + 1 ≤ 140737488355328; (try simp only [List.length_append, List.length_cons, List.length_nil]); omega⟩
          · exact Nat.add_lt_add_left (by decide) _
          · ((conv => lhs; whnf); (repeat ((conv => rhs; whnf); first | with_reducible exact Nat.le_refl _ | refine Nat.le_trans ?_ (Nat.le_add_right _ _) | refine Nat.le_succ_of_le ?_)))
          conv => whnf
          refine ih t (D ++ [r]) (.rsl false b1 v1 0 (D.length + 1)) _ (by simp only [List.length_cons] at hl; omega) (by simp; omega) hw.2.2 ⟨hk.symm, rfl, rfl, trivial⟩ rfl ?_ (fun S' D' z' a b c => hq S' D' z' a b (by rw [c]; simp))
          refine Gro.to (Gro.truncR h1 ?_) eA eB
          (conv => lhs; whnf); (repeat ((conv => rhs; whnf); first | with_reducible exact Nat.le_refl _ | refine Nat.le_trans ?_ (Nat.le_add_right _ _) | refine Nat.le_succ_of_le ?_))
end
end Go.Proofs.YtbekoaalaofloaaDoor.AB
end

section
open Go Go.Ab Go.Proofs Go.Vl
namespace Go.Proofs.YtbekoaalaofloaaDoor.AB
set_option maxRecDepth 100000
set_option maxHeartbeats 4000000
set_option linter.unusedSimpArgs false
section
variable {ext : Exts}
theorem allS_get {p : T → Prop} : ∀ {D : List (Option H)}, AllS p D → ∀ (i : Nat) (h : i < D.length), AllO p D[i]
  | d :: D, hw, 0, _ => hw.1
  | d :: D, hw, i + 1, h => allS_get hw.2 i (by simpa using h)
theorem allS_drop {p : T → Prop} : ∀ {D : List (Option H)}, AllS p D → ∀ i, AllS p (D.drop i)
  | D, hw, 0 => by simpa using hw
  | [], _, i + 1 => by simp [AllS]
  | d :: D, hw, i + 1 => by simpa using allS_drop hw.2 i
theorem lfold (hn : Non ext) (h26 : E26 ext) (h73 : E73 ext) (o n : Int) (q : Option H) (D : List (Option H)) (hD : D.length ≤ 100000) (hw : AllS WfV D) (b v : Nat) (Q : Ex → St → Prop) :
    ∀ (i : Nat) (z : St), i ≤ D.length → Has z.t [(1, byV (QV o n q)), (5, .rsl false b v 0 D.length), (7, topV (foldH (cO ext o) (D.drop i))), (8, .int .i64 ((i : Int) - 1))] → z.hp.n = 9 → z.hp.a b = some ⟨v, 1, D.map topV, none, 0⟩ →
      (∀ (z' : St), z'.t 7 = topV (foldH (cO ext o) D) → Q (.exit 2) z') → Go.Ab.Loop (cfg ext) (lpN Tryd.f18 1) 9 z Q := by
  intro i
  induction i with
  | zero =>
    intro z hi ht hz ha hq
    rw [St.knows _ _ ht hz]
    refine Loop.round ?_
    conv => whnf
    exact hq _ rfl
  | succ j ih =>
    intro z hi ht hz ha hq
    have e1 : ((j + 1 : Nat) : Int) - 1 = (j : Int) := by omega
    rw [e1] at ht
    have hj : j < D.length := by omega
    have hm := tmeld hn h26 h73 o n q D[j] (foldH (cO ext o) (D.drop (j + 1))) (allS_get hw j hj) (fold_all _ _ (allS_drop hw _))
    have ef : meldH (cO ext o) D[j] (foldH (cO ext o) (D.drop (j + 1))) = foldH (cO ext o) (D.drop j) := by rw [List.drop_eq_getElem_cons hj]; rfl
    rw [ef] at hm
    obtain ⟨er, hr⟩ : ∃ e, topV D[j] = e := ⟨_, rfl⟩
    have hfr : er = .nilp ∨ ∃ cs, er = .ptr cs 0 := by rw [← hr]; rcases topV_form D[j] with ⟨h, _⟩ | h; exact .inl h; exact .inr h
    obtain ⟨et, h7⟩ : ∃ e, topV (foldH (cO ext o) (D.drop (j + 1))) = e := ⟨_, rfl⟩
    have hft : et = .nilp ∨ ∃ cs, et = .ptr cs 0 := by rw [← h7]; rcases topV_form (foldH (cO ext o) (D.drop (j + 1))) with ⟨h, _⟩ | h; exact .inl h; exact .inr h
    obtain ⟨es, h8⟩ : ∃ e, topV (foldH (cO ext o) (D.drop j)) = e := ⟨_, rfl⟩
    have hfs : es = .nilp ∨ ∃ cs, es = .ptr cs 0 := by rw [← h8]; rcases topV_form (foldH (cO ext o) (D.drop j)) with ⟨h, _⟩ | h; exact .inl h; exact .inr h
    rw [h7] at ht
    rw [hr, h7, h8] at hm
    have hc : (D.map topV)[0 + j * 1]? = some er := by
      rw [Nat.zero_add, Nat.mul_one, List.getElem?_map, List.getElem?_eq_getElem hj, ← hr]; rfl
    have hb : (0 : Int) ≤ (j : Int) ∧ (j : Int) < (D.length : Int) := ⟨by omega, by omega⟩
    rcases hfr with rfl | ⟨cr, rfl⟩ <;> rcases hft with rfl | ⟨ct, rfl⟩ <;> rcases hfs with rfl | ⟨cs, rfl⟩
    all_goals
      rw [St.knows _ _ ht hz]
      refine Loop.round ?_
      conv => whnf
      refine ⟨hb, ?_⟩
      conv => whnf
      refine opt_look1 ha (fun l hl => by cases hl) hc ?_
      conv => whnf
      refine ⟨_, hm, ?_⟩
      conv => whnf
      refine ih _ (by omega) ⟨rfl, rfl, h8.symm, ?_, trivial⟩ rfl ?_ hq
      · conv => lhs; whnf
        exact vi (by rw [IntKind.wrap_i64]; omega)
      · show (match z.hp.a b with | some A => some { A with cs := A.cs.map (cleanV 9) } | none => none) = _
        rw [ha]
        simp only [cleans_cold 9 (map_cold D)]
theorem tpaired (hn : Non ext) (h26 : E26 ext) (h73 : E73 ext) (o n : Int) (q : Option H) (l : List H) (hl : l.length ≤ 100000) (hw : AllK WfV l) :
    (cfg ext).Ev 18 [kidsV l, byV (QV o n q)] (topV (pairedH (cO ext o) l)) := by
  have key : ∃ r, (cfg ext).Ev 18 [kidsV l, byV (QV o n q)] r ∧ r = topV (pairedH (cO ext o) l) := by
    refine Ev.ofF (hn 18 (by decide) (by decide)) Tryd.func18 rfl rfl ?_
    conv => whnf
    refine lpair hn h26 h73 o n q _ l.length l [] (.sl true [] 0) _ (Nat.le_refl _) (by simpa using hl) hw ⟨rfl, rfl, rfl, trivial⟩ rfl (Gro.nil _ _ _) (fun S D z a b c d e => ?_)
    rw [List.nil_append] at c
    subst c
    rcases e.is with ⟨rfl, e0⟩ | ⟨bS, vS, hb, rfl, ha⟩
    · have e1 : twoH (cO ext o) l = [] := List.eq_nil_of_length_eq_zero e0
      have e2 : pairedH (cO ext o) l = none := by unfold pairedH; rw [e1]; rfl
      rw [e2]
      rw [St.knows _ _ a b]
      conv => whnf
      refine Loop.round ?_
      conv => whnf
      exact ⟨rfl⟩
    · rw [St.knows _ _ a b]
      conv => whnf
      refine lfold hn h26 h73 o n q _ d (two_all _ _ hw) bS vS _ (twoH (cO ext o) l).length _ (Nat.le_refl _) ⟨rfl, rfl, ?_, ?_, trivial⟩ rfl ha (fun z e => ?_)
      · rw [List.drop_length]; rfl
      · conv => lhs; whnf
        exact vi (by rw [IntKind.wrap_i64]; omega)
      · obtain ⟨er, hr⟩ : ∃ x, topV (foldH (cO ext o) (twoH (cO ext o) l)) = x := ⟨_, rfl⟩
        have hfr : er = .nilp ∨ ∃ cs, er = .ptr cs 0 := by rw [← hr]; rcases topV_form (foldH (cO ext o) (twoH (cO ext o) l)) with ⟨h, _⟩ | h; exact .inl h; exact .inr h
        unfold pairedH
        rw [hr] at e ⊢
        rw [St.knows [(7, er)] _ ⟨e, trivial⟩ rfl]
        rcases hfr with rfl | ⟨cr, rfl⟩
        · conv => whnf
          exact ⟨rfl⟩
        · conv => whnf
          exact ⟨rfl⟩
  obtain ⟨r, h, rfl⟩ := key
  exact h
end
end Go.Proofs.YtbekoaalaofloaaDoor.AB
end

section
open Go Go.Ab Go.Proofs Go.Vl
namespace Go.Proofs.YtbekoaalaofloaaDoor.AB
set_option maxRecDepth 100000
set_option maxHeartbeats 4000000
set_option linter.unusedSimpArgs false
section
variable {ext : Exts}
/-- nothing -/
def zT : T := ⟨0, 0, ⟨#[]⟩, []⟩
/-- a good item: right, its numbers ints' -/
def Gd (v : T) : Prop := WfV v ∧ partsV v ≤ 1024
theorem gd_of {v : T} (hw : WfV v) (h : okB v = true) : Gd v := ⟨hw, (okB_iff.1 h).2.2⟩
mutual
theorem allH_mono {p q : T → Prop} (h : ∀ v, p v → q v) : ∀ x : H, AllH p x → AllH q x
  | .mk x k, hx => by simp only [AllH] at hx ⊢; exact ⟨h x hx.1, allK_mono h k hx.2⟩
theorem allK_mono {p q : T → Prop} (h : ∀ v, p v → q v) : ∀ l : List H, AllK p l → AllK q l
  | [], _ => by simp only [AllK]
  | x :: l, hx => by simp only [AllK] at hx ⊢; exact ⟨allH_mono h x hx.1, allK_mono h l hx.2⟩
end
theorem allO_mono {p q : T → Prop} (h : ∀ v, p v → q v) {o : Option H} (ho : AllO p o) : AllO q o := by
  cases o with
  | none => trivial
  | some x => exact allH_mono h x ho
theorem tMin (hn : Non ext) (o n : Int) (h : H) (hx : Gd h.x) : (cfg ext).Ev 11 [QV o n (some h)] (.tup [A h.x, .int .i64 0]) := by
  have e : QV o n (some h) = .ptr [.int .i64 o, .int .i64 n, .ptr [.int .i64 h.x.f0, .int .i64 h.x.f1, .str h.x.f2, .sl false (encL h.x.f3) h.x.f3.length, kidsV h.kids] 0] 0 := by
    rw [← heapV_eq]; rfl
  have hs := tsome hn o n (some h)
  have ho := town hn h.x hx.2
  rw [e] at hs ⊢
  refine Ev.of (hn 11 (by decide) (by decide)) Tryd.func11 rfl rfl ?_
  conv => whnf
  repeat (first
    | (refine sel_yes ?_ ?_; (first | assumption | (simp only [beq_iff_eq, bne_iff_ne, beq_eq_false_iff_ne, bne_eq_false_iff_eq, decide_eq_true_eq, decide_eq_false_iff_not, Bool.not_eq_true', Bool.not_eq_false', ne_eq, beq_true, beq_false, bne_self_eq_false, not_true_eq_false, not_false_eq_true, gt_iff_lt, ge_iff_le, Int.not_lt, Int.not_le, Bool.true_eq_false, Bool.false_eq_true] <;> omega)); conv => whnf)
    | (refine sel_no ?_ ?_; (first | assumption | (simp only [beq_iff_eq, bne_iff_ne, beq_eq_false_iff_ne, bne_eq_false_iff_eq, decide_eq_true_eq, decide_eq_false_iff_not, Bool.not_eq_true', Bool.not_eq_false', ne_eq, beq_true, beq_false, bne_self_eq_false, not_true_eq_false, not_false_eq_true, gt_iff_lt, ge_iff_le, Int.not_lt, Int.not_le, Bool.true_eq_false, Bool.false_eq_true] <;> omega)); conv => whnf)
    | (refine ⟨_, hs, ?_⟩; conv => whnf)
    | (refine ⟨_, ho, ?_⟩; conv => whnf)
    | (refine ⟨le_rfl' ?_, ?_⟩; rfl; conv => whnf)
    | (refine ⟨⟨?_, ?_⟩, ?_⟩; omega; omega; conv => whnf))
  try exact rfl
theorem tMin0 (hn : Non ext) (o n : Int) : (cfg ext).Ev 11 [QV o n none] (.tup [A zT, .int .i64 6]) := by
  have hs := tsome hn o n none
  refine Ev.of (hn 11 (by decide) (by decide)) Tryd.func11 rfl rfl ?_
  conv => whnf
  repeat (first
    | (refine sel_yes ?_ ?_; (first | assumption | (simp only [beq_iff_eq, bne_iff_ne, beq_eq_false_iff_ne, bne_eq_false_iff_eq, decide_eq_true_eq, decide_eq_false_iff_not, Bool.not_eq_true', Bool.not_eq_false', ne_eq, beq_true, beq_false, bne_self_eq_false, not_true_eq_false, not_false_eq_true, gt_iff_lt, ge_iff_le, Int.not_lt, Int.not_le, Bool.true_eq_false, Bool.false_eq_true] <;> omega)); conv => whnf)
    | (refine sel_no ?_ ?_; (first | assumption | (simp only [beq_iff_eq, bne_iff_ne, beq_eq_false_iff_ne, bne_eq_false_iff_eq, decide_eq_true_eq, decide_eq_false_iff_not, Bool.not_eq_true', Bool.not_eq_false', ne_eq, beq_true, beq_false, bne_self_eq_false, not_true_eq_false, not_false_eq_true, gt_iff_lt, ge_iff_le, Int.not_lt, Int.not_le, Bool.true_eq_false, Bool.false_eq_true] <;> omega)); conv => whnf)
    | (refine ⟨_, hs, ?_⟩; conv => whnf)
    | (refine ⟨le_rfl' ?_, ?_⟩; rfl; conv => whnf)
    | (refine ⟨⟨?_, ?_⟩, ?_⟩; omega; omega; conv => whnf))
  try exact rfl
theorem tMinN (hn : Non ext) : (cfg ext).Ev 11 [.nilp] (.tup [A zT, .int .i64 6]) := by
  refine Ev.of (hn 11 (by decide) (by decide)) Tryd.func11 rfl rfl ?_
  conv => whnf
  repeat (first
    | (refine sel_yes ?_ ?_; (first | assumption | (simp only [beq_iff_eq, bne_iff_ne, beq_eq_false_iff_ne, bne_eq_false_iff_eq, decide_eq_true_eq, decide_eq_false_iff_not, Bool.not_eq_true', Bool.not_eq_false', ne_eq, beq_true, beq_false, bne_self_eq_false, not_true_eq_false, not_false_eq_true, gt_iff_lt, ge_iff_le, Int.not_lt, Int.not_le, Bool.true_eq_false, Bool.false_eq_true] <;> omega)); conv => whnf)
    | (refine sel_no ?_ ?_; (first | assumption | (simp only [beq_iff_eq, bne_iff_ne, beq_eq_false_iff_ne, bne_eq_false_iff_eq, decide_eq_true_eq, decide_eq_false_iff_not, Bool.not_eq_true', Bool.not_eq_false', ne_eq, beq_true, beq_false, bne_self_eq_false, not_true_eq_false, not_false_eq_true, gt_iff_lt, ge_iff_le, Int.not_lt, Int.not_le, Bool.true_eq_false, Bool.false_eq_true] <;> omega)); conv => whnf)
    | (refine ⟨_, tsome0 hn, ?_⟩; conv => whnf)
    | (refine ⟨le_rfl' ?_, ?_⟩; rfl; conv => whnf)
    | (refine ⟨⟨?_, ?_⟩, ?_⟩; omega; omega; conv => whnf))
  try exact rfl
theorem sizeK_len : ∀ l : List H, l.length ≤ sizeK l
  | [] => Nat.zero_le _
  | h :: t => by
    have := sizeK_len t
    have : 1 ≤ sizeH h := by cases h; simp only [sizeH]; omega
    simp only [List.length_cons, sizeK]; omega
theorem tPop (hn : Non ext) (h26 : E26 ext) (h73 : E73 ext) (o : Int) (n : Nat) (h : H) (hs : sizeH h = n) (h1 : n ≤ 65536) (hw : AllH Gd h) :
    (cfg ext).Ev 8 [QV o n (some h)] (.tup [QV o ((n : Int) - 1) (pairedH (cO ext o) h.kids), A h.x, .int .i64 0]) := by
  obtain ⟨x, k⟩ := h
  simp only [AllH] at hw
  simp only [sizeH] at hs
  have hk := sizeK_len k
  have hm := tMin hn o n (.mk x k) hw.1
  have hb := tby hn (QV o n (some (.mk x k))) o n (some (.mk x k)) rfl
  have hp := tpaired hn h26 h73 o n (some (.mk x k)) k (by omega) (allK_mono (fun v h => h.1) k hw.2)
  have hwr : IntKind.i64.wrap ((n : Int) - 1) = (n : Int) - 1 := by rw [IntKind.wrap_i64]; omega
  have e : QV o n (some (.mk x k)) = .ptr [.int .i64 o, .int .i64 n, .ptr [.int .i64 x.f0, .int .i64 x.f1, .str x.f2, .sl false (encL x.f3) x.f3.length, kidsV k] 0] 0 := by
    show V.ptr [_, _, heapV (.mk x k)] 0 = _
    rw [heapV_eq]; rfl
  rw [e] at hm hb hp ⊢
  simp only [H.kids, H.x] at hm ⊢
  rw [← hwr]
  unfold QV
  obtain ⟨er, hr⟩ : ∃ e, topV (pairedH (cO ext o) k) = e := ⟨_, rfl⟩
  have hfr : er = .nilp ∨ ∃ cs, er = .ptr cs 0 := by rw [← hr]; rcases topV_form (pairedH (cO ext o) k) with ⟨h, _⟩ | h; exact .inl h; exact .inr h
  rw [hr] at hp ⊢
  obtain ⟨ek, hk⟩ : ∃ e, kidsV k = e := ⟨_, rfl⟩
  have hfk : ek = .nilp ∨ ∃ cs, ek = .ptr cs 0 := by rw [← hk]; rcases kidsV_form k with ⟨h, _⟩ | h; exact .inl h; exact .inr h
  rw [hk] at hm hb hp ⊢
  rcases hfr with rfl | ⟨cr, rfl⟩ <;> rcases hfk with rfl | ⟨ck, rfl⟩
  all_goals
    refine Ev.of (hn 8 (by decide) (by decide)) Tryd.func8 rfl rfl ?_
    conv => whnf
    repeat (first
      | (refine sel_yes ?_ ?_; (first | assumption | (simp only [beq_iff_eq, bne_iff_ne, beq_eq_false_iff_ne, bne_eq_false_iff_eq, decide_eq_true_eq, decide_eq_false_iff_not, Bool.not_eq_true', Bool.not_eq_false', ne_eq, beq_true, beq_false, bne_self_eq_false, not_true_eq_false, not_false_eq_true, gt_iff_lt, ge_iff_le, Int.not_lt, Int.not_le, Bool.true_eq_false, Bool.false_eq_true] <;> omega)); conv => whnf)
      | (refine sel_no ?_ ?_; (first | assumption | (simp only [beq_iff_eq, bne_iff_ne, beq_eq_false_iff_ne, bne_eq_false_iff_eq, decide_eq_true_eq, decide_eq_false_iff_not, Bool.not_eq_true', Bool.not_eq_false', ne_eq, beq_true, beq_false, bne_self_eq_false, not_true_eq_false, not_false_eq_true, gt_iff_lt, ge_iff_le, Int.not_lt, Int.not_le, Bool.true_eq_false, Bool.false_eq_true] <;> omega)); conv => whnf)
      | (refine ⟨_, hm, ?_⟩; conv => whnf)
      | (refine ⟨_, hb, ?_⟩; conv => whnf)
      | (refine ⟨_, hp, ?_⟩; conv => whnf)
      | (refine ⟨le_rfl' ?_, ?_⟩; rfl; conv => whnf)
      | (refine ⟨⟨?_, ?_⟩, ?_⟩; omega; omega; conv => whnf))
    try exact rfl
end
end Go.Proofs.YtbekoaalaofloaaDoor.AB
end

section
open Go Go.Ab Go.Proofs Go.Vl
namespace Go.Proofs.YtbekoaalaofloaaDoor.AB
set_option maxRecDepth 100000
set_option maxHeartbeats 4000000
set_option linter.unusedSimpArgs false
section
variable {ext : Exts}
theorem tPop0 (hn : Non ext) (o n : Int) : (cfg ext).Ev 8 [QV o n none] (.tup [.nilp, A zT, .int .i64 6]) := by
  have hm := tMin0 hn o n
  refine Ev.of (hn 8 (by decide) (by decide)) Tryd.func8 rfl rfl ?_
  conv => whnf
  repeat (first
    | (refine sel_yes ?_ ?_; (first | assumption | (simp only [beq_iff_eq, bne_iff_ne, beq_eq_false_iff_ne, bne_eq_false_iff_eq, decide_eq_true_eq, decide_eq_false_iff_not, Bool.not_eq_true', Bool.not_eq_false', ne_eq, beq_true, beq_false, bne_self_eq_false, not_true_eq_false, not_false_eq_true, gt_iff_lt, ge_iff_le, Int.not_lt, Int.not_le, Bool.true_eq_false, Bool.false_eq_true] <;> omega)); conv => whnf)
    | (refine sel_no ?_ ?_; (first | assumption | (simp only [beq_iff_eq, bne_iff_ne, beq_eq_false_iff_ne, bne_eq_false_iff_eq, decide_eq_true_eq, decide_eq_false_iff_not, Bool.not_eq_true', Bool.not_eq_false', ne_eq, beq_true, beq_false, bne_self_eq_false, not_true_eq_false, not_false_eq_true, gt_iff_lt, ge_iff_le, Int.not_lt, Int.not_le, Bool.true_eq_false, Bool.false_eq_true] <;> omega)); conv => whnf)
    | (refine ⟨_, hm, ?_⟩; conv => whnf)
    | (refine ⟨le_rfl' ?_, ?_⟩; rfl; conv => whnf)
    | (refine ⟨⟨?_, ?_⟩, ?_⟩; omega; omega; conv => whnf))
  try exact rfl
theorem tPush (hn : Non ext) (h26 : E26 ext) (h73 : E73 ext) (o : Int) (n : Nat) (h : Option H) (x : T) (h1 : n < 65536) (hx : WfV x) (ho : okB x = true) (hw : AllO Gd h) :
    (cfg ext).Ev 13 [QV o n h, A x] (.tup [QV o ((n : Int) + 1) (pushH (cO ext o) h x), .int .i64 0]) := by
  have hc := t22 hn h26 h73 x hx
  rw [if_pos ho] at hc
  have hs := tsome hn o n h
  have hb := tby hn (QV o n h) o n h rfl
  have hwn := town hn x (gd_of hx ho).2
  have hm : (cfg ext).Ev 23 [topV h, heapV (.mk x []), byV (QV o n h)] (topV (pushH (cO ext o) h x)) := tmeld hn h26 h73 o n h h (some (.mk x [])) (allO_mono (fun v h => h.1) hw) (by simp only [AllO, AllH, AllK]; exact ⟨hx, trivial⟩)
  rw [heapV_eq] at hm
  simp only [H.x, H.kids, kidsV] at hm
  have hwr : IntKind.i64.wrap ((n : Int) + 1) = (n : Int) + 1 := by rw [IntKind.wrap_i64]; omega
  rw [← hwr]
  have hne : ((n : Int) == 65536) = false := by rw [beq_eq_false_iff_ne]; omega
  unfold QV at hs hb hm ⊢
  obtain ⟨er, hr⟩ : ∃ e, topV (pushH (cO ext o) h x) = e := ⟨_, rfl⟩
  have hfr : er = .nilp ∨ ∃ cs, er = .ptr cs 0 := by rw [← hr]; rcases topV_form (pushH (cO ext o) h x) with ⟨h, _⟩ | h; exact .inl h; exact .inr h
  rw [hr] at hm ⊢
  obtain ⟨ek, hk⟩ : ∃ e, topV h = e := ⟨_, rfl⟩
  have hfk : ek = .nilp ∨ ∃ cs, ek = .ptr cs 0 := by rw [← hk]; rcases topV_form h with ⟨h, _⟩ | h; exact .inl h; exact .inr h
  rw [hk] at hm hb hs ⊢
  rcases hfr with rfl | ⟨cr, rfl⟩ <;> rcases hfk with rfl | ⟨ck, rfl⟩
  all_goals
    refine Ev.of (hn 13 (by decide) (by decide)) Tryd.func13 rfl rfl ?_
    conv => whnf
    repeat (first
      | (refine sel_yes ?_ ?_; (first | assumption | (simp only [beq_iff_eq, bne_iff_ne, beq_eq_false_iff_ne, bne_eq_false_iff_eq, decide_eq_true_eq, decide_eq_false_iff_not, Bool.not_eq_true', Bool.not_eq_false', ne_eq, beq_true, beq_false, bne_self_eq_false, not_true_eq_false, not_false_eq_true, gt_iff_lt, ge_iff_le, Int.not_lt, Int.not_le, Bool.true_eq_false, Bool.false_eq_true] <;> omega)); conv => whnf)
      | (refine sel_no ?_ ?_; (first | assumption | (simp only [beq_iff_eq, bne_iff_ne, beq_eq_false_iff_ne, bne_eq_false_iff_eq, decide_eq_true_eq, decide_eq_false_iff_not, Bool.not_eq_true', Bool.not_eq_false', ne_eq, beq_true, beq_false, bne_self_eq_false, not_true_eq_false, not_false_eq_true, gt_iff_lt, ge_iff_le, Int.not_lt, Int.not_le, Bool.true_eq_false, Bool.false_eq_true] <;> omega)); conv => whnf)
      | (refine ⟨_, hc, ?_⟩; conv => whnf)
      | (refine ⟨_, hs, ?_⟩; conv => whnf)
      | (refine ⟨_, hwn, ?_⟩; conv => whnf)
      | (refine ⟨_, hb, ?_⟩; conv => whnf)
      | (refine ⟨_, hm, ?_⟩; conv => whnf)
      | (refine ⟨le_rfl' ?_, ?_⟩; rfl; conv => whnf)
      | (refine ⟨⟨?_, ?_⟩, ?_⟩; omega; omega; conv => whnf))
    try exact rfl
theorem tPushx (hn : Non ext) (h26 : E26 ext) (h73 : E73 ext) (q : V) (hq : q = .nilp ∨ ∃ cs, q = .ptr cs 0) (x : T) (hx : WfV x) (ho : okB x = false) :
    (cfg ext).Ev 13 [q, A x] (.tup [.nilp, .int .i64 3]) := by
  have hc := t22 hn h26 h73 x hx
  rw [if_neg (by rw [ho]; exact Bool.false_ne_true)] at hc
  rcases hq with rfl | ⟨cs, rfl⟩
  all_goals
    refine Ev.of (hn 13 (by decide) (by decide)) Tryd.func13 rfl rfl ?_
    conv => whnf
    repeat (first
      | (refine sel_yes ?_ ?_; (first | assumption | (simp only [beq_iff_eq, bne_iff_ne, beq_eq_false_iff_ne, bne_eq_false_iff_eq, decide_eq_true_eq, decide_eq_false_iff_not, Bool.not_eq_true', Bool.not_eq_false', ne_eq, beq_true, beq_false, bne_self_eq_false, not_true_eq_false, not_false_eq_true, gt_iff_lt, ge_iff_le, Int.not_lt, Int.not_le, Bool.true_eq_false, Bool.false_eq_true] <;> omega)); conv => whnf)
      | (refine sel_no ?_ ?_; (first | assumption | (simp only [beq_iff_eq, bne_iff_ne, beq_eq_false_iff_ne, bne_eq_false_iff_eq, decide_eq_true_eq, decide_eq_false_iff_not, Bool.not_eq_true', Bool.not_eq_false', ne_eq, beq_true, beq_false, bne_self_eq_false, not_true_eq_false, not_false_eq_true, gt_iff_lt, ge_iff_le, Int.not_lt, Int.not_le, Bool.true_eq_false, Bool.false_eq_true] <;> omega)); conv => whnf)
      | (refine ⟨_, hc, ?_⟩; conv => whnf)
      | (refine ⟨le_rfl' ?_, ?_⟩; rfl; conv => whnf)
      | (refine ⟨⟨?_, ?_⟩, ?_⟩; omega; omega; conv => whnf))
    try exact rfl
/-- a nil queue is an empty one of order 0 -/
theorem tPushN (hn : Non ext) (h26 : E26 ext) (h73 : E73 ext) (x : T) (hx : WfV x) (ho : okB x = true) :
    (cfg ext).Ev 13 [.nilp, A x] (.tup [QV 0 1 (pushH (cO ext 0) none x), .int .i64 0]) := by
  have hc := t22 hn h26 h73 x hx
  rw [if_pos ho] at hc
  have hs := tsome0 hn
  have hb := tby hn (QV 0 0 none) 0 0 none rfl
  have hwn := town hn x (gd_of hx ho).2
  have hm : (cfg ext).Ev 23 [.nilp, heapV (.mk x []), byV (QV 0 0 none)] (topV (pushH (cO ext 0) none x)) := tmeld hn h26 h73 0 0 none none (some (.mk x [])) trivial (by simp only [AllO, AllH, AllK]; exact ⟨hx, trivial⟩)
  rw [heapV_eq] at hm
  simp only [H.x, H.kids, kidsV] at hm
  unfold QV at hs hb hm ⊢
  obtain ⟨er, hr⟩ : ∃ e, topV (pushH (cO ext 0) none x) = e := ⟨_, rfl⟩
  have hfr : er = .nilp ∨ ∃ cs, er = .ptr cs 0 := by rw [← hr]; rcases topV_form (pushH (cO ext 0) none x) with ⟨h, _⟩ | h; exact .inl h; exact .inr h
  rw [hr] at hm ⊢
  rcases hfr with rfl | ⟨cr, rfl⟩
  all_goals
    refine Ev.of (hn 13 (by decide) (by decide)) Tryd.func13 rfl rfl ?_
    conv => whnf
    repeat (first
      | (refine sel_yes ?_ ?_; (first | assumption | (simp only [beq_iff_eq, bne_iff_ne, beq_eq_false_iff_ne, bne_eq_false_iff_eq, decide_eq_true_eq, decide_eq_false_iff_not, Bool.not_eq_true', Bool.not_eq_false', ne_eq, beq_true, beq_false, bne_self_eq_false, not_true_eq_false, not_false_eq_true, gt_iff_lt, ge_iff_le, Int.not_lt, Int.not_le, Bool.true_eq_false, Bool.false_eq_true] <;> omega)); conv => whnf)
      | (refine sel_no ?_ ?_; (first | assumption | (simp only [beq_iff_eq, bne_iff_ne, beq_eq_false_iff_ne, bne_eq_false_iff_eq, decide_eq_true_eq, decide_eq_false_iff_not, Bool.not_eq_true', Bool.not_eq_false', ne_eq, beq_true, beq_false, bne_self_eq_false, not_true_eq_false, not_false_eq_true, gt_iff_lt, ge_iff_le, Int.not_lt, Int.not_le, Bool.true_eq_false, Bool.false_eq_true] <;> omega)); conv => whnf)
      | (refine ⟨_, hc, ?_⟩; conv => whnf)
      | (refine ⟨_, hs, ?_⟩; conv => whnf)
      | (refine ⟨_, hwn, ?_⟩; conv => whnf)
      | (refine ⟨_, hb, ?_⟩; conv => whnf)
      | (refine ⟨_, hm, ?_⟩; conv => whnf)
      | (refine ⟨le_rfl' ?_, ?_⟩; rfl; conv => whnf)
      | (refine ⟨⟨?_, ?_⟩, ?_⟩; omega; omega; conv => whnf))
    try exact rfl
theorem push_size (c : T → T → Int) (h : Option H) (x : T) : sizeO (pushH c h x) = sizeO h + 1 := by
  unfold pushH
  rw [meld_size]
  simp only [sizeO, sizeH, sizeK]
theorem push_all (c : T → T → Int) {p : T → Prop} {h : Option H} {x : T} (hh : AllO p h) (hx : p x) : AllO p (pushH c h x) := meld_all c hh (by simp only [AllO, AllH, AllK]; exact ⟨hx, trivial⟩)
theorem lOf (hn : Non ext) (h26 : E26 ext) (h73 : E73 ext) (o : Int) (l : List T) (hl : l.length ≤ 65536) (hw : ∀ v ∈ l, WfV v) (Q : Ex → St → Prop) (d : Nat) :
    ∀ (i : Nat) (h : Option H) (z : St), l.length - i = d → i ≤ l.length → AllO Gd h → Has z.t [(23, .int .i64 i), (22, .int .i64 l.length), (21, .sl false (encL l) l.length), (6, QV o i h)] → z.hp.n = 17 →
      (∀ z' : St, Has z'.t [(6, QV o l.length ((l.drop i).foldl (pushH (cO ext o)) h))] → z'.hp.n = 18 → (∀ v ∈ l.drop i, okB v = true) → Q (.exit 0) z') →
      (∀ z' : St, Has z'.t [(4, .nilp), (5, .int .i64 3)] → (¬ ∀ v ∈ l.drop i, okB v = true) → Q .ret z') →
      Go.Ab.Loop (cfg ext) (lpOf Tryd.f5) 17 z Q := by
  induction d with
  | zero =>
    intro i h z hd hi hg ht hz hq hr
    obtain rfl : i = l.length := by omega
    rw [St.knows _ _ ht hz]
    refine Loop.round ?_
    conv => whnf
    refine sel_no (by simp) ?_
    conv => whnf
    exact hq _ ⟨by rw [List.drop_length]; rfl, trivial⟩ rfl (by rw [List.drop_length]; intro v hv; cases hv)
  | succ d ih =>
    intro i h z hd hi hg ht hz hq hr
    have h1 : i < l.length := by omega
    have hwi := hw _ (List.getElem_mem h1)
    have eD := List.drop_eq_getElem_cons h1
    cases ho : okB l[i] with
    | false =>
      have hp := tPushx hn h26 h73 (QV o i h) (.inr ⟨_, rfl⟩) l[i] hwi ho
      rw [St.knows _ _ ht hz]
      refine Loop.round ?_
      conv => whnf
      refine sel_yes (by simp; omega) ?_
      conv => whnf
      refine ⟨⟨by omega, by omega⟩, ?_⟩
      conv => whnf
      refine ldA (i := i) h1 ?_
      conv => whnf
      refine ⟨_, hp, ?_⟩
      conv => whnf
      exact hr _ ⟨rfl, rfl, trivial⟩ (fun g => by have := g l[i] (by rw [eD]; exact List.mem_cons_self); rw [ho] at this; cases this)
    | true =>
      have hp := tPush hn h26 h73 o i h l[i] (by omega) hwi ho hg
      rw [St.knows _ _ ht hz]
      refine Loop.round ?_
      conv => whnf
      refine sel_yes (by simp; omega) ?_
      conv => whnf
      refine ⟨⟨by omega, by omega⟩, ?_⟩
      conv => whnf
      refine ldA (i := i) h1 ?_
      conv => whnf
      refine ⟨_, hp, ?_⟩
      conv => whnf
      refine ih (i + 1) (pushH (cO ext o) h l[i]) _ (by omega) (by omega) (push_all _ hg (gd_of hwi ho)) ⟨?_, rfl, rfl, rfl, trivial⟩ rfl (fun z' a b c => hq z' (by rw [eD]; exact a) b (fun v hv => by rw [eD] at hv; rcases List.mem_cons.1 hv with rfl | hv; exact ho; exact c v hv)) (fun z' a b => hr z' a (fun g => b (fun v hv => g v (by rw [eD]; exact List.mem_cons_of_mem _ hv))))
      conv => lhs; whnf
      exact wrapN1 (by omega)
theorem ofH_size (c : T → T → Int) : ∀ (l : List T) (h : Option H), sizeO (l.foldl (pushH c) h) = sizeO h + l.length
  | [], h => by simp
  | x :: l, h => by rw [List.foldl_cons, ofH_size c l, push_size, List.length_cons]; omega
theorem ofH_all (c : T → T → Int) {p : T → Prop} : ∀ (l : List T) (h : Option H), AllO p h → (∀ v ∈ l, p v) → AllO p (l.foldl (pushH c) h)
  | [], h, hh, _ => hh
  | x :: l, h, hh, hl => by rw [List.foldl_cons]; exact ofH_all c l _ (push_all c hh (hl x List.mem_cons_self)) (fun v hv => hl v (List.mem_cons_of_mem _ hv))
theorem tOf (hn : Non ext) (h26 : E26 ext) (h73 : E73 ext) (o : Int) (l : List T) (hll : l.length ≤ 9223372036854775807) (hw : ∀ v ∈ l, WfV v) :
    (∃ e : Int, e ≠ 0 ∧ (cfg ext).Ev 5 [.int .i64 o, .sl false (encL l) l.length] (.tup [.nilp, .int .i64 e])) ∨
    ((cfg ext).Ev 5 [.int .i64 o, .sl false (encL l) l.length] (.tup [QV o l.length (ofH (cO ext o) l), .int .i64 0]) ∧ l.length ≤ 65536 ∧ AllO Gd (ofH (cO ext o) l) ∧ sizeO (ofH (cO ext o) l) = l.length) := by
  by_cases ho : o < 0 ∨ o > 5
  · refine .inl ⟨4, by decide, ?_⟩
    refine Ev.of (hn 5 (by decide) (by decide)) Tryd.func5 rfl rfl ?_
    conv => whnf
    repeat (first
      | (refine sel_yes ?_ ?_; (first | assumption | (simp only [beq_iff_eq, bne_iff_ne, beq_eq_false_iff_ne, bne_eq_false_iff_eq, decide_eq_true_eq, decide_eq_false_iff_not, Bool.not_eq_true', Bool.not_eq_false', ne_eq, beq_true, beq_false, bne_self_eq_false, not_true_eq_false, not_false_eq_true, gt_iff_lt, ge_iff_le, Int.not_lt, Int.not_le, Bool.true_eq_false, Bool.false_eq_true] <;> omega)); conv => whnf)
      | (refine sel_no ?_ ?_; (first | assumption | (simp only [beq_iff_eq, bne_iff_ne, beq_eq_false_iff_ne, bne_eq_false_iff_eq, decide_eq_true_eq, decide_eq_false_iff_not, Bool.not_eq_true', Bool.not_eq_false', ne_eq, beq_true, beq_false, bne_self_eq_false, not_true_eq_false, not_false_eq_true, gt_iff_lt, ge_iff_le, Int.not_lt, Int.not_le, Bool.true_eq_false, Bool.false_eq_true] <;> omega)); conv => whnf)
      | (refine ⟨_, tNewx hn o ho, ?_⟩; conv => whnf)
      | (refine ⟨le_rfl' ?_, ?_⟩; rfl; conv => whnf)
      | (refine ⟨⟨?_, ?_⟩, ?_⟩; omega; omega; conv => whnf))
    try exact rfl
  · have hN := tNew hn o (by omega) (by omega)
    by_cases hl : l.length ≤ 65536
    · have h65 : decide ((l.length : Int) > 65536) = false := decide_eq_false (by omega)
      have key : ∃ r, (cfg ext).Ev 5 [.int .i64 o, .sl false (encL l) l.length] r ∧ ((r = .tup [.nilp, .int .i64 3]) ∨ (r = .tup [QV o l.length (ofH (cO ext o) l), .int .i64 0] ∧ ∀ v ∈ l, okB v = true)) := by
        refine Ev.ofF (hn 5 (by decide) (by decide)) Tryd.func5 rfl rfl ?_
        conv => whnf
        refine ⟨_, hN, ?_⟩
        conv => whnf
        refine sel_no h65 ?_
        conv => whnf
        refine lOf hn h26 h73 o l hl hw _ l.length 0 none _ rfl (by omega) trivial ⟨rfl, rfl, rfl, rfl, trivial⟩ rfl (fun z a b c => ?_) (fun z a b => ?_)
        · rw [St.knows _ _ a b]
          conv => whnf
          exact ⟨.inr ⟨rfl, c⟩⟩
        · rw [St.knows _ z.hp.n a rfl]
          conv => whnf
          exact ⟨.inl rfl⟩
      obtain ⟨r, h, rfl | ⟨rfl, hok⟩⟩ := key
      · exact .inl ⟨3, by decide, h⟩
      · exact .inr ⟨h, hl, ofH_all _ l none trivial (fun v hv => gd_of (hw v hv) (hok v hv)), by unfold ofH; rw [ofH_size]; simp [sizeO]⟩
    · have h65 : decide ((l.length : Int) > 65536) = true := decide_eq_true (by omega)
      refine .inl ⟨2, by decide, ?_⟩
      refine Ev.of (hn 5 (by decide) (by decide)) Tryd.func5 rfl rfl ?_
      conv => whnf
      repeat (first
        | (refine sel_yes ?_ ?_; (first | assumption | (simp only [beq_iff_eq, bne_iff_ne, beq_eq_false_iff_ne, bne_eq_false_iff_eq, decide_eq_true_eq, decide_eq_false_iff_not, Bool.not_eq_true', Bool.not_eq_false', ne_eq, beq_true, beq_false, bne_self_eq_false, not_true_eq_false, not_false_eq_true, gt_iff_lt, ge_iff_le, Int.not_lt, Int.not_le, Bool.true_eq_false, Bool.false_eq_true] <;> omega)); conv => whnf)
        | (refine sel_no ?_ ?_; (first | assumption | (simp only [beq_iff_eq, bne_iff_ne, beq_eq_false_iff_ne, bne_eq_false_iff_eq, decide_eq_true_eq, decide_eq_false_iff_not, Bool.not_eq_true', Bool.not_eq_false', ne_eq, beq_true, beq_false, bne_self_eq_false, not_true_eq_false, not_false_eq_true, gt_iff_lt, ge_iff_le, Int.not_lt, Int.not_le, Bool.true_eq_false, Bool.false_eq_true] <;> omega)); conv => whnf)
        | (refine ⟨_, hN, ?_⟩; conv => whnf)
        | (refine ⟨le_rfl' ?_, ?_⟩; rfl; conv => whnf)
        | (refine ⟨⟨?_, ?_⟩, ?_⟩; omega; omega; conv => whnf))
      try exact rfl
end
end Go.Proofs.YtbekoaalaofloaaDoor.AB
end

section
open Go Go.Ab Go.Proofs Go.Vl
namespace Go.Proofs.YtbekoaalaofloaaDoor.AB
set_option maxRecDepth 100000
set_option maxHeartbeats 8000000
set_option linter.unusedSimpArgs false
section
variable {ext : Exts}
theorem encX_cold (v : T) : ∀ c ∈ encX v, cold c = true := fun c hc => encL_cold [v] c (by simp only [encL, enc_eq, List.append_nil]; exact hc)
theorem encL_one (D : List T) (v : T) : encL D ++ encX v = encL (D ++ [v]) := by
  rw [encL_app]
  simp only [encL, enc_eq, List.append_nil]
theorem sorted_len (c : T → T → Int) : ∀ (n : Nat) (h : Option H), sizeO h = n → (sortedH c n h).length = n
  | 0, h, _ => rfl
  | n + 1, none, hs => by simp [sizeO] at hs
  | n + 1, some (.mk x k), hs => by
    simp only [sizeO, sizeH] at hs
    simp only [sortedH, List.length_cons, H.kids]
    rw [sorted_len c n _ (by rw [paired_size]; omega)]
theorem lSorted (hn : Non ext) (h26 : E26 ext) (h73 : E73 ext) (o : Int) (Q : Ex → St → Prop) :
    ∀ (n : Nat) (h : Option H) (D : List T) (S : V) (z : St), sizeO h = n → D.length + n ≤ 65536 → AllO Gd h → Has z.t [(0, QV o n h), (3, S)] → z.hp.n = 2 → Gro 4 z.hp.a z.hp.m S (encL D) D.length →
      (∀ (S' : V) (z' : St), Has z'.t [(3, S')] → z'.hp.n = 5 → Gro 4 z'.hp.a z'.hp.m S' (encL (D ++ sortedH (cO ext o) n h)) (D ++ sortedH (cO ext o) n h).length → Q (.exit 0) z') →
      Go.Ab.Loop (cfg ext) (lpOf Tryd.f7) 2 z Q := by
  intro n
  induction n with
  | zero =>
    intro h D S z hs hD hw ht hz hg hq
    have hl := tLen hn o (0 : Nat) h
    rcases hg.form with ⟨eS, _⟩ | ⟨bS, vS, eS⟩ <;> subst eS
    all_goals
      rw [St.knows _ _ ht hz]
      refine Loop.round ?_
      conv => whnf
      refine ⟨_, hl, ?_⟩
      conv => whnf
      refine hq _ _ ⟨rfl, trivial⟩ rfl ?_
      refine Gro.to (Gro.mono hg (fun _ _ => rfl) ?_) (by simp [sortedH]) (by simp [sortedH])
      (conv => lhs; whnf); (repeat ((conv => rhs; whnf); first | with_reducible exact Nat.le_refl _ | refine Nat.le_trans ?_ (Nat.le_add_right _ _) | refine Nat.le_succ_of_le ?_))
  | succ n ih =>
    intro h D S z hs hD hw ht hz hg hq
    cases h with
    | none => simp [sizeO] at hs
    | some h =>
      have hl := tLen hn o ((n + 1 : Nat) : Int) (some h)
      have hp := tPop hn h26 h73 o (n + 1) h hs (by omega) hw
      have e1 : ((n + 1 : Nat) : Int) - 1 = (n : Int) := by omega
      rw [e1] at hp
      have hx : Gd h.x := by cases h; simp only [AllO, AllH] at hw; exact hw.1
      have hwk : AllO Gd (pairedH (cO ext o) h.kids) := by cases h; simp only [AllO, AllH] at hw; exact paired_all _ hw.2
      have hsk : sizeO (pairedH (cO ext o) h.kids) = n := by
        rw [paired_size]; cases h; simp only [sizeO, sizeH] at hs; simp only [H.kids]; omega
      have es : sortedH (cO ext o) (n + 1) (some h) = h.x :: sortedH (cO ext o) n (pairedH (cO ext o) h.kids) := rfl
      rw [es] at hq
      have eA := encL_one D h.x
      have eB : D.length + 1 = (D ++ [h.x]).length := by simp
      have eQ : D ++ h.x :: sortedH (cO ext o) n (pairedH (cO ext o) h.kids) = (D ++ [h.x]) ++ sortedH (cO ext o) n (pairedH (cO ext o) h.kids) := by simp
      rw [eQ] at hq
      rcases hg.form with ⟨eS, _⟩ | ⟨bS, vS, eS⟩ <;> subst eS
      all_goals
        rw [St.knows _ _ ht hz]
        refine Loop.round ?_
        conv => whnf
        refine ⟨_, hl, ?_⟩
        conv => whnf
        refine sel_yes (decide_eq_true (show ((n + 1 : Nat) : Int) > 0 by omega)) ?_
        conv => whnf
        refine ⟨_, hp, ?_⟩
        conv => whnf
        refine ⟨rfl, ?_⟩
        conv => whnf
        refine ⟨⟨rfl, (show (4 : Nat) ≠ 0 by decide)⟩, ?_⟩
        refine Gro.one hg ⟨_, _, _, _, rfl, upd_is _ _ _⟩ ?_ ?_ ?_ ?_ ?_ ?_ (fun b1 v1 a1 h1 => ?_)
        · intro b0 hb0
          exact upd_lt (Nat.lt_of_lt_of_le hb0 (by ((conv => lhs; whnf); (repeat ((conv => rhs; whnf); first | with_reducible exact Nat.le_refl _ | refine Nat.le_trans ?_ (Nat.le_add_right _ _) | refine Nat.le_succ_of_le ?_)))))
        · rfl
        · exact (encX_cold h.x)
        · exact ⟨by show (_ + 1) * 56 ≤ 140737488355328; (try simp only [List.length_append, List.length_cons, List.length_nil]); omega, by show _ + 1 ≤ 140737488355328; (try simp only [List.length_append, List.length_cons, List.length_nil]); omega⟩
        · exact Nat.add_lt_add_left (by decide) _
        · ((conv => lhs; whnf); (repeat ((conv => rhs; whnf); first | with_reducible exact Nat.le_refl _ | refine Nat.le_trans ?_ (Nat.le_add_right _ _) | refine Nat.le_succ_of_le ?_)))
        conv => whnf
        refine ih (pairedH (cO ext o) h.kids) (D ++ [h.x]) (.rsl false b1 v1 0 (D.length + 1)) _ hsk (by simp; omega) hwk ⟨rfl, rfl, trivial⟩ rfl ?_ hq
        refine Gro.to (Gro.truncR h1 ?_) eA eB
        (conv => lhs; whnf); (repeat ((conv => rhs; whnf); first | with_reducible exact Nat.le_refl _ | refine Nat.le_trans ?_ (Nat.le_add_right _ _) | refine Nat.le_succ_of_le ?_))
theorem tSorted (hn : Non ext) (h26 : E26 ext) (h73 : E73 ext) (o : Int) (n : Nat) (h : Option H) (hs : sizeO h = n) (h1 : n ≤ 65536) (hw : AllO Gd h) :
    (cfg ext).Ev 7 [QV o n h] (.sl false (encL (sortedH (cO ext o) n h)) n) := by
  have key : ∃ r, (cfg ext).Ev 7 [QV o n h] r ∧ r = .sl false (encL (sortedH (cO ext o) n h)) n := by
    refine Ev.ofF (hn 7 (by decide) (by decide)) Tryd.func7 rfl rfl ?_
    conv => whnf
    refine lSorted hn h26 h73 o _ n h [] (.sl true [] 0) _ hs (by simpa using h1) hw ⟨rfl, rfl, trivial⟩ rfl (by simp only [encL]; exact Gro.nil _ _ _) (fun S z a b c => ?_)
    rw [List.nil_append, sorted_len _ n h hs] at c
    rcases c.form with ⟨eS, e0⟩ | ⟨bS, vS, eS⟩
    · subst eS
      rw [St.knows _ _ a b]
      conv => whnf
      exact Fin.gro rfl c rfl
    · subst eS
      rw [St.knows _ _ a b]
      conv => whnf
      exact Fin.gro rfl c rfl
  obtain ⟨r, h, rfl⟩ := key
  exact h
end
end Go.Proofs.YtbekoaalaofloaaDoor.AB
end

section
open Go Go.Ab Go.Proofs Go.Vl
namespace Go.Proofs.YtbekoaalaofloaaDoor.AB
set_option maxRecDepth 100000
set_option maxHeartbeats 8000000
set_option linter.unusedSimpArgs false
theorem speaks19 : (cfg ext0).Ev 6 [] (.bool true) := Ev.closed 60 (by kernel_rfl)
section
variable {ext : Exts}
theorem sizeH_pos (h : H) : 1 ≤ sizeH h := by cases h; simp only [sizeH]; omega
theorem lSorts (hn : Non ext) (h26 : E26 ext) (h73 : E73 ext) (o : Int) (N : Nat) (hN : N ≤ 65536) (K : List T) (hK : K.length = N) (q l1 : V) (Q : Ex → St → Prop) :
    ∀ (m i : Nat) (h : Option H) (z : St), i + m = N → sizeO h = m → AllO Gd h → K.drop i = sortedH (cO ext o) m h → Has z.t [(47, .int .i64 i), (46, .int .i64 N), (45, .sl false (encL K) N), (7, .sl false (encL K) N), (8, QV o m h), (5, q), (1, l1)] → z.hp.n = 26 → cleanV 26 q = q → cleanV 26 l1 = l1 →
      (∀ (z' : St), Has z'.t [(7, .sl false (encL K) N), (8, QV o 0 none), (5, q), (1, l1)] → z'.hp.n = 27 → Q (.exit 0) z') →
      Go.Ab.Loop (cfg ext) (lpOf Tryd.f3) 26 z Q := by
  intro m
  induction m with
  | zero =>
    intro i h z him hs hw hd ht hz cq cl hq
    obtain rfl : h = none := by
      cases h with
      | none => rfl
      | some h => have := sizeH_pos h; simp only [sizeO] at hs; omega
    obtain rfl : i = N := by omega
    rw [St.knows _ _ ht hz]
    refine Loop.round ?_
    conv => whnf
    refine sel_no (by simp) ?_
    conv => whnf
    exact hq _ ⟨rfl, rfl, rfl, rfl, trivial⟩ rfl
  | succ m ih =>
    intro i h z him hs hw hd ht hz cq cl hq
    cases h with
    | none => simp [sizeO] at hs
    | some h =>
      have h1 : i < K.length := by omega
      have hp := tPop hn h26 h73 o (m + 1) h hs (by omega) hw
      have e1 : ((m + 1 : Nat) : Int) - 1 = (m : Int) := by omega
      rw [e1] at hp
      have eD := List.drop_eq_getElem_cons h1
      rw [hd] at eD
      have es : sortedH (cO ext o) (m + 1) (some h) = h.x :: sortedH (cO ext o) m (pairedH (cO ext o) h.kids) := rfl
      rw [es] at eD
      injection eD with ex ed
      have hwk : AllO Gd (pairedH (cO ext o) h.kids) := by cases h; simp only [AllO, AllH] at hw; exact paired_all _ hw.2
      have hsk : sizeO (pairedH (cO ext o) h.kids) = m := by
        rw [paired_size]; cases h; simp only [sizeO, sizeH] at hs; simp only [H.kids]; omega
      have hx : WfV h.x := by cases h; simp only [AllO, AllH] at hw; exact hw.1.1
      have hv := tplain hn h.x hx K[i]
      rw [ex, eqT_self] at hv
      rw [ex] at hp
      have hL := tLen hn o m (pairedH (cO ext o) h.kids)
      have e3 : (((m : Int) != IntKind.i64.wrap (IntKind.i64.wrap ((N : Int) - (i : Int)) - 1)) == false) = true := by
        have : IntKind.i64.wrap (IntKind.i64.wrap ((N : Int) - (i : Int)) - 1) = (m : Int) := by rw [IntKind.wrap_i64, IntKind.wrap_i64]; omega
        rw [this]; simp
      have e3' : ((m : Int) != IntKind.i64.wrap (IntKind.i64.wrap ((N : Int) - (i : Int)) - 1)) = false := by simpa using e3
      subst hK
      rw [St.knows _ _ ht hz]
      refine Loop.round ?_
      conv => whnf
      refine sel_yes (by simp; omega) ?_
      conv => whnf
      refine ⟨_, hp, ?_⟩
      conv => whnf
      refine ⟨⟨by omega, by omega⟩, ?_⟩
      conv => whnf
      refine ldA (i := i) h1 ?_
      conv => whnf
      refine ⟨_, hv, ?_⟩
      conv => whnf
      refine ⟨_, hL, ?_⟩
      conv => whnf
      refine sel_no e3' ?_
      conv => whnf
      refine ih (i + 1) (pairedH (cO ext o) h.kids) _ (by omega) hsk hwk ed.symm ⟨?_, rfl, rfl, rfl, rfl, cq, cl, trivial⟩ rfl cq cl hq
      conv => lhs; whnf
      exact wrapN1 (by omega)
end
end Go.Proofs.YtbekoaalaofloaaDoor.AB
end

section
open Go Go.Ab Go.Proofs Go.Vl
namespace Go.Proofs.YtbekoaalaofloaaDoor.AB
set_option maxRecDepth 100000
set_option maxHeartbeats 8000000
set_option linter.unusedSimpArgs false
theorem sorted_all (c : T → T → Int) {p : T → Prop} : ∀ (n : Nat) (h : Option H), AllO p h → ∀ v ∈ sortedH c n h, p v
  | 0, _, _, v, hv => by cases hv
  | n + 1, none, _, v, hv => by cases hv
  | n + 1, some (.mk x k), hw, v, hv => by
    simp only [AllO, AllH] at hw
    simp only [sortedH, H.x, H.kids] at hv
    rcases List.mem_cons.1 hv with rfl | hv
    · exact hw.1
    · exact sorted_all c n _ (paired_all c hw.2) v hv
theorem PairingSorts_ev (o : Int) (_ho : In64 o) (l : List T) (hl : l.length ≤ 9223372036854775807) (hw : ∀ v ∈ l, WfV v) : (cfg ext0).Ev 3 [.int .i64 o, .sl false (encL l) l.length] (.bool true) := by
  rcases tOf non0 e26 e73 o l hl hw with ⟨e, he, h⟩ | ⟨h, hl6, hg, hs⟩
  · have hne : (e != 0) = true := by simpa using he
    have hne' : (e == 0) = false := by simpa using he
    refine Ev.of (non0 3 (by decide) (by decide)) Tryd.func3 rfl rfl ?_
    conv => whnf
    repeat (first
      | (refine sel_yes ?_ ?_; (first | assumption | (simp only [beq_iff_eq, bne_iff_ne, beq_eq_false_iff_ne, bne_eq_false_iff_eq, decide_eq_true_eq, decide_eq_false_iff_not, Bool.not_eq_true', Bool.not_eq_false', ne_eq, beq_true, beq_false, bne_self_eq_false, not_true_eq_false, not_false_eq_true, gt_iff_lt, ge_iff_le, Int.not_lt, Int.not_le, Bool.true_eq_false, Bool.false_eq_true] <;> omega)); conv => whnf)
      | (refine sel_no ?_ ?_; (first | assumption | (simp only [beq_iff_eq, bne_iff_ne, beq_eq_false_iff_ne, bne_eq_false_iff_eq, decide_eq_true_eq, decide_eq_false_iff_not, Bool.not_eq_true', Bool.not_eq_false', ne_eq, beq_true, beq_false, bne_self_eq_false, not_true_eq_false, not_false_eq_true, gt_iff_lt, ge_iff_le, Int.not_lt, Int.not_le, Bool.true_eq_false, Bool.false_eq_true] <;> omega)); conv => whnf)
      | (refine ⟨_, h, ?_⟩; conv => whnf)
      | (refine ⟨_, speaks19, ?_⟩; conv => whnf)
      | (refine ⟨le_rfl' ?_, ?_⟩; rfl; conv => whnf)
      | (refine ⟨⟨?_, ?_⟩, ?_⟩; omega; omega; conv => whnf))
    try exact rfl
  · by_cases h2 : l.length > 2000
    · have h2' : decide ((l.length : Int) > 2000) = true := decide_eq_true (by omega)
      refine Ev.of (non0 3 (by decide) (by decide)) Tryd.func3 rfl rfl ?_
      conv => whnf
      repeat (first
        | (refine sel_yes ?_ ?_; (first | assumption | (simp only [beq_iff_eq, bne_iff_ne, beq_eq_false_iff_ne, bne_eq_false_iff_eq, decide_eq_true_eq, decide_eq_false_iff_not, Bool.not_eq_true', Bool.not_eq_false', ne_eq, beq_true, beq_false, bne_self_eq_false, not_true_eq_false, not_false_eq_true, gt_iff_lt, ge_iff_le, Int.not_lt, Int.not_le, Bool.true_eq_false, Bool.false_eq_true] <;> omega)); conv => whnf)
        | (refine sel_no ?_ ?_; (first | assumption | (simp only [beq_iff_eq, bne_iff_ne, beq_eq_false_iff_ne, bne_eq_false_iff_eq, decide_eq_true_eq, decide_eq_false_iff_not, Bool.not_eq_true', Bool.not_eq_false', ne_eq, beq_true, beq_false, bne_self_eq_false, not_true_eq_false, not_false_eq_true, gt_iff_lt, ge_iff_le, Int.not_lt, Int.not_le, Bool.true_eq_false, Bool.false_eq_true] <;> omega)); conv => whnf)
        | (refine ⟨_, h, ?_⟩; conv => whnf)
        | (refine ⟨_, speaks19, ?_⟩; conv => whnf)
        | (refine ⟨le_rfl' ?_, ?_⟩; rfl; conv => whnf)
        | (refine ⟨⟨?_, ?_⟩, ?_⟩; omega; omega; conv => whnf))
      try exact rfl
    · have h2' : decide ((l.length : Int) > 2000) = false := decide_eq_false (by omega)
      have hS := tSorted non0 e26 e73 o l.length (ofH (cO ext0 o) l) hs hl6 hg
      have hK := sorted_len (cO ext0 o) l.length (ofH (cO ext0 o) l) hs
      have hKw : ∀ v ∈ sortedH (cO ext0 o) l.length (ofH (cO ext0 o) l), WfV v := fun v hv => (sorted_all _ _ _ hg v hv).1
      have hV := tvals non0 (sortedH (cO ext0 o) l.length (ofH (cO ext0 o) l)) (sortedH (cO ext0 o) l.length (ofH (cO ext0 o) l)) (by omega) hKw
      rw [eqL_self, hK] at hV
      have hL := tLen non0 o l.length (ofH (cO ext0 o) l)
      have hP := tPop0 non0 o 0
      have hM := tMin0 non0 o 0
      have key : ∃ r, (cfg ext0).Ev 3 [.int .i64 o, .sl false (encL l) l.length] r ∧ r = .bool true := by
        refine Ev.ofF (non0 3 (by decide) (by decide)) Tryd.func3 rfl rfl ?_
        conv => whnf
        refine ⟨_, h, ?_⟩
        conv => whnf
        refine sel_no h2' ?_
        conv => whnf
        refine ⟨_, hS, ?_⟩
        conv => whnf
        refine lSorts non0 e26 e73 o l.length hl6 _ hK (QV o l.length (ofH (cO ext0 o) l)) (.sl false (encL l) l.length) _ l.length 0 (ofH (cO ext0 o) l) _ (Nat.zero_add _) hs hg rfl ⟨rfl, rfl, rfl, rfl, rfl, rfl, rfl, trivial⟩ rfl rfl rfl (fun z a b => ?_)
        rw [St.knows _ _ a b]
        conv => whnf
        refine ⟨_, hP, ?_⟩
        conv => whnf
        refine ⟨_, hM, ?_⟩
        conv => whnf
        refine ⟨_, hS, ?_⟩
        conv => whnf
        refine ⟨_, hV, ?_⟩
        conv => whnf
        refine ⟨_, hL, ?_⟩
        conv => whnf
        repeat (first
          | (refine sel_yes ?_ ?_; (first | assumption | (simp only [beq_iff_eq, bne_iff_ne, beq_eq_false_iff_ne, bne_eq_false_iff_eq, decide_eq_true_eq, decide_eq_false_iff_not, Bool.not_eq_true', Bool.not_eq_false', ne_eq, beq_true, beq_false, bne_self_eq_false, not_true_eq_false, not_false_eq_true, gt_iff_lt, ge_iff_le, Int.not_lt, Int.not_le, Bool.true_eq_false, Bool.false_eq_true] <;> omega)); conv => whnf)
          | (refine sel_no ?_ ?_; (first | assumption | (simp only [beq_iff_eq, bne_iff_ne, beq_eq_false_iff_ne, bne_eq_false_iff_eq, decide_eq_true_eq, decide_eq_false_iff_not, Bool.not_eq_true', Bool.not_eq_false', ne_eq, beq_true, beq_false, bne_self_eq_false, not_true_eq_false, not_false_eq_true, gt_iff_lt, ge_iff_le, Int.not_lt, Int.not_le, Bool.true_eq_false, Bool.false_eq_true] <;> omega)); conv => whnf)
          | (refine ⟨_, speaks19, ?_⟩; conv => whnf)
          | (refine ⟨le_rfl' ?_, ?_⟩; rfl; conv => whnf)
          | (refine ⟨⟨?_, ?_⟩, ?_⟩; omega; omega; conv => whnf))
        try exact rfl
        exact ⟨rfl⟩
      obtain ⟨r, hr, rfl⟩ := key
      exact hr
end Go.Proofs.YtbekoaalaofloaaDoor.AB
end

section
open Go Go.Ab Go.Proofs Go.Vl
namespace Go.Proofs.YtbekoaalaofloaaDoor.AB
set_option maxRecDepth 100000
set_option maxHeartbeats 8000000
set_option linter.unusedSimpArgs false
theorem tOrder0 : (cfg ext0).Ev 16 [.nilp] (.int .i64 0) := by
  refine Ev.of (non0 16 (by decide) (by decide)) Tryd.func16 rfl rfl ?_
  conv => whnf
  repeat (first
    | (refine sel_yes ?_ ?_; (first | assumption | (simp only [beq_iff_eq, bne_iff_ne, beq_eq_false_iff_ne, bne_eq_false_iff_eq, decide_eq_true_eq, decide_eq_false_iff_not, Bool.not_eq_true', Bool.not_eq_false', ne_eq, beq_true, beq_false, bne_self_eq_false, not_true_eq_false, not_false_eq_true, gt_iff_lt, ge_iff_le, Int.not_lt, Int.not_le, Bool.true_eq_false, Bool.false_eq_true] <;> omega)); conv => whnf)
    | (refine sel_no ?_ ?_; (first | assumption | (simp only [beq_iff_eq, bne_iff_ne, beq_eq_false_iff_ne, bne_eq_false_iff_eq, decide_eq_true_eq, decide_eq_false_iff_not, Bool.not_eq_true', Bool.not_eq_false', ne_eq, beq_true, beq_false, bne_self_eq_false, not_true_eq_false, not_false_eq_true, gt_iff_lt, ge_iff_le, Int.not_lt, Int.not_le, Bool.true_eq_false, Bool.false_eq_true] <;> omega)); conv => whnf)
    | (refine ⟨_, tsome0 non0, ?_⟩; conv => whnf)
    | (refine ⟨le_rfl' ?_, ?_⟩; rfl; conv => whnf)
    | (refine ⟨⟨?_, ?_⟩, ?_⟩; omega; omega; conv => whnf))
  try exact rfl
theorem tMeldN : (cfg ext0).Ev 15 [.nilp, QV 0 0 none] (.tup [QV 0 0 none, .int .i64 0]) := by
  have hs := tsome0 non0
  have hs2 := tsome non0 0 0 none
  have hb := tby non0 (QV 0 0 none) 0 0 none rfl
  have hm := tmeld non0 e26 e73 0 0 none none none trivial trivial
  refine Ev.of (non0 15 (by decide) (by decide)) Tryd.func15 rfl rfl ?_
  conv => whnf
  repeat (first
    | (refine sel_yes ?_ ?_; (first | assumption | (simp only [beq_iff_eq, bne_iff_ne, beq_eq_false_iff_ne, bne_eq_false_iff_eq, decide_eq_true_eq, decide_eq_false_iff_not, Bool.not_eq_true', Bool.not_eq_false', ne_eq, beq_true, beq_false, bne_self_eq_false, not_true_eq_false, not_false_eq_true, gt_iff_lt, ge_iff_le, Int.not_lt, Int.not_le, Bool.true_eq_false, Bool.false_eq_true] <;> omega)); conv => whnf)
    | (refine sel_no ?_ ?_; (first | assumption | (simp only [beq_iff_eq, bne_iff_ne, beq_eq_false_iff_ne, bne_eq_false_iff_eq, decide_eq_true_eq, decide_eq_false_iff_not, Bool.not_eq_true', Bool.not_eq_false', ne_eq, beq_true, beq_false, bne_self_eq_false, not_true_eq_false, not_false_eq_true, gt_iff_lt, ge_iff_le, Int.not_lt, Int.not_le, Bool.true_eq_false, Bool.false_eq_true] <;> omega)); conv => whnf)
    | (refine ⟨_, hs, ?_⟩; conv => whnf)
    | (refine ⟨_, hs2, ?_⟩; conv => whnf)
    | (refine ⟨_, hb, ?_⟩; conv => whnf)
    | (refine ⟨_, hm, ?_⟩; conv => whnf)
    | (refine ⟨le_rfl' ?_, ?_⟩; rfl; conv => whnf)
    | (refine ⟨⟨?_, ?_⟩, ?_⟩; omega; omega; conv => whnf))
  try exact rfl
theorem PairingNil_ev (x : T) (hx : WfV x) : (cfg ext0).Ev 4 [A x] (.bool true) := by
  have hN := tNew non0 0 (by decide) (by decide)
  have hM := tMinN (ext := ext0) non0
  have hD := tMeldN
  have hL0 := tLen (ext := ext0) non0 0 0 none
  have hLN := tLen0 (ext := ext0) non0
  have hO := tOrder0
  cases ho : okB x with
  | false =>
    have h1 := tPushx non0 e26 e73 .nilp (.inl rfl) x hx ho
    have h2 := tPushx non0 e26 e73 (QV 0 0 none) (.inr ⟨_, rfl⟩) x hx ho
    refine Ev.of (non0 4 (by decide) (by decide)) Tryd.func4 rfl rfl ?_
    conv => whnf
    repeat (first
      | (refine sel_yes ?_ ?_; (first | assumption | (simp only [beq_iff_eq, bne_iff_ne, beq_eq_false_iff_ne, bne_eq_false_iff_eq, decide_eq_true_eq, decide_eq_false_iff_not, Bool.not_eq_true', Bool.not_eq_false', ne_eq, beq_true, beq_false, bne_self_eq_false, not_true_eq_false, not_false_eq_true, gt_iff_lt, ge_iff_le, Int.not_lt, Int.not_le, Bool.true_eq_false, Bool.false_eq_true] <;> omega)); conv => whnf)
      | (refine sel_no ?_ ?_; (first | assumption | (simp only [beq_iff_eq, bne_iff_ne, beq_eq_false_iff_ne, bne_eq_false_iff_eq, decide_eq_true_eq, decide_eq_false_iff_not, Bool.not_eq_true', Bool.not_eq_false', ne_eq, beq_true, beq_false, bne_self_eq_false, not_true_eq_false, not_false_eq_true, gt_iff_lt, ge_iff_le, Int.not_lt, Int.not_le, Bool.true_eq_false, Bool.false_eq_true] <;> omega)); conv => whnf)
      | (refine ⟨_, h1, ?_⟩; conv => whnf)
      | (refine ⟨_, hN, ?_⟩; conv => whnf)
      | (refine ⟨_, h2, ?_⟩; conv => whnf)
      | (refine ⟨_, hM, ?_⟩; conv => whnf)
      | (refine ⟨_, hD, ?_⟩; conv => whnf)
      | (refine ⟨_, hL0, ?_⟩; conv => whnf)
      | (refine ⟨_, hLN, ?_⟩; conv => whnf)
      | (refine ⟨_, hO, ?_⟩; conv => whnf)
      | (refine ⟨_, speaks19, ?_⟩; conv => whnf)
      | (refine ⟨le_rfl' ?_, ?_⟩; rfl; conv => whnf)
      | (refine ⟨⟨?_, ?_⟩, ?_⟩; omega; omega; conv => whnf))
    try exact rfl
  | true =>
    have h1 := tPushN non0 e26 e73 x hx ho
    have h2 := tPush non0 e26 e73 0 0 none x (by decide) hx ho trivial
    have hs : sizeO (pushH (cO ext0 0) none x) = 1 := by rw [push_size]; rfl
    have hg : AllO Gd (pushH (cO ext0 0) none x) := push_all _ trivial (gd_of hx ho)
    have hL1 := tLen (ext := ext0) non0 0 1 (pushH (cO ext0 0) none x)
    have hS := tSorted non0 e26 e73 0 1 (pushH (cO ext0 0) none x) hs (by decide) hg
    have hK := sorted_len (cO ext0 0) 1 (pushH (cO ext0 0) none x) hs
    have hKw : ∀ v ∈ sortedH (cO ext0 0) 1 (pushH (cO ext0 0) none x), WfV v := fun v hv => (sorted_all _ _ _ hg v hv).1
    have hV := tvals non0 (sortedH (cO ext0 0) 1 (pushH (cO ext0 0) none x)) (sortedH (cO ext0 0) 1 (pushH (cO ext0 0) none x)) (by omega) hKw
    rw [eqL_self, hK] at hV
    refine Ev.of (non0 4 (by decide) (by decide)) Tryd.func4 rfl rfl ?_
    conv => whnf
    repeat (first
      | (refine sel_yes ?_ ?_; (first | assumption | (simp only [beq_iff_eq, bne_iff_ne, beq_eq_false_iff_ne, bne_eq_false_iff_eq, decide_eq_true_eq, decide_eq_false_iff_not, Bool.not_eq_true', Bool.not_eq_false', ne_eq, beq_true, beq_false, bne_self_eq_false, not_true_eq_false, not_false_eq_true, gt_iff_lt, ge_iff_le, Int.not_lt, Int.not_le, Bool.true_eq_false, Bool.false_eq_true] <;> omega)); conv => whnf)
      | (refine sel_no ?_ ?_; (first | assumption | (simp only [beq_iff_eq, bne_iff_ne, beq_eq_false_iff_ne, bne_eq_false_iff_eq, decide_eq_true_eq, decide_eq_false_iff_not, Bool.not_eq_true', Bool.not_eq_false', ne_eq, beq_true, beq_false, bne_self_eq_false, not_true_eq_false, not_false_eq_true, gt_iff_lt, ge_iff_le, Int.not_lt, Int.not_le, Bool.true_eq_false, Bool.false_eq_true] <;> omega)); conv => whnf)
      | (refine ⟨_, h1, ?_⟩; conv => whnf)
      | (refine ⟨_, hN, ?_⟩; conv => whnf)
      | (refine ⟨_, h2, ?_⟩; conv => whnf)
      | (refine ⟨_, hM, ?_⟩; conv => whnf)
      | (refine ⟨_, hD, ?_⟩; conv => whnf)
      | (refine ⟨_, hL0, ?_⟩; conv => whnf)
      | (refine ⟨_, hLN, ?_⟩; conv => whnf)
      | (refine ⟨_, hO, ?_⟩; conv => whnf)
      | (refine ⟨_, hL1, ?_⟩; conv => whnf)
      | (refine ⟨_, hS, ?_⟩; conv => whnf)
      | (refine ⟨_, hV, ?_⟩; conv => whnf)
      | (refine ⟨_, speaks19, ?_⟩; conv => whnf)
      | (refine ⟨le_rfl' ?_, ?_⟩; rfl; conv => whnf)
      | (refine ⟨⟨?_, ?_⟩, ?_⟩; omega; omega; conv => whnf))
    try exact rfl
end Go.Proofs.YtbekoaalaofloaaDoor.AB
end
