/- What PairingSteps is proved with: what the program's functions make of their arguments, by the evaluator. -/
import Derived.Test.YtbekoaalaofloaaGreatDoorProg
import Derived.Test.YtbekoaalaofloaaGreatDoorZPairingStepsA1
import Derived.Test.YtbekoaalaofloaaGreatDoorZPairingStepsL0
import Derived.KernelRfl
import Derived.Test.YtbekoaalaofloaaGreatDoorChecked
import Derived.Test.YtbekoaalaofloaaGreatDoorShelf
import Derived.Lib.LaidU8T
import Derived.Lib.LaidIn
section
set_option linter.unusedVariables false
set_option linter.unusedSimpArgs false
open Go Go.Ab Go.Proofs Go.Vl
namespace Go.Proofs.YtbekoaalaofloaaGreatDoor.AB
mutual
def enc : T → List V
  | ⟨a, b, c, l⟩ => [.int .i64 a, .int .i64 b, .str c, .sl false (encL l) l.length]
def encL : List T → List V
  | [] => []
  | v :: l => enc v ++ encL l
end
def A (v : T) : V := .agg [.int .i64 v.f0, .int .i64 v.f1, .str v.f2, .sl false (encL v.f3) v.f3.length]
theorem enc_eq (v : T) : enc v = [.int .i64 v.f0, .int .i64 v.f1, .str v.f2, .sl false (encL v.f3) v.f3.length] := by cases v; simp only [enc]
theorem encL_len : ∀ l : List T, (encL l).length = l.length * 4
  | [] => by simp only [encL]; rfl
  | v :: l => by simp only [encL, List.length_append, encL_len l, enc_eq, List.length_cons, List.length_nil]; omega
theorem encL_drop : ∀ (l : List T) (i : Nat), (encL l).drop (i * 4) = encL (l.drop i)
  | l, 0 => by simp
  | [], i + 1 => by simp [encL]
  | v :: l, i + 1 => by
    have : (i + 1) * 4 = 4 + i * 4 := by omega
    rw [this, List.drop_drop.symm, List.drop_succ_cons, ← encL_drop l i]
    simp only [encL, enc_eq]
    rfl
theorem subL {l : List T} {i : Nat} (h : i < l.length) : sub (encL l) (i * 4) 4 = enc l[i] := by
  unfold sub
  rw [encL_drop, List.drop_eq_getElem_cons h]
  simp only [encL, enc_eq]
  rfl
theorem oneA (v : T) : one (some true) (enc v) = some (A v) := by rw [enc_eq]; rfl
/-- an element, read -/
theorem ldA {l : List T} {i : Nat} {Q : V → Prop} (h : i < l.length) (hq : Q (A l[i])) : i * 4 + 4 ≤ (encL l).length ∧ opt (one (some true) (sub (encL l) (i * 4) 4)) fun v => fv v Q := by
  refine ⟨by rw [encL_len]; omega, ?_⟩
  rw [subL h, oneA]
  exact (fv_eq _ _).2 hq
theorem Ev.cast {C : Cfg} {f : Nat} {xs : List V} {r r1 : V} (h : C.Ev f xs r) (e : r = r1) : C.Ev f xs r1 := e ▸ h
theorem sel_yes {t : Bool} {A B : Prop} (h : t = true) (a : A) : sel t A B := by rw [h]; exact a
theorem sel_no {t : Bool} {A B : Prop} (h : t = false) (b : B) : sel t A B := by rw [h]; exact b
def firstLoop : Code → Option Code
  | .seq a b => match firstLoop a with | some c => some c | none => firstLoop b
  | .cond _ a b => match firstLoop a with | some c => some c | none => firstLoop b
  | .block _ c => firstLoop c
  | .scope c => firstLoop c
  | .loop c => some c
  | _ => none
def lpOf (f : Func) : Code := match f.body with | some b => (match firstLoop b with | some c => c | none => .skip) | none => .skip
/-- what is known of a state's slots -/
def Has {α : Type} (t : Nat → α) : List (Nat × α) → Prop
  | [] => True
  | p :: L => t p.1 = p.2 ∧ Has t L
def updL {α : Type} (t : Nat → α) : List (Nat × α) → Nat → α
  | [] => t
  | p :: L => upd (updL t L) p.1 p.2
theorem updL_has {α : Type} (t : Nat → α) : ∀ L, Has t L → updL t L = t
  | [], _ => rfl
  | p :: L, h => by
    rw [updL, updL_has t L h.2]
    funext j
    unfold upd
    split
    · rename_i e; rw [e]; exact h.1.symm
    · rfl
theorem St.knows {s : St} (L : List (Nat × V)) (n : Nat) (h : Has s.t L) (hn : s.hp.n = n) (B : List (Nat × Option Bx) := []) (hB : Has s.hp.h B := by trivial) : s = ⟨updL s.t L, ⟨updL s.hp.h B, n, s.hp.a, s.hp.m⟩⟩ := by
  rw [updL_has _ _ h, updL_has _ _ hB, ← hn]
def okF (f : Nat) : Bool := match f with
  | 69 | 72 => false
  | f => Nat.blt f 110
def byref (f : Nat) : Bool := match f with
  | 1000000 => true
  | _ => false
def extR (f : Nat) : Option (List V → Hp → Option (V × Hp)) := match f with
  | _ => none
noncomputable def cfg (ext : Exts) : Cfg := ⟨Tryz.prog, okF, ext, extR, byref⟩
def cmp3 (x y : Int) : Int := if x < y then -1 else if x > y then 1 else 0
theorem le_rfl' {a b : Nat} (h : Nat.ble a b = true) : a ≤ b := Nat.le_of_ble_eq_true h
theorem vi {k : IntKind} {a b : Int} (h : a = b) : V.int k a = V.int k b := by rw [h]
set_option maxRecDepth 100000
section
variable {ext : Exts}
theorem t33 (h0 : ext 89 = none) (x : Int) : (cfg ext).Ev 89 [.int .i64 x] (.bool false) := by
  refine Ev.of h0 Tryz.func89 rfl rfl ?_
  conv => whnf
  exact congrArg V.bool (by simp)
theorem t34 (h0 : ext 90 = none) (x : Int) : (cfg ext).Ev 90 [.int .i64 x] (.bool false) := by
  refine Ev.of h0 Tryz.func90 rfl rfl ?_
  conv => whnf
  exact congrArg V.bool (by simp)
theorem t60 (h0 : ext 93 = none) (x : Int) : (cfg ext).Ev 93 [.int .u32 x] (.bool false) := by
  refine Ev.of h0 Tryz.func93 rfl rfl ?_
  conv => whnf
  exact congrArg V.bool (by simp)
theorem t62 (h0 : ext 95 = none) (x : Int) : (cfg ext).Ev 95 [.int .u64 x] (.bool false) := by
  refine Ev.of h0 Tryz.func95 rfl rfl ?_
  conv => whnf
  exact congrArg V.bool (by simp)
theorem t24 (h0 : ext 89 = none) (h1 : ext 70 = none) (x y : Int) : (cfg ext).Ev 70 [.int .i64 x, .int .i64 y] (.int .i64 (cmp3 x y)) := by
  refine Ev.of h1 Tryz.func70 rfl rfl ?_
  conv => whnf
  refine ⟨_, t33 h0 x, ?_⟩
  conv => whnf
  refine ⟨_, t33 h0 y, ?_⟩
  conv => whnf
  refine sel_split (fun h => ?_) (fun h => ?_)
  · conv => whnf
    exact vi (by simp at h; simp [cmp3, h])
  · conv => whnf
    refine sel_split (fun h' => ?_) (fun h' => ?_)
    · conv => whnf
      exact vi (by simp at h h'; simp [cmp3, h']; omega)
    · conv => whnf
      exact vi (by simp at h h'; simp [cmp3]; omega)
theorem t25 (h0 : ext 90 = none) (h1 : ext 71 = none) (x y : Int) : (cfg ext).Ev 71 [.int .i64 x, .int .i64 y] (.int .i64 (cmp3 x y)) := by
  refine Ev.of h1 Tryz.func71 rfl rfl ?_
  conv => whnf
  refine ⟨_, t34 h0 x, ?_⟩
  conv => whnf
  refine ⟨_, t34 h0 y, ?_⟩
  conv => whnf
  refine sel_split (fun h => ?_) (fun h => ?_)
  · conv => whnf
    exact vi (by simp at h; simp [cmp3, h])
  · conv => whnf
    refine sel_split (fun h' => ?_) (fun h' => ?_)
    · conv => whnf
      exact vi (by simp at h h'; simp [cmp3, h']; omega)
    · conv => whnf
      exact vi (by simp at h h'; simp [cmp3]; omega)
theorem t50 (h0 : ext 93 = none) (h1 : ext 81 = none) (x y : Int) : (cfg ext).Ev 81 [.int .u32 x, .int .u32 y] (.int .i64 (cmp3 x y)) := by
  refine Ev.of h1 Tryz.func81 rfl rfl ?_
  conv => whnf
  refine ⟨_, t60 h0 x, ?_⟩
  conv => whnf
  refine ⟨_, t60 h0 y, ?_⟩
  conv => whnf
  refine sel_split (fun h => ?_) (fun h => ?_)
  · conv => whnf
    exact vi (by simp at h; simp [cmp3, h])
  · conv => whnf
    refine sel_split (fun h' => ?_) (fun h' => ?_)
    · conv => whnf
      exact vi (by simp at h h'; simp [cmp3, h']; omega)
    · conv => whnf
      exact vi (by simp at h h'; simp [cmp3]; omega)
theorem t55 (h0 : ext 95 = none) (h1 : ext 86 = none) (x y : Int) : (cfg ext).Ev 86 [.int .u64 x, .int .u64 y] (.int .i64 (cmp3 x y)) := by
  refine Ev.of h1 Tryz.func86 rfl rfl ?_
  conv => whnf
  refine ⟨_, t62 h0 x, ?_⟩
  conv => whnf
  refine ⟨_, t62 h0 y, ?_⟩
  conv => whnf
  refine sel_split (fun h => ?_) (fun h => ?_)
  · conv => whnf
    exact vi (by simp at h; simp [cmp3, h])
  · conv => whnf
    refine sel_split (fun h' => ?_) (fun h' => ?_)
    · conv => whnf
      exact vi (by simp at h h'; simp [cmp3, h']; omega)
    · conv => whnf
      exact vi (by simp at h h'; simp [cmp3]; omega)
theorem t37 (h0 : ext 62 = none) (a b : T) (r : Int) (hc : (cfg ext).Ev 52 [A b, A a] (.int .i64 r)) : (cfg ext).Ev 62 [A a, A b] (.int .i64 r) := by
  refine Ev.of h0 Tryz.func62 rfl rfl ?_
  conv => whnf
  refine ⟨_, hc, ?_⟩
  conv => whnf
theorem t49 (h0 : ext 80 = none) (x y : Int) : (cfg ext).Ev 80 [.sl false [.int .i64 x, .int .i64 y] 2] (.int .i64 (if x = 0 then y else x)) := by
  refine Ev.of h0 Tryz.func80 rfl rfl ?_
  conv => whnf
  refine Loop.round ?_
  conv => whnf
  refine ⟨by decide, ?_⟩
  conv => whnf
  refine ⟨le_rfl' rfl, ?_⟩
  conv => whnf
  refine sel_split (fun h => ?_) (fun h => ?_)
  · conv => whnf
    exact vi (by simp at h; simp [h])
  · conv => whnf
    refine Loop.round ?_
    conv => whnf
    refine ⟨by decide, ?_⟩
    conv => whnf
    refine ⟨le_rfl' rfl, ?_⟩
    conv => whnf
    refine sel_split (fun h' => ?_) (fun h' => ?_)
    · conv => whnf
      exact vi (by simp at h; simp [h])
    · conv => whnf
      refine Loop.round ?_
      conv => whnf
      exact vi (by simp at h h'; simp [h, h'])


theorem t39 (h0 : ext 64 = none) (a : T) (h e : Int) (hc : (cfg ext).Ev 82 [A a] (.tup [.int .u32 h, .int .i64 e])) : (cfg ext).Ev 64 [A a] (.int .u32 h) := by
  refine Ev.of h0 Tryz.func64 rfl rfl ?_
  conv => whnf
  refine ⟨_, hc, ?_⟩
  conv => whnf
theorem t41 (h0 : ext 66 = none) (a : T) (h e : Int) (hc : (cfg ext).Ev 84 [A a] (.tup [.int .i64 h, .int .i64 e])) : (cfg ext).Ev 66 [A a] (.int .i64 h) := by
  refine Ev.of h0 Tryz.func66 rfl rfl ?_
  conv => whnf
  refine ⟨_, hc, ?_⟩
  conv => whnf
def awy (n : Int) : Int := if n < 0 then IntKind.u64.wrap (0 - IntKind.u64.wrap n) else IntKind.u64.wrap n
theorem t56 (h0 : ext 87 = none) (n : Int) : (cfg ext).Ev 87 [.int .i64 n] (.int .u64 (awy n)) := by
  refine Ev.of h0 Tryz.func87 rfl rfl ?_
  conv => whnf
  refine sel_split (fun h => ?_) (fun h => ?_)
  · conv => whnf
    exact vi (by simp at h; simp [awy, h])
  · conv => whnf
    exact vi (by simp at h; simp [awy]; omega)
theorem t48 (h0 : ext 79 = none) (h1 : ext 81 = none) (h2 : ext 93 = none) (h3 : ext 80 = none) (a b : T) (x y c : Int) (ha : (cfg ext).Ev 64 [A a] (.int .u32 x)) (hb : (cfg ext).Ev 64 [A b] (.int .u32 y)) (hc : (cfg ext).Ev 52 [A a, A b] (.int .i64 c)) :
    (cfg ext).Ev 79 [A a, A b, .ptr [.fn 64 []] 0] (.int .i64 (if cmp3 x y = 0 then c else cmp3 x y)) := by
  refine Ev.of h0 Tryz.func79 rfl rfl ?_
  conv => whnf
  refine ⟨le_rfl' rfl, ?_⟩
  conv => whnf
  refine ⟨_, ha, ?_⟩
  conv => whnf
  refine ⟨le_rfl' rfl, ?_⟩
  conv => whnf
  refine ⟨_, hb, ?_⟩
  conv => whnf
  refine ⟨_, t50 h2 h1 x y, ?_⟩
  conv => whnf
  refine ⟨_, hc, ?_⟩
  conv => whnf
  refine ⟨_, t49 h3 _ _, ?_⟩
  conv => whnf
theorem t52 (h0 : ext 83 = none) (h1 : ext 70 = none) (h2 : ext 89 = none) (h3 : ext 80 = none) (a b : T) (x y c : Int) (ha : (cfg ext).Ev 66 [A a] (.int .i64 x)) (hb : (cfg ext).Ev 66 [A b] (.int .i64 y)) (hc : (cfg ext).Ev 52 [A a, A b] (.int .i64 c)) :
    (cfg ext).Ev 83 [A a, A b, .ptr [.fn 66 []] 0] (.int .i64 (if cmp3 x y = 0 then c else cmp3 x y)) := by
  refine Ev.of h0 Tryz.func83 rfl rfl ?_
  conv => whnf
  refine ⟨le_rfl' rfl, ?_⟩
  conv => whnf
  refine ⟨_, ha, ?_⟩
  conv => whnf
  refine ⟨le_rfl' rfl, ?_⟩
  conv => whnf
  refine ⟨_, hb, ?_⟩
  conv => whnf
  refine ⟨_, t24 h2 h1 x y, ?_⟩
  conv => whnf
  refine ⟨_, hc, ?_⟩
  conv => whnf
  refine ⟨_, t49 h3 _ _, ?_⟩
  conv => whnf
theorem t42 (h0 : ext 67 = none) (h1 : ext 70 = none) (h2 : ext 89 = none) (h3 : ext 80 = none) (a b : T) (x y c : Int) (ha : (cfg ext).Ev 85 [.str a.f2] (.int .i64 x)) (hb : (cfg ext).Ev 85 [.str b.f2] (.int .i64 y)) (hc : (cfg ext).Ev 52 [A a, A b] (.int .i64 c)) :
    (cfg ext).Ev 67 [A a, A b] (.int .i64 (if a.f0 = 3 ∧ b.f0 = 3 then (if cmp3 x y = 0 then c else cmp3 x y) else c)) := by
  refine Ev.of h0 Tryz.func67 rfl rfl ?_
  conv => whnf
  cases h4 : (a.f0 == 3) with
  | false =>
    conv => whnf
    refine ⟨_, hc, ?_⟩
    conv => whnf
    exact vi (by simp at h4; simp [h4])
  | true =>
    conv => whnf
    cases h5 : (b.f0 == 3) with
    | false =>
      conv => whnf
      refine ⟨_, hc, ?_⟩
      conv => whnf
      exact vi (by simp at h5; simp [h5])
    | true =>
      conv => whnf
      refine ⟨_, ha, ?_⟩
      conv => whnf
      refine ⟨_, hb, ?_⟩
      conv => whnf
      refine ⟨_, t24 h2 h1 x y, ?_⟩
      conv => whnf
      refine ⟨_, hc, ?_⟩
      conv => whnf
      refine ⟨_, t49 h3 _ _, ?_⟩
      conv => whnf
      exact vi (by simp at h4 h5; simp [h4, h5])
end
end Go.Proofs.YtbekoaalaofloaaGreatDoor.AB
end

section
set_option linter.unusedVariables false
set_option linter.unusedSimpArgs false
open Go Go.Ab Go.Proofs Go.Vl
namespace Go.Proofs.YtbekoaalaofloaaGreatDoor.AB
set_option maxRecDepth 100000
section
variable {ext : Exts}
theorem wrap_add1 {i : Nat} (h : i + 1 ≤ 9223372036854775807) : IntKind.i64.wrap ((i : Int) + 1) = ((i + 1 : Nat) : Int) := by
  rw [IntKind.wrap_i64]; omega
def k27 (l m : List T) (i : Nat) : List (Nat × V) := [(13, .int .i64 i), (12, .int .i64 l.length), (11, .sl false (encL l) l.length), (1, .sl false (encL m) m.length), (0, .sl false (encL l) l.length), (2, .fn 52 [])]
theorem l27 (l m : List T) (hl : l.length ≤ 9223372036854775807) (E : ∀ a ∈ l, ∀ b ∈ m, (cfg ext).Ev 52 [A a, A b] (.int .i64 (cmpV a b))) (Q : Ex → St → Prop) (d : Nat) :
    ∀ (i : Nat) (s : St), l.length - i = d → i ≤ l.length → i ≤ m.length → Has s.t (k27 l m i) → s.hp.n = 4 →
      (∀ s', s'.t 6 = .int .i64 (cmpL (l.drop i) (m.drop i)) → Q .ret s') →
      (∀ s', s'.t 0 = .sl false (encL l) l.length → s'.t 1 = .sl false (encL m) m.length → l.length ≤ m.length → cmpL (l.drop i) (m.drop i) = cmpL [] (m.drop l.length) → Q (.exit 0) s') →
      Go.Ab.Loop (cfg ext) (lpOf Tryz.f73) 4 s Q := by
  induction d with
  | zero =>
    intro i s hd hi him hs en hr hq
    obtain rfl : i = l.length := by omega
    rw [St.knows _ _ hs en]
    refine Loop.round ?_
    conv => whnf
    refine sel_split (fun h => ?_) (fun h => ?_)
    · simp at h
    conv => whnf
    exact hq _ rfl rfl him (by rw [List.drop_length])
  | succ d ih =>
    intro i s hd hi him hs en hr hq
    rw [St.knows _ _ hs en]
    refine Loop.round ?_
    conv => whnf
    refine sel_split (fun h => ?_) (fun h => ?_)
    · have hlt : i < l.length := by simpa using h
      have eD := List.drop_eq_getElem_cons hlt
      conv => whnf
      refine ⟨⟨by omega, by omega⟩, ?_⟩
      conv => whnf
      refine ldA (i := i) hlt ?_
      conv => whnf
      refine sel_split (fun h2 => ?_) (fun h2 => ?_)
      · conv => whnf
        have : m.length = i := by simp at h2; omega
        exact hr _ (vi (by rw [eD, show m.drop i = [] from List.drop_eq_nil_of_le (by omega), cmpL]))
      have hlt2 : i < m.length := by simp at h2; omega
      have eM := List.drop_eq_getElem_cons hlt2
      conv => whnf
      refine ⟨⟨by omega, by omega⟩, ?_⟩
      conv => whnf
      refine ldA (i := i) hlt2 ?_
      conv => whnf
      refine ⟨_, E _ (List.getElem_mem hlt) _ (List.getElem_mem hlt2), ?_⟩
      conv => whnf
      refine sel_split (fun h3 => ?_) (fun h3 => ?_)
      · conv => whnf
        refine hr _ (vi ?_)
        rw [eD, eM, cmpL, if_neg (by simpa using h3)]
      conv => whnf
      have h3 : cmpV l[i] m[i] = 0 := by simpa using h3
      have eC : cmpL (l.drop i) (m.drop i) = cmpL (l.drop (i + 1)) (m.drop (i + 1)) := by rw [eD, eM, cmpL, if_pos h3]
      refine ih (i + 1) _ (by omega) (by omega) (by omega) ⟨?_, rfl, rfl, rfl, rfl, rfl, trivial⟩ rfl (fun s' h => hr s' (by rw [eC]; exact h)) (fun s' h1 h2 h3 h4 => hq s' h1 h2 h3 (by rw [eC]; exact h4))
      conv => lhs; whnf
      exact vi (wrap_add1 (by omega))
    simp at h; omega
theorem t27 (h0 : ext 73 = none) (l m : List T) (hl : l.length ≤ 9223372036854775807) (E : ∀ a ∈ l, ∀ b ∈ m, (cfg ext).Ev 52 [A a, A b] (.int .i64 (cmpV a b))) :
    (cfg ext).Ev 73 [.sl false (encL l) l.length, .sl false (encL m) m.length, .fn 52 []] (.int .i64 (cmpL l m)) := by
  refine Ev.of h0 Tryz.func73 rfl rfl ?_
  conv => whnf
  refine l27 l m hl E _ _ 0 _ rfl (by omega) (by omega) ⟨rfl, rfl, rfl, rfl, rfl, rfl, trivial⟩ rfl (fun s' e => ?_) (fun s' e0 e1 hle e => ?_)
  · conv => whnf
    rw [e]
    rfl
  · rw [St.knows [(0, _), (1, _)] _ ⟨e0, e1, trivial⟩ rfl]
    conv => whnf
    simp only [List.drop_zero] at e
    rw [e]
    refine sel_split (fun h => ?_) (fun h => ?_)
    · conv => whnf
      have : l.length < m.length := by simpa using h
      exact vi (by rw [List.drop_eq_getElem_cons this, cmpL])
    · conv => whnf
      have : m.length ≤ l.length := by simpa using h
      exact vi (by rw [List.drop_eq_nil_of_le this, cmpL])
end
end Go.Proofs.YtbekoaalaofloaaGreatDoor.AB
end

section
set_option linter.unusedVariables false
set_option linter.unusedSimpArgs false
open Go Go.Ab Go.Proofs Go.Vl
namespace Go.Proofs.YtbekoaalaofloaaGreatDoor.AB
set_option maxRecDepth 100000
section
variable {ext : Exts}
/-- the externals: comparing two texts -/
def E26 (ext : Exts) : Prop := ∀ s t : ByteArray, (cfg ext).Ev 72 [.str s, .str t] (.int .i64 (Lib.compareBytes s.data.toList t.data.toList))
/-- what is none of the externals -/
def Non (ext : Exts) : Prop := ∀ f, f ≠ 72 → f ≠ 69 → ext f = none
mutual
theorem t15 (hn : Non ext) (h26 : E26 ext) : (a : T) → WfV a → (b : T) → (cfg ext).Ev 52 [A a, A b] (.int .i64 (cmpV a b))
  | ⟨k, n, t, l⟩, hw, b => by
    refine Ev.of (hn 52 (by decide) (by decide)) Tryz.func52 rfl rfl ?_
    conv => whnf
    refine sel_split (fun h => ?_) (fun h => ?_)
    · conv => whnf
      refine ⟨_, t24 (hn 89 (by decide) (by decide)) (hn 70 (by decide) (by decide)) _ _, ?_⟩
      conv => whnf
      exact vi (by rw [cmpV, if_neg (by simpa using h)]; rfl)
    conv => whnf
    have hk : k = b.f0 := by simpa using h
    have eC : cmpV ⟨k, n, t, l⟩ b = if k = 1 ∨ k = 2 then cmpI n b.f1 else if k = 3 then Lib.compareBytes t.data.toList b.f2.data.toList else if k = 4 ∨ k = 5 ∨ k = 6 then cmpL l b.f3 else 0 := by rw [cmpV, if_pos hk]
    refine sel_split (fun g1 => ?_) (fun g1 => ?_)
    · conv => whnf
      refine sel_yes g1 ?_
      conv => whnf
      have g1 : k = 1 := by simpa using g1
      refine ⟨_, t25 (hn 90 (by decide) (by decide)) (hn 71 (by decide) (by decide)) _ _, ?_⟩
      conv => whnf
      exact vi (by rw [eC, if_pos (.inl g1)]; rfl)
    have g1 : k ≠ 1 := by simpa using g1
    conv => whnf
    refine sel_split (fun g2 => ?_) (fun g2 => ?_)
    · conv => whnf
      have g2 : k = 2 := by simpa using g2
      refine ⟨_, t25 (hn 90 (by decide) (by decide)) (hn 71 (by decide) (by decide)) _ _, ?_⟩
      conv => whnf
      exact vi (by rw [eC, if_pos (.inr g2)]; rfl)
    conv => whnf
    have g2 : k ≠ 2 := by simpa using g2
    have g12 : ¬ (k = 1 ∨ k = 2) := by omega
    refine sel_split (fun g3 => ?_) (fun g3 => ?_)
    · conv => whnf
      have g3 : k = 3 := by simpa using g3
      refine ⟨_, h26 _ _, ?_⟩
      conv => whnf
      exact vi (by rw [eC, if_neg g12, if_pos g3])
    have g3 : k ≠ 3 := by simpa using g3
    have row (g : k = 4 ∨ k = 5 ∨ k = 6) : (cfg ext).Ev 73 [.sl false (encL l) l.length, .sl false (encL b.f3) b.f3.length, .fn 52 []] (.int .i64 (cmpV ⟨k, n, t, l⟩ b)) := by
      rw [eC, if_neg g12, if_neg g3, if_pos g]
      simp only [WfV] at hw
      exact t27 (hn 73 (by decide) (by decide)) l b.f3 hw.2.2.2.1 fun a ha c _ => t15L hn h26 l hw.2.2.2.2 a ha c
    conv => whnf
    refine sel_split (fun g4 => ?_) (fun g4 => ?_)
    · conv => whnf
      refine sel_yes g4 ?_
      conv => whnf
      refine ⟨_, row (.inl (by simpa using g4)), ?_⟩
      conv => whnf
    have g4 : k ≠ 4 := by simpa using g4
    conv => whnf
    refine sel_split (fun g5 => ?_) (fun g5 => ?_)
    · conv => whnf
      refine sel_yes g5 ?_
      conv => whnf
      refine ⟨_, row (.inr (.inl (by simpa using g5))), ?_⟩
      conv => whnf
    have g5 : k ≠ 5 := by simpa using g5
    conv => whnf
    refine sel_split (fun g6 => ?_) (fun g6 => ?_)
    · conv => whnf
      refine ⟨_, row (.inr (.inr (by simpa using g6))), ?_⟩
      conv => whnf
    conv => whnf
    have g6 : k ≠ 6 := by simpa using g6
    exact vi (by rw [eC, if_neg g12, if_neg g3, if_neg (by omega)])
theorem t15L (hn : Non ext) (h26 : E26 ext) : (l : List T) → WfL l → ∀ a ∈ l, ∀ b : T, (cfg ext).Ev 52 [A a, A b] (.int .i64 (cmpV a b))
  | [], _, a, ha, _ => by cases ha
  | v :: l, hw, a, ha, b => by
    simp only [WfL] at hw
    rcases List.mem_cons.1 ha with e | h
    · rw [e]; exact t15 hn h26 v hw.1 b
    · exact t15L hn h26 l hw.2 a h b
end
end
end Go.Proofs.YtbekoaalaofloaaGreatDoor.AB
end

section
set_option linter.unusedVariables false
set_option linter.unusedSimpArgs false
open Go Go.Ab Go.Proofs Go.Vl
namespace Go.Proofs.YtbekoaalaofloaaGreatDoor.AB
set_option maxRecDepth 100000
set_option maxHeartbeats 1600000
section
variable {ext : Exts}
def E73 (ext : Exts) : Prop := ∀ s : ByteArray, (cfg ext).Ev 69 [.str s] (.tup [.int .i32 (decGo s).1, .int .i64 (decGo s).2])
theorem vb {a b : Bool} (h : a = b) : V.bool a = V.bool b := by rw [h]
theorem slStr {P : Program} {t : Nat} {s : ByteArray} {k : IntKind} {i : Nat} (ht : isStrT P t = true) (h : i ≤ s.size) : sliceV P t (.str s) (some (.int k i)) none none = some (.str (s.extract i s.size)) := by
  simp only [sliceV, ht, boundO, bound, Option.bind_some]
  rw [if_pos (by omega)]
  rfl
theorem l63 (h73 : E73 ext) (s : ByteArray) (Q : Ex → St → Prop) (d : Nat) :
    ∀ (p : Nat) (z : St), s.size ≤ p + d → Has z.t [(8, .ref 2 0), (0, .str s)] → Has z.hp.h [(2, some (.iter s p))] → z.hp.n = 3 →
      (∀ z', z'.t 2 = .bool false → utfGo s d p = false → Q .ret z') →
      (∀ z', utfGo s d p = true → Q (.exit 0) z') →
      Go.Ab.Loop (cfg ext) (lpOf Tryz.f51) 3 z Q := by
  induction d with
  | zero =>
    intro p z hd hz hb hn hr hq
    rw [St.knows _ _ hz hn _ hb]
    refine Loop.round ?_
    conv => whnf
    refine sel_split (fun h => ?_) (fun h => ?_)
    · simp at h; omega
    conv => whnf
    exact hq _ rfl
  | succ d ih =>
    intro p z hd hz hb hn hr hq
    rw [St.knows _ _ hz hn _ hb]
    refine Loop.round ?_
    conv => whnf
    refine sel_split (fun h => ?_) (fun h => ?_)
    · have hp : p < s.size := by simpa using h
      have hl := dec_le s p
      have next : ∀ (h : ¬ ((Utf8.decode s p).1 = 65533 ∧ (Utf8.decode s p).2 = 1)), utfGo s (d + 1) p = utfGo s d (p + (Utf8.decode s p).2) := fun h => by rw [utfGo, if_pos hp, if_neg h]
      conv => whnf
      refine sel_split (fun h2 => ?_) (fun h2 => ?_)
      · have h2 : (Utf8.decode s p).1 = 65533 := by have := eq_of_beq h2; omega
        conv => whnf
        refine ⟨_, slStr rfl (by omega : p ≤ s.size), ?_⟩
        conv => whnf
        refine ⟨_, h73 _, ?_⟩
        rw [decGo_extract s p hp]
        conv => whnf
        refine sel_split (fun h3 => ?_) (fun h3 => ?_)
        · have h3 : (Utf8.decode s p).2 = 1 := by have := eq_of_beq h3; omega
          conv => whnf
          exact hr _ rfl (by rw [utfGo, if_pos hp, if_pos ⟨h2, h3⟩])
        · have h3 : (Utf8.decode s p).2 ≠ 1 := by have := ne_of_beq_false h3; omega
          conv => whnf
          exact ih _ _ (by omega) ⟨rfl, rfl, trivial⟩ ⟨rfl, trivial⟩ rfl (fun z' h h' => hr z' h (by rw [next (fun g => h3 g.2)]; exact h')) (fun z' h' => hq z' (by rw [next (fun g => h3 g.2)]; exact h'))
      · have h2 : (Utf8.decode s p).1 ≠ 65533 := by have := ne_of_beq_false h2; omega
        conv => whnf
        exact ih _ _ (by omega) ⟨rfl, rfl, trivial⟩ ⟨rfl, trivial⟩ rfl (fun z' h h' => hr z' h (by rw [next (fun g => h2 g.1)]; exact h')) (fun z' h' => hq z' (by rw [next (fun g => h2 g.1)]; exact h'))
    · have hp : ¬ p < s.size := by simpa using h
      conv => whnf
      exact hq _ (by rw [utfGo, if_neg hp])
theorem t63 (hn : Non ext) (h73 : E73 ext) (s : ByteArray) : (cfg ext).Ev 51 [.str s] (.bool (utfB s)) := by
  refine Ev.of (hn 51 (by decide) (by decide)) Tryz.func51 rfl rfl ?_
  conv => whnf
  refine l63 h73 s _ s.size 0 _ (by omega) ⟨rfl, rfl, trivial⟩ ⟨rfl, trivial⟩ rfl (fun z h1 h2 => ?_) (fun z h => ?_)
  · conv => whnf
    rw [h1]
    exact vb h2.symm
  · conv => whnf
    exact vb h.symm
theorem l54 (s : ByteArray) (Q : Ex → St → Prop) (d : Nat) :
    ∀ (p : Nat) (c : Int) (z : St), s.size ≤ p + d → Has z.t [(4, .ref 2 0), (2, .int .i64 c)] → Has z.hp.h [(2, some (.iter s p))] → z.hp.n = 3 →
      (∀ z' c', z'.t 2 = .int .i64 c' → Q (.exit 0) z') →
      Go.Ab.Loop (cfg ext) (lpOf Tryz.f85) 3 z Q := by
  induction d with
  | zero =>
    intro p c z hd hz hb hn hq
    rw [St.knows _ _ hz hn _ hb]
    refine Loop.round ?_
    conv => whnf
    refine sel_split (fun h => ?_) (fun h => ?_)
    · simp at h; omega
    conv => whnf
    exact hq _ _ rfl
  | succ d ih =>
    intro p c z hd hz hb hn hq
    rw [St.knows _ _ hz hn _ hb]
    refine Loop.round ?_
    conv => whnf
    refine sel_split (fun h => ?_) (fun h => ?_)
    · have hl := dec_le s p
      conv => whnf
      exact ih _ _ _ (by omega) ⟨rfl, rfl, trivial⟩ ⟨rfl, trivial⟩ rfl hq
    · conv => whnf
      exact hq _ _ rfl
theorem t54 (hn : Non ext) (s : ByteArray) : ∃ c, (cfg ext).Ev 85 [.str s] (.int .i64 c) := by
  have key : ∃ r, (cfg ext).Ev 85 [.str s] r ∧ ∃ c, r = .int .i64 c := by
    refine Ev.ofE (hn 85 (by decide) (by decide)) Tryz.func85 rfl rfl ?_
    conv => whnf
    refine l54 s _ s.size 0 0 _ (by omega) ⟨rfl, rfl, trivial⟩ ⟨rfl, trivial⟩ rfl (fun z c h => ?_)
    rw [St.knows [(2, _)] _ ⟨h, trivial⟩ rfl]
    conv => whnf
    exact ⟨_, rfl⟩
  obtain ⟨r, h, c, rfl⟩ := key
  exact ⟨c, h⟩
theorem t57 (hn : Non ext) (h73 : E73 ext) (v : T) : (cfg ext).Ev 41 [A v] (.bool (decide (PlainV v.f0 v.f1 v.f2))) := by
  refine Ev.of (hn 41 (by decide) (by decide)) Tryz.func41 rfl rfl ?_
  have u := t63 hn h73 v.f2
  have no (h : ¬ PlainV v.f0 v.f1 v.f2) : V.bool false = V.bool (decide (PlainV v.f0 v.f1 v.f2)) := vb (by simp [h])
  have tx (h : (!(v.f2.toList == (⟨#[]⟩ : ByteArray).toList)) = true) (h3 : v.f0 ≠ 3) : ¬ PlainV v.f0 v.f1 v.f2 := fun g => by
    have := g.1.resolve_left h3
    rw [this] at h; simp at h
  have tx2 (h : (!(v.f2.toList == (⟨#[]⟩ : ByteArray).toList)) = false) : v.f2 = ⟨#[]⟩ := by
    have h : v.f2.toList = (⟨#[]⟩ : ByteArray).toList := by simpa using h
    rw [ByteArray.toList_eq, ByteArray.toList_eq] at h
    exact Go.WideShapes.bytes_inj h
  conv => whnf
  by_cases k3 : v.f0 = 3
  · rw [show (v.f0 != 3) = false by simp [k3]]
    conv => whnf
    rw [show (v.f0 != 2) = true by simp [k3]]
    conv => whnf
    rw [show (v.f0 != 1) = true by simp [k3]]
    conv => whnf
    cases hn : (v.f1 != 0) with
    | true =>
      conv => whnf
      exact no fun g => by have := g.2.1; simp at hn; omega
    | false =>
      conv => whnf
      rw [show (v.f0 == 1) = false by simp [k3]]
      conv => whnf
      rw [show (v.f0 == 3) = true by simp [k3]]
      conv => whnf
      have hn : v.f1 = 0 := by simpa using hn
      refine sel_split (fun hz => ?_) (fun hz => ?_)
      · conv => whnf
        refine sel_yes hz ?_
        conv => whnf
        refine sel_yes hz ?_
        conv => whnf
        refine ⟨_, u, ?_⟩
        conv => whnf
        have hz' : decide ((v.f2.size : Int) ≤ 256) = true := by simpa using hz
        refine sel_yes hz' ?_
        conv => whnf
        refine vb ?_
        have hz : v.f2.size ≤ 256 := by simp at hz'; omega
        have : PlainV v.f0 v.f1 v.f2 ↔ utfB v.f2 = true := by
          unfold PlainV
          rw [if_neg (show ¬ v.f0 = 1 by omega), if_pos k3]
          exact ⟨fun h => h.2.2.2, fun h => ⟨.inl k3, .inr (.inr hn), hz, h⟩⟩
        rw [Bool.eq_iff_iff, decide_eq_true_iff]; exact this.symm
      · conv => whnf
        refine sel_no hz ?_
        conv => whnf
        refine sel_no hz ?_
        conv => whnf
        have hz' : decide ((v.f2.size : Int) ≤ 256) = false := by simpa using hz
        refine sel_no hz' ?_
        conv => whnf
        exact no fun g => by have := g.2.2; rw [if_neg (by omega), if_pos k3] at this; simp at hz'; omega
  · rw [show (v.f0 != 3) = true by simp [k3]]
    conv => whnf
    cases ht : (!(v.f2.toList == (⟨#[]⟩ : ByteArray).toList)) with
    | true => 
      conv => whnf
      exact no (tx ht k3)
    | false => 
      have ht := tx2 ht
      conv => whnf
      by_cases k2 : v.f0 = 2
      · rw [show (v.f0 != 2) = false by simp [k2]]
        conv => whnf
        rw [show (v.f0 == 1) = false by simp [k2]]
        conv => whnf
        rw [show (v.f0 == 3) = false by simp [k2]]
        conv => whnf
        have h0 : (decide (v.f0 ≥ 0) == true) = true := by simp [k2]
        refine sel_yes h0 ?_
        conv => whnf
        refine sel_yes h0 ?_
        conv => whnf
        refine sel_yes h0 ?_
        conv => whnf
        refine sel_yes (show decide (v.f0 ≥ 0) = true by simp [k2]) ?_
        conv => whnf
        refine vb ?_
        rw [decide_eq_true (show v.f0 ≤ 6 by omega), decide_eq_true]
        exact ⟨.inr ht, .inr (.inl k2), by rw [if_neg (by omega), if_neg (by omega)]; omega⟩
      · rw [show (v.f0 != 2) = true by simp [k2]]
        conv => whnf
        by_cases k1 : v.f0 = 1
        · rw [show (v.f0 != 1) = false by simp [k1]]
          conv => whnf
          rw [show (v.f0 == 1) = true by simp [k1]]
          conv => whnf
          have pl : PlainV v.f0 v.f1 v.f2 ↔ v.f1 = 0 ∨ v.f1 = 1 := by
            unfold PlainV
            rw [if_pos k1]
            exact ⟨fun h => h.2.2, fun h => ⟨.inr ht, .inl k1, h⟩⟩
          cases hz : (v.f1 == 0) with
          | true =>
            conv => whnf
            have : v.f1 = 0 := by simpa using hz
            exact vb (by rw [decide_eq_true (pl.2 (.inl this))])
          | false =>
            conv => whnf
            have : v.f1 ≠ 0 := by simpa using hz
            refine vb ?_
            rw [Bool.eq_iff_iff, decide_eq_true_iff, pl]
            exact ⟨fun h => .inr (by simpa using h), fun h => by simpa using h.resolve_left this⟩
        · rw [show (v.f0 != 1) = true by simp [k1]]
          conv => whnf
          cases hn : (v.f1 != 0) with
          | true =>
            conv => whnf
            exact no fun g => by have := g.2.1; simp at hn; omega
          | false =>
            conv => whnf
            rw [show (v.f0 == 1) = false by simp [k1]]
            conv => whnf
            rw [show (v.f0 == 3) = false by simp [k3]]
            conv => whnf
            have hn : v.f1 = 0 := by simpa using hn
            have pl : PlainV v.f0 v.f1 v.f2 ↔ 0 ≤ v.f0 ∧ v.f0 ≤ 6 := by
              unfold PlainV
              rw [if_neg k1, if_neg k3]
              exact ⟨fun h => h.2.2, fun h => ⟨.inr ht, .inr (.inr hn), h⟩⟩
            refine sel_split (fun h0 => ?_) (fun h0 => ?_)
            · conv => whnf
              refine sel_yes h0 ?_
              conv => whnf
              refine sel_yes h0 ?_
              conv => whnf
              have h0 : decide (v.f0 ≥ 0) = true := by simpa using h0
              refine sel_yes h0 ?_
              conv => whnf
              refine vb ?_
              have h0 : 0 ≤ v.f0 := by simpa using h0
              rw [Bool.eq_iff_iff, decide_eq_true_iff, decide_eq_true_iff, pl]
              exact ⟨fun h => ⟨h0, h⟩, fun h => h.2⟩
            · conv => whnf
              refine sel_no h0 ?_
              conv => whnf
              refine sel_no h0 ?_
              conv => whnf
              have h0 : decide (v.f0 ≥ 0) = false := by simpa using h0
              refine sel_no h0 ?_
              conv => whnf
              exact no fun g => by have := (pl.1 g).1; simp at h0; omega
end
end Go.Proofs.YtbekoaalaofloaaGreatDoor.AB
end

section
set_option linter.unusedVariables false
set_option linter.unusedSimpArgs false
open Go Go.Ab Go.Proofs Go.Vl
namespace Go.Proofs.YtbekoaalaofloaaGreatDoor.AB
set_option maxRecDepth 100000
set_option maxHeartbeats 1600000
section
variable {ext : Exts}
theorem wrapN {k : Int} {i : Nat} (e : k = i) (h : i ≤ 9223372036854775807) : IntKind.i64.wrap k = (i : Int) := by
  rw [IntKind.wrap_i64]; omega
def cellsV (v : T) : List V := [.int .i64 v.f0, .int .i64 v.f1, .str v.f2, .sl false (encL v.f3) v.f3.length]
theorem l58 (v : T) (hl : v.f3.length ≤ 4611686018427387904) (E : ∀ a ∈ v.f3, ∀ b, (cfg ext).Ev 52 [A a, A b] (.int .i64 (cmpV a b))) (st : Nat) (hs : st = 1 ∨ st = 2) (M : Nat) (Q : Ex → St → Prop) (d : Nat) :
    ∀ (i : Nat) (z : St), v.f3.length - i ≤ d → st ≤ i → i % st = 0 → i ≤ v.f3.length + 2 → Has z.t [(1, .ref 0 0), (3, .int .i64 st), (4, .int .i64 i)] → Has z.hp.h [(0, some (.cells (cellsV v) false))] → z.hp.n = M + 1 →
      (∀ z', z'.t 2 = .bool false → (¬ ∀ j : Nat, i ≤ j + st → j % st = 0 → ∀ (h : j + st < v.f3.length), cmpV (v.f3[j]'(by omega)) (v.f3[j + st]) < 0) → Q .ret z') →
      (∀ z', (∀ j : Nat, i ≤ j + st → j % st = 0 → ∀ (h : j + st < v.f3.length), cmpV (v.f3[j]'(by omega)) (v.f3[j + st]) < 0) → Q (.exit 1) z') →
      Go.Ab.Loop (cfg ext) (lpOf Tryz.f42) (M + 1) z Q := by
  have stop : ∀ (i : Nat) (z : St), v.f3.length ≤ i → Has z.t [(1, .ref 0 0), (3, .int .i64 st), (4, .int .i64 i)] → Has z.hp.h [(0, some (.cells (cellsV v) false))] → z.hp.n = M + 1 →
      (∀ z', (∀ j : Nat, i ≤ j + st → j % st = 0 → ∀ (h : j + st < v.f3.length), cmpV (v.f3[j]'(by omega)) (v.f3[j + st]) < 0) → Q (.exit 1) z') →
      Go.Ab.Loop (cfg ext) (lpOf Tryz.f42) (M + 1) z Q := by
    intro i z hi hz hb hn hq
    rw [St.knows _ _ hz hn _ hb]
    refine Loop.round ?_
    conv => whnf
    refine sel_split (fun h => ?_) (fun h => ?_)
    · simp at h; omega
    conv => whnf
    exact hq _ (by intro j h1 _ h2; omega)
  induction d with
  | zero => intro i z hd _ _ _ hz hb hn _ hq; exact stop i z (by omega) hz hb hn hq
  | succ d ih =>
    intro i z hd hi hm hi2 hz hb hn hr hq
    by_cases hlt : i < v.f3.length
    · rw [St.knows _ _ hz hn _ hb]
      refine Loop.round ?_
      conv => whnf
      refine sel_split (fun h => ?_) (fun h => ?_)
      · have e1 : IntKind.i64.wrap ((i : Int) - (st : Int)) = ((i - st : Nat) : Int) := wrapN (by omega) (by omega)
        have e2 : IntKind.i64.wrap ((i : Int) + (st : Int)) = ((i + st : Nat) : Int) := wrapN (by omega) (by omega)
        conv => whnf
        rw [e1]
        refine ⟨⟨by omega, by omega⟩, ?_⟩
        conv => whnf
        refine ldA (i := i - st) (by omega) ?_
        conv => whnf
        refine ⟨⟨by omega, by omega⟩, ?_⟩
        conv => whnf
        refine ldA (i := i) (by omega) ?_
        conv => whnf
        refine ⟨_, E _ (List.getElem_mem _) _, ?_⟩
        conv => whnf
        refine sel_split (fun h3 => ?_) (fun h3 => ?_)
        · conv => whnf
          refine hr _ rfl ?_
          intro h
          have e3 : i - st + st = i := by omega
          have := h (i - st) (by omega) (by rcases hs with rfl | rfl <;> omega) (by omega)
          simp only [e3] at this
          simp at h3
          omega
        · conv => whnf
          have hc : cmpV (v.f3[i - st]'(by omega)) (v.f3[i]) < 0 := by simp at h3; omega
          have both : (∀ j : Nat, i + st ≤ j + st → j % st = 0 → ∀ (h : j + st < v.f3.length), cmpV (v.f3[j]'(by omega)) (v.f3[j + st]) < 0) ↔ (∀ j : Nat, i ≤ j + st → j % st = 0 → ∀ (h : j + st < v.f3.length), cmpV (v.f3[j]'(by omega)) (v.f3[j + st]) < 0) := by
            constructor
            · intro h j hj hjm hjl
              by_cases e : i + st ≤ j + st
              · exact h j e hjm hjl
              · have : j = i - st := by rcases hs with rfl | rfl <;> omega
                subst this
                have e3 : i - st + st = i := by omega
                simp only [e3]
                exact hc
            · intro h j hj hjm hjl
              exact h j (by omega) hjm hjl
          refine ih (i + st) _ (by omega) (by omega) (by rcases hs with rfl | rfl <;> omega) (by omega) ⟨rfl, rfl, ?_, trivial⟩ ⟨rfl, trivial⟩ rfl (fun z' h1 h2 => hr z' h1 (fun g => h2 (both.2 g))) (fun z' h1 => hq z' (both.1 h1))
          conv => lhs; whnf
          exact vi e2
      · simp at h; omega
    · exact stop i z (by omega) hz hb hn hq
noncomputable def formB (k : Int) (l : List T) : Bool := @decide (FormV k l) (Classical.propDecidable _)
theorem formB_iff {k : Int} {l : List T} : formB k l = true ↔ FormV k l := by unfold formB; exact @decide_eq_true_iff _ (Classical.propDecidable _)
theorem formB_t {k : Int} {l : List T} (h : FormV k l) : V.bool true = V.bool (formB k l) := vb (formB_iff.2 h).symm
theorem formB_f {k : Int} {l : List T} (h : ¬ FormV k l) : V.bool false = V.bool (formB k l) := vb (by cases e : formB k l with | true => exact absurd (formB_iff.1 e) h | false => rfl)
theorem t58 (hn : Non ext) (v : T) (hl : v.f3.length ≤ 4611686018427387904) (E : ∀ a ∈ v.f3, ∀ b, (cfg ext).Ev 52 [A a, A b] (.int .i64 (cmpV a b))) : (cfg ext).Ev 42 [A v] (.bool (formB v.f0 v.f3)) := by
  refine Ev.of (hn 42 (by decide) (by decide)) Tryz.func42 rfl rfl ?_
  conv => whnf
  refine sel_split (fun c4 => ?_) (fun c4 => ?_)
  · conv => whnf
    have c4 : v.f0 = 4 := by simpa using c4
    exact formB_t (by unfold FormV; rw [if_pos c4]; trivial)
  conv => whnf
  have c4 : v.f0 ≠ 4 := by simpa using c4
  refine sel_split (fun c6 => ?_) (fun c6 => ?_)
  · conv => whnf
    have c6 : v.f0 = 6 := by simpa using c6
    refine ⟨rfl, by decide, ?_⟩
    conv => whnf
    refine sel_split (fun ho => ?_) (fun ho => ?_)
    · conv => whnf
      refine formB_f ?_
      unfold FormV
      rw [if_neg c4, if_pos c6]
      have ho : ((v.f3.length : Int).tmod 2) = 1 := by simpa using ho
      rw [Int.tmod_eq_emod_of_nonneg (by omega)] at ho
      omega
    · conv => whnf
      have ho : v.f3.length % 2 = 0 := by
        have ho : ((v.f3.length : Int).tmod 2) ≠ 1 := by simpa using ho
        rw [Int.tmod_eq_emod_of_nonneg (by omega)] at ho
        omega
      refine l58 v hl E 2 (.inr rfl) _ _ v.f3.length 2 _ (by omega) (by omega) (by omega) (by omega) ⟨rfl, rfl, rfl, trivial⟩ ⟨rfl, trivial⟩ rfl (fun z h1 h2 => ?_) (fun z h => ?_)
      · conv => whnf
        rw [h1]
        refine formB_f ?_
        unfold FormV
        rw [if_neg c4, if_pos c6]
        exact fun h => h2 fun j _ hj hh => h.2 j hj hh
      · conv => whnf
        refine formB_t ?_
        unfold FormV
        rw [if_neg c4, if_pos c6]
        exact ⟨ho, fun j hj hh => h j (by omega) hj hh⟩
  conv => whnf
  have c6 : v.f0 ≠ 6 := by simpa using c6
  refine sel_split (fun c5 => ?_) (fun c5 => ?_)
  · conv => whnf
    have c5 : v.f0 = 5 := by simpa using c5
    refine l58 v hl E 1 (.inl rfl) _ _ v.f3.length 1 _ (by omega) (by omega) (by omega) (by omega) ⟨rfl, rfl, rfl, trivial⟩ ⟨rfl, trivial⟩ rfl (fun z h1 h2 => ?_) (fun z h => ?_)
    · conv => whnf
      rw [h1]
      refine formB_f ?_
      unfold FormV
      rw [if_neg c4, if_neg c6, if_pos c5]
      exact fun h => h2 fun j _ hj hh => h j hj hh
    · conv => whnf
      refine formB_t ?_
      unfold FormV
      rw [if_neg c4, if_neg c6, if_pos c5]
      exact fun j hj hh => h j (by omega) hj hh
  · conv => whnf
    have c5 : v.f0 ≠ 5 := by simpa using c5
    refine vb ?_
    rw [Bool.eq_iff_iff, formB_iff, beq_iff_eq]
    unfold FormV
    rw [if_neg c4, if_neg c6, if_neg c5]
    constructor
    · intro h; exact List.eq_nil_of_length_eq_zero (by omega)
    · intro h; rw [h]; rfl
end
end Go.Proofs.YtbekoaalaofloaaGreatDoor.AB
end

section
set_option linter.unusedVariables false
set_option linter.unusedSimpArgs false
open Go Go.Ab Go.Proofs Go.Vl
namespace Go.Proofs.YtbekoaalaofloaaGreatDoor.AB
set_option maxRecDepth 100000
set_option maxHeartbeats 1600000
section
variable {ext : Exts}
def CntE (ext : Exts) (a : T) : Prop := ∀ a1 a2 : Int, 0 ≤ a1 → a1 ≤ 65536 → -1048576 ≤ a2 → a2 ≤ 1048576 → (cfg ext).Ev 36 [A a, .int .i64 a1, .int .i64 a2] (.int .i64 (cntZ a a1 a2))
def k44 (l : List T) (a1 a2 x7 : Int) (i : Nat) : List (Nat × V) := [(38, .int .i64 i), (37, .int .i64 l.length), (36, .sl false (encL l) l.length), (1, .int .i64 a1), (2, .int .i64 a2), (7, .int .i64 x7), (3, .ref 0 0)]
theorem l44 (v : T) (E : ∀ a ∈ v.f3, CntE ext a) (a1 a2 : Int) (h0 : 0 ≤ a1) (h1 : v.f3 ≠ [] → 1 ≤ a1) (h2 : a1 ≤ 65536) (h3 : a2 ≤ 1048576) (hl : v.f3.length ≤ 1048576) (Q : Ex → St → Prop) (d : Nat) :
    ∀ (i : Nat) (x7 : Int) (z : St), v.f3.length - i = d → i ≤ v.f3.length → 1 ≤ x7 → x7 ≤ a2 → Has z.t (k44 v.f3 a1 a2 x7 i) → Has z.hp.h [(0, some (.cells (cellsV v) false))] → z.hp.n = 31 →
      (∀ z', z'.t 6 = .int .i64 0 → cntL v.f0 v.f3 (v.f3.drop i) x7 a1 a2 = 0 → Q .ret z') →
      (∀ z' x, Has z'.t [(3, .ref 0 0), (7, .int .i64 x)] → Has z'.hp.h [(0, some (.cells (cellsV v) false))] → z'.hp.n = 32 → cntL v.f0 v.f3 (v.f3.drop i) x7 a1 a2 = cntL v.f0 v.f3 [] x a1 a2 → x ≤ a2 → Q (.exit 0) z') →
      Go.Ab.Loop (cfg ext) (lpOf Tryz.f36) (31) z Q := by
  induction d with
  | zero =>
    intro i x7 z hd hi hx hxa hz hb hn hr hq
    obtain rfl : i = v.f3.length := by omega
    rw [St.knows _ _ hz hn _ hb]
    refine Loop.round ?_
    conv => whnf
    refine sel_split (fun h => ?_) (fun h => ?_)
    · simp at h
    conv => whnf
    exact hq _ x7 ⟨rfl, rfl, trivial⟩ ⟨rfl, trivial⟩ rfl (by rw [List.drop_length]) hxa
  | succ d ih =>
    intro i x7 z hd hi hx hxa hz hb hn hr hq
    have hlt : i < v.f3.length := by omega
    have ha1 := h1 (fun e => by rw [e] at hlt; simp at hlt)
    have e1 : IntKind.i64.wrap (a1 - 1) = a1 - 1 := by rw [IntKind.wrap_i64]; omega
    have e2 : IntKind.i64.wrap (a2 - x7) = a2 - x7 := by rw [IntKind.wrap_i64]; omega
    have hr' := E _ (List.getElem_mem hlt) (a1 - 1) (a2 - x7) (by omega) (by omega) (by omega) (by omega)
    have hp := partsV_pos v.f3[i]
    have hdrop := List.drop_eq_getElem_cons hlt
    rw [St.knows _ _ hz hn _ hb]
    refine Loop.round ?_
    conv => whnf
    refine sel_split (fun h => ?_) (fun h => ?_)
    · conv => whnf
      refine ⟨⟨by omega, by omega⟩, ?_⟩
      conv => whnf
      refine ldA (i := i) hlt ?_
      conv => whnf
      rw [e1, e2]
      refine ⟨_, hr', ?_⟩
      conv => whnf
      refine sel_split (fun hz => ?_) (fun hz => ?_)
      · conv => whnf
        have hz : cntZ v.f3[i] (a1 - 1) (a2 - x7) = 0 := by simpa using hz
        refine hr _ rfl ?_
        unfold cntL
        rw [hdrop]
        refine if_neg (fun g => ?_)
        simp only [OkL, deepL, partsL] at g
        have : cntZ v.f3[i] (a1 - 1) (a2 - x7) = (partsV v.f3[i] : Int) := if_pos ⟨g.2.1.1, by omega, by omega⟩
        omega
      · conv => whnf
        have hz' : cntZ v.f3[i] (a1 - 1) (a2 - x7) ≠ 0 := by simpa using hz
        have hz : OkV v.f3[i] ∧ (deepV v.f3[i] : Int) ≤ a1 - 1 ∧ (partsV v.f3[i] : Int) ≤ a2 - x7 := by
          by_cases g : OkV v.f3[i] ∧ (deepV v.f3[i] : Int) ≤ a1 - 1 ∧ (partsV v.f3[i] : Int) ≤ a2 - x7
          · exact g
          · exact absurd (if_neg g) hz'
        have hc : cntZ v.f3[i] (a1 - 1) (a2 - x7) = (partsV v.f3[i] : Int) := if_pos hz
        have e4 : IntKind.i64.wrap (x7 + (partsV v.f3[i] : Int)) = x7 + (partsV v.f3[i] : Int) := by rw [IntKind.wrap_i64]; omega
        have hk : cntL v.f0 v.f3 (v.f3.drop i) x7 a1 a2 = cntL v.f0 v.f3 (v.f3.drop (i + 1)) (x7 + (partsV v.f3[i] : Int)) a1 a2 := by
          unfold cntL
          rw [hdrop]
          refine ite_zero ⟨fun g => ?_, fun g => ?_⟩ (fun g => ?_)
          · simp only [OkL, deepL, partsL] at g
            exact ⟨g.1, g.2.1.2, by omega, by omega⟩
          · simp only [OkL, deepL, partsL]
            exact ⟨g.1, ⟨hz.1, g.2.1⟩, by omega, by omega⟩
          · simp only [partsL]
            omega
        rw [hk] at hr hq
        refine ih (i + 1) (x7 + (partsV v.f3[i] : Int)) _ (by omega) (by omega) (by omega) (by omega) ⟨?_, rfl, rfl, rfl, rfl, ?_, rfl, trivial⟩ ⟨rfl, trivial⟩ rfl hr hq
        · conv => lhs; whnf
          exact vi (wrap_add1 (by omega))
        · conv => lhs; whnf
          exact vi (by rw [hc]; exact e4)
    · simp at h; omega
theorem okV_eq (v : T) : OkV v = (PlainV v.f0 v.f1 v.f2 ∧ FormV v.f0 v.f3 ∧ OkL v.f3) := by cases v; simp only [OkV]
theorem deepV_eq (v : T) : deepV v = deepL v.f3 := by cases v; simp only [deepV]
theorem partsV_eq (v : T) : partsV v = 1 + partsL v.f3 := by cases v; simp only [partsV]
theorem t44_one (hn : Non ext) (h73 : E73 ext) (v : T) (E : ∀ a ∈ v.f3, CntE ext a) (E15 : ∀ a ∈ v.f3, ∀ b, (cfg ext).Ev 52 [A a, A b] (.int .i64 (cmpV a b))) : CntE ext v := by
  intro a1 a2 h0 h1 h2 h3
  refine Ev.of (hn 36 (by decide) (by decide)) Tryz.func36 rfl rfl ?_
  have hpl := partsL_len v.f3
  have pl := t57 hn h73 v
  have zero (h : ¬ (PlainV v.f0 v.f1 v.f2 ∧ (deepL v.f3 : Int) ≤ a1 ∧ ((1 + partsL v.f3 : Nat) : Int) ≤ a2)) : V.int .i64 0 = .int .i64 (cntZ v a1 a2) := by
    refine vi (if_neg fun g => h ?_).symm
    rw [okV_eq, deepV_eq, partsV_eq] at g
    exact ⟨g.1.1, g.2.1, g.2.2⟩
  have hk (hp : PlainV v.f0 v.f1 v.f2) : cntZ v a1 a2 = cntL v.f0 v.f3 (v.f3.drop 0) 1 a1 a2 := by
    unfold cntZ cntL
    rw [List.drop_zero]
    rw [deepV_eq, partsV_eq]
    refine ite_zero ⟨fun g => ?_, fun g => ?_⟩ (fun g => ?_)
    · rw [okV_eq] at g
      exact ⟨g.1.2.1, g.1.2.2, g.2.1, by omega⟩
    · rw [okV_eq]
      exact ⟨⟨hp, g.1, g.2.1⟩, g.2.2.1, by omega⟩
    · omega
  conv => whnf
  by_cases c1 : a2 < 1
  · have g : (decide (a2 < 1) == false) = false := by simp [c1]
    refine sel_no g ?_
    conv => whnf
    refine sel_no g ?_
    conv => whnf
    refine sel_no g ?_
    conv => whnf
    refine sel_no g ?_
    conv => whnf
    refine sel_no g ?_
    conv => whnf
    refine sel_yes (decide_eq_true c1) ?_
    conv => whnf
    exact zero fun g => by omega
  have hn1 : a2 ≥ 1 := by omega
  have g1 : (decide (a2 < 1) == false) = true := by simp; omega
  refine sel_yes g1 ?_
  conv => whnf
  refine sel_yes g1 ?_
  conv => whnf
  refine sel_yes g1 ?_
  conv => whnf
  refine sel_yes g1 ?_
  conv => whnf
  refine sel_yes g1 ?_
  conv => whnf
  refine sel_no (decide_eq_false c1) ?_
  conv => whnf
  by_cases c5 : (v.f3.length : Int) ≥ a2
  · have g : (decide ((v.f3.length : Int) ≥ a2) == false) = false := by simp; omega
    refine sel_no g ?_
    conv => whnf
    refine sel_no g ?_
    conv => whnf
    refine sel_no g ?_
    conv => whnf
    refine sel_no g ?_
    conv => whnf
    refine sel_no g ?_
    conv => whnf
    refine sel_no g ?_
    conv => whnf
    refine sel_yes (decide_eq_true c5) ?_
    conv => whnf
    exact zero fun g => by omega
  have g5 : (decide ((v.f3.length : Int) ≥ a2) == false) = true := by simp; omega
  have fo := t58 hn v (by omega) E15
  refine sel_yes g5 ?_
  conv => whnf
  refine sel_yes g5 ?_
  conv => whnf
  refine sel_yes g5 ?_
  conv => whnf
  refine sel_yes g5 ?_
  conv => whnf
  refine sel_yes g5 ?_
  conv => whnf
  by_cases c2 : (v.f3.length : Int) > 0
  · have g : (decide ((v.f3.length : Int) > 0) == true) = true := by simpa using c2
    refine sel_yes g ?_
    conv => whnf
    refine sel_yes g ?_
    conv => whnf
    refine sel_yes g5 ?_
    conv => whnf
    refine sel_yes (decide_eq_true c2) ?_
    conv => whnf
    refine sel_no (decide_eq_false c5) ?_
    conv => whnf
    by_cases c0 : a1 = 0
    · have g0 : ((a1 == 0) == false) = false := by simp [c0]
      refine sel_no g0 ?_
      conv => whnf
      refine sel_no g0 ?_
      conv => whnf
      refine sel_no g0 ?_
      conv => whnf
      refine sel_yes (by simp [c0]) ?_
      conv => whnf
      refine zero fun g => ?_
      have : ∃ x m, v.f3 = x :: m := List.exists_cons_of_ne_nil (fun e => by rw [e] at c2; simp at c2)
      obtain ⟨x, m, e⟩ := this
      have := g.2.1
      rw [e] at this
      simp only [deepL] at this
      omega
    · have g0 : ((a1 == 0) == false) = true := by simp [c0]
      have hne : v.f3 ≠ [] → 1 ≤ a1 := fun _ => by omega
      refine sel_yes g0 ?_
      conv => whnf
      refine sel_yes g0 ?_
      conv => whnf
      refine ⟨_, pl, ?_⟩
      conv => whnf
      refine sel_yes g0 ?_
      conv => whnf
      refine sel_no (by simpa using c0) ?_
      conv => whnf
      cases hp : decide (PlainV v.f0 v.f1 v.f2) with
      | false =>
        conv => whnf
        exact zero fun g => absurd g.1 (of_decide_eq_false hp)
      | true =>
        have hp : PlainV v.f0 v.f1 v.f2 := of_decide_eq_true hp
        conv => whnf
        refine l44 v E a1 a2 h0 hne h1 h3 (by omega) _ v.f3.length 0 1 _ (by omega) (by omega) (by omega) (by omega) ⟨rfl, rfl, rfl, rfl, rfl, rfl, rfl, trivial⟩ ⟨rfl, trivial⟩ rfl (fun z e1 e2 => ?_) (fun z x e1 e2 e3 e4 e5 => ?_)
        · conv => whnf
          rw [e1]
          exact vi (by rw [hk hp, e2])
        · rw [St.knows _ _ e1 e3 _ e2]
          conv => whnf
          refine ⟨_, fo, ?_⟩
          conv => whnf
          cases hf : formB v.f0 v.f3 with
          | false =>
            conv => whnf
            refine vi ?_
            rw [hk hp, e4]
            exact (if_neg fun g => by rw [formB_iff.2 g.1] at hf; cases hf).symm
          | true =>
            conv => whnf
            refine vi ?_
            rw [hk hp, e4]
            unfold cntL
            rw [if_pos ⟨formB_iff.1 hf, by simp only [OkL], by simp only [deepL]; omega, by simp only [partsL]; omega⟩]
            simp only [partsL]; omega
  · have g : (decide ((v.f3.length : Int) > 0) == true) = false := by simpa using c2
    refine sel_no g ?_
    conv => whnf
    refine sel_no g ?_
    conv => whnf
    refine sel_yes g5 ?_
    conv => whnf
    refine sel_no (decide_eq_false c2) ?_
    conv => whnf
    refine sel_no (decide_eq_false c5) ?_
    conv => whnf
    have hne : v.f3 ≠ [] → 1 ≤ a1 := fun h => by
      have : v.f3.length ≠ 0 := fun e => h (List.eq_nil_of_length_eq_zero e)
      omega
    refine ⟨_, pl, ?_⟩
    conv => whnf
    cases hp : decide (PlainV v.f0 v.f1 v.f2) with
    | false =>
      conv => whnf
      exact zero fun g => absurd g.1 (of_decide_eq_false hp)
    | true =>
      have hp : PlainV v.f0 v.f1 v.f2 := of_decide_eq_true hp
      conv => whnf
      refine l44 v E a1 a2 h0 hne h1 h3 (by omega) _ v.f3.length 0 1 _ (by omega) (by omega) (by omega) (by omega) ⟨rfl, rfl, rfl, rfl, rfl, rfl, rfl, trivial⟩ ⟨rfl, trivial⟩ rfl (fun z e1 e2 => ?_) (fun z x e1 e2 e3 e4 e5 => ?_)
      · conv => whnf
        rw [e1]
        exact vi (by rw [hk hp, e2])
      · rw [St.knows _ _ e1 e3 _ e2]
        conv => whnf
        refine ⟨_, fo, ?_⟩
        conv => whnf
        cases hf : formB v.f0 v.f3 with
        | false =>
          conv => whnf
          refine vi ?_
          rw [hk hp, e4]
          exact (if_neg fun g => by rw [formB_iff.2 g.1] at hf; cases hf).symm
        | true =>
          conv => whnf
          refine vi ?_
          rw [hk hp, e4]
          unfold cntL
          rw [if_pos ⟨formB_iff.1 hf, by simp only [OkL], by simp only [deepL]; omega, by simp only [partsL]; omega⟩]
          simp only [partsL]; omega
mutual
theorem t44 (hn : Non ext) (h26 : E26 ext) (h73 : E73 ext) : (v : T) → WfV v → CntE ext v
  | ⟨k, n, t, l⟩, h => by
    simp only [WfV] at h
    exact t44_one hn h73 ⟨k, n, t, l⟩ (t44L hn h26 h73 l h.2.2.2.2) (t15L hn h26 l h.2.2.2.2)
theorem t44L (hn : Non ext) (h26 : E26 ext) (h73 : E73 ext) : (l : List T) → WfL l → ∀ a ∈ l, CntE ext a
  | [], _, a, ha => by cases ha
  | v :: l, hw, a, ha => by
    simp only [WfL] at hw
    rcases List.mem_cons.1 ha with e | h
    · rw [e]; exact t44 hn h26 h73 v hw.1
    · exact t44L hn h26 h73 l hw.2 a h
end
noncomputable def okB (v : T) : Bool := @decide (OK v) (Classical.propDecidable _)
theorem okB_iff {v : T} : okB v = true ↔ OK v := by unfold okB; exact @decide_eq_true_iff _ (Classical.propDecidable _)
theorem cnt_ok (v : T) : (cntZ v 16 1024 > 0) = OK v := by
  have := partsV_pos v
  apply propext
  unfold cntZ
  by_cases hh : OkV v ∧ (deepV v : Int) ≤ 16 ∧ (partsV v : Int) ≤ 1024
  · rw [if_pos hh]; exact ⟨fun _ => ⟨hh.1, by omega, by omega⟩, fun _ => by omega⟩
  · rw [if_neg hh]; exact ⟨fun h => by omega, fun g => absurd ⟨g.1, by have := g.2.1; omega, by have := g.2.2; omega⟩ hh⟩
theorem t32 (hn : Non ext) (h26 : E26 ext) (h73 : E73 ext) (v : T) (hw : WfV v) : (cfg ext).Ev 32 [A v] (.bool (okB v)) := by
  refine Ev.of (hn 32 (by decide) (by decide)) Tryz.func32 rfl rfl ?_
  conv => whnf
  refine ⟨_, t44 hn h26 h73 v hw 16 1024 (by omega) (by omega) (by omega) (by omega), ?_⟩
  conv => whnf
  refine vb ?_
  rw [Bool.eq_iff_iff, decide_eq_true_iff, cnt_ok, okB_iff]
theorem t22 (hn : Non ext) (h26 : E26 ext) (h73 : E73 ext) (v : T) (hw : WfV v) : (cfg ext).Ev 21 [A v] (.int .i64 (if okB v = true then 0 else 3)) := by
  refine Ev.of (hn 21 (by decide) (by decide)) Tryz.func21 rfl rfl ?_
  conv => whnf
  refine ⟨_, t32 hn h26 h73 v hw, ?_⟩
  conv => whnf
  cases okB v <;> rfl
theorem t53 (hn : Non ext) (h26 : E26 ext) (h73 : E73 ext) (v : T) (hw : WfV v) : ∃ e, (cfg ext).Ev 84 [A v] (.tup [.int .i64 (cntZ v 16 1024), .int .i64 e]) := by
  have c := t44 hn h26 h73 v hw 16 1024 (by omega) (by omega) (by omega) (by omega)
  by_cases h : cntZ v 16 1024 = 0
  · refine ⟨3, Ev.of (hn 84 (by decide) (by decide)) Tryz.func84 rfl rfl ?_⟩
    conv => whnf
    refine ⟨_, c, ?_⟩
    conv => whnf
    refine sel_yes (by simpa using h) ?_
    conv => whnf
    rw [h]
  · refine ⟨0, Ev.of (hn 84 (by decide) (by decide)) Tryz.func84 rfl rfl ?_⟩
    conv => whnf
    refine ⟨_, c, ?_⟩
    conv => whnf
    refine sel_no (by simpa using h) ?_
    conv => whnf
end
end Go.Proofs.YtbekoaalaofloaaGreatDoor.AB
end

section
set_option linter.unusedVariables false
set_option linter.unusedSimpArgs false
open Go Go.Ab Go.Proofs Go.Vl
namespace Go.Ab
/-- a slice that grows: nothing yet, or an array of the call's own -/
def Acc (a : Nat → Option Arr) (m : Nat) (s : V) (xs : List V) : Prop := (s = .sl true [] 0 ∧ xs = []) ∨ ∃ b v, b < m ∧ s = .rsl false b v 0 xs.length ∧ a b = some ⟨v, 1, xs, none, 0⟩
theorem Acc.upd {a : Nat → Option Arr} {m k : Nat} {s : V} {xs : List V} {x : Option Arr} (h : Acc a m s xs) (hk : m ≤ k) : Acc (Go.Ab.upd a k x) m s xs := by
  rcases h with h | ⟨b, v, hb, e, ha⟩
  · exact .inl h
  · exact .inr ⟨b, v, hb, e, by unfold Go.Ab.upd; rw [if_neg (by omega)]; exact ha⟩
theorem upd_self {α : Type} (f : Nat → α) (i : Nat) (x : α) : upd f i x i = x := by unfold upd; rw [if_pos rfl]
theorem Acc.trunc {a : Nat → Option Arr} {m n : Nat} {s : V} {k : IntKind} {l : List Int} (h : Acc a m s (l.map (.int k))) : Acc (fun b => match a b with | some A => some { A with cs := A.cs.map (cleanV n) } | none => none) m (cleanV n s) (l.map (.int k)) := by
  rcases h with ⟨rfl, h⟩ | ⟨b, v, hb, rfl, ha⟩
  · exact .inl ⟨rfl, h⟩
  · refine .inr ⟨b, v, hb, rfl, ?_⟩
    show (match a b with | some A => some { A with cs := A.cs.map (cleanV n) } | none => none) = _
    rw [ha]
    simp only [List.map_map, Option.some.injEq, Arr.mk.injEq, true_and, and_true]
    exact List.map_congr_left fun _ _ => rfl
theorem opt_app {bytes : Nat} {hp : Hp} {ida m M bx ro : Nat} {c : Bool} {cp : Option Nat} {s val : V} {xs : List V} {Q : V → Hp → Prop} (h1 : Acc hp.a m s xs) (h2 : hp.a bx = some ⟨0, 1, [val], cp, ro⟩) (hb : (xs.length + 1) * bytes ≤ maxRoom) (hl : xs.length + 1 ≤ maxRoom) (hi : ida < M) (hm : m ≤ M)
    (k : ∀ s' a', Acc a' M s' (xs ++ [val]) → (∃ b v, s' = .rsl false b v 0 (xs ++ [val]).length) → Q s' ⟨hp.h, hp.n, a', hp.m⟩) : opt (appendV 1 bytes hp ida s (.rsl c bx 0 0 1)) fun p => Q p.1 p.2 := by
  have hx : content none hp 1 (.rsl c bx 0 0 1) = some ([val], 1) := by
    simp [content, h2, sub]
  rcases h1 with ⟨rfl, rfl⟩ | ⟨b, v, hbm, rfl, ha⟩
  · have : appendV 1 bytes hp ida (.sl true [] 0) (.rsl c bx 0 0 1) = some (.rsl false ida 0 0 1, { hp with a := upd hp.a ida (some ⟨0, 1, [val], none, 0⟩) }) := by
      unfold appendV
      rw [hx, show content none hp 1 (.sl true [] 0) = some ([], 0) from by simp [content]]
      simp only
      rw [if_neg (by decide), if_pos ⟨by simpa using hb, by simpa using hl⟩]
      rfl
    rw [this]
    exact k _ _ (.inr ⟨ida, 0, hi, rfl, upd_self _ _ _⟩) ⟨_, _, rfl⟩
  · have hs : content none hp 1 (.rsl false b v 0 xs.length) = some (xs, xs.length) := by
      simp [content, ha, sub]
    have : appendV 1 bytes hp ida (.rsl false b v 0 xs.length) (.rsl c bx 0 0 1) = some (.rsl false b (v + 1) 0 (xs.length + 1), { hp with a := upd hp.a b (some ⟨v + 1, 1, xs ++ [val], none, 0⟩) }) := by
      unfold appendV
      rw [hx, hs]
      simp only
      rw [if_neg (by decide), if_pos ⟨hb, hl⟩, ha]
      simp only
      rw [if_pos (by simp)]
    rw [this]
    exact k _ _ (.inr ⟨b, v + 1, by omega, by simp, upd_self _ _ _⟩) ⟨b, v + 1, by simp⟩
end Go.Ab
end

section
set_option linter.unusedVariables false
set_option linter.unusedSimpArgs false
open Go Go.Ab Go.Proofs Go.Vl
namespace Go.Proofs.YtbekoaalaofloaaGreatDoor.AB
set_option maxRecDepth 100000
set_option maxHeartbeats 1600000
section
variable {ext : Exts}
theorem t79 (hn : Non ext) (x y : Int) (hy : y = 15 ∨ y = 13) : ∃ r, (cfg ext).Ev 109 [.int .u32 x, .int .i64 y] (.int .u32 r) := by
  have key : ∃ r, (cfg ext).Ev 109 [.int .u32 x, .int .i64 y] r ∧ ∃ c, r = .int .u32 c := by
    refine Ev.ofE (hn 109 (by decide) (by decide)) Tryz.func109 rfl rfl ?_
    rcases hy with rfl | rfl
    · conv => whnf
      exact ⟨_, rfl⟩
    · conv => whnf
      exact ⟨_, rfl⟩
  obtain ⟨r, h, c, rfl⟩ := key
  exact ⟨c, h⟩
theorem t76 (hn : Non ext) (x : Int) : ∃ r, (cfg ext).Ev 107 [.int .u32 x] (.int .u32 r) := by
  have key : ∃ r, (cfg ext).Ev 107 [.int .u32 x] r ∧ ∃ c, r = .int .u32 c := by
    refine Ev.ofE (hn 107 (by decide) (by decide)) Tryz.func107 rfl rfl ?_
    conv => whnf
    obtain ⟨r1, h1⟩ := t79 hn _ _ (.inl rfl)
    refine ⟨_, h1, ?_⟩
    conv => whnf
    exact ⟨_, rfl⟩
  obtain ⟨r, h, c, rfl⟩ := key
  exact ⟨c, h⟩
theorem t75 (hn : Non ext) (x : Int) (y : Int) : ∃ r, (cfg ext).Ev 106 [.int .u32 x, .int .u32 y] (.int .u32 r) := by
  have key : ∃ r, (cfg ext).Ev 106 [.int .u32 x, .int .u32 y] r ∧ ∃ c, r = .int .u32 c := by
    refine Ev.ofE (hn 106 (by decide) (by decide)) Tryz.func106 rfl rfl ?_
    conv => whnf
    obtain ⟨r1, h1⟩ := t79 hn _ _ (.inr rfl)
    refine ⟨_, h1, ?_⟩
    conv => whnf
    exact ⟨_, rfl⟩
  obtain ⟨r, h, c, rfl⟩ := key
  exact ⟨c, h⟩
theorem t74 (hn : Non ext) (x : Int) (y : Int) : ∃ r, (cfg ext).Ev 105 [.int .u32 x, .int .u32 y] (.int .u32 r) := by
  have key : ∃ r, (cfg ext).Ev 105 [.int .u32 x, .int .u32 y] r ∧ ∃ c, r = .int .u32 c := by
    refine Ev.ofE (hn 105 (by decide) (by decide)) Tryz.func105 rfl rfl ?_
    conv => whnf
    exact ⟨_, rfl⟩
  obtain ⟨r, h, c, rfl⟩ := key
  exact ⟨c, h⟩
theorem t77 (hn : Non ext) (x : Int) (y : Int) : ∃ r, (cfg ext).Ev 108 [.int .u32 x, .int .i64 y] (.int .u32 r) := by
  have key : ∃ r, (cfg ext).Ev 108 [.int .u32 x, .int .i64 y] r ∧ ∃ c, r = .int .u32 c := by
    refine Ev.ofE (hn 108 (by decide) (by decide)) Tryz.func108 rfl rfl ?_
    conv => whnf
    obtain ⟨r1, h1⟩ := t76 hn _
    refine ⟨_, h1, ?_⟩
    conv => whnf
    obtain ⟨r2, h2⟩ := t75 hn _ _
    refine ⟨_, h2, ?_⟩
    conv => whnf
    obtain ⟨r3, h3⟩ := t74 hn _ _
    refine ⟨_, h3, ?_⟩
    conv => whnf
    exact ⟨_, rfl⟩
  obtain ⟨r, h, c, rfl⟩ := key
  exact ⟨c, h⟩
theorem t65 (hn : Non ext) (x : Int) : ∃ r, (cfg ext).Ev 97 [.int .i64 x] (.int .u32 r) := by
  have key : ∃ r, (cfg ext).Ev 97 [.int .i64 x] r ∧ ∃ c, r = .int .u32 c := by
    refine Ev.ofE (hn 97 (by decide) (by decide)) Tryz.func97 rfl rfl ?_
    conv => whnf
    refine sel_split (fun h => ?_) (fun h => ?_)
    · conv => whnf
      exact ⟨_, rfl⟩
    conv => whnf
    obtain ⟨r1, h1⟩ := t76 hn _
    refine ⟨_, h1, ?_⟩
    conv => whnf
    obtain ⟨r2, h2⟩ := t75 hn _ _
    refine ⟨_, h2, ?_⟩
    conv => whnf
    obtain ⟨r3, h3⟩ := t76 hn _
    refine ⟨_, h3, ?_⟩
    conv => whnf
    obtain ⟨r4, h4⟩ := t75 hn _ _
    refine ⟨_, h4, ?_⟩
    conv => whnf
    obtain ⟨r5, h5⟩ := t74 hn _ _
    refine ⟨_, h5, ?_⟩
    conv => whnf
    exact ⟨_, rfl⟩
  obtain ⟨r, h, c, rfl⟩ := key
  exact ⟨c, h⟩
theorem t66 (hn : Non ext) (x : Int) : ∃ r, (cfg ext).Ev 98 [.int .i32 x] (.int .u32 r) := by
  have key : ∃ r, (cfg ext).Ev 98 [.int .i32 x] r ∧ ∃ c, r = .int .u32 c := by
    refine Ev.ofE (hn 98 (by decide) (by decide)) Tryz.func98 rfl rfl ?_
    conv => whnf
    refine sel_split (fun h => ?_) (fun h => ?_)
    · conv => whnf
      exact ⟨_, rfl⟩
    conv => whnf
    obtain ⟨r1, h1⟩ := t76 hn _
    refine ⟨_, h1, ?_⟩
    conv => whnf
    obtain ⟨r2, h2⟩ := t75 hn _ _
    refine ⟨_, h2, ?_⟩
    conv => whnf
    obtain ⟨r3, h3⟩ := t74 hn _ _
    refine ⟨_, h3, ?_⟩
    conv => whnf
    exact ⟨_, rfl⟩
  obtain ⟨r, h, c, rfl⟩ := key
  exact ⟨c, h⟩
end
end Go.Proofs.YtbekoaalaofloaaGreatDoor.AB
end

section
set_option linter.unusedVariables false
set_option linter.unusedSimpArgs false
open Go Go.Ab Go.Proofs Go.Vl
namespace Go.Ab
theorem ldI {l : List Int} {i : Nat} {k : IntKind} {Q : V → Prop} (h : i < l.length) (hq : Q (.int k l[i])) : i * 1 + 1 ≤ (l.map (V.int k)).length ∧ opt (one (some false) (sub (l.map (V.int k)) (i * 1) 1)) fun v => fv v Q := by
  refine ⟨by simp; omega, ?_⟩
  have : sub (l.map (V.int k)) (i * 1) 1 = [.int k l[i]] := by
    unfold sub
    rw [Nat.mul_one, ← List.map_drop, List.drop_eq_getElem_cons h]
    rfl
  rw [this]
  exact hq
/-- what has grown, handed out -/
theorem fz_acc {hp : Hp} {m : Nat} {s : V} {k : IntKind} {l : List Int} {d : Nat} (h : Acc hp.a m s (l.map (.int k))) : ∃ a', fz (d + 2) hp s = some (.sl false (l.map (.int k)) l.length, ⟨hp.h, hp.n, a', hp.m⟩) := by
  have ints : ∀ (g : Hp → V → Option (V × Hp)) (hp : Hp) (l : List Int), (∀ hp x, g hp (.int k x) = some (.int k x, hp)) → fzL g hp (l.map (V.int k)) = some (l.map (V.int k), hp) := by
    intro g hp l hg
    induction l with
    | nil => rfl
    | cons x l ih => simp only [List.map_cons, fzL, hg, ih]
  rcases h with ⟨rfl, h⟩ | ⟨b, v, hb, rfl, ha⟩
  · have : l = [] := by simpa using h
    subst this
    exact ⟨hp.a, rfl⟩
  · refine ⟨upd hp.a b (some ⟨v, 1, l.map (.int k), none, max 0 (0 + (l.map (V.int k)).length * 1)⟩), ?_⟩
    rw [fz]
    simp only [ha]
    rw [if_pos (by simp)]
    have : sub (l.map (V.int k)) 0 ((l.map (V.int k)).length * 1) = l.map (V.int k) := by
      unfold sub
      rw [List.drop_zero, Nat.mul_one, List.take_length]
    rw [this, ints _ _ _ (fun _ _ => rfl)]
    simp
end Go.Ab
namespace Go.Proofs.YtbekoaalaofloaaGreatDoor.AB
set_option maxRecDepth 100000
set_option maxHeartbeats 1600000
section
variable {ext : Exts}
def I (k : IntKind) (l : List Int) : V := .sl false (l.map (.int k)) l.length
theorem l67 (l : List Int) (hl : l.length ≤ 9223372036854775806) (Q : Ex → St → Prop) (d : Nat) :
    ∀ (i : Nat) (c : Int) (z : St), l.length - i = d → i ≤ l.length → Has z.t [(8, .int .i64 i), (7, .int .i64 l.length), (6, I .u16 l), (3, .int .i32 c), (0, I .u16 l)] → z.hp.n = 5 →
      (∀ z' c', Has z'.t [(3, .int .i32 c'), (0, I .u16 l)] → z'.hp.n = 6 → Q (.exit 0) z') → Go.Ab.Loop (cfg ext) (lpOf Tryz.f99) 5 z Q := by
  induction d with
  | zero =>
    intro i c z hd hi hz hn hq
    rw [St.knows _ _ hz hn]
    refine Loop.round ?_
    conv => whnf
    refine sel_split (fun h => ?_) (fun h => ?_)
    · simp at h; omega
    conv => whnf
    exact hq _ c ⟨rfl, rfl, trivial⟩ rfl
  | succ d ih =>
    intro i c z hd hi hz hn hq
    have hlt : i < l.length := by omega
    rw [St.knows _ _ hz hn]
    refine Loop.round ?_
    conv => whnf
    refine sel_split (fun h => ?_) (fun h => ?_)
    · conv => whnf
      refine ⟨⟨by omega, by omega⟩, ?_⟩
      conv => whnf
      refine ldI (i := i) hlt ?_
      conv => whnf
      refine ih (i + 1) _ _ (by omega) (by omega) ⟨?_, rfl, rfl, rfl, rfl, trivial⟩ rfl hq
      conv => lhs; whnf
      exact vi (wrap_add1 (by omega))
    · simp at h; omega
theorem t67 (hn : Non ext) (l : List Int) (hl : l.length ≤ 9223372036854775806) : ∃ r, (cfg ext).Ev 99 [I .u16 l] (.int .i32 r) := by
  have key : ∃ r, (cfg ext).Ev 99 [I .u16 l] r ∧ ∃ c, r = .int .i32 c := by
    refine Ev.ofE (hn 99 (by decide) (by decide)) Tryz.func99 rfl rfl ?_
    conv => whnf
    refine l67 l hl _ l.length 0 _ _ (by omega) (by omega) ⟨rfl, rfl, rfl, rfl, rfl, trivial⟩ rfl (fun z c h1 h2 => ?_)
    rw [St.knows _ _ h1 h2]
    conv => whnf
    exact ⟨_, rfl⟩
  obtain ⟨r, h, c, rfl⟩ := key
  exact ⟨c, h⟩
theorem l69 (l : List Int) (hl : l.length ≤ 9223372036854775806) (Q : Ex → St → Prop) (d : Nat) :
    ∀ (i : Nat) (c : Int) (z : St), l.length - i = d → i ≤ l.length → Has z.t [(8, .int .i64 i), (7, .int .i64 l.length), (6, I .u32 l), (3, .int .u32 c), (0, I .u32 l)] → z.hp.n = 5 →
      (∀ z' c', Has z'.t [(3, .int .u32 c'), (0, I .u32 l)] → z'.hp.n = 6 → Q (.exit 0) z') → Go.Ab.Loop (cfg ext) (lpOf Tryz.f101) 5 z Q := by
  induction d with
  | zero =>
    intro i c z hd hi hz hn hq
    rw [St.knows _ _ hz hn]
    refine Loop.round ?_
    conv => whnf
    refine sel_split (fun h => ?_) (fun h => ?_)
    · simp at h; omega
    conv => whnf
    exact hq _ c ⟨rfl, rfl, trivial⟩ rfl
  | succ d ih =>
    intro i c z hd hi hz hn hq
    have hlt : i < l.length := by omega
    rw [St.knows _ _ hz hn]
    refine Loop.round ?_
    conv => whnf
    refine sel_split (fun h => ?_) (fun h => ?_)
    · conv => whnf
      refine ⟨⟨by omega, by omega⟩, ?_⟩
      conv => whnf
      refine ldI (i := i) hlt ?_
      conv => whnf
      refine ih (i + 1) _ _ (by omega) (by omega) ⟨?_, rfl, rfl, rfl, rfl, trivial⟩ rfl hq
      conv => lhs; whnf
      exact vi (wrap_add1 (by omega))
    · simp at h; omega
theorem t69 (hn : Non ext) (l : List Int) (hl : l.length ≤ 9223372036854775806) : ∃ r, (cfg ext).Ev 101 [I .u32 l] (.int .u32 r) := by
  have key : ∃ r, (cfg ext).Ev 101 [I .u32 l] r ∧ ∃ c, r = .int .u32 c := by
    refine Ev.ofE (hn 101 (by decide) (by decide)) Tryz.func101 rfl rfl ?_
    conv => whnf
    refine l69 l hl _ l.length 0 _ _ (by omega) (by omega) ⟨rfl, rfl, rfl, rfl, rfl, trivial⟩ rfl (fun z c h1 h2 => ?_)
    rw [St.knows _ _ h1 h2]
    conv => whnf
    obtain ⟨r1, g1⟩ := t77 hn _ _
    refine ⟨_, g1, ?_⟩
    conv => whnf
    exact ⟨_, rfl⟩
  obtain ⟨r, h, c, rfl⟩ := key
  exact ⟨c, h⟩
theorem l71 (l : List Int) (hl : l.length ≤ 9223372036854775806) (Q : Ex → St → Prop) (d : Nat) :
    ∀ (i : Nat) (c : Int) (z : St), l.length - i = d → i ≤ l.length → Has z.t [(8, .int .i64 i), (7, .int .i64 l.length), (6, I .u32 l), (3, .int .u32 c), (0, I .u32 l)] → z.hp.n = 5 →
      (∀ z' c', Has z'.t [(3, .int .u32 c'), (0, I .u32 l)] → z'.hp.n = 6 → Q (.exit 0) z') → Go.Ab.Loop (cfg ext) (lpOf Tryz.f103) 5 z Q := by
  induction d with
  | zero =>
    intro i c z hd hi hz hn hq
    rw [St.knows _ _ hz hn]
    refine Loop.round ?_
    conv => whnf
    refine sel_split (fun h => ?_) (fun h => ?_)
    · simp at h; omega
    conv => whnf
    exact hq _ c ⟨rfl, rfl, trivial⟩ rfl
  | succ d ih =>
    intro i c z hd hi hz hn hq
    have hlt : i < l.length := by omega
    rw [St.knows _ _ hz hn]
    refine Loop.round ?_
    conv => whnf
    refine sel_split (fun h => ?_) (fun h => ?_)
    · conv => whnf
      refine ⟨⟨by omega, by omega⟩, ?_⟩
      conv => whnf
      refine ldI (i := i) hlt ?_
      conv => whnf
      refine ih (i + 1) _ _ (by omega) (by omega) ⟨?_, rfl, rfl, rfl, rfl, trivial⟩ rfl hq
      conv => lhs; whnf
      exact vi (wrap_add1 (by omega))
    · simp at h; omega
theorem t71 (hn : Non ext) (l : List Int) (hl : l.length ≤ 9223372036854775806) : ∃ r, (cfg ext).Ev 103 [I .u32 l] (.int .u32 r) := by
  have key : ∃ r, (cfg ext).Ev 103 [I .u32 l] r ∧ ∃ c, r = .int .u32 c := by
    refine Ev.ofE (hn 103 (by decide) (by decide)) Tryz.func103 rfl rfl ?_
    conv => whnf
    refine l71 l hl _ l.length 0 _ _ (by omega) (by omega) ⟨rfl, rfl, rfl, rfl, rfl, trivial⟩ rfl (fun z c h1 h2 => ?_)
    rw [St.knows _ _ h1 h2]
    conv => whnf
    obtain ⟨r1, g1⟩ := t77 hn _ _
    refine ⟨_, g1, ?_⟩
    conv => whnf
    exact ⟨_, rfl⟩
  obtain ⟨r, h, c, rfl⟩ := key
  exact ⟨c, h⟩
theorem t72 (hn : Non ext) (x y : Int) : ∃ r, (cfg ext).Ev 104 [.int .u32 x, .int .u32 y] (.int .u32 r) := by
  have key : ∃ r, (cfg ext).Ev 104 [.int .u32 x, .int .u32 y] r ∧ ∃ c, r = .int .u32 c := by
    refine Ev.ofE (hn 104 (by decide) (by decide)) Tryz.func104 rfl rfl ?_
    conv => whnf
    obtain ⟨r1, g1⟩ := t69 hn [x, y] (by simp)
    refine ⟨_, g1, ?_⟩
    conv => whnf
    exact ⟨_, rfl⟩
  obtain ⟨r, h, c, rfl⟩ := key
  exact ⟨c, h⟩
end
end Go.Proofs.YtbekoaalaofloaaGreatDoor.AB
end

section
set_option linter.unusedVariables false
set_option linter.unusedSimpArgs false
open Go Go.Ab Go.Proofs Go.Vl
namespace Go.Ab
theorem Acc.form {a : Nat → Option Arr} {m : Nat} {s : V} {xs : List V} (h : Acc a m s xs) : s = .sl true [] 0 ∨ ∃ b v n, s = .rsl false b v 0 n := by
  rcases h with ⟨e, _⟩ | ⟨b, v, _, e, _⟩
  · exact .inl e
  · exact .inr ⟨b, v, _, e⟩
theorem Acc.le {a : Nat → Option Arr} {m k : Nat} {s : V} {xs : List V} (h : Acc a m s xs) (hk : m ≤ k) : Acc a k s xs := by
  rcases h with h | ⟨b, v, hb, e, ha⟩
  · exact .inl h
  · exact .inr ⟨b, v, by omega, e, ha⟩
theorem Acc.truncS {z : St} {m M n : Nat} {s : V} {k : IntKind} {l : List Int} (h : Acc z.hp.a m s (l.map (.int k))) (hm : m ≤ M) : Acc (z.trunc n).hp.a M (cleanV n s) (l.map (.int k)) := Acc.trunc (h.le hm)
theorem opt_app' {size bytes : Nat} {hp : Hp} {ida m M : Nat} {s x : V} {kd : IntKind} {l : List Int} {Q : V × Hp → Prop} (hsz : size = 1) (h2 : ∃ c bx n cp ro, x = .rsl c bx 0 0 1 ∧ hp.a bx = some ⟨0, 1, [.int kd n], cp, ro⟩) (h1 : Acc hp.a m s (l.map (.int kd))) (hb : (l.length + 1) * bytes ≤ maxRoom) (hl : l.length + 1 ≤ maxRoom) (hi : ida < M) (hm : m ≤ M)
    (k : ∀ n b v a', Acc a' M (.rsl false b v 0 (l.length + 1)) ((l ++ [n]).map (.int kd)) → Q (.rsl false b v 0 (l.length + 1), ⟨hp.h, hp.n, a', hp.m⟩)) : opt (appendV size bytes hp ida s x) Q := by
  obtain ⟨c, bx, n, cp, ro, hx, h2⟩ := h2
  subst hsz hx
  exact opt_app (Q := fun v h => Q (v, h)) h1 h2 (by simpa using hb) (by simpa using hl) hi hm fun s' a' h hr => by
    obtain ⟨b, v, rfl⟩ := hr
    have e : (l.map (V.int kd) ++ [V.int kd n]).length = l.length + 1 := by simp
    rw [e] at h ⊢
    exact k n b v a' (by simpa using h)
theorem Fin.acc {P : Program} {fn : Func} {s : St} {R : V → Prop} {m : Nat} {k : IntKind} {l : List Int} {x : V} (h : resOf P fn s = some x) (ha : Acc s.hp.a m x (l.map (.int k))) (hR : R (.sl false (l.map (.int k)) l.length)) : Fin P fn s R := by
  refine ⟨?_⟩
  rw [h]
  obtain ⟨a', e⟩ := fz_acc (d := 4) ha
  show opt (fz 6 s.hp x) fun p => R p.1
  rw [e]
  exact hR
end Go.Ab
namespace Go.Proofs.YtbekoaalaofloaaGreatDoor.AB
set_option maxRecDepth 100000
set_option maxHeartbeats 1600000
section
variable {ext : Exts}
theorem l68 (s : ByteArray) (hs : s.size ≤ 256) (Q : Ex → St → Prop) (d : Nat) :
    ∀ (p : Nat) (l : List Int) (S : V) (z : St), s.size ≤ p + d → l.length ≤ 2 * p → p ≤ s.size + 4 → Has z.t [(7, .ref 3 0), (3, S)] → Has z.hp.h [(3, some (.iter s p))] → z.hp.n = 4 → Acc z.hp.a z.hp.m S (l.map (.int .u16)) →
      (∀ (z' : St) (l' : List Int) (S' : V), Has z'.t [(3, S')] → z'.hp.n = 6 → l'.length ≤ 1024 → Acc z'.hp.a z'.hp.m S' (l'.map (.int .u16)) → Q (.exit 0) z') →
      Go.Ab.Loop (cfg ext) (lpOf Tryz.f100) 4 z Q := by
  induction d with
  | zero =>
    intro p l S z hd hl hp hz hb hn ha hq
    rw [St.knows _ _ hz hn _ hb]
    refine Loop.round ?_
    conv => whnf
    refine sel_split (fun h => ?_) (fun h => ?_)
    · simp at h; omega
    conv => whnf
    exact hq _ l S ⟨rfl, trivial⟩ rfl (by omega) (ha.le (Nat.le_add_right _ _))
  | succ d ih =>
    intro p l S z hd hl hp hz hb hn ha hq
    have hm0 : z.hp.m = z.hp.m := rfl
    rw [St.knows _ _ hz hn _ hb]
    refine Loop.round ?_
    conv => whnf
    refine sel_split (fun h => ?_) (fun h => ?_)
    · have hlt : p < s.size := by simpa using h
      have hdl := dec_le s p
      conv => whnf
      refine sel_split (fun h => ?_) (fun h => ?_)
      · rcases ha.form with hS | ⟨b, v, n, hS⟩
        all_goals
          subst hS
          conv => whnf
          refine ⟨rfl, ?_⟩
          conv => whnf
          refine ⟨⟨rfl, Nat.one_ne_zero⟩, ?_⟩
          refine opt_app' (m := z.hp.m + 0) (M := z.hp.m + 17) (l := l) (kd := .u16) rfl ⟨_, _, _, _, _, rfl, upd_self _ _ _⟩ (ha.upd (show z.hp.m + 0 ≤ z.hp.m + 15 by omega)) ?_ ?_ ?_ (show z.hp.m + 0 ≤ z.hp.m + 17 by omega) ?_
          · show (_ + 1) * 2 ≤ 140737488355328
            (try simp only [List.length_append, List.length_cons, List.length_nil])
            omega
          · show _ + 1 ≤ 140737488355328
            (try simp only [List.length_append, List.length_cons, List.length_nil])
            omega
          · exact (show z.hp.m + 16 < z.hp.m + 17 by omega)
          intro n1 b1 v1 a1 h1
          conv => whnf
          refine ⟨rfl, ?_⟩
          conv => whnf
          refine ⟨⟨rfl, Nat.one_ne_zero⟩, ?_⟩
          refine opt_app' (m := z.hp.m + 17) (M := z.hp.m + 27) (l := (l ++ [n1])) (kd := .u16) rfl ⟨_, _, _, _, _, rfl, upd_self _ _ _⟩ (h1.upd (show z.hp.m + 17 ≤ z.hp.m + 25 by omega)) ?_ ?_ ?_ (show z.hp.m + 17 ≤ z.hp.m + 27 by omega) ?_
          · show (_ + 1) * 2 ≤ 140737488355328
            (try simp only [List.length_append, List.length_cons, List.length_nil])
            omega
          · show _ + 1 ≤ 140737488355328
            (try simp only [List.length_append, List.length_cons, List.length_nil])
            omega
          · exact (show z.hp.m + 26 < z.hp.m + 27 by omega)
          intro n3 b3 v3 a3 h3
          conv => whnf
          refine ih (p + (Utf8.decode s p).2) ((l ++ [n1]) ++ [n3]) _ _ (by omega) (by simp only [List.length_append, List.length_cons, List.length_nil]; omega) (by omega) ⟨rfl, rfl, trivial⟩ ⟨rfl, trivial⟩ rfl ?_ hq
          exact Acc.trunc (n := 4) (h3.le (show z.hp.m + 27 ≤ z.hp.m + 28 by omega))
      · rcases ha.form with hS | ⟨b, v, n, hS⟩
        all_goals
          subst hS
          conv => whnf
          refine ⟨rfl, ?_⟩
          conv => whnf
          refine ⟨⟨rfl, Nat.one_ne_zero⟩, ?_⟩
          refine opt_app' (m := z.hp.m + 0) (M := z.hp.m + 12) (l := l) (kd := .u16) rfl ⟨_, _, _, _, _, rfl, upd_self _ _ _⟩ (ha.upd (show z.hp.m + 0 ≤ z.hp.m + 10 by omega)) ?_ ?_ ?_ (show z.hp.m + 0 ≤ z.hp.m + 12 by omega) ?_
          · show (_ + 1) * 2 ≤ 140737488355328
            (try simp only [List.length_append, List.length_cons, List.length_nil])
            omega
          · show _ + 1 ≤ 140737488355328
            (try simp only [List.length_append, List.length_cons, List.length_nil])
            omega
          · exact (show z.hp.m + 11 < z.hp.m + 12 by omega)
          intro n1 b1 v1 a1 h1
          conv => whnf
          refine ih (p + (Utf8.decode s p).2) (l ++ [n1]) _ _ (by omega) (by simp only [List.length_append, List.length_cons, List.length_nil]; omega) (by omega) ⟨rfl, rfl, trivial⟩ ⟨rfl, trivial⟩ rfl ?_ hq
          exact Acc.trunc (n := 4) (h1.le (show z.hp.m + 12 ≤ z.hp.m + 13 by omega))
    · conv => whnf
      exact hq _ l S ⟨rfl, trivial⟩ rfl (by omega) (ha.le (Nat.le_add_right _ _))
theorem t68 (hn : Non ext) (s : ByteArray) (hs : s.size ≤ 256) : ∃ l : List Int, l.length ≤ 1024 ∧ (cfg ext).Ev 100 [.str s] (I .u16 l) := by
  have key : ∃ r, (cfg ext).Ev 100 [.str s] r ∧ ∃ l : List Int, l.length ≤ 1024 ∧ r = I .u16 l := by
    refine Ev.ofF (hn 100 (by decide) (by decide)) Tryz.func100 rfl rfl ?_
    conv => whnf
    refine l68 s hs _ s.size 0 [] (.sl true [] 0) _ (by omega) (by simp) (by omega) ⟨rfl, rfl, trivial⟩ ⟨rfl, trivial⟩ rfl (.inl ⟨rfl, rfl⟩) (fun z l S h1 h2 h3 h4 => ?_)
    rw [St.knows _ _ h1 h2]
    rcases h4.form with hS | ⟨b, v, n, hS⟩
    all_goals
      subst hS
      conv => whnf
      exact Fin.acc rfl h4 ⟨l, h3, rfl⟩
  obtain ⟨r, h, l, hl, rfl⟩ := key
  exact ⟨l, hl, h⟩
end
end Go.Proofs.YtbekoaalaofloaaGreatDoor.AB
end

section
set_option linter.unusedVariables false
set_option linter.unusedSimpArgs false
open Go Go.Ab Go.Proofs Go.Vl
namespace Go.Proofs.YtbekoaalaofloaaGreatDoor.AB
set_option maxRecDepth 100000
set_option maxHeartbeats 1600000
section
variable {ext : Exts}
def FullE (ext : Exts) (v : T) : Prop := ∃ r, (cfg ext).Ev 94 [A v] (.int .u32 r)
theorem l70 (l : List T) (hl : l.length ≤ 1024) (E : ∀ a ∈ l, FullE ext a) (Q : Ex → St → Prop) (d : Nat) :
    ∀ (i : Nat) (hs : List Int) (S : V) (z : St), l.length - i = d → i ≤ l.length → hs.length = i → Has z.t [(8, .int .i64 i), (7, .int .i64 l.length), (6, .sl false (encL l) l.length), (3, S)] → z.hp.n = 5 → Acc z.hp.a z.hp.m S (hs.map (.int .u32)) →
      (∀ (z' : St) (hs' : List Int) (S' : V), Has z'.t [(3, S')] → z'.hp.n = 6 → hs'.length = l.length → Acc z'.hp.a z'.hp.m S' (hs'.map (.int .u32)) → Q (.exit 0) z') →
      Go.Ab.Loop (cfg ext) (lpOf Tryz.f102) 5 z Q := by
  induction d with
  | zero =>
    intro i hs S z hd hi hh hz hn ha hq
    rw [St.knows _ _ hz hn]
    refine Loop.round ?_
    conv => whnf
    refine sel_split (fun h => ?_) (fun h => ?_)
    · simp at h; omega
    conv => whnf
    exact hq _ hs S ⟨rfl, trivial⟩ rfl (by omega) (ha.le (Nat.le_add_right _ _))
  | succ d ih =>
    intro i hs S z hd hi hh hz hn ha hq
    have hlt : i < l.length := by omega
    rw [St.knows _ _ hz hn]
    refine Loop.round ?_
    conv => whnf
    refine sel_split (fun h => ?_) (fun h => ?_)
    · conv => whnf
      refine ⟨⟨by omega, by omega⟩, ?_⟩
      conv => whnf
      refine ldA (i := i) hlt ?_
      rcases ha.form with hS | ⟨b, v, n, hS⟩
      all_goals
        subst hS
        conv => whnf
        obtain ⟨r, hr⟩ := E _ (List.getElem_mem hlt)
        refine ⟨_, hr, ?_⟩
        conv => whnf
        refine ⟨rfl, ?_⟩
        conv => whnf
        refine ⟨⟨rfl, Nat.one_ne_zero⟩, ?_⟩
        refine opt_app' (m := z.hp.m + 0) (M := z.hp.m + 10) (l := hs) (kd := .u32) rfl ⟨_, _, _, _, _, rfl, upd_self _ _ _⟩ (ha.upd (show z.hp.m + 0 ≤ z.hp.m + 8 by omega)) ?_ ?_ ?_ (show z.hp.m + 0 ≤ z.hp.m + 10 by omega) ?_
        · show (_ + 1) * 4 ≤ 140737488355328
          (try simp only [List.length_append, List.length_cons, List.length_nil])
          omega
        · show _ + 1 ≤ 140737488355328
          (try simp only [List.length_append, List.length_cons, List.length_nil])
          omega
        · exact (show z.hp.m + 9 < z.hp.m + 10 by omega)
        intro n1 b1 v1 a1 h1
        conv => whnf
        refine ih (i + 1) (hs ++ [n1]) _ _ (by omega) (by omega) (by simp; omega) ⟨?_, rfl, rfl, rfl, trivial⟩ rfl ?_ hq
        · conv => lhs; whnf
          exact vi (wrap_add1 (by omega))
        · exact Acc.trunc (n := 5) (h1.le (show z.hp.m + 10 ≤ z.hp.m + 13 by omega))
    · simp at h; omega
theorem t70 (hn : Non ext) (l : List T) (hl : l.length ≤ 1024) (E : ∀ a ∈ l, FullE ext a) : ∃ hs : List Int, hs.length = l.length ∧ (cfg ext).Ev 102 [.sl false (encL l) l.length] (I .u32 hs) := by
  have key : ∃ r, (cfg ext).Ev 102 [.sl false (encL l) l.length] r ∧ ∃ hs : List Int, hs.length = l.length ∧ r = I .u32 hs := by
    refine Ev.ofF (hn 102 (by decide) (by decide)) Tryz.func102 rfl rfl ?_
    conv => whnf
    refine l70 l hl E _ l.length 0 [] (.sl true [] 0) _ (by omega) (by omega) rfl ⟨rfl, rfl, rfl, rfl, trivial⟩ rfl (.inl ⟨rfl, rfl⟩) (fun z hs S h1 h2 h3 h4 => ?_)
    rw [St.knows _ _ h1 h2]
    rcases h4.form with hS | ⟨b, v, n, hS⟩
    all_goals
      subst hS
      conv => whnf
      exact Fin.acc rfl h4 ⟨hs, h3, rfl⟩
  obtain ⟨r, h, hs, hl, rfl⟩ := key
  exact ⟨hs, hl, h⟩
theorem l61 (hn : Non ext) (l : List Int) (hl : l.length ≤ 1024) (he : l.length % 2 = 0) (N : Nat) (Q : Ex → St → Prop) (d : Nat) :
    ∀ (i : Nat) (hs : List Int) (S : V) (z : St), l.length - i ≤ 2 * d → i ≤ l.length → i % 2 = 0 → hs.length ≤ i → Has z.t [(5, .int .i64 i), (4, I .u32 l), (3, S)] → z.hp.n = N → Acc z.hp.a z.hp.m S (hs.map (.int .u32)) →
      (∀ (z' : St) (hs' : List Int) (S' : V), Has z'.t [(3, S')] → z'.hp.n = N + 4 → hs'.length ≤ 1024 → Acc z'.hp.a z'.hp.m S' (hs'.map (.int .u32)) → Q (.exit 1) z') →
      Go.Ab.Loop (cfg ext) (lpOf Tryz.f94) N z Q := by
  induction d with
  | zero =>
    intro i hs S z hd hi hi2 hh hz hn' ha hq
    rw [St.knows _ _ hz hn']
    refine Loop.round ?_
    conv => whnf
    refine sel_split (fun h => ?_) (fun h => ?_)
    · simp at h; omega
    conv => whnf
    exact hq _ hs S ⟨rfl, trivial⟩ rfl (by omega) (ha.le (Nat.le_add_right _ _))
  | succ d ih =>
    intro i hs S z hd hi hi2 hh hz hn' ha hq
    rw [St.knows _ _ hz hn']
    refine Loop.round ?_
    conv => whnf
    refine sel_split (fun h => ?_) (fun h => ?_)
    · have hlt : i < l.length := by simpa using h
      have e1 : IntKind.i64.wrap ((i : Int) + 1) = ((i + 1 : Nat) : Int) := wrapN (by omega) (by omega)
      have e2 : IntKind.i64.wrap ((i : Int) + 2) = ((i + 2 : Nat) : Int) := wrapN (by omega) (by omega)
      rcases ha.form with hS | ⟨b, v, n, hS⟩
      all_goals
        subst hS
        conv => whnf
        refine ⟨⟨by omega, by omega⟩, ?_⟩
        conv => whnf
        refine ldI (i := i) hlt ?_
        conv => whnf
        rw [e1]
        refine ⟨⟨by omega, by omega⟩, ?_⟩
        conv => whnf
        refine ldI (i := i + 1) (by omega) ?_
        conv => whnf
        obtain ⟨r, hr⟩ := t72 hn l[i] (l[i + 1]'(by omega))
        refine ⟨_, hr, ?_⟩
        conv => whnf
        refine ⟨rfl, ?_⟩
        conv => whnf
        refine ⟨⟨rfl, Nat.one_ne_zero⟩, ?_⟩
        refine opt_app' (m := z.hp.m + 0) (M := z.hp.m + 17) (l := hs) (kd := .u32) rfl ⟨_, _, _, _, _, rfl, upd_self _ _ _⟩ (ha.upd (show z.hp.m + 0 ≤ z.hp.m + 15 by omega)) ?_ ?_ ?_ (show z.hp.m + 0 ≤ z.hp.m + 17 by omega) ?_
        · show (_ + 1) * 4 ≤ 140737488355328
          (try simp only [List.length_append, List.length_cons, List.length_nil])
          omega
        · show _ + 1 ≤ 140737488355328
          (try simp only [List.length_append, List.length_cons, List.length_nil])
          omega
        · exact (show z.hp.m + 16 < z.hp.m + 17 by omega)
        intro n1 b1 v1 a1 h1
        conv => whnf
        refine ih (i + 2) (hs ++ [n1]) _ _ (by omega) (by omega) (by omega) (by simp; omega) ⟨?_, rfl, rfl, trivial⟩ rfl ?_ hq
        · conv => lhs; whnf
          exact vi e2
        · exact Acc.trunc (n := N) (h1.le (show z.hp.m + 17 ≤ z.hp.m + 21 by omega))
    · conv => whnf
      exact hq _ hs S ⟨rfl, trivial⟩ rfl (by omega) (ha.le (Nat.le_add_right _ _))
end
end Go.Proofs.YtbekoaalaofloaaGreatDoor.AB
end

section
set_option linter.unusedVariables false
set_option linter.unusedSimpArgs false
open Go Go.Ab Go.Proofs Go.Vl
namespace Go.Proofs.YtbekoaalaofloaaGreatDoor.AB
set_option maxRecDepth 100000
set_option maxHeartbeats 1600000
theorem opt_acc1 {d : Bool} {hp : Hp} {xs : List V} {m : Nat} {s : V} {k : IntKind} {l : List Int} {Q : List V × Hp → Prop} (h : Acc hp.a m s (l.map (.int k))) (hd : d = false) (hx : xs = [s]) (hq : ∀ a', Q ([I k l], ⟨hp.h, hp.n, a', hp.m⟩)) : opt (asData d hp xs) Q := by
  subst hd hx
  obtain ⟨a', e⟩ := fz_acc (d := 4) h
  show opt (fzL (fz 6) hp [s]) Q
  have : fzL (fz 6) hp [s] = some ([I k l], ⟨hp.h, hp.n, a', hp.m⟩) := by
    simp only [fzL]
    rw [show fz 6 hp s = _ from e]
    rfl
  rw [this]
  exact hq a'
/-- a part of a function's code: left/then, right/else, what is inside -/
def atP : Code → List Bool → Code
  | c, [] => c
  | .seq a b, p :: ps => match p with | true => atP b ps | false => atP a ps
  | .cond _ a b, p :: ps => match p with | true => atP b ps | false => atP a ps
  | .block _ c, _ :: ps => atP c ps
  | .loop c, _ :: ps => atP c ps
  | .scope c, _ :: ps => atP c ps
  | c, _ :: _ => c
def bodyOf (f : Func) : Code := match f.body with | some b => b | none => .skip
section
variable {ext : Exts}
theorem c61 (hn : Non ext) (k n : Int) (t : ByteArray) (l : List T) (h0 : k = 0 ∨ k = 4 ∨ k = 5) (h3 : l.length ≤ 1024) (E : ∀ a ∈ l, FullE ext a) (z : St) (K : Ex → St → Prop)
    (hz : Has z.t [(1, .ref 0 0), (7, .int .i64 k)]) (hb : Has z.hp.h [(0, some (.cells (cellsV ⟨k, n, t, l⟩) false))]) (hN : z.hp.n = 10) (hr : ∀ z' r, z'.t 2 = .int .u32 r → K .ret z') (hq : ∀ z', K .normal z') : xCode (cfg ext) (atP (bodyOf Tryz.f94) [true, false, true, false, true, true, true, true, true, true]) z K := by
  obtain ⟨hs, hl, ha⟩ := t70 hn l h3 E
  have hb1 : hs.length ≤ 9223372036854775806 := by omega
  obtain ⟨r69, g69⟩ := t69 hn hs hb1
  obtain ⟨r71, g71⟩ := t71 hn hs hb1
  rw [St.knows _ _ hz hN _ hb]
  rcases h0 with rfl | rfl | rfl
  · conv => whnf
    exact hq _
  · conv => whnf
    refine ⟨_, ha, ?_⟩
    conv => whnf
    refine ⟨_, g69, ?_⟩
    conv => whnf
    exact hr _ _ rfl
  · conv => whnf
    refine ⟨_, ha, ?_⟩
    conv => whnf
    refine ⟨_, g71, ?_⟩
    conv => whnf
    exact hr _ _ rfl
theorem c61b (hn : Non ext) (n : Int) (t : ByteArray) (l : List T) (h3 : l.length ≤ 1024) (h6 : l.length % 2 = 0) (E : ∀ a ∈ l, FullE ext a) (z : St) (K : Ex → St → Prop)
    (hz : Has z.t [(1, .ref 0 0), (7, .int .i64 6)]) (hb : Has z.hp.h [(0, some (.cells (cellsV ⟨6, n, t, l⟩) false))]) (hN : z.hp.n = 10) (hr : ∀ z' r, z'.t 2 = .int .u32 r → K .ret z') : xCode (cfg ext) (atP (bodyOf Tryz.f94) [true, false, true, false, true, true, true, true, true, true]) z K := by
  obtain ⟨hs, hl, ha⟩ := t70 hn l h3 E
  have hb1 : hs.length ≤ 9223372036854775806 := by omega
  have hb2 : hs.length ≤ 1024 := by omega
  have ev : hs.length % 2 = 0 := by omega
  have z0 : hs.length - 0 ≤ 2 * hs.length := by omega
  have big : ∀ xs : List Int, xs.length ≤ 1024 → xs.length ≤ 9223372036854775806 := fun xs h => by omega
  rw [St.knows _ _ hz hN _ hb]
  conv => whnf
  refine ⟨_, ha, ?_⟩
  conv => whnf
  refine l61 hn hs hb2 ev _ _ hs.length 0 [] (.sl true [] 0) _ z0 (Nat.zero_le _) rfl (Nat.le_refl _) ⟨rfl, rfl, rfl, trivial⟩ rfl (.inl ⟨rfl, rfl⟩) (fun z xs S e1 e2 e3 e4 => ?_)
  rw [St.knows _ _ e1 e2]
  obtain ⟨r2, g2⟩ := t71 hn xs (big _ e3)
  rcases e4 with ⟨rfl, e4⟩ | ⟨b, w, hb, rfl, e4⟩
  · have : xs = [] := by simpa using e4
    subst this
    conv => whnf
    refine ⟨_, g2, ?_⟩
    conv => whnf
    exact hr _ _ rfl
  · have ha4 : Acc z.hp.a z.hp.m (.rsl false b w 0 (xs.map (V.int .u32)).length) (xs.map (.int .u32)) := .inr ⟨b, w, hb, rfl, e4⟩
    conv => whnf
    refine opt_acc1 (k := .u32) (l := xs) (m := z.hp.m) ha4 rfl rfl (fun a' => ?_)
    refine ⟨_, g2, ?_⟩
    conv => whnf
    exact hr _ _ rfl
theorem t61_one (hn : Non ext) (k n : Int) (t : ByteArray) (l : List T) (h0 : 0 ≤ k) (h1 : k ≤ 6) (h2 : t.size ≤ 256) (h3 : l.length ≤ 1024) (h6 : k = 6 → l.length % 2 = 0) (E : ∀ a ∈ l, FullE ext a) : FullE ext ⟨k, n, t, l⟩ := by
  have big : ∀ xs : List Int, xs.length ≤ 1024 → xs.length ≤ 9223372036854775806 := fun xs h => by omega
  have ks (n1 : (k == 1) = false) (n2 : (k == 2) = false) (n3 : (k == 3) = false) : (k = 0 ∨ k = 4 ∨ k = 5) ∨ k = 6 := by
    have n1 : k ≠ 1 := by simpa using n1
    have n2 : k ≠ 2 := by simpa using n2
    have n3 : k ≠ 3 := by simpa using n3
    omega
  have key : ∃ r, (cfg ext).Ev 94 [A ⟨k, n, t, l⟩] r ∧ ∃ c, r = .int .u32 c := by
    refine Ev.ofE (hn 94 (by decide) (by decide)) Tryz.func94 rfl rfl ?_
    conv => whnf
    refine sel_split (fun n1 => ?_) (fun n1 => ?_)
    · conv => whnf
      refine sel_split (fun h => ?_) (fun h => ?_)
      · conv => whnf
        exact ⟨_, rfl⟩
      · conv => whnf
        exact ⟨_, rfl⟩
    conv => whnf
    refine sel_split (fun n2 => ?_) (fun n2 => ?_)
    · conv => whnf
      obtain ⟨r1, g1⟩ := t65 hn n
      refine ⟨_, g1, ?_⟩
      conv => whnf
      exact ⟨_, rfl⟩
    conv => whnf
    refine sel_split (fun n3 => ?_) (fun n3 => ?_)
    · conv => whnf
      obtain ⟨l, hl, g1⟩ := t68 hn t h2
      refine ⟨_, g1, ?_⟩
      conv => whnf
      obtain ⟨r2, g2⟩ := t67 hn l (big _ hl)
      refine ⟨_, g2, ?_⟩
      conv => whnf
      obtain ⟨r3, g3⟩ := t66 hn r2
      refine ⟨_, g3, ?_⟩
      conv => whnf
      exact ⟨_, rfl⟩
    rcases ks n1 n2 n3 with c | rfl
    · refine c61 hn k n t l c h3 E _ _ ⟨rfl, rfl, trivial⟩ ⟨rfl, trivial⟩ rfl (fun z r e => ?_) (fun z => ?_)
      · rw [St.knows [(2, _)] _ ⟨e, trivial⟩ rfl]
        conv => whnf
        exact ⟨_, rfl⟩
      · conv => whnf
        exact ⟨_, rfl⟩
    · refine c61b hn n t l h3 (h6 rfl) E _ _ ⟨rfl, rfl, trivial⟩ ⟨rfl, trivial⟩ rfl (fun z r e => ?_)
      rw [St.knows [(2, _)] _ ⟨e, trivial⟩ rfl]
      conv => whnf
      exact ⟨_, rfl⟩
  obtain ⟨r, h, c, rfl⟩ := key
  exact ⟨c, h⟩
mutual
theorem t61 (hn : Non ext) : (v : T) → OkV v → partsV v ≤ 1024 → FullE ext v
  | ⟨k, n, t, l⟩, h, hp => by
    simp only [OkV] at h
    simp only [partsV] at hp
    have hl := partsL_len l
    have hk : 0 ≤ k ∧ k ≤ 6 ∧ t.size ≤ 256 := by
      have hp := h.1
      unfold PlainV at hp
      obtain ⟨a, b, c⟩ := hp
      have ht : k ≠ 3 → t.size ≤ 256 := fun h3 => by rw [a.resolve_left h3]; show 0 ≤ 256; omega
      split at c
      · exact ⟨by omega, by omega, ht (by omega)⟩
      · split at c
        · exact ⟨by omega, by omega, c.1⟩
        · exact ⟨c.1, c.2, ht ‹_›⟩
    have h6 : k = 6 → l.length % 2 = 0 := fun e => by
      have := h.2.1
      unfold FormV at this
      rw [if_neg (by omega), if_pos e] at this
      exact this.1
    exact t61_one hn k n t l hk.1 hk.2.1 hk.2.2 (by omega) h6 (t61L hn l h.2.2 (by omega))
theorem t61L (hn : Non ext) : (l : List T) → OkL l → partsL l ≤ 1024 → ∀ a ∈ l, FullE ext a
  | [], _, _, a, ha => by cases ha
  | v :: l, h, hp, a, ha => by
    simp only [OkL] at h
    simp only [partsL] at hp
    rcases List.mem_cons.1 ha with e | ha
    · rw [e]; exact t61 hn v h.1 (by omega)
    · exact t61L hn l h.2 (by omega) a ha
end
theorem t51 (hn : Non ext) (h26 : E26 ext) (h73 : E73 ext) (v : T) (hw : WfV v) : ∃ h e, (cfg ext).Ev 82 [A v] (.tup [.int .u32 h, .int .i64 e]) := by
  have key : ∃ r, (cfg ext).Ev 82 [A v] r ∧ ∃ h e, r = .tup [.int .u32 h, .int .i64 e] := by
    refine Ev.ofE (hn 82 (by decide) (by decide)) Tryz.func82 rfl rfl ?_
    have c := t22 hn h26 h73 v hw
    conv => whnf
    refine ⟨_, c, ?_⟩
    cases ho : okB v with
    | false =>
      conv => whnf
      exact ⟨_, _, rfl⟩
    | true =>
      obtain ⟨r, hr⟩ := t61 hn v (okB_iff.1 ho).1 (okB_iff.1 ho).2.2
      conv => whnf
      refine ⟨_, hr, ?_⟩
      conv => whnf
      exact ⟨_, _, rfl⟩
  obtain ⟨r, h, a, b, rfl⟩ := key
  exact ⟨a, b, h⟩
end
end Go.Proofs.YtbekoaalaofloaaGreatDoor.AB
end

section
set_option linter.unusedVariables false
set_option linter.unusedSimpArgs false
open Go Go.Ab Go.Proofs Go.Vl
namespace Go.Proofs.YtbekoaalaofloaaGreatDoor.AB
set_option maxRecDepth 100000
set_option maxHeartbeats 1600000
section
variable {ext : Exts}
theorem t38 (hn : Non ext) : (cfg ext).Ev 63 [.fn 64 []] (.agg [.fn 79 [.ptr [.fn 64 []] 0]]) := by
  refine Ev.of (hn 63 (by decide) (by decide)) Tryz.func63 rfl rfl ?_
  conv => whnf
theorem t40 (hn : Non ext) : (cfg ext).Ev 65 [.fn 66 []] (.agg [.fn 83 [.ptr [.fn 66 []] 0]]) := by
  refine Ev.of (hn 65 (by decide) (by decide)) Tryz.func65 rfl rfl ?_
  conv => whnf
end
end Go.Proofs.YtbekoaalaofloaaGreatDoor.AB
end

section
set_option linter.unusedVariables false
set_option linter.unusedSimpArgs false
open Go Go.Ab Go.Proofs Go.Vl
namespace Go.Proofs.YtbekoaalaofloaaGreatDoor.AB
set_option maxRecDepth 100000
set_option maxHeartbeats 1600000
section
variable {ext : Exts}
def nearC (a b : T) : Int := if a.f0 = 2 ∧ b.f0 = 2 then (if cmp3 (awy a.f1) (awy b.f1) = 0 then cmp3 a.f1 b.f1 else cmp3 (awy a.f1) (awy b.f1)) else cmpV a b
theorem t43 (hn : Non ext) (a b : T) (hc : (cfg ext).Ev 52 [A a, A b] (.int .i64 (cmpV a b))) : (cfg ext).Ev 68 [A a, A b] (.int .i64 (nearC a b)) := by
  refine Ev.of (hn 68 (by decide) (by decide)) Tryz.func68 rfl rfl ?_
  conv => whnf
  cases h4 : (a.f0 == 2) with
  | false =>
    conv => whnf
    refine ⟨_, hc, ?_⟩
    conv => whnf
    exact vi (by unfold nearC; simp at h4; simp [h4])
  | true =>
    conv => whnf
    cases h5 : (b.f0 == 2) with
    | false =>
      conv => whnf
      refine ⟨_, hc, ?_⟩
      conv => whnf
      exact vi (by unfold nearC; simp at h5; simp [h5])
    | true =>
      conv => whnf
      refine ⟨_, t56 (hn 87 (by decide) (by decide)) a.f1, ?_⟩
      conv => whnf
      refine ⟨_, t56 (hn 87 (by decide) (by decide)) b.f1, ?_⟩
      conv => whnf
      refine ⟨_, t55 (hn 95 (by decide) (by decide)) (hn 86 (by decide) (by decide)) _ _, ?_⟩
      conv => whnf
      refine ⟨_, t25 (hn 90 (by decide) (by decide)) (hn 71 (by decide) (by decide)) _ _, ?_⟩
      conv => whnf
      refine ⟨_, t49 (hn 80 (by decide) (by decide)) _ _, ?_⟩
      conv => whnf
      exact vi (by unfold nearC; simp at h4 h5; simp [h4, h5])
end
end Go.Proofs.YtbekoaalaofloaaGreatDoor.AB
end

section
set_option linter.unusedVariables false
set_option linter.unusedSimpArgs false
open Go Go.Ab Go.Proofs Go.Vl
namespace Go.Ab
theorem Fin.of_eq {P : Program} {fn : Func} {s : St} {R : V → Prop} {v : V} (h : (resOf P fn s).bind (fun r => (fz 6 s.hp r).map Prod.fst) = some v) (hR : R v) : Fin P fn s R := by
  obtain ⟨r, h1, h2⟩ := Option.bind_eq_some_iff.1 h
  obtain ⟨p, h3, h4⟩ := Option.map_eq_some_iff.1 h2
  refine ⟨?_⟩
  rw [h1]
  show opt (fz 6 s.hp r) fun p => R p.1
  rw [h3]
  show R p.1
  rw [h4]; exact hR
end Go.Ab
namespace Go.Proofs.YtbekoaalaofloaaGreatDoor.AB
set_option maxRecDepth 100000
set_option maxHeartbeats 1600000
section
variable {ext : Exts}
def rows : List V := [.fn 52 [], .fn 62 [], .fn 79 [.ptr [.fn 64 []] 0], .fn 83 [.ptr [.fn 66 []] 0], .fn 67 [], .fn 68 []]
theorem t31 (hn : Non ext) : (cfg ext).Ev 50 [] (.sl false rows 6) := by
  have key : ∃ r, (cfg ext).Ev 50 [] r ∧ r = .sl false rows 6 := by
    refine Ev.ofF (hn 50 (by decide) (by decide)) Tryz.func50 rfl rfl ?_
    conv => whnf
    refine ⟨_, t38 hn, ?_⟩
    conv => whnf
    refine ⟨_, t40 hn, ?_⟩
    conv => whnf
    exact Fin.of_eq (v := .sl false rows 6) (by kernel_rfl) rfl
  obtain ⟨r, h, rfl⟩ := key
  exact h
end
end Go.Proofs.YtbekoaalaofloaaGreatDoor.AB
end

section
set_option linter.unusedVariables false
set_option linter.unusedSimpArgs false
open Go Go.Ab Go.Proofs Go.Vl
namespace Go.Proofs.YtbekoaalaofloaaGreatDoor.AB
set_option maxRecDepth 100000
set_option maxHeartbeats 1600000
section
variable {ext : Exts}
def rowOf (o : Nat) : V := match o with | 0 => .fn 52 [] | 1 => .fn 62 [] | 2 => .fn 79 [.ptr [.fn 64 []] 0] | 3 => .fn 83 [.ptr [.fn 66 []] 0] | 4 => .fn 67 [] | 5 => .fn 68 [] | _ => .nilfn
theorem t21 (hn : Non ext) (o : Nat) (h5 : o ≤ 5) : (cfg ext).Ev 40 [.int .i64 o] (.tup [.agg [rowOf o], .int .i64 0]) := by
  have key : ∃ r, (cfg ext).Ev 40 [.int .i64 o] r ∧ r = .tup [.agg [rowOf o], .int .i64 0] := by
    refine Ev.ofF (hn 40 (by decide) (by decide)) Tryz.func40 rfl rfl ?_
    conv => whnf
    have g3 : decide ((o : Int) > 5) = false := by simp; omega
    refine sel_no g3 ?_
    conv => whnf
    refine ⟨_, t31 hn, ?_⟩
    have c : o = 0 ∨ o = 1 ∨ o = 2 ∨ o = 3 ∨ o = 4 ∨ o = 5 := by omega
    rcases c with rfl | rfl | rfl | rfl | rfl | rfl
    all_goals
      conv => whnf
      refine ⟨by decide, ?_⟩
      conv => whnf
      refine ⟨le_rfl' rfl, ?_⟩
      conv => whnf
      exact Fin.of_eq (by kernel_rfl) rfl
  obtain ⟨r, h, rfl⟩ := key
  exact h
end
end Go.Proofs.YtbekoaalaofloaaGreatDoor.AB
end

section
set_option linter.unusedVariables false
set_option linter.unusedSimpArgs false
open Go Go.Ab Go.Proofs Go.Vl
namespace Go.Proofs.YtbekoaalaofloaaGreatDoor.AB
set_option maxRecDepth 100000
set_option maxHeartbeats 1600000
section
variable {ext : Exts}
theorem l11 (l : List T) (hl : l.length ≤ 65536) (E : ∀ a ∈ l, (cfg ext).Ev 21 [A a] (.int .i64 (if okB a = true then 0 else 3))) (f : V) (hf : cleanV 18 f = f) (Q : Ex → St → Prop) (d : Nat) :
    ∀ (i : Nat) (z : St), l.length - i = d → i ≤ l.length → Has z.t [(26, .int .i64 i), (25, .int .i64 l.length), (24, .sl false (encL l) l.length), (4, .ref 0 0), (6, .ref 7 0)] → Has z.hp.h [(0, some (.cells [.nilfn] false)), (7, some (.cells [f] false))] → z.hp.n = 18 →
      (∀ z' : St, Has z'.t [(4, .ref 0 0), (5, .int .i64 3)] → Has z'.hp.h [(0, some (.cells [f] false))] → (¬ ∀ a ∈ l.drop i, okB a = true) → Q .ret z') →
      (∀ z' : St, Has z'.t [(4, .ref 0 0), (6, .ref 7 0)] → Has z'.hp.h [(0, some (.cells [.nilfn] false)), (7, some (.cells [f] false))] → z'.hp.n = 19 → (∀ a ∈ l.drop i, okB a = true) → Q (.exit 0) z') →
      Go.Ab.Loop (cfg ext) (lpOf Tryz.f35) 18 z Q := by
  induction d with
  | zero =>
    intro i z hd hi hz hb hn hr hq
    rw [St.knows _ _ hz hn _ hb]
    refine Loop.round ?_
    conv => whnf
    refine sel_split (fun h => ?_) (fun h => ?_)
    · simp at h; omega
    conv => whnf
    exact hq _ ⟨rfl, rfl, trivial⟩ ⟨rfl, rfl, trivial⟩ rfl (by intro a ha; rw [List.drop_eq_nil_of_le (by omega)] at ha; cases ha)
  | succ d ih =>
    intro i z hd hi hz hb hn hr hq
    have hlt : i < l.length := by omega
    have eD := List.drop_eq_getElem_cons hlt
    have e1 : IntKind.i64.wrap ((i : Int) + 1) = ((i + 1 : Nat) : Int) := wrapN (by omega) (by omega)
    have hE := E _ (List.getElem_mem hlt)
    rw [St.knows _ _ hz hn _ hb]
    refine Loop.round ?_
    conv => whnf
    refine sel_split (fun h => ?_) (fun h => ?_)
    · conv => whnf
      refine ⟨⟨by omega, by omega⟩, ?_⟩
      conv => whnf
      refine ldA (i := i) hlt ?_
      conv => whnf
      refine ⟨_, hE, ?_⟩
      cases ho : okB l[i] with
      | false =>
        conv => whnf
        exact hr _ ⟨rfl, rfl, trivial⟩ ⟨rfl, trivial⟩ (fun g => by have := g l[i] (by rw [eD]; exact List.mem_cons_self); rw [ho] at this; cases this)
      | true =>
        conv => whnf
        refine ih (i + 1) _ (by omega) (by omega) ⟨?_, rfl, rfl, rfl, rfl, trivial⟩ ⟨rfl, ?_, trivial⟩ rfl (fun z' a b c => hr z' a b (fun g => c (fun x hx => g x (by rw [eD]; exact List.mem_cons_of_mem _ hx)))) (fun z' a b c e => hq z' a b c (fun x hx => by rw [eD] at hx; rcases List.mem_cons.1 hx with rfl | hx; exact ho; exact e x hx))
        · conv => lhs; whnf
          exact vi e1
        · show some (Bx.cells [cleanV 18 f] false) = _
          rw [hf]
    · simp at h; omega
end
end Go.Proofs.YtbekoaalaofloaaGreatDoor.AB
end

section
set_option linter.unusedVariables false
set_option linter.unusedSimpArgs false
open Go Go.Ab Go.Proofs Go.Vl
namespace Go.Proofs.YtbekoaalaofloaaGreatDoor.AB
set_option maxRecDepth 100000
set_option maxHeartbeats 1600000
section
variable {ext : Exts}
theorem t11e (hn : Non ext) (o : Nat) (h5 : o ≤ 5) (l : List T) (hl : l.length ≤ 65536) (E : ∀ a ∈ l, (cfg ext).Ev 21 [A a] (.int .i64 (if okB a = true then 0 else 3))) :
    (cfg ext).Ev 35 [.int .i64 o, .sl false (encL l) l.length] (.tup [.agg [rowOf o], .int .i64 (if l.all okB = true then 0 else 3)]) := by
  have hf : cleanV 18 (rowOf o) = rowOf o := by
    have c : o = 0 ∨ o = 1 ∨ o = 2 ∨ o = 3 ∨ o = 4 ∨ o = 5 := by omega
    rcases c with rfl | rfl | rfl | rfl | rfl | rfl <;> rfl
  have h65 : decide ((l.length : Int) > 65536) = false := by simp; omega
  have key : ∃ r, (cfg ext).Ev 35 [.int .i64 o, .sl false (encL l) l.length] r ∧ r = .tup [.agg [rowOf o], .int .i64 (if l.all okB = true then 0 else 3)] := by
    refine Ev.ofF (hn 35 (by decide) (by decide)) Tryz.func35 rfl rfl ?_
    conv => whnf
    refine ⟨_, t21 hn o h5, ?_⟩
    conv => whnf
    refine sel_no h65 ?_
    conv => whnf
    refine l11 l hl E (rowOf o) hf _ l.length 0 _ rfl (by omega) ⟨rfl, rfl, rfl, rfl, rfl, trivial⟩ ⟨rfl, rfl, trivial⟩ rfl (fun z a b c => ?_) (fun z a b c d => ?_)
    · have e0 := a.1
      have e5 := a.2.1
      have eb := b.1
      refine Fin.of_eq (v := .tup [.agg [rowOf o], .int .i64 3]) ?_ (by rw [if_neg (show ¬ (l.all okB = true) from fun h => c (List.all_eq_true.1 h))])
      rw [St.knows _ z.hp.n a rfl _ b]
      have c6 : o = 0 ∨ o = 1 ∨ o = 2 ∨ o = 3 ∨ o = 4 ∨ o = 5 := by omega
      rcases c6 with rfl | rfl | rfl | rfl | rfl | rfl <;> rfl
    · rw [St.knows _ _ a c _ b]
      conv => whnf
      refine Fin.of_eq (v := .tup [.agg [rowOf o], .int .i64 0]) ?_ (by rw [if_pos (show l.all okB = true from List.all_eq_true.2 d)])
      have c6 : o = 0 ∨ o = 1 ∨ o = 2 ∨ o = 3 ∨ o = 4 ∨ o = 5 := by omega
      rcases c6 with rfl | rfl | rfl | rfl | rfl | rfl <;> rfl
  obtain ⟨r, h, rfl⟩ := key
  exact h
theorem t11 (hn : Non ext) (o : Nat) (h5 : o ≤ 5) (l : List T) (hl : l.length ≤ 65536) (E : ∀ a ∈ l, (cfg ext).Ev 21 [A a] (.int .i64 (if okB a = true then 0 else 3))) :
    ∃ e : Int, (cfg ext).Ev 35 [.int .i64 o, .sl false (encL l) l.length] (.tup [.agg [rowOf o], .int .i64 e]) ∧ (e = 0 ↔ ∀ a ∈ l, okB a = true) := by
  refine ⟨_, t11e hn o h5 l hl E, ?_⟩
  cases h : l.all okB
  · rw [if_neg (by decide)]; exact ⟨fun h => (by cases h), fun h' => (by rw [List.all_eq_true.2 h'] at h; cases h)⟩
  · rw [if_pos rfl]; exact ⟨fun _ => List.all_eq_true.1 h, fun _ => rfl⟩
theorem t11long (hn : Non ext) (o : Nat) (h5 : o ≤ 5) (l : List T) (hl : 65536 < l.length) : (cfg ext).Ev 35 [.int .i64 o, .sl false (encL l) l.length] (.tup [.agg [rowOf o], .int .i64 2]) := by
  have h65 : decide ((l.length : Int) > 65536) = true := by simp; omega
  have key : ∃ r, (cfg ext).Ev 35 [.int .i64 o, .sl false (encL l) l.length] r ∧ r = .tup [.agg [rowOf o], .int .i64 2] := by
    refine Ev.ofF (hn 35 (by decide) (by decide)) Tryz.func35 rfl rfl ?_
    conv => whnf
    refine ⟨_, t21 hn o h5, ?_⟩
    conv => whnf
    refine sel_yes h65 ?_
    conv => whnf
    refine Fin.of_eq (v := .tup [.agg [rowOf o], .int .i64 2]) ?_ rfl
    have c6 : o = 0 ∨ o = 1 ∨ o = 2 ∨ o = 3 ∨ o = 4 ∨ o = 5 := by omega
    rcases c6 with rfl | rfl | rfl | rfl | rfl | rfl <;> rfl
  obtain ⟨r, h, rfl⟩ := key
  exact h
end
end Go.Proofs.YtbekoaalaofloaaGreatDoor.AB
end

section
set_option linter.unusedVariables false
set_option linter.unusedSimpArgs false
open Go Go.Ab Go.Proofs Go.Vl
namespace Go.Proofs.YtbekoaalaofloaaGreatDoor.AB
set_option maxRecDepth 100000
set_option maxHeartbeats 1600000
section
variable {ext : Exts}
/-- an order's row, called -/
def RowE (ext : Exts) (o : Nat) (a b : T) (r : Int) : Prop := match o with
  | 0 => (cfg ext).Ev 52 [A a, A b] (.int .i64 r)
  | 1 => (cfg ext).Ev 62 [A a, A b] (.int .i64 r)
  | 2 => (cfg ext).Ev 79 [A a, A b, .ptr [.fn 64 []] 0] (.int .i64 r)
  | 3 => (cfg ext).Ev 83 [A a, A b, .ptr [.fn 66 []] 0] (.int .i64 r)
  | 4 => (cfg ext).Ev 67 [A a, A b] (.int .i64 r)
  | _ => (cfg ext).Ev 68 [A a, A b] (.int .i64 r)
theorem t5 (hn : Non ext) (o : Nat) (h5 : o ≤ 5) (a b : T) (E : ∀ v ∈ [a, b], (cfg ext).Ev 21 [A v] (.int .i64 (if okB v = true then 0 else 3))) (r : Int) (hr : RowE ext o a b r) :
    ∃ c e : Int, (cfg ext).Ev 31 [.int .i64 o, A a, A b] (.tup [.int .i64 c, .int .i64 e]) ∧ (e = 0 ↔ okB a = true ∧ okB b = true) ∧ (e = 0 → c = r) := by
  obtain ⟨e, h11, he⟩ := t11 hn o h5 [a, b] (by simp) E
  have eL : encL [a, b] = enc a ++ enc b := by simp only [encL, List.append_nil]
  rw [eL, enc_eq, enc_eq] at h11
  have he : e = 0 ↔ okB a = true ∧ okB b = true := by rw [he]; simp
  by_cases e0 : e = 0
  · refine ⟨r, e, ?_, he, fun _ => rfl⟩
    refine Ev.of (hn 31 (by decide) (by decide)) Tryz.func31 rfl rfl ?_
    conv => whnf
    refine ⟨_, h11, ?_⟩
    conv => whnf
    refine sel_no (by simpa using e0) ?_
    have c6 : o = 0 ∨ o = 1 ∨ o = 2 ∨ o = 3 ∨ o = 4 ∨ o = 5 := by omega
    rcases c6 with rfl | rfl | rfl | rfl | rfl | rfl
    all_goals
      conv => whnf
      refine ⟨_, hr, ?_⟩
      conv => whnf
      rw [e0]
  · refine ⟨0, e, ?_, he, fun h => absurd h e0⟩
    refine Ev.of (hn 31 (by decide) (by decide)) Tryz.func31 rfl rfl ?_
    conv => whnf
    refine ⟨_, h11, ?_⟩
    conv => whnf
    refine sel_yes (by simpa using e0) ?_
    conv => whnf
end
end Go.Proofs.YtbekoaalaofloaaGreatDoor.AB
end

section
set_option linter.unusedVariables false
set_option linter.unusedSimpArgs false
open Go Go.Ab Go.Proofs Go.Vl
namespace Go.Proofs.YtbekoaalaofloaaGreatDoor.AB
set_option maxRecDepth 100000
set_option maxHeartbeats 1600000
section
variable {ext : Exts}
/-- an order's row says one line -/
def Line (f : T → T → Int) : Prop := (∀ a b, f b a = - f a b) ∧ (∀ a b, Shp a → Shp b → (f a b = 0 ↔ a = b)) ∧ (∀ a b c, Shp a → Shp b → Shp c → f a b ≤ 0 → f b c ≤ 0 → f a c ≤ 0) ∧ ∀ a b, One (f a b)
theorem near_is (a b : T) : nearC a b = kindC 2 (fun v => awy v.f1) a b := by
  unfold nearC kindC
  by_cases h : a.f0 = 2 ∧ b.f0 = 2
  · rw [if_pos h, if_pos h]
    have : cmpV a b = cmpI a.f1 b.f1 := by
      cases a with | mk k n t l =>
      rw [cmpV, if_pos (h.1.trans h.2.symm), if_pos (.inr h.1)]
    unfold lexC
    rw [this]
    rfl
  · rw [if_neg h, if_neg h]
theorem row_line (hn : Non ext) (h26 : E26 ext) (h73 : E73 ext) (o : Nat) (h5 : o ≤ 5) : ∃ f, Line f ∧ ∀ a b, WfV a → WfV b → RowE ext o a b (f a b) := by
  have lex (m : T → Int) : Line (lexC m) := ⟨lexC_turn m, fun _ _ => lexC_eq m, fun _ _ _ => lexC_trans m, lexC_one m⟩
  have kin (q : Int) (m : T → Int) : Line (kindC q m) := ⟨kindC_turn q m, fun _ _ => kindC_eq q m, fun _ _ _ => kindC_trans q m, kindC_one q m⟩
  have e (f : Nat) (h : f ≠ 72) (h' : f ≠ 69) := hn f h h'
  have c6 : o = 0 ∨ o = 1 ∨ o = 2 ∨ o = 3 ∨ o = 4 ∨ o = 5 := by omega
  rcases c6 with rfl | rfl | rfl | rfl | rfl | rfl
  · exact ⟨cmpV, ⟨cmpV_turn, fun _ _ => cmpV_eq, fun _ _ _ => cmpV_le, cmpV_one⟩, fun a b ha hb => t15 hn h26 a ha b⟩
  · refine ⟨fun a b => cmpV b a, ⟨fun a b => cmpV_turn b a, fun a b ha hb => (cmpV_eq hb ha).trans ⟨Eq.symm, Eq.symm⟩, fun a b c ha hb hc h1 h2 => cmpV_le hc hb ha h2 h1, fun a b => cmpV_one b a⟩, fun a b ha hb => ?_⟩
    exact t37 (e 62 (by decide) (by decide)) a b _ (t15 hn h26 b hb a)
  · have ex : ∀ v, ∃ h : Int, WfV v → ∃ e, (cfg ext).Ev 82 [A v] (.tup [.int .u32 h, .int .i64 e]) := fun v => by
      by_cases hw : WfV v
      · obtain ⟨h, e, g⟩ := t51 hn h26 h73 v hw
        exact ⟨h, fun _ => ⟨e, g⟩⟩
      · exact ⟨0, fun h => absurd h hw⟩
    refine ⟨lexC fun v => Classical.choose (ex v), lex _, fun a b ha hb => ?_⟩
    obtain ⟨ea, ga⟩ := Classical.choose_spec (ex a) ha
    obtain ⟨eb, gb⟩ := Classical.choose_spec (ex b) hb
    exact t48 (e 79 (by decide) (by decide)) (e 81 (by decide) (by decide)) (e 93 (by decide) (by decide)) (e 80 (by decide) (by decide)) a b _ _ _ (t39 (e 64 (by decide) (by decide)) a _ _ ga) (t39 (e 64 (by decide) (by decide)) b _ _ gb) (t15 hn h26 a ha b)
  · refine ⟨lexC fun v => cntZ v 16 1024, lex _, fun a b ha hb => ?_⟩
    obtain ⟨ea, ga⟩ := t53 hn h26 h73 a ha
    obtain ⟨eb, gb⟩ := t53 hn h26 h73 b hb
    exact t52 (e 83 (by decide) (by decide)) (e 70 (by decide) (by decide)) (e 89 (by decide) (by decide)) (e 80 (by decide) (by decide)) a b _ _ _ (t41 (e 66 (by decide) (by decide)) a _ _ ga) (t41 (e 66 (by decide) (by decide)) b _ _ gb) (t15 hn h26 a ha b)
  · refine ⟨kindC 3 fun v => Classical.choose (t54 hn v.f2), kin 3 _, fun a b ha hb => ?_⟩
    exact t42 (e 67 (by decide) (by decide)) (e 70 (by decide) (by decide)) (e 89 (by decide) (by decide)) (e 80 (by decide) (by decide)) a b _ _ _ (Classical.choose_spec (t54 hn a.f2)) (Classical.choose_spec (t54 hn b.f2)) (t15 hn h26 a ha b)
  · refine ⟨kindC 2 fun v => awy v.f1, kin 2 _, fun a b ha hb => ?_⟩
    rw [← near_is]
    exact t43 hn a b (t15 hn h26 a ha b)
end
end Go.Proofs.YtbekoaalaofloaaGreatDoor.AB
end

section
set_option linter.unusedVariables false
set_option linter.unusedSimpArgs false
open Go Go.Ab Go.Proofs Go.Vl
namespace Go.Proofs.YtbekoaalaofloaaGreatDoor.AB
set_option maxRecDepth 100000
set_option maxHeartbeats 1600000
section
variable {ext : Exts}
theorem t21x (hn : Non ext) (o : Int) (h : o < 0 ∨ o > 5) : (cfg ext).Ev 40 [.int .i64 o] (.tup [.agg [.nilfn], .int .i64 4]) := by
  refine Ev.of (hn 40 (by decide) (by decide)) Tryz.func40 rfl rfl ?_
  conv => whnf
  by_cases h0 : o < 0
  · have g : (decide (o < 0) == false) = false := by simp [h0]
    refine sel_no g ?_
    conv => whnf
    refine sel_no g ?_
    conv => whnf
    refine sel_yes (decide_eq_true h0) ?_
    conv => whnf
  · have g : (decide (o < 0) == false) = true := by simp; omega
    refine sel_yes g ?_
    conv => whnf
    refine sel_yes g ?_
    conv => whnf
    refine sel_no (decide_eq_false h0) ?_
    conv => whnf
    refine sel_yes (decide_eq_true (show o > 5 by omega)) ?_
    conv => whnf
theorem t11x (hn : Non ext) (o : Int) (h : o < 0 ∨ o > 5) (cs : List V) (n : Nat) : (cfg ext).Ev 35 [.int .i64 o, .sl false cs n] (.tup [.agg [.nilfn], .int .i64 4]) := by
  refine Ev.of (hn 35 (by decide) (by decide)) Tryz.func35 rfl rfl ?_
  conv => whnf
  refine ⟨_, t21x hn o h, ?_⟩
  conv => whnf
theorem t5x (hn : Non ext) (o : Int) (h : o < 0 ∨ o > 5) (a b : T) : (cfg ext).Ev 31 [.int .i64 o, A a, A b] (.tup [.int .i64 0, .int .i64 4]) := by
  refine Ev.of (hn 31 (by decide) (by decide)) Tryz.func31 rfl rfl ?_
  conv => whnf
  refine ⟨_, t11x hn o h _ _, ?_⟩
  conv => whnf
end
end Go.Proofs.YtbekoaalaofloaaGreatDoor.AB
end

section
set_option linter.unusedVariables false
set_option linter.unusedSimpArgs false
open Go Go.Ab Go.Proofs Go.Vl
namespace Go.Proofs.YtbekoaalaofloaaGreatDoor.AB
def ext0 : Exts := fun f => match f with
  | 72 => some fun xs => match xs with
    | [.str s, .str t] => some (.int .i64 (Lib.compareBytes s.data.toList t.data.toList))
    | _ => none
  | 69 => some fun xs => match xs with
    | [.str s] => some (.tup [.int .i32 (decGo s).1, .int .i64 (decGo s).2])
    | _ => none
  | _ => none
theorem non0 : Non ext0 := fun f h1 h2 => by
  unfold ext0
  split
  · exact absurd rfl h1
  · exact absurd rfl h2
  · rfl
theorem e26 : E26 ext0 := fun _ _ => Ev.ext rfl rfl
theorem e73 : E73 ext0 := fun _ => Ev.ext rfl rfl
end Go.Proofs.YtbekoaalaofloaaGreatDoor.AB
end

section
set_option linter.unusedVariables false
set_option linter.unusedSimpArgs false
open Go Go.Ab Go.Proofs Go.Vl Go.RowKit
namespace Go.Proofs.YtbekoaalaofloaaGreatDoor.AB
theorem own : ownKnob Tryz.prog.godebug = none := by kernel_rfl
theorem laidOut : laidOutB Tryz.prog = true := by kernel_rfl
def LaidW (w : World) : Prop := Lib.Utf8Tabs 0 1 w
theorem LaidW.below (w w' : World) (h : LaidW w) (hb : Below w.heap.size w w') : LaidW w' := Go.Proofs.Utf8Tabs_below h hb
set_option maxRecDepth 100000 in
/-- the witness's world: the settled one, the two tables holding what their initialisers lay -/
noncomputable def laidWorld (os : Os) : World :=
  let w0 := World.holding Tryz.prog os ⟨#[], #[], []⟩
  let put (h : Array Obj) (g : Nat) (cs : Array Value) : Array Obj := h.modify g fun
    | .cells _ t frozen => .cells cs t frozen
    | o => o
  let h1 := put w0.heap 0 (Lib.firstTab.map fun z => Value.int .u8 z).toArray
  let h2 := put h1 1 ((List.range 16).flatMap fun i => [Value.int .u8 (Lib.accLo i), Value.int .u8 (Lib.accHi i)]).toArray
  { w0 with heap := h2 }
theorem in64_of_wf {n : Int} (h : (Lit.int .i64 n).wf = true) : In64 n := by
  simp only [Lit.wf, Bool.and_eq_true, decide_eq_true_eq] at h
  have e1 : IntKind.i64.min = -9223372036854775808 := by decide +kernel
  have e2 : IntKind.i64.max = 9223372036854775807 := by decide +kernel
  rw [e1, e2] at h
  exact h
theorem list4 {α : Type} {l : List α} (h : l.length = 4) : ∃ a b c d, l = [a, b, c, d] := by
  match l, h with
  | [a, b, c, d], _ => exact ⟨a, b, c, d, rfl⟩
theorem pick_all {α β : Type} {R : α → β → Prop} : ∀ {l : List β}, (∀ p ∈ l, ∃ x, R x p) → ∃ xs : List α, xs.length = l.length ∧ ∀ (i : Nat) x p, xs[i]? = some x → l[i]? = some p → R x p
  | [], _ => ⟨[], rfl, fun i x p h => by simp at h⟩
  | b :: l, h => by
    obtain ⟨x, hx⟩ := h b List.mem_cons_self
    obtain ⟨xs, h1, h2⟩ := pick_all (l := l) fun p hp => h p (List.mem_cons_of_mem _ hp)
    refine ⟨x :: xs, by simp [h1], fun i y p hy hp => ?_⟩
    cases i with
    | zero => simp at hy hp; subst hy hp; exact hx
    | succ i => exact h2 i y p (by simpa using hy) (by simpa using hp)
theorem rows_enc {parts : List (List V)} (h : ∀ p ∈ parts, ∃ v : T, WfV v ∧ p = enc v) : ∃ l : List T, l.length = parts.length ∧ (∀ v ∈ l, WfV v) ∧ parts.flatten = encL l := by
  induction parts with
  | nil => exact ⟨[], rfl, fun v hv => (by cases hv), by simp only [encL]; rfl⟩
  | cons p ps ih =>
    obtain ⟨v, hv, rfl⟩ := h p List.mem_cons_self
    obtain ⟨l, h1, h2, h3⟩ := ih fun q hq => h q (List.mem_cons_of_mem _ hq)
    refine ⟨v :: l, by simp [h1], fun x hx => ?_, by simp only [List.flatten_cons, h3, encL]⟩
    rcases List.mem_cons.1 hx with rfl | hx
    · exact hv
    · exact h2 x hx
set_option maxRecDepth 100000
/-- what reads as a value is one -/
theorem opens_V : ∀ N, Opens Tryz.prog N 33 (fun vs => ∃ v : T, WfV v ∧ vs = enc v) := by
  intro N
  induction N with
  | zero => exact ⟨fun e w base spare held fuel hf => by omega⟩
  | succ N ih =>
    have hL : Opens Tryz.prog N 22 (fun vs => ∃ parts : List (List V), vs = [.sl false parts.flatten parts.length] ∧ parts.length ≤ 9223372036854775807 ∧ ∀ p ∈ parts, ∃ v : T, WfV v ∧ p = enc v) := by
      cases N with
      | zero => exact ⟨fun e w base spare held fuel hf => by omega⟩
      | succ M =>
        refine opens_slice (m := 4) Tryz.underlying22 (by kernel_rfl) (by decide) (fun vs => ?_) (Opens.le (Nat.le_succ M) ih)
        rintro ⟨v, _, rfl⟩
        rw [enc_eq]; rfl
    refine Opens.mono (opens_struct (Rf := fun j vs => match j with
      | 0 => ∃ n : Int, vs = [.int .i64 n] ∧ (Lit.int .i64 n).wf = true
      | 1 => ∃ n : Int, vs = [.int .i64 n] ∧ (Lit.int .i64 n).wf = true
      | 2 => ∃ s : ByteArray, vs = [.str s] ∧ s.size ≤ 9223372036854775807
      | _ => ∃ parts : List (List V), vs = [.sl false parts.flatten parts.length] ∧ parts.length ≤ 9223372036854775807 ∧ ∀ p ∈ parts, ∃ v : T, WfV v ∧ p = enc v) Tryz.underlying33 (by kernel_rfl) ?_) ?_
    · intro j f hf
      match j, hf with
      | 0, hf => cases hf; exact opens_int Tryz.underlying3
      | 1, hf => cases hf; exact opens_int Tryz.underlying2
      | 2, hf => cases hf; exact opens_string Tryz.underlying9
      | 3, hf => cases hf; exact hL
      | j + 4, hf => simp at hf
    · rintro vs ⟨parts, hp, rfl, hR⟩
      obtain ⟨p0, p1, p2, p3, rfl⟩ := list4 (show parts.length = 4 from hp)
      obtain ⟨k, rfl, wk⟩ := hR 0 p0 rfl
      obtain ⟨n, rfl, wn⟩ := hR 1 p1 rfl
      obtain ⟨t, rfl, wt⟩ := hR 2 p2 rfl
      obtain ⟨rows, rfl, wl, hrows⟩ := hR 3 p3 rfl
      obtain ⟨l, h1, h2, h3⟩ := rows_enc hrows
      refine ⟨⟨k, n, t, l⟩, ?_, ?_⟩
      · simp only [WfV]
        exact ⟨in64_of_wf wk, in64_of_wf wn, wt, by omega, wfL_of l h2⟩
      · simp only [enc, h1, h3, List.flatten_cons, List.flatten_nil, List.append_nil, List.cons_append, List.nil_append]
theorem opens_L (N : Nat) : Opens Tryz.prog N 22 (fun vs => ∃ l : List T, vs = [.sl false (encL l) l.length] ∧ l.length ≤ 9223372036854775807 ∧ ∀ v ∈ l, WfV v) := by
  cases N with
  | zero => exact ⟨fun e w base spare held fuel hf => by omega⟩
  | succ M =>
    refine Opens.mono (opens_slice (m := 4) Tryz.underlying22 (by kernel_rfl) (by decide) (fun vs => ?_) (opens_V M)) ?_
    · rintro ⟨v, _, rfl⟩
      rw [enc_eq]; rfl
    · rintro vs ⟨parts, rfl, hl, hp⟩
      obtain ⟨l, h1, h2, h3⟩ := rows_enc hp
      exact ⟨l, by rw [h3, h1], by omega, h2⟩
end Go.Proofs.YtbekoaalaofloaaGreatDoor.AB
end

section
set_option linter.unusedVariables false
set_option linter.unusedSimpArgs false
open Go Go.Ab Go.Proofs Go.Vl Go.RowKit
namespace Go.Proofs.YtbekoaalaofloaaGreatDoor.AB
set_option maxRecDepth 100000
theorem mixed : Tryz.prog.follows .mixedOrders = true := by kernel_rfl
theorem okf : OKF Tryz.prog okF := OKF.of 110 (fun f h => by
  unfold okF at h
  split at h <;> first | (cases h; done) | (have : f + 1 ≤ 110 := Nat.le_of_ble_eq_true h; omega)) (by kernel_rfl)
theorem ext_ok : EXT Tryz.prog LaidW ext0 := by
  intro f g xs r hf hg
  unfold ext0 at hf
  split at hf
  · cases hf
    dsimp only at hg
    split at hg <;> cases hg
    rename_i s t
    refine ⟨⟨_, Tryz.func72, rfl, by decide⟩, fun S w vs hL hS hv => ?_⟩
    obtain ⟨x, ys, hvs, rfl, y, zs, rfl, rfl, h3⟩ := hv
    simp only [VRs] at h3
    subst h3
    obtain rfl : vs = #[.string s, .string t] := by cases vs; simp_all
    refine (Tryz.strings_Compare s t w).mono ?_
    rintro e w' ⟨rfl, rfl⟩
    exact ⟨_, S, rfl, Below.refl _ _, fun _ _ h => h, fun r o h => ⟨hS r o h, fun _ => h⟩, rfl⟩
  · cases hf
    dsimp only at hg
    split at hg <;> cases hg
    rename_i s
    refine ⟨⟨_, Tryz.func69, rfl, by decide⟩, fun S w vs hL hS hv => ?_⟩
    obtain ⟨x, ys, hvs, rfl, h3⟩ := hv
    simp only [VRs] at h3
    subst h3
    obtain rfl : vs = #[.string s] := by cases vs; simp_all
    refine (Tryz.utf8_DecodeRuneInString s w hL).mono ?_
    rintro e w' ⟨rfl, hb⟩
    refine ⟨_, S, rfl, hb, fun _ _ h => h, fun r o h => ⟨Nat.lt_of_lt_of_le (hS r o h) hb.size, fun _ => h⟩, ?_⟩
    exact ⟨_, rfl, ⟨_, _, rfl, rfl, ⟨_, _, rfl, rfl, rfl⟩⟩⟩
  · cases hf
theorem extR_ok : EXTR Tryz.prog LaidW okF extR := by
  intro f g xs hp r hp' _ hf hg
  unfold extR at hf
  cases hf
/-- what the evaluator says of a law, the machine does -/
theorem ev_calls {f : Nat} {vs : List V} (h : (cfg ext0).Ev f vs (.bool true)) (W : World) (hT : LaidW W) (xs : Array Value) (hv : VRs (stab (inW W)) W vs xs.toList) :
    Calls Tryz.prog f xs W fun e w' => e = .returned (.bool true) ∧ Below W.heap.size W w' := by
  refine (Ev.pure (C := cfg ext0) LaidW.below mixed okf ext_ok extR_ok h (inW W) W xs hT (fun r o h => h) hv).mono ?_
  rintro e w' ⟨x, S', rfl, hb, _, _, hx⟩
  exact ⟨by rw [show x = .bool true from hx], hb⟩
end Go.Proofs.YtbekoaalaofloaaGreatDoor.AB
end

section
set_option linter.unusedVariables false
set_option linter.unusedSimpArgs false
open Go Go.Ab Go.Proofs Go.Vl Go.RowKit
namespace Go.Proofs.YtbekoaalaofloaaGreatDoor.AB
set_option maxRecDepth 100000
theorem rows_bool {parts : List (List V)} (h : ∀ p ∈ parts, ∃ b : Bool, p = [V.bool b]) : ∃ l : List Bool, l.length = parts.length ∧ parts.flatten = l.map V.bool := by
  induction parts with
  | nil => exact ⟨[], rfl, rfl⟩
  | cons p ps ih =>
    obtain ⟨b, rfl⟩ := h p List.mem_cons_self
    obtain ⟨l, h1, h3⟩ := ih fun q hq => h q (List.mem_cons_of_mem _ hq)
    exact ⟨b :: l, by simp [h1], by simp only [List.flatten_cons, h3, List.map_cons, List.cons_append, List.nil_append]⟩
theorem opens_LB (N : Nat) : Opens Tryz.prog N 23 (fun vs => ∃ l : List Bool, vs = [.sl false (l.map V.bool) l.length] ∧ l.length ≤ 9223372036854775807 ∧ True) := by
  cases N with
  | zero => exact ⟨fun e w base spare held fuel hf => by omega⟩
  | succ M =>
    refine Opens.mono (opens_slice (m := 1) Tryz.underlying23 (by kernel_rfl) (by decide) (fun vs => ?_) (opens_bool (N := M) Tryz.underlying4)) ?_
    · rintro ⟨b, rfl⟩; rfl
    · rintro vs ⟨parts, rfl, hl, hp⟩
      obtain ⟨l, h1, h3⟩ := rows_bool hp
      exact ⟨l, by rw [h3, h1], by omega, trivial⟩
end Go.Proofs.YtbekoaalaofloaaGreatDoor.AB
end

section
set_option linter.unusedVariables false
set_option linter.unusedSimpArgs false
open Go Go.Ab Go.Proofs Go.Vl
namespace Go.Proofs.YtbekoaalaofloaaGreatDoor.AB
set_option maxRecDepth 100000
set_option maxHeartbeats 1600000
section
variable {ext : Exts}
def U32 (r : Int) : Prop := 0 ≤ r ∧ r < 4294967296
theorem U32.wrap (x : Int) : U32 (IntKind.u32.wrap x) := by unfold U32; rw [IntKind.wrap_u32]; omega
theorem qTurn (hn : Non ext) (x y : Int) (hy : y = 15 ∨ y = 13) : ∃ r, (cfg ext).Ev 109 [.int .u32 x, .int .i64 y] (.int .u32 r) ∧ (cfg ext).Ev 92 [.int .u32 x, .int .u64 y] (.int .u32 r) := by
  have key : ∃ r, (cfg ext).Ev 109 [.int .u32 x, .int .i64 y] r ∧ (∃ c, r = .int .u32 c) ∧ (cfg ext).Ev 92 [.int .u32 x, .int .u64 y] r := by
    refine Ev.ofE (hn 109 (by decide) (by decide)) Tryz.func109 rfl rfl ?_
    rcases hy with rfl | rfl
    · conv => whnf
      refine ⟨⟨_, rfl⟩, ?_⟩
      refine Ev.of (hn 92 (by decide) (by decide)) Tryz.func92 rfl rfl ?_
      conv => whnf
      try exact vi rfl
    · conv => whnf
      refine ⟨⟨_, rfl⟩, ?_⟩
      refine Ev.of (hn 92 (by decide) (by decide)) Tryz.func92 rfl rfl ?_
      conv => whnf
      try exact vi rfl
  obtain ⟨r, h, ⟨c, rfl⟩, g⟩ := key
  exact ⟨c, h, g⟩
theorem qMixK (hn : Non ext) (x : Int) : ∃ r, (cfg ext).Ev 107 [.int .u32 x] (.int .u32 r) ∧ (cfg ext).Ev 76 [.int .u32 x] (.int .u32 r) := by
  have key : ∃ r, (cfg ext).Ev 107 [.int .u32 x] r ∧ (∃ c, r = .int .u32 c) ∧ (cfg ext).Ev 76 [.int .u32 x] r := by
    refine Ev.ofE (hn 107 (by decide) (by decide)) Tryz.func107 rfl rfl ?_
    conv => whnf
    obtain ⟨r0, h0, g0⟩ := qTurn hn _ _ (.inl rfl)
    refine ⟨_, h0, ?_⟩
    conv => whnf
    refine ⟨⟨_, rfl⟩, ?_⟩
    refine Ev.of (hn 76 (by decide) (by decide)) Tryz.func76 rfl rfl ?_
    conv => whnf
    refine ⟨_, g0, ?_⟩
    conv => whnf
    try exact vi rfl
  obtain ⟨r, h, ⟨c, rfl⟩, g⟩ := key
  exact ⟨c, h, g⟩
theorem qMixH (hn : Non ext) (x y : Int) : ∃ r, (cfg ext).Ev 106 [.int .u32 x, .int .u32 y] (.int .u32 r) ∧ (cfg ext).Ev 75 [.int .u32 x, .int .u32 y] (.int .u32 r) := by
  have key : ∃ r, (cfg ext).Ev 106 [.int .u32 x, .int .u32 y] r ∧ (∃ c, r = .int .u32 c) ∧ (cfg ext).Ev 75 [.int .u32 x, .int .u32 y] r := by
    refine Ev.ofE (hn 106 (by decide) (by decide)) Tryz.func106 rfl rfl ?_
    conv => whnf
    obtain ⟨r0, h0, g0⟩ := qTurn hn _ _ (.inr rfl)
    refine ⟨_, h0, ?_⟩
    conv => whnf
    refine ⟨⟨_, rfl⟩, ?_⟩
    refine Ev.of (hn 75 (by decide) (by decide)) Tryz.func75 rfl rfl ?_
    conv => whnf
    refine ⟨_, g0, ?_⟩
    conv => whnf
    try exact vi rfl
  obtain ⟨r, h, ⟨c, rfl⟩, g⟩ := key
  exact ⟨c, h, g⟩
theorem qFin (hn : Non ext) (x y : Int) : ∃ r, (cfg ext).Ev 105 [.int .u32 x, .int .u32 y] (.int .u32 r) ∧ (cfg ext).Ev 74 [.int .u32 x, .int .u32 y] (.int .u32 r) ∧ U32 r := by
  have key : ∃ r, (cfg ext).Ev 105 [.int .u32 x, .int .u32 y] r ∧ (∃ c, r = .int .u32 c ∧ U32 c) ∧ (cfg ext).Ev 74 [.int .u32 x, .int .u32 y] r := by
    refine Ev.ofE (hn 105 (by decide) (by decide)) Tryz.func105 rfl rfl ?_
    conv => whnf
    refine ⟨⟨_, rfl, (by first | assumption | exact U32.wrap _ | exact ⟨by decide, by decide⟩)⟩, ?_⟩
    refine Ev.of (hn 74 (by decide) (by decide)) Tryz.func74 rfl rfl ?_
    conv => whnf
    try exact vi rfl
  obtain ⟨r, h, ⟨c, rfl, u⟩, g⟩ := key
  exact ⟨c, h, g, u⟩
theorem qColl (hn : Non ext) (x y : Int) : ∃ r, (cfg ext).Ev 108 [.int .u32 x, .int .i64 y] (.int .u32 r) ∧ (cfg ext).Ev 78 [.int .u32 x, .int .i64 y] (.int .u32 r) ∧ U32 r := by
  have key : ∃ r, (cfg ext).Ev 108 [.int .u32 x, .int .i64 y] r ∧ (∃ c, r = .int .u32 c ∧ U32 c) ∧ (cfg ext).Ev 78 [.int .u32 x, .int .i64 y] r := by
    refine Ev.ofE (hn 108 (by decide) (by decide)) Tryz.func108 rfl rfl ?_
    conv => whnf
    obtain ⟨r0, h0, g0⟩ := qMixK hn _
    refine ⟨_, h0, ?_⟩
    conv => whnf
    obtain ⟨r1, h1, g1⟩ := qMixH hn _ _
    refine ⟨_, h1, ?_⟩
    conv => whnf
    obtain ⟨r2, h2, g2, u2⟩ := qFin hn _ _
    refine ⟨_, h2, ?_⟩
    conv => whnf
    refine ⟨⟨_, rfl, (by first | assumption | exact U32.wrap _ | exact ⟨by decide, by decide⟩)⟩, ?_⟩
    refine Ev.of (hn 78 (by decide) (by decide)) Tryz.func78 rfl rfl ?_
    conv => whnf
    refine ⟨_, g0, ?_⟩
    conv => whnf
    refine ⟨_, g1, ?_⟩
    conv => whnf
    refine ⟨_, g2, ?_⟩
    conv => whnf
    try exact vi rfl
  obtain ⟨r, h, ⟨c, rfl, u⟩, g⟩ := key
  exact ⟨c, h, g, u⟩
theorem shr32 (x : Int) : IntKind.u32.wrap ((IntKind.u64.wrap x).fdiv (2 ^ min (Int.toNat 32) IntKind.u64.bits)) = IntKind.u32.wrap (x.fdiv (2 ^ min (Int.toNat 32) IntKind.i64.bits)) := by
  rw [show min (Int.toNat 32) IntKind.u64.bits = 32 from rfl, show min (Int.toNat 32) IntKind.i64.bits = 32 from rfl]
  rw [Int.fdiv_eq_ediv_of_nonneg _ (by decide), Int.fdiv_eq_ediv_of_nonneg _ (by decide)]
  rw [IntKind.wrap_u32, IntKind.wrap_u64, IntKind.wrap_u32]
  omega
theorem qLong (hn : Non ext) (x : Int) : ∃ r, (cfg ext).Ev 97 [.int .i64 x] (.int .u32 r) ∧ (cfg ext).Ev 54 [.int .i64 x] (.int .u32 r) ∧ U32 r := by
  have key : ∃ r, (cfg ext).Ev 97 [.int .i64 x] r ∧ (∃ c, r = .int .u32 c ∧ U32 c) ∧ (cfg ext).Ev 54 [.int .i64 x] r := by
    refine Ev.ofE (hn 97 (by decide) (by decide)) Tryz.func97 rfl rfl ?_
    conv => whnf
    refine sel_split (fun h => ?_) (fun h => ?_)
    · conv => whnf
      refine ⟨⟨_, rfl, (by first | assumption | exact U32.wrap _ | exact ⟨by decide, by decide⟩)⟩, ?_⟩
      refine Ev.of (hn 54 (by decide) (by decide)) Tryz.func54 rfl rfl ?_
      conv => whnf
      refine sel_yes h ?_
      conv => whnf
      try exact vi rfl
    conv => whnf
    obtain ⟨r0, h0, g0⟩ := qMixK hn _
    refine ⟨_, h0, ?_⟩
    conv => whnf
    obtain ⟨r1, h1, g1⟩ := qMixH hn _ _
    refine ⟨_, h1, ?_⟩
    conv => whnf
    obtain ⟨r2, h2, g2⟩ := qMixK hn _
    refine ⟨_, h2, ?_⟩
    conv => whnf
    obtain ⟨r3, h3, g3⟩ := qMixH hn _ _
    refine ⟨_, h3, ?_⟩
    conv => whnf
    obtain ⟨r4, h4, g4, u4⟩ := qFin hn _ _
    refine ⟨_, h4, ?_⟩
    conv => whnf
    refine ⟨⟨_, rfl, (by first | assumption | exact U32.wrap _ | exact ⟨by decide, by decide⟩)⟩, ?_⟩
    refine Ev.of (hn 54 (by decide) (by decide)) Tryz.func54 rfl rfl ?_
    conv => whnf
    refine sel_no h ?_
    conv => whnf
    refine ⟨_, g0, ?_⟩
    conv => whnf
    refine ⟨_, g1, ?_⟩
    conv => whnf
    rw [shr32] at g2
    refine ⟨_, g2, ?_⟩
    conv => whnf
    refine ⟨_, g3, ?_⟩
    conv => whnf
    refine ⟨_, g4, ?_⟩
    conv => whnf
    try exact vi rfl
  obtain ⟨r, h, ⟨c, rfl, u⟩, g⟩ := key
  exact ⟨c, h, g, u⟩
theorem qInt (hn : Non ext) (x : Int) : ∃ r, (cfg ext).Ev 98 [.int .i32 x] (.int .u32 r) ∧ (cfg ext).Ev 55 [.int .i32 x] (.int .u32 r) ∧ U32 r := by
  have key : ∃ r, (cfg ext).Ev 98 [.int .i32 x] r ∧ (∃ c, r = .int .u32 c ∧ U32 c) ∧ (cfg ext).Ev 55 [.int .i32 x] r := by
    refine Ev.ofE (hn 98 (by decide) (by decide)) Tryz.func98 rfl rfl ?_
    conv => whnf
    refine sel_split (fun h => ?_) (fun h => ?_)
    · conv => whnf
      refine ⟨⟨_, rfl, (by first | assumption | exact U32.wrap _ | exact ⟨by decide, by decide⟩)⟩, ?_⟩
      refine Ev.of (hn 55 (by decide) (by decide)) Tryz.func55 rfl rfl ?_
      conv => whnf
      refine sel_yes h ?_
      conv => whnf
      try exact vi rfl
    conv => whnf
    obtain ⟨r0, h0, g0⟩ := qMixK hn _
    refine ⟨_, h0, ?_⟩
    conv => whnf
    obtain ⟨r1, h1, g1⟩ := qMixH hn _ _
    refine ⟨_, h1, ?_⟩
    conv => whnf
    obtain ⟨r2, h2, g2, u2⟩ := qFin hn _ _
    refine ⟨_, h2, ?_⟩
    conv => whnf
    refine ⟨⟨_, rfl, (by first | assumption | exact U32.wrap _ | exact ⟨by decide, by decide⟩)⟩, ?_⟩
    refine Ev.of (hn 55 (by decide) (by decide)) Tryz.func55 rfl rfl ?_
    conv => whnf
    refine sel_no h ?_
    conv => whnf
    refine ⟨_, g0, ?_⟩
    conv => whnf
    refine ⟨_, g1, ?_⟩
    conv => whnf
    refine ⟨_, g2, ?_⟩
    conv => whnf
    try exact vi rfl
  obtain ⟨r, h, ⟨c, rfl, u⟩, g⟩ := key
  exact ⟨c, h, g, u⟩
def stJ (h u : Int) : Int := IntKind.i32.wrap (IntKind.i32.wrap (31 * h) + IntKind.i32.wrap u)
def stO (h u : Int) : Int := IntKind.u32.wrap (IntKind.u32.wrap (31 * h) + u)
def stU (h u : Int) : Int := IntKind.u32.wrap (h + u)
theorem lJaP (l : List Int) (hl : l.length ≤ 9223372036854775806) (Q : Ex → St → Prop) (d : Nat) :
    ∀ (i : Nat) (c : Int) (z : St), l.length - i = d → i ≤ l.length → Has z.t [(8, .int .i64 i), (7, .int .i64 l.length), (6, I .u16 l), (3, .int .i32 c), (0, I .u16 l)] → z.hp.n = 5 →
      (∀ z', Has z'.t [(3, .int .i32 ((l.drop i).foldl stJ c)), (0, I .u16 l)] → z'.hp.n = 6 → Q (.exit 0) z') → Go.Ab.Loop (cfg ext) (lpOf Tryz.f99) 5 z Q := by
  induction d with
  | zero =>
    intro i c z hd hi hz hn hq
    have e0 : l.drop i = [] := List.drop_eq_nil_of_le (by omega)
    rw [e0] at hq
    have g : decide ((i : Int) < (l.length : Int)) = false := decide_eq_false (by omega)
    rw [St.knows _ _ hz hn]
    refine Loop.round ?_
    conv => whnf
    refine sel_no g ?_
    conv => whnf
    exact hq _ ⟨rfl, rfl, trivial⟩ rfl
  | succ d ih =>
    intro i c z hd hi hz hn hq
    have hlt : i < l.length := by omega
    have g : decide ((i : Int) < (l.length : Int)) = true := decide_eq_true (by omega)
    rw [List.drop_eq_getElem_cons hlt, List.foldl_cons] at hq
    have ew : IntKind.i64.wrap ((i : Int) + 1) = ((i + 1 : Nat) : Int) := wrap_add1 (by omega)
    rw [St.knows _ _ hz hn]
    refine Loop.round ?_
    conv => whnf
    refine sel_yes g ?_
    conv => whnf
    refine ⟨⟨by omega, by omega⟩, ?_⟩
    conv => whnf
    refine ldI (i := i) hlt ?_
    conv => whnf
    refine ih (i + 1) (stJ c l[i]) _ (by omega) (by omega) ⟨?_, rfl, rfl, ?_, rfl, trivial⟩ rfl hq
    · conv => lhs; whnf
      exact vi ew
    · conv => lhs; whnf
      try exact vi rfl
theorem lJaR (l : List Int) (hl : l.length ≤ 9223372036854775806) (Q : Ex → St → Prop) (d : Nat) :
    ∀ (i : Nat) (c : Int) (z : St), l.length - i = d → i ≤ l.length → Has z.t [(8, .int .i64 i), (7, .int .i64 l.length), (6, I .u16 l), (3, .int .i32 c), (0, I .u16 l)] → z.hp.n = 5 →
      (∀ z', Has z'.t [(3, .int .i32 ((l.drop i).foldl stJ c)), (0, I .u16 l)] → z'.hp.n = 6 → Q (.exit 0) z') → Go.Ab.Loop (cfg ext) (lpOf Tryz.f56) 5 z Q := by
  induction d with
  | zero =>
    intro i c z hd hi hz hn hq
    have e0 : l.drop i = [] := List.drop_eq_nil_of_le (by omega)
    rw [e0] at hq
    have g : decide ((i : Int) < (l.length : Int)) = false := decide_eq_false (by omega)
    rw [St.knows _ _ hz hn]
    refine Loop.round ?_
    conv => whnf
    refine sel_no g ?_
    conv => whnf
    exact hq _ ⟨rfl, rfl, trivial⟩ rfl
  | succ d ih =>
    intro i c z hd hi hz hn hq
    have hlt : i < l.length := by omega
    have g : decide ((i : Int) < (l.length : Int)) = true := decide_eq_true (by omega)
    rw [List.drop_eq_getElem_cons hlt, List.foldl_cons] at hq
    have ew : IntKind.i64.wrap ((i : Int) + 1) = ((i + 1 : Nat) : Int) := wrap_add1 (by omega)
    rw [St.knows _ _ hz hn]
    refine Loop.round ?_
    conv => whnf
    refine sel_yes g ?_
    conv => whnf
    refine ⟨⟨by omega, by omega⟩, ?_⟩
    conv => whnf
    refine ldI (i := i) hlt ?_
    conv => whnf
    refine ih (i + 1) (stJ c l[i]) _ (by omega) (by omega) ⟨?_, rfl, rfl, ?_, rfl, trivial⟩ rfl hq
    · conv => lhs; whnf
      exact vi ew
    · conv => lhs; whnf
      try exact vi rfl
theorem qJava (hn : Non ext) (l : List Int) (hl : l.length ≤ 9223372036854775806) : ∃ r, (cfg ext).Ev 99 [I .u16 l] (.int .i32 r) ∧ (cfg ext).Ev 56 [I .u16 l] (.int .i32 r) := by
  have key : ∃ r, (cfg ext).Ev 99 [I .u16 l] r ∧ (∃ c, r = .int .i32 c) ∧ (cfg ext).Ev 56 [I .u16 l] r := by
    refine Ev.ofE (hn 99 (by decide) (by decide)) Tryz.func99 rfl rfl ?_
    conv => whnf
    refine lJaP l hl _ l.length 0 0 _ (by omega) (by omega) ⟨rfl, rfl, rfl, rfl, rfl, trivial⟩ rfl (fun z h1 h2 => ?_)
    rw [St.knows _ _ h1 h2]
    conv => whnf
    refine ⟨⟨_, rfl⟩, ?_⟩
    refine Ev.of (hn 56 (by decide) (by decide)) Tryz.func56 rfl rfl ?_
    conv => whnf
    refine lJaR l hl _ l.length 0 0 _ (by omega) (by omega) ⟨rfl, rfl, rfl, rfl, rfl, trivial⟩ rfl (fun z h1 h2 => ?_)
    rw [St.knows _ _ h1 h2]
    conv => whnf
    try exact vi rfl
  obtain ⟨r, h, ⟨c, rfl⟩, g⟩ := key
  exact ⟨c, h, g⟩
theorem lOrP (l : List Int) (hl : l.length ≤ 9223372036854775806) (Q : Ex → St → Prop) (d : Nat) :
    ∀ (i : Nat) (c : Int) (z : St), l.length - i = d → i ≤ l.length → Has z.t [(8, .int .i64 i), (7, .int .i64 l.length), (6, I .u32 l), (3, .int .u32 c), (0, I .u32 l)] → z.hp.n = 5 →
      (∀ z', Has z'.t [(3, .int .u32 ((l.drop i).foldl stO c)), (0, I .u32 l)] → z'.hp.n = 6 → Q (.exit 0) z') → Go.Ab.Loop (cfg ext) (lpOf Tryz.f101) 5 z Q := by
  induction d with
  | zero =>
    intro i c z hd hi hz hn hq
    have e0 : l.drop i = [] := List.drop_eq_nil_of_le (by omega)
    rw [e0] at hq
    have g : decide ((i : Int) < (l.length : Int)) = false := decide_eq_false (by omega)
    rw [St.knows _ _ hz hn]
    refine Loop.round ?_
    conv => whnf
    refine sel_no g ?_
    conv => whnf
    exact hq _ ⟨rfl, rfl, trivial⟩ rfl
  | succ d ih =>
    intro i c z hd hi hz hn hq
    have hlt : i < l.length := by omega
    have g : decide ((i : Int) < (l.length : Int)) = true := decide_eq_true (by omega)
    rw [List.drop_eq_getElem_cons hlt, List.foldl_cons] at hq
    have ew : IntKind.i64.wrap ((i : Int) + 1) = ((i + 1 : Nat) : Int) := wrap_add1 (by omega)
    rw [St.knows _ _ hz hn]
    refine Loop.round ?_
    conv => whnf
    refine sel_yes g ?_
    conv => whnf
    refine ⟨⟨by omega, by omega⟩, ?_⟩
    conv => whnf
    refine ldI (i := i) hlt ?_
    conv => whnf
    refine ih (i + 1) (stO c l[i]) _ (by omega) (by omega) ⟨?_, rfl, rfl, ?_, rfl, trivial⟩ rfl hq
    · conv => lhs; whnf
      exact vi ew
    · conv => lhs; whnf
      try exact vi rfl
theorem lOrR (l : List Int) (hl : l.length ≤ 9223372036854775806) (Q : Ex → St → Prop) (d : Nat) :
    ∀ (i : Nat) (c : Int) (z : St), l.length - i = d → i ≤ l.length → Has z.t [(8, .int .i64 i), (7, .int .i64 l.length), (6, I .u32 l), (3, .int .u32 c), (0, I .u32 l)] → z.hp.n = 5 →
      (∀ z', Has z'.t [(3, .int .u32 ((l.drop i).foldl stO c)), (0, I .u32 l)] → z'.hp.n = 6 → Q (.exit 0) z') → Go.Ab.Loop (cfg ext) (lpOf Tryz.f58) 5 z Q := by
  induction d with
  | zero =>
    intro i c z hd hi hz hn hq
    have e0 : l.drop i = [] := List.drop_eq_nil_of_le (by omega)
    rw [e0] at hq
    have g : decide ((i : Int) < (l.length : Int)) = false := decide_eq_false (by omega)
    rw [St.knows _ _ hz hn]
    refine Loop.round ?_
    conv => whnf
    refine sel_no g ?_
    conv => whnf
    exact hq _ ⟨rfl, rfl, trivial⟩ rfl
  | succ d ih =>
    intro i c z hd hi hz hn hq
    have hlt : i < l.length := by omega
    have g : decide ((i : Int) < (l.length : Int)) = true := decide_eq_true (by omega)
    rw [List.drop_eq_getElem_cons hlt, List.foldl_cons] at hq
    have ew : IntKind.i64.wrap ((i : Int) + 1) = ((i + 1 : Nat) : Int) := wrap_add1 (by omega)
    rw [St.knows _ _ hz hn]
    refine Loop.round ?_
    conv => whnf
    refine sel_yes g ?_
    conv => whnf
    refine ⟨⟨by omega, by omega⟩, ?_⟩
    conv => whnf
    refine ldI (i := i) hlt ?_
    conv => whnf
    refine ih (i + 1) (stO c l[i]) _ (by omega) (by omega) ⟨?_, rfl, rfl, ?_, rfl, trivial⟩ rfl hq
    · conv => lhs; whnf
      exact vi ew
    · conv => lhs; whnf
      try exact vi rfl
theorem qOrdered (hn : Non ext) (l : List Int) (hl : l.length ≤ 9223372036854775806) : ∃ r, (cfg ext).Ev 101 [I .u32 l] (.int .u32 r) ∧ (cfg ext).Ev 58 [I .u32 l] (.int .u32 r) ∧ U32 r := by
  have key : ∃ r, (cfg ext).Ev 101 [I .u32 l] r ∧ (∃ c, r = .int .u32 c ∧ U32 c) ∧ (cfg ext).Ev 58 [I .u32 l] r := by
    refine Ev.ofE (hn 101 (by decide) (by decide)) Tryz.func101 rfl rfl ?_
    conv => whnf
    refine lOrP l hl _ l.length 0 1 _ (by omega) (by omega) ⟨rfl, rfl, rfl, rfl, rfl, trivial⟩ rfl (fun z h1 h2 => ?_)
    rw [St.knows _ _ h1 h2]
    conv => whnf
    obtain ⟨r1, g1, g2, u1⟩ := qColl hn (List.foldl stO 1 (List.drop 0 l)) l.length
    refine ⟨_, g1, ?_⟩
    conv => whnf
    refine ⟨⟨_, rfl, u1⟩, ?_⟩
    refine Ev.of (hn 58 (by decide) (by decide)) Tryz.func58 rfl rfl ?_
    conv => whnf
    refine lOrR l hl _ l.length 0 1 _ (by omega) (by omega) ⟨rfl, rfl, rfl, rfl, rfl, trivial⟩ rfl (fun z h1 h2 => ?_)
    rw [St.knows _ _ h1 h2]
    conv => whnf
    refine ⟨_, g2, ?_⟩
    conv => whnf
    try exact vi rfl
  obtain ⟨r, h, ⟨c, rfl, u⟩, g⟩ := key
  exact ⟨c, h, g, u⟩
theorem lUnP (l : List Int) (hl : l.length ≤ 9223372036854775806) (Q : Ex → St → Prop) (d : Nat) :
    ∀ (i : Nat) (c : Int) (z : St), l.length - i = d → i ≤ l.length → Has z.t [(8, .int .i64 i), (7, .int .i64 l.length), (6, I .u32 l), (3, .int .u32 c), (0, I .u32 l)] → z.hp.n = 5 →
      (∀ z', Has z'.t [(3, .int .u32 ((l.drop i).foldl stU c)), (0, I .u32 l)] → z'.hp.n = 6 → Q (.exit 0) z') → Go.Ab.Loop (cfg ext) (lpOf Tryz.f103) 5 z Q := by
  induction d with
  | zero =>
    intro i c z hd hi hz hn hq
    have e0 : l.drop i = [] := List.drop_eq_nil_of_le (by omega)
    rw [e0] at hq
    have g : decide ((i : Int) < (l.length : Int)) = false := decide_eq_false (by omega)
    rw [St.knows _ _ hz hn]
    refine Loop.round ?_
    conv => whnf
    refine sel_no g ?_
    conv => whnf
    exact hq _ ⟨rfl, rfl, trivial⟩ rfl
  | succ d ih =>
    intro i c z hd hi hz hn hq
    have hlt : i < l.length := by omega
    have g : decide ((i : Int) < (l.length : Int)) = true := decide_eq_true (by omega)
    rw [List.drop_eq_getElem_cons hlt, List.foldl_cons] at hq
    have ew : IntKind.i64.wrap ((i : Int) + 1) = ((i + 1 : Nat) : Int) := wrap_add1 (by omega)
    rw [St.knows _ _ hz hn]
    refine Loop.round ?_
    conv => whnf
    refine sel_yes g ?_
    conv => whnf
    refine ⟨⟨by omega, by omega⟩, ?_⟩
    conv => whnf
    refine ldI (i := i) hlt ?_
    conv => whnf
    refine ih (i + 1) (stU c l[i]) _ (by omega) (by omega) ⟨?_, rfl, rfl, ?_, rfl, trivial⟩ rfl hq
    · conv => lhs; whnf
      exact vi ew
    · conv => lhs; whnf
      try exact vi rfl
theorem lUnR (l : List Int) (hl : l.length ≤ 9223372036854775806) (Q : Ex → St → Prop) (d : Nat) :
    ∀ (i : Nat) (c : Int) (z : St), l.length - i = d → i ≤ l.length → Has z.t [(8, .int .i64 i), (7, .int .i64 l.length), (6, I .u32 l), (3, .int .u32 c), (0, I .u32 l)] → z.hp.n = 5 →
      (∀ z', Has z'.t [(3, .int .u32 ((l.drop i).foldl stU c)), (0, I .u32 l)] → z'.hp.n = 6 → Q (.exit 0) z') → Go.Ab.Loop (cfg ext) (lpOf Tryz.f60) 5 z Q := by
  induction d with
  | zero =>
    intro i c z hd hi hz hn hq
    have e0 : l.drop i = [] := List.drop_eq_nil_of_le (by omega)
    rw [e0] at hq
    have g : decide ((i : Int) < (l.length : Int)) = false := decide_eq_false (by omega)
    rw [St.knows _ _ hz hn]
    refine Loop.round ?_
    conv => whnf
    refine sel_no g ?_
    conv => whnf
    exact hq _ ⟨rfl, rfl, trivial⟩ rfl
  | succ d ih =>
    intro i c z hd hi hz hn hq
    have hlt : i < l.length := by omega
    have g : decide ((i : Int) < (l.length : Int)) = true := decide_eq_true (by omega)
    rw [List.drop_eq_getElem_cons hlt, List.foldl_cons] at hq
    have ew : IntKind.i64.wrap ((i : Int) + 1) = ((i + 1 : Nat) : Int) := wrap_add1 (by omega)
    rw [St.knows _ _ hz hn]
    refine Loop.round ?_
    conv => whnf
    refine sel_yes g ?_
    conv => whnf
    refine ⟨⟨by omega, by omega⟩, ?_⟩
    conv => whnf
    refine ldI (i := i) hlt ?_
    conv => whnf
    refine ih (i + 1) (stU c l[i]) _ (by omega) (by omega) ⟨?_, rfl, rfl, ?_, rfl, trivial⟩ rfl hq
    · conv => lhs; whnf
      exact vi ew
    · conv => lhs; whnf
      try exact vi rfl
theorem qUnordered (hn : Non ext) (l : List Int) (hl : l.length ≤ 9223372036854775806) : ∃ r, (cfg ext).Ev 103 [I .u32 l] (.int .u32 r) ∧ (cfg ext).Ev 60 [I .u32 l] (.int .u32 r) ∧ U32 r := by
  have key : ∃ r, (cfg ext).Ev 103 [I .u32 l] r ∧ (∃ c, r = .int .u32 c ∧ U32 c) ∧ (cfg ext).Ev 60 [I .u32 l] r := by
    refine Ev.ofE (hn 103 (by decide) (by decide)) Tryz.func103 rfl rfl ?_
    conv => whnf
    refine lUnP l hl _ l.length 0 0 _ (by omega) (by omega) ⟨rfl, rfl, rfl, rfl, rfl, trivial⟩ rfl (fun z h1 h2 => ?_)
    rw [St.knows _ _ h1 h2]
    conv => whnf
    obtain ⟨r1, g1, g2, u1⟩ := qColl hn (List.foldl stU 0 (List.drop 0 l)) l.length
    refine ⟨_, g1, ?_⟩
    conv => whnf
    refine ⟨⟨_, rfl, u1⟩, ?_⟩
    refine Ev.of (hn 60 (by decide) (by decide)) Tryz.func60 rfl rfl ?_
    conv => whnf
    refine lUnR l hl _ l.length 0 0 _ (by omega) (by omega) ⟨rfl, rfl, rfl, rfl, rfl, trivial⟩ rfl (fun z h1 h2 => ?_)
    rw [St.knows _ _ h1 h2]
    conv => whnf
    refine ⟨_, g2, ?_⟩
    conv => whnf
    try exact vi rfl
  obtain ⟨r, h, ⟨c, rfl, u⟩, g⟩ := key
  exact ⟨c, h, g, u⟩
end
end Go.Proofs.YtbekoaalaofloaaGreatDoor.AB
end

section
set_option linter.unusedVariables false
set_option linter.unusedSimpArgs false
open Go Go.Ab Go.Proofs Go.Vl
namespace Go.Proofs.YtbekoaalaofloaaGreatDoor.AB
set_option maxRecDepth 100000
set_option maxHeartbeats 1600000
set_option linter.unusedSimpArgs false
section
variable {ext : Exts}
noncomputable def eqT (a b : T) : Bool := @decide (a = b) (Classical.propDecidable _)
theorem eqT_iff {a b : T} : eqT a b = true ↔ a = b := by unfold eqT; exact @decide_eq_true_iff _ (Classical.propDecidable _)
theorem eqT_self (a : T) : eqT a a = true := eqT_iff.2 rfl
noncomputable def eqL (a b : List T) : Bool := @decide (a = b) (Classical.propDecidable _)
theorem eqL_iff {a b : List T} : eqL a b = true ↔ a = b := by unfold eqL; exact @decide_eq_true_iff _ (Classical.propDecidable _)
theorem eqL_self (a : List T) : eqL a a = true := eqL_iff.2 rfl
theorem eqL_cons {a b : T} {l m : List T} : eqL (a :: l) (b :: m) = (eqT a b && eqL l m) := by
  rw [Bool.eq_iff_iff, Bool.and_eq_true, eqL_iff, eqT_iff, eqL_iff]
  exact ⟨fun h => by injection h with h1 h2; exact ⟨h1, h2⟩, fun h => by rw [h.1, h.2]⟩
theorem eqL_drop {l m : List T} {i : Nat} (h1 : i < l.length) (h2 : i < m.length) : eqL (l.drop i) (m.drop i) = (eqT l[i] m[i] && eqL (l.drop (i + 1)) (m.drop (i + 1))) := by
  rw [List.drop_eq_getElem_cons h1, List.drop_eq_getElem_cons h2, eqL_cons]
theorem wrapN1 {i : Nat} (h : i + 1 ≤ 9223372036854775807) : V.int .i64 (IntKind.i64.wrap ((i : Int) + 1)) = V.int .i64 ((i + 1 : Nat) : Int) := by
  rw [IntKind.wrap_i64]; exact vi (by omega)
theorem lplain (k n : Int) (t : ByteArray) (l : List T) (k' n' : Int) (t' : ByteArray) (m : List T) (hm : l.length = m.length) (hl : l.length ≤ 9223372036854775807) (E : ∀ a ∈ l, ∀ b ∈ m, (cfg ext).Ev 11 [A a, A b] (.bool (eqT a b))) (Q : Ex → St → Prop) (d : Nat) :
    ∀ (i : Nat) (z : St), l.length - i = d → i ≤ l.length → Has z.t [(37, .int .i64 i), (36, .int .i64 l.length), (2, .ref 0 0), (3, .ref 1 0)] →
      Has z.hp.h [(0, some (.cells [.int .i64 k, .int .i64 n, .str t, .sl false (encL l) l.length] false)), (1, some (.cells [.int .i64 k', .int .i64 n', .str t', .sl false (encL m) m.length] false))] → z.hp.n = 35 →
      (∀ z', z'.t 4 = .bool false → eqL (l.drop i) (m.drop i) = false → Q .ret z') → (∀ z', eqL (l.drop i) (m.drop i) = true → Q (.exit 0) z') →
      Go.Ab.Loop (cfg ext) (lpOf Tryz.f11) 35 z Q := by
  induction d with
  | zero =>
    intro i z hd hi ht hh hn hr hq
    obtain rfl : i = l.length := by omega
    rw [St.knows _ _ ht hn _ hh]
    refine Loop.round ?_
    conv => whnf
    refine sel_no (by simp) ?_
    conv => whnf
    exact hq _ (by rw [List.drop_length, hm, List.drop_length]; exact eqL_self _)
  | succ d ih =>
    intro i z hd hi ht hh hn hr hq
    have h1 : i < l.length := by omega
    have h2 : i < m.length := by omega
    have hE := E _ (List.getElem_mem h1) _ (List.getElem_mem h2)
    have eD := eqL_drop h1 h2
    rw [St.knows _ _ ht hn _ hh]
    refine Loop.round ?_
    conv => whnf
    refine sel_yes (by simp; omega) ?_
    conv => whnf
    refine ⟨⟨by omega, by omega⟩, ?_⟩
    conv => whnf
    refine ldA (i := i) h1 ?_
    conv => whnf
    refine ⟨⟨by omega, by omega⟩, ?_⟩
    conv => whnf
    refine ldA (i := i) h2 ?_
    conv => whnf
    refine ⟨_, hE, ?_⟩
    cases he : eqT l[i] m[i] with
    | false =>
      conv => whnf
      exact hr _ rfl (by rw [eD, he]; rfl)
    | true =>
      conv => whnf
      refine ih (i + 1) _ (by omega) (by omega) ⟨?_, rfl, rfl, rfl, trivial⟩ ⟨rfl, rfl, trivial⟩ rfl (fun z' a b => hr z' a (by rw [eD, he]; exact b)) (fun z' a => hq z' (by rw [eD, he]; exact a))
      conv => lhs; whnf
      exact wrapN1 (by omega)
mutual
theorem tplain (hn : Non ext) : (a : T) → WfV a → (b : T) → (cfg ext).Ev 11 [A a, A b] (.bool (eqT a b))
  | ⟨k, n, t, l⟩, hw, ⟨k', n', t', m⟩ => by
    have E : ∀ a ∈ l, ∀ b ∈ m, (cfg ext).Ev 11 [A a, A b] (.bool (eqT a b)) := fun a ha b _ => tplainL hn l (by simp only [WfV] at hw; exact hw.2.2.2.2) a ha b
    have hl : l.length ≤ 9223372036854775807 := by simp only [WfV] at hw; exact hw.2.2.2.1
    have no (h : ¬ (k = k' ∧ n = n' ∧ t = t' ∧ l.length = m.length)) : eqT ⟨k, n, t, l⟩ ⟨k', n', t', m⟩ = false := by
      cases e : eqT ⟨k, n, t, l⟩ ⟨k', n', t', m⟩ with
      | false => rfl
      | true => have := eqT_iff.1 e; injection this with e1 e2 e3 e4; exact absurd ⟨e1, e2, e3, by rw [e4]⟩ h
    refine Ev.of (hn 11 (by decide) (by decide)) Tryz.func11 rfl rfl ?_
    conv => whnf
    by_cases h1 : k = k'
    · by_cases h2 : n = n'
      · by_cases h3 : t = t'
        · have h3' : (!(t.toList == t'.toList)) = false := by rw [h3]; simp
          by_cases h4 : l.length = m.length
          · have h4' : ((l.length : Int) != (m.length : Int)) = false := by rw [h4]; simp
            repeat (first
              | (refine sel_no ?_ ?_; (first | exact h3' | exact h4' | (simp only [bne_eq_false_iff_eq, beq_eq_false_iff_ne, beq_iff_eq, beq_false, Bool.not_eq_true']; omega) | (rw [h3']; rfl) | (rw [h4']; rfl)); conv => whnf)
              | (refine sel_yes ?_ ?_; (first | (simp only [bne_eq_false_iff_eq, beq_eq_false_iff_ne, beq_iff_eq, beq_false, Bool.not_eq_true']; omega) | (rw [h3']; rfl) | (rw [h4']; rfl)); conv => whnf))
            refine lplain k n t l k' n' t' m h4 hl E _ _ 0 _ rfl (by omega) ⟨rfl, rfl, rfl, rfl, trivial⟩ ⟨rfl, rfl, trivial⟩ rfl (fun z a b => ?_) (fun z a => ?_)
            · conv => whnf
              rw [a]
              refine congrArg V.bool ?_
              simp only [List.drop_zero] at b
              cases e : eqT ⟨k, n, t, l⟩ ⟨k', n', t', m⟩ with
              | false => rfl
              | true => have := eqT_iff.1 e; injection this with e1 e2 e3 e4; rw [e4, eqL_self] at b; cases b
            · conv => whnf
              refine congrArg V.bool ?_
              simp only [List.drop_zero] at a
              have := eqL_iff.1 a
              rw [h1, h2, h3, this, eqT_self]
          · rw [no (fun h => h4 h.2.2.2)]
            have h4' : ((l.length : Int) != (m.length : Int)) = true := by simp; omega
            repeat (first
              | (refine sel_no ?_ ?_; (first | exact h3' | (simp only [bne_eq_false_iff_eq, beq_eq_false_iff_ne, beq_iff_eq, beq_false, Bool.not_eq_true']; omega) | (rw [h3']; rfl)); conv => whnf)
              | (refine sel_yes ?_ ?_; (first | exact h4' | (simp only [bne_eq_false_iff_eq, beq_eq_false_iff_ne, beq_iff_eq, beq_false, Bool.not_eq_true']; omega) | (rw [h3']; rfl) | (rw [h4']; rfl)); conv => whnf))
        · rw [no (fun h => h3 h.2.2.1)]
          have h3' : (!(t.toList == t'.toList)) = true := by
            rw [Bool.not_eq_true', beq_eq_false_iff_ne]
            intro h
            exact h3 (Go.WideShapes.bytes_inj (by rw [ByteArray.toList_eq, ByteArray.toList_eq] at h; exact h))
          repeat (first
            | (refine sel_no ?_ ?_; (first | (simp only [bne_eq_false_iff_eq, beq_eq_false_iff_ne, beq_iff_eq, beq_false, Bool.not_eq_true']; omega) | (rw [h3']; rfl)); conv => whnf)
            | (refine sel_yes ?_ ?_; (first | exact h3' | (simp only [bne_eq_false_iff_eq, beq_eq_false_iff_ne, beq_iff_eq, beq_false, Bool.not_eq_true']; omega) | (rw [h3']; rfl)); conv => whnf))
      · rw [no (fun h => h2 h.2.1)]
        repeat (first
          | (refine sel_yes ?_ ?_; (first | assumption | (simp only [beq_iff_eq, bne_iff_ne, beq_eq_false_iff_ne, bne_eq_false_iff_eq, decide_eq_true_eq, decide_eq_false_iff_not, Bool.not_eq_true', Bool.not_eq_false', ne_eq, beq_true, beq_false, bne_self_eq_false, not_true_eq_false, not_false_eq_true, gt_iff_lt, ge_iff_le, Int.not_lt, Int.not_le, Bool.true_eq_false, Bool.false_eq_true] <;> omega)); conv => whnf)
          | (refine sel_no ?_ ?_; (first | assumption | (simp only [beq_iff_eq, bne_iff_ne, beq_eq_false_iff_ne, bne_eq_false_iff_eq, decide_eq_true_eq, decide_eq_false_iff_not, Bool.not_eq_true', Bool.not_eq_false', ne_eq, beq_true, beq_false, bne_self_eq_false, not_true_eq_false, not_false_eq_true, gt_iff_lt, ge_iff_le, Int.not_lt, Int.not_le, Bool.true_eq_false, Bool.false_eq_true] <;> omega)); conv => whnf)
          | (refine ⟨le_rfl' ?_, ?_⟩; rfl; conv => whnf)
          | (refine ⟨⟨?_, ?_⟩, ?_⟩; omega; omega; conv => whnf)
          | (refine ⟨⟨?_, ?_, ?_⟩, ?_⟩; rfl; omega; omega; conv => whnf)
          | (refine ⟨rfl, ?_, ?_⟩; decide; conv => whnf))
        try exact rfl
    · rw [no (fun h => h1 h.1)]
      repeat (first
        | (refine sel_yes ?_ ?_; (first | assumption | (simp only [beq_iff_eq, bne_iff_ne, beq_eq_false_iff_ne, bne_eq_false_iff_eq, decide_eq_true_eq, decide_eq_false_iff_not, Bool.not_eq_true', Bool.not_eq_false', ne_eq, beq_true, beq_false, bne_self_eq_false, not_true_eq_false, not_false_eq_true, gt_iff_lt, ge_iff_le, Int.not_lt, Int.not_le, Bool.true_eq_false, Bool.false_eq_true] <;> omega)); conv => whnf)
        | (refine sel_no ?_ ?_; (first | assumption | (simp only [beq_iff_eq, bne_iff_ne, beq_eq_false_iff_ne, bne_eq_false_iff_eq, decide_eq_true_eq, decide_eq_false_iff_not, Bool.not_eq_true', Bool.not_eq_false', ne_eq, beq_true, beq_false, bne_self_eq_false, not_true_eq_false, not_false_eq_true, gt_iff_lt, ge_iff_le, Int.not_lt, Int.not_le, Bool.true_eq_false, Bool.false_eq_true] <;> omega)); conv => whnf)
        | (refine ⟨le_rfl' ?_, ?_⟩; rfl; conv => whnf)
        | (refine ⟨⟨?_, ?_⟩, ?_⟩; omega; omega; conv => whnf)
        | (refine ⟨⟨?_, ?_, ?_⟩, ?_⟩; rfl; omega; omega; conv => whnf)
        | (refine ⟨rfl, ?_, ?_⟩; decide; conv => whnf))
      try exact rfl
theorem tplainL (hn : Non ext) : (l : List T) → WfL l → ∀ a ∈ l, ∀ b : T, (cfg ext).Ev 11 [A a, A b] (.bool (eqT a b))
  | [], _, a, ha, _ => by cases ha
  | v :: l, hw, a, ha, b => by
    simp only [WfL] at hw
    rcases List.mem_cons.1 ha with e | h
    · rw [e]; exact tplain hn v hw.1 b
    · exact tplainL hn l hw.2 a h b
end
end
end Go.Proofs.YtbekoaalaofloaaGreatDoor.AB
end

section
set_option linter.unusedVariables false
set_option linter.unusedSimpArgs false
open Go Go.Ab Go.Proofs Go.Vl
namespace Go.Proofs.YtbekoaalaofloaaGreatDoor.AB
set_option maxRecDepth 100000
set_option maxHeartbeats 1600000
set_option linter.unusedSimpArgs false
theorem St.knowsA {s : St} (L : List (Nat × V)) (n : Nat) (h : Has s.t L) (hn : s.hp.n = n) (B : List (Nat × Option Bx) := []) (hB : Has s.hp.h B := by trivial) (D : List (Nat × Option Arr) := []) (hD : Has s.hp.a D := by trivial) : s = ⟨updL s.t L, ⟨updL s.hp.h B, n, updL s.hp.a D, s.hp.m⟩⟩ := by
  rw [updL_has _ _ h, updL_has _ _ hB, updL_has _ _ hD, ← hn]
section
variable {ext : Exts}
theorem lvals (l m : List T) (hm : l.length = m.length) (hl : l.length ≤ 9223372036854775807) (E : ∀ a ∈ l, ∀ b ∈ m, (cfg ext).Ev 11 [A a, A b] (.bool (eqT a b))) (Q : Ex → St → Prop) (d : Nat) :
    ∀ (i : Nat) (z : St), l.length - i = d → i ≤ l.length → Has z.t [(13, .int .i64 i), (12, .int .i64 l.length), (0, .sl false (encL l) l.length), (1, .sl false (encL m) m.length)] → z.hp.n = 9 →
      (∀ z', z'.t 4 = .bool false → eqL (l.drop i) (m.drop i) = false → Q .ret z') → (∀ z', eqL (l.drop i) (m.drop i) = true → Q (.exit 0) z') →
      Go.Ab.Loop (cfg ext) (lpOf Tryz.f17) 9 z Q := by
  induction d with
  | zero =>
    intro i z hd hi ht hn hr hq
    obtain rfl : i = l.length := by omega
    rw [St.knows _ _ ht hn]
    refine Loop.round ?_
    conv => whnf
    refine sel_no (by simp) ?_
    conv => whnf
    exact hq _ (by rw [List.drop_length, hm, List.drop_length]; exact eqL_self _)
  | succ d ih =>
    intro i z hd hi ht hn hr hq
    have h1 : i < l.length := by omega
    have h2 : i < m.length := by omega
    have hE := E _ (List.getElem_mem h1) _ (List.getElem_mem h2)
    have eD := eqL_drop h1 h2
    rw [St.knows _ _ ht hn]
    refine Loop.round ?_
    conv => whnf
    refine sel_yes (by simp; omega) ?_
    conv => whnf
    refine ⟨⟨by omega, by omega⟩, ?_⟩
    conv => whnf
    refine ldA (i := i) h1 ?_
    conv => whnf
    refine ⟨⟨by omega, by omega⟩, ?_⟩
    conv => whnf
    refine ldA (i := i) h2 ?_
    conv => whnf
    refine ⟨_, hE, ?_⟩
    cases he : eqT l[i] m[i] with
    | false =>
      conv => whnf
      exact hr _ rfl (by rw [eD, he]; rfl)
    | true =>
      conv => whnf
      refine ih (i + 1) _ (by omega) (by omega) ⟨?_, rfl, rfl, rfl, trivial⟩ rfl (fun z' a b => hr z' a (by rw [eD, he]; exact b)) (fun z' a => hq z' (by rw [eD, he]; exact a))
      conv => lhs; whnf
      exact wrapN1 (by omega)
theorem tvals (hn : Non ext) (l m : List T) (hl : l.length ≤ 9223372036854775807) (hw : ∀ v ∈ l, WfV v) : (cfg ext).Ev 17 [.sl false (encL l) l.length, .sl false (encL m) m.length] (.bool (eqL l m)) := by
  refine Ev.of (hn 17 (by decide) (by decide)) Tryz.func17 rfl rfl ?_
  conv => whnf
  by_cases h : l.length = m.length
  · have h' : ((l.length : Int) != (m.length : Int)) = false := by rw [h]; simp
    refine sel_no h' ?_
    conv => whnf
    refine lvals l m h hl (fun a ha b _ => tplain hn a (hw a ha) b) _ _ 0 _ rfl (by omega) ⟨rfl, rfl, rfl, rfl, trivial⟩ rfl (fun z a b => ?_) (fun z a => ?_)
    · conv => whnf
      rw [a]
      simp only [List.drop_zero] at b
      rw [b]
      exact rfl
    · conv => whnf
      simp only [List.drop_zero] at a
      rw [a]
  · have h' : ((l.length : Int) != (m.length : Int)) = true := by simp; omega
    refine sel_yes h' ?_
    conv => whnf
    refine congrArg V.bool ?_
    cases e : eqL l m with
    | false => rfl
    | true => exact absurd (by rw [eqL_iff.1 e]) h
end
end Go.Proofs.YtbekoaalaofloaaGreatDoor.AB
end

section
set_option linter.unusedVariables false
set_option linter.unusedSimpArgs false
open Go Go.Ab Go.Proofs Go.Vl
namespace Go.Vl
theorem bytes_cmp : ∀ a b : List UInt8, (if Op.bytesLess a b = true then (-1 : Int) else if (!(Op.bytesLess a b || a == b)) = true then 1 else 0) = Lib.compareBytes a b
  | [], [] => by simp [Op.bytesLess, Lib.compareBytes]
  | [], _ :: _ => by simp [Op.bytesLess, Lib.compareBytes]
  | _ :: _, [] => by simp [Op.bytesLess, Lib.compareBytes]
  | a :: x, b :: y => by
    have ih := bytes_cmp x y
    simp only [Op.bytesLess, Lib.compareBytes]
    rcases u8_lt_or a b with h | rfl | h
    · simp [h]
    · simp only [u8_irr a, if_false] at ih ⊢
      simp only [decide_false, Bool.false_or, beq_self_eq_true, Bool.true_and, List.cons_beq_cons] at ih ⊢
      exact ih
    · have h1 := u8_asym h
      have hne : (a == b) = false := by
        rw [beq_eq_false_iff_ne]; rintro rfl; exact u8_irr a h
      simp [h1, h, hne]
end Go.Vl
namespace Go.Proofs.YtbekoaalaofloaaGreatDoor.AB
set_option maxRecDepth 100000
set_option maxHeartbeats 4000000
set_option linter.unusedSimpArgs false
section
variable {ext : Exts}
theorem rsign (hn : Non ext) (x y : Bool) : (cfg ext).Ev 49 [.bool x, .bool y] (.int .i64 (if x = true then -1 else if y = true then 1 else 0)) := by
  refine Ev.of (hn 49 (by decide) (by decide)) Tryz.func49 rfl rfl ?_
  cases x
  · cases y
    · conv => whnf
      try exact rfl
    · conv => whnf
      try exact rfl
  · conv => whnf
    try exact rfl
theorem rcoll (hn : Non ext) (k : Int) : (cfg ext).Ev 44 [.int .i64 k] (.bool (decide (k = 4 ∨ k = 5 ∨ k = 6))) := by
  by_cases h4 : k = 4
  · subst h4
    refine Ev.of (hn 44 (by decide) (by decide)) Tryz.func44 rfl rfl ?_
    conv => whnf
    try exact rfl
  · by_cases h5 : k = 5
    · subst h5
      refine Ev.of (hn 44 (by decide) (by decide)) Tryz.func44 rfl rfl ?_
      conv => whnf
      try exact rfl
    · by_cases h6 : k = 6
      · subst h6
        refine Ev.of (hn 44 (by decide) (by decide)) Tryz.func44 rfl rfl ?_
        conv => whnf
        try exact rfl
      · rw [show decide (k = 4 ∨ k = 5 ∨ k = 6) = false from decide_eq_false (by omega)]
        refine Ev.of (hn 44 (by decide) (by decide)) Tryz.func44 rfl rfl ?_
        conv => whnf
        repeat (first
          | (refine sel_yes ?_ ?_; (first | assumption | (simp only [beq_iff_eq, bne_iff_ne, beq_eq_false_iff_ne, bne_eq_false_iff_eq, decide_eq_true_eq, decide_eq_false_iff_not, Bool.not_eq_true', Bool.not_eq_false', ne_eq, beq_true, beq_false, bne_self_eq_false, not_true_eq_false, not_false_eq_true, gt_iff_lt, ge_iff_le, Int.not_lt, Int.not_le, Bool.true_eq_false, Bool.false_eq_true] <;> omega)); conv => whnf)
          | (refine sel_no ?_ ?_; (first | assumption | (simp only [beq_iff_eq, bne_iff_ne, beq_eq_false_iff_ne, bne_eq_false_iff_eq, decide_eq_true_eq, decide_eq_false_iff_not, Bool.not_eq_true', Bool.not_eq_false', ne_eq, beq_true, beq_false, bne_self_eq_false, not_true_eq_false, not_false_eq_true, gt_iff_lt, ge_iff_le, Int.not_lt, Int.not_le, Bool.true_eq_false, Bool.false_eq_true] <;> omega)); conv => whnf)
          | (refine ⟨le_rfl' ?_, ?_⟩; rfl; conv => whnf)
          | (refine ⟨⟨?_, ?_⟩, ?_⟩; omega; omega; conv => whnf)
          | (refine ⟨⟨?_, ?_, ?_⟩, ?_⟩; rfl; omega; omega; conv => whnf)
          | (refine ⟨rfl, ?_, ?_⟩; decide; conv => whnf))
        try exact rfl
        exact congrArg V.bool (by rw [beq_eq_false_iff_ne]; exact h6)
end
end Go.Proofs.YtbekoaalaofloaaGreatDoor.AB
end

section
set_option linter.unusedVariables false
set_option linter.unusedSimpArgs false
open Go Go.Ab Go.Proofs Go.Vl
namespace Go.Proofs.YtbekoaalaofloaaGreatDoor.AB
set_option maxRecDepth 100000
set_option maxHeartbeats 8000000
set_option linter.unusedSimpArgs false
section
variable {ext : Exts}
abbrev encX' (k n : Int) (t : ByteArray) (l : List T) : List V := [.int .i64 k, .int .i64 n, .str t, .sl false (encL l) l.length]
theorem lrcmp (k n : Int) (t : ByteArray) (l : List T) (k' n' : Int) (t' : ByteArray) (m : List T) (hl : l.length ≤ 9223372036854775807) (E : ∀ a ∈ l, ∀ b ∈ m, (cfg ext).Ev 39 [A a, A b] (.int .i64 (cmpV a b))) (N : Nat) (hN : N = 19 ∨ N = 21 ∨ N = 23) (Q : Ex → St → Prop) (d : Nat) :
    ∀ (i : Nat) (z : St), l.length - i = d → i ≤ l.length → i ≤ m.length → Has z.t [(5, .int .i64 i), (2, .ref 0 0), (3, .ref 1 0)] → Has z.hp.h [(0, some (.cells (encX' k n t l) false)), (1, some (.cells (encX' k' n' t' m) false))] → z.hp.n = N →
      (∀ (z' : St) (c : Int), z'.t 4 = .int .i64 c → c = cmpL (l.drop i) (m.drop i) → Q .ret z') →
      (∀ (z' : St), Has z'.t [(2, .ref 0 0), (3, .ref 1 0)] → Has z'.hp.h [(0, some (.cells (encX' k n t l) false)), (1, some (.cells (encX' k' n' t' m) false))] → cmpL (l.drop i) (m.drop i) = (if l.length < m.length then -1 else if l.length > m.length then 1 else 0) → Q (.exit 1) z') →
      Go.Ab.Loop (cfg ext) (lpOf Tryz.f39) N z Q := by
  induction d with
  | zero =>
    intro i z hd hi him ht hh hz hr hq
    obtain rfl : i = l.length := by omega
    have e : cmpL (l.drop l.length) (m.drop l.length) = (if l.length < m.length then -1 else if l.length > m.length then 1 else 0) := by
      rw [List.drop_length]
      by_cases h : l.length < m.length
      · rw [if_pos h, List.drop_eq_getElem_cons h, cmpL]
      · rw [if_neg h, if_neg (by omega), List.drop_eq_nil_of_le (by omega), cmpL]
    have g1 : decide ((l.length : Int) < (l.length : Int)) = false := decide_eq_false (by omega)
    rcases hN with rfl | rfl | rfl
    all_goals
      rw [St.knows _ _ ht hz _ hh]
      refine Loop.round ?_
      conv => whnf
      repeat (first
        | (refine sel_yes ?_ ?_; (first | assumption | (simp only [beq_iff_eq, bne_iff_ne, beq_eq_false_iff_ne, bne_eq_false_iff_eq, decide_eq_true_eq, decide_eq_false_iff_not, Bool.not_eq_true', Bool.not_eq_false', ne_eq, beq_true, beq_false, bne_self_eq_false, not_true_eq_false, not_false_eq_true, gt_iff_lt, ge_iff_le, Int.not_lt, Int.not_le, Bool.true_eq_false, Bool.false_eq_true] <;> omega)); conv => whnf)
        | (refine sel_no ?_ ?_; (first | assumption | (simp only [beq_iff_eq, bne_iff_ne, beq_eq_false_iff_ne, bne_eq_false_iff_eq, decide_eq_true_eq, decide_eq_false_iff_not, Bool.not_eq_true', Bool.not_eq_false', ne_eq, beq_true, beq_false, bne_self_eq_false, not_true_eq_false, not_false_eq_true, gt_iff_lt, ge_iff_le, Int.not_lt, Int.not_le, Bool.true_eq_false, Bool.false_eq_true] <;> omega)); conv => whnf)
        | (refine ⟨le_rfl' ?_, ?_⟩; rfl; conv => whnf)
        | (refine ⟨⟨?_, ?_⟩, ?_⟩; omega; omega; conv => whnf)
        | (refine ⟨⟨?_, ?_, ?_⟩, ?_⟩; rfl; omega; omega; conv => whnf)
        | (refine ⟨rfl, ?_, ?_⟩; decide; conv => whnf))
      try exact rfl
      exact hq _ ⟨rfl, rfl, trivial⟩ ⟨rfl, rfl, trivial⟩ e
  | succ d ih =>
    intro i z hd hi him ht hh hz hr hq
    have h1 : i < l.length := by omega
    by_cases h2 : i < m.length
    · have hE := E _ (List.getElem_mem h1) _ (List.getElem_mem h2)
      have eC : cmpL (l.drop i) (m.drop i) = if cmpV l[i] m[i] = 0 then cmpL (l.drop (i + 1)) (m.drop (i + 1)) else cmpV l[i] m[i] := cmpL_drop l m i h1 h2
      have g1 : decide ((i : Int) < (l.length : Int)) = true := decide_eq_true (by omega)
      have g2 : decide ((i : Int) < (m.length : Int)) = true := decide_eq_true (by omega)
      rcases hN with rfl | rfl | rfl
      all_goals
        rw [St.knows _ _ ht hz _ hh]
        refine Loop.round ?_
        conv => whnf
        repeat (first
          | (refine sel_yes ?_ ?_; (first | assumption | (simp only [beq_iff_eq, bne_iff_ne, beq_eq_false_iff_ne, bne_eq_false_iff_eq, decide_eq_true_eq, decide_eq_false_iff_not, Bool.not_eq_true', Bool.not_eq_false', ne_eq, beq_true, beq_false, bne_self_eq_false, not_true_eq_false, not_false_eq_true, gt_iff_lt, ge_iff_le, Int.not_lt, Int.not_le, Bool.true_eq_false, Bool.false_eq_true] <;> omega)); conv => whnf)
          | (refine sel_no ?_ ?_; (first | assumption | (simp only [beq_iff_eq, bne_iff_ne, beq_eq_false_iff_ne, bne_eq_false_iff_eq, decide_eq_true_eq, decide_eq_false_iff_not, Bool.not_eq_true', Bool.not_eq_false', ne_eq, beq_true, beq_false, bne_self_eq_false, not_true_eq_false, not_false_eq_true, gt_iff_lt, ge_iff_le, Int.not_lt, Int.not_le, Bool.true_eq_false, Bool.false_eq_true] <;> omega)); conv => whnf)
          | (refine ⟨le_rfl' ?_, ?_⟩; rfl; conv => whnf)
          | (refine ⟨⟨?_, ?_⟩, ?_⟩; omega; omega; conv => whnf)
          | (refine ⟨⟨?_, ?_, ?_⟩, ?_⟩; rfl; omega; omega; conv => whnf)
          | (refine ⟨rfl, ?_, ?_⟩; decide; conv => whnf))
        try exact rfl
        refine ldA (i := i) h1 ?_
        conv => whnf
        refine ⟨⟨by omega, by omega⟩, ?_⟩
        conv => whnf
        refine ldA (i := i) h2 ?_
        conv => whnf
        refine ⟨_, hE, ?_⟩
        conv => whnf
        refine sel_split (fun hc => ?_) (fun hc => ?_)
        · conv => whnf
          have hc' : cmpV l[i] m[i] ≠ 0 := by simpa using hc
          exact hr _ _ rfl (by rw [eC, if_neg hc'])
        · conv => whnf
          have hc' : cmpV l[i] m[i] = 0 := by simpa using hc
          rw [if_pos hc'] at eC
          refine ih (i + 1) _ (by omega) (by omega) (by omega) ⟨?_, rfl, rfl, trivial⟩ ⟨rfl, rfl, trivial⟩ rfl (fun z' c a b => hr z' c a (by rw [eC]; exact b)) (fun z' a b c => hq z' a b (by rw [eC]; exact c))
          conv => lhs; whnf
          exact wrapN1 (by omega)
    · have g1 : decide ((i : Int) < (l.length : Int)) = true := decide_eq_true (by omega)
      have g2 : decide ((i : Int) < (m.length : Int)) = false := decide_eq_false (by omega)
      have e : cmpL (l.drop i) (m.drop i) = (if l.length < m.length then -1 else if l.length > m.length then 1 else 0) := by
        rw [if_neg (by omega), if_pos (by omega), List.drop_eq_getElem_cons h1, List.drop_eq_nil_of_le (show m.length ≤ i by omega), cmpL]
      rcases hN with rfl | rfl | rfl
      all_goals
        rw [St.knows _ _ ht hz _ hh]
        refine Loop.round ?_
        conv => whnf
        repeat (first
          | (refine sel_yes ?_ ?_; (first | assumption | (simp only [beq_iff_eq, bne_iff_ne, beq_eq_false_iff_ne, bne_eq_false_iff_eq, decide_eq_true_eq, decide_eq_false_iff_not, Bool.not_eq_true', Bool.not_eq_false', ne_eq, beq_true, beq_false, bne_self_eq_false, not_true_eq_false, not_false_eq_true, gt_iff_lt, ge_iff_le, Int.not_lt, Int.not_le, Bool.true_eq_false, Bool.false_eq_true] <;> omega)); conv => whnf)
          | (refine sel_no ?_ ?_; (first | assumption | (simp only [beq_iff_eq, bne_iff_ne, beq_eq_false_iff_ne, bne_eq_false_iff_eq, decide_eq_true_eq, decide_eq_false_iff_not, Bool.not_eq_true', Bool.not_eq_false', ne_eq, beq_true, beq_false, bne_self_eq_false, not_true_eq_false, not_false_eq_true, gt_iff_lt, ge_iff_le, Int.not_lt, Int.not_le, Bool.true_eq_false, Bool.false_eq_true] <;> omega)); conv => whnf)
          | (refine ⟨le_rfl' ?_, ?_⟩; rfl; conv => whnf)
          | (refine ⟨⟨?_, ?_⟩, ?_⟩; omega; omega; conv => whnf)
          | (refine ⟨⟨?_, ?_, ?_⟩, ?_⟩; rfl; omega; omega; conv => whnf)
          | (refine ⟨rfl, ?_, ?_⟩; decide; conv => whnf))
        try exact rfl
        exact hq _ ⟨rfl, rfl, trivial⟩ ⟨rfl, rfl, trivial⟩ e
mutual
theorem rcmp (hn : Non ext) : (a : T) → WfV a → (b : T) → (cfg ext).Ev 39 [A a, A b] (.int .i64 (cmpV a b))
  | ⟨k, n, t, l⟩, hw, ⟨k', n', t', m⟩ => by
    simp only [WfV] at hw
    have E : ∀ a ∈ l, ∀ b ∈ m, (cfg ext).Ev 39 [A a, A b] (.int .i64 (cmpV a b)) := fun a ha b _ => rcmpL hn l hw.2.2.2.2 a ha b
    have eV : cmpV ⟨k, n, t, l⟩ ⟨k', n', t', m⟩ = if k = k' then (if k = 1 ∨ k = 2 then cmpI n n' else if k = 3 then Lib.compareBytes t.data.toList t'.data.toList else if k = 4 ∨ k = 5 ∨ k = 6 then cmpL l m else 0) else cmpI k k' := by rw [cmpV]
    by_cases hk : k = k'
    · rw [if_pos hk] at eV
      subst hk
      by_cases h12 : k = 1 ∨ k = 2
      · rw [if_pos h12] at eV
        have hs := rsign hn (decide (n < n')) (decide (n > n'))
        rw [show (if decide (n < n') = true then (-1 : Int) else if decide (n > n') = true then 1 else 0) = cmpI n n' from by unfold cmpI; simp] at hs
        rw [eV]
        rcases h12 with rfl | rfl
        all_goals
          refine Ev.of (hn 39 (by decide) (by decide)) Tryz.func39 rfl rfl ?_
          conv => whnf
          repeat (first
            | (refine sel_yes ?_ ?_; (first | assumption | (simp only [beq_iff_eq, bne_iff_ne, beq_eq_false_iff_ne, bne_eq_false_iff_eq, decide_eq_true_eq, decide_eq_false_iff_not, Bool.not_eq_true', Bool.not_eq_false', ne_eq, beq_true, beq_false, bne_self_eq_false, not_true_eq_false, not_false_eq_true, gt_iff_lt, ge_iff_le, Int.not_lt, Int.not_le, Bool.true_eq_false, Bool.false_eq_true] <;> omega)); conv => whnf)
            | (refine sel_no ?_ ?_; (first | assumption | (simp only [beq_iff_eq, bne_iff_ne, beq_eq_false_iff_ne, bne_eq_false_iff_eq, decide_eq_true_eq, decide_eq_false_iff_not, Bool.not_eq_true', Bool.not_eq_false', ne_eq, beq_true, beq_false, bne_self_eq_false, not_true_eq_false, not_false_eq_true, gt_iff_lt, ge_iff_le, Int.not_lt, Int.not_le, Bool.true_eq_false, Bool.false_eq_true] <;> omega)); conv => whnf)
            | (refine ⟨_, hs, ?_⟩; conv => whnf)
            | (refine ⟨le_rfl' ?_, ?_⟩; rfl; conv => whnf)
            | (refine ⟨⟨?_, ?_⟩, ?_⟩; omega; omega; conv => whnf)
            | (refine ⟨⟨?_, ?_, ?_⟩, ?_⟩; rfl; omega; omega; conv => whnf)
            | (refine ⟨rfl, ?_, ?_⟩; decide; conv => whnf))
          try exact rfl
      · rw [if_neg h12] at eV
        by_cases h3 : k = 3
        · rw [if_pos h3] at eV
          have hs := rsign hn (Op.bytesLess t.toList t'.toList) (!(Op.bytesLess t.toList t'.toList || t.toList == t'.toList))
          rw [bytes_cmp, show Lib.compareBytes t.toList t'.toList = Lib.compareBytes t.data.toList t'.data.toList from by rw [ByteArray.toList_eq, ByteArray.toList_eq]] at hs
          rw [eV]
          subst h3
          refine Ev.of (hn 39 (by decide) (by decide)) Tryz.func39 rfl rfl ?_
          conv => whnf
          refine ⟨_, hs, ?_⟩
          conv => whnf
          try exact rfl
        · rw [if_neg h3] at eV
          by_cases h4 : k = 4 ∨ k = 5 ∨ k = 6
          · rw [if_pos h4] at eV
            have hs := rsign hn (decide ((l.length : Int) < (m.length : Int))) (decide ((l.length : Int) > (m.length : Int)))
            rw [eV]
            rcases h4 with rfl | rfl | rfl
            all_goals
              refine Ev.of (hn 39 (by decide) (by decide)) Tryz.func39 rfl rfl ?_
              conv => whnf
              refine lrcmp _ n t l _ n' t' m hw.2.2.2.1 E _ (by first | exact .inl rfl | exact .inr (.inl rfl) | exact .inr (.inr rfl)) _ _ 0 _ rfl (Nat.zero_le _) (Nat.zero_le _) ⟨rfl, rfl, rfl, trivial⟩ ⟨rfl, rfl, trivial⟩ rfl (fun z c a b => ?_) (fun z a b c => ?_)
              · conv => whnf
                rw [a]
                simp only [List.drop_zero] at b
                rw [b]
                exact rfl
              · rw [St.knows _ z.hp.n a rfl _ b]
                conv => whnf
                refine ⟨_, hs, ?_⟩
                conv => whnf
                simp only [List.drop_zero] at c
                exact vi (by rw [c]; simp)
          · rw [if_neg h4] at eV
            rw [eV]
            refine Ev.of (hn 39 (by decide) (by decide)) Tryz.func39 rfl rfl ?_
            conv => whnf
            repeat (first
              | (refine sel_yes ?_ ?_; (first | assumption | (simp only [beq_iff_eq, bne_iff_ne, beq_eq_false_iff_ne, bne_eq_false_iff_eq, decide_eq_true_eq, decide_eq_false_iff_not, Bool.not_eq_true', Bool.not_eq_false', ne_eq, beq_true, beq_false, bne_self_eq_false, not_true_eq_false, not_false_eq_true, gt_iff_lt, ge_iff_le, Int.not_lt, Int.not_le, Bool.true_eq_false, Bool.false_eq_true] <;> omega)); conv => whnf)
              | (refine sel_no ?_ ?_; (first | assumption | (simp only [beq_iff_eq, bne_iff_ne, beq_eq_false_iff_ne, bne_eq_false_iff_eq, decide_eq_true_eq, decide_eq_false_iff_not, Bool.not_eq_true', Bool.not_eq_false', ne_eq, beq_true, beq_false, bne_self_eq_false, not_true_eq_false, not_false_eq_true, gt_iff_lt, ge_iff_le, Int.not_lt, Int.not_le, Bool.true_eq_false, Bool.false_eq_true] <;> omega)); conv => whnf)
              | (refine ⟨le_rfl' ?_, ?_⟩; rfl; conv => whnf)
              | (refine ⟨⟨?_, ?_⟩, ?_⟩; omega; omega; conv => whnf)
              | (refine ⟨⟨?_, ?_, ?_⟩, ?_⟩; rfl; omega; omega; conv => whnf)
              | (refine ⟨rfl, ?_, ?_⟩; decide; conv => whnf))
            try exact rfl
    · rw [if_neg hk] at eV
      have hs := rsign hn (decide (k < k')) true
      rw [show (if decide (k < k') = true then (-1 : Int) else if true = true then 1 else 0) = cmpI k k' from by unfold cmpI; by_cases h : k < k'; simp [h]; simp [h]; omega] at hs
      rw [eV]
      refine Ev.of (hn 39 (by decide) (by decide)) Tryz.func39 rfl rfl ?_
      conv => whnf
      repeat (first
        | (refine sel_yes ?_ ?_; (first | assumption | (simp only [beq_iff_eq, bne_iff_ne, beq_eq_false_iff_ne, bne_eq_false_iff_eq, decide_eq_true_eq, decide_eq_false_iff_not, Bool.not_eq_true', Bool.not_eq_false', ne_eq, beq_true, beq_false, bne_self_eq_false, not_true_eq_false, not_false_eq_true, gt_iff_lt, ge_iff_le, Int.not_lt, Int.not_le, Bool.true_eq_false, Bool.false_eq_true] <;> omega)); conv => whnf)
        | (refine sel_no ?_ ?_; (first | assumption | (simp only [beq_iff_eq, bne_iff_ne, beq_eq_false_iff_ne, bne_eq_false_iff_eq, decide_eq_true_eq, decide_eq_false_iff_not, Bool.not_eq_true', Bool.not_eq_false', ne_eq, beq_true, beq_false, bne_self_eq_false, not_true_eq_false, not_false_eq_true, gt_iff_lt, ge_iff_le, Int.not_lt, Int.not_le, Bool.true_eq_false, Bool.false_eq_true] <;> omega)); conv => whnf)
        | (refine ⟨_, hs, ?_⟩; conv => whnf)
        | (refine ⟨le_rfl' ?_, ?_⟩; rfl; conv => whnf)
        | (refine ⟨⟨?_, ?_⟩, ?_⟩; omega; omega; conv => whnf)
        | (refine ⟨⟨?_, ?_, ?_⟩, ?_⟩; rfl; omega; omega; conv => whnf)
        | (refine ⟨rfl, ?_, ?_⟩; decide; conv => whnf))
      try exact rfl
theorem rcmpL (hn : Non ext) : (l : List T) → WfL l → ∀ a ∈ l, ∀ b : T, (cfg ext).Ev 39 [A a, A b] (.int .i64 (cmpV a b))
  | [], _, a, ha, _ => by cases ha
  | v :: l, hw, a, ha, b => by
    simp only [WfL] at hw
    rcases List.mem_cons.1 ha with e | h
    · rw [e]; exact rcmp hn v hw.1 b
    · exact rcmpL hn l hw.2 a h b
end
end
end Go.Proofs.YtbekoaalaofloaaGreatDoor.AB
end
