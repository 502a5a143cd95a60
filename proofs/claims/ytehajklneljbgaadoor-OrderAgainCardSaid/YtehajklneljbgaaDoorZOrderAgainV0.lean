/- What OrderAgain is proved with: what the program's functions make of their arguments, by the evaluator. -/
import Derived.Test.YtehajklneljbgaaDoorProg
import Derived.Test.YtehajklneljbgaaDoorZOrderAgainA1
import Derived.Test.YtehajklneljbgaaDoorZOrderAgainG0
import Derived.Test.YtehajklneljbgaaDoorZOrderAgainL0
import Derived.KernelRfl
import Derived.Test.YtehajklneljbgaaDoorChecked
import Derived.Test.YtehajklneljbgaaDoorShelf
import Derived.Lib.LaidU8T
import Derived.Lib.LaidIn
import Derived.Test.YtehajklneljbgaaDoorGrow
section
set_option linter.unusedVariables false
set_option linter.unusedSimpArgs false
open Go Go.Ab Go.Proofs Go.Vl
namespace Go.Proofs.YtehajklneljbgaaDoor.AB
mutual
def enc : T → List V
  | ⟨a, b, c, l⟩ => [.int .i64 a, .int .i64 b, .str c, .sl false (encL l) l.length]
def encL : List T → List V
  | [] => []
  | v :: l => enc v ++ encL l
end
def A (v : T) : V := .agg [.int .i64 v.f0, .int .i64 v.f1, .str v.f2, .sl false (encL v.f3) v.f3.length]
theorem enc_eq (v : T) : enc v = [.int .i64 v.f0, .int .i64 v.f1, .str v.f2, .sl false (encL v.f3) v.f3.length] := by cases v; simp only [enc]
theorem encL_len : ∀ l : List T, (encL l).length = l.length * 4
  | [] => by simp only [encL]; rfl
  | v :: l => by simp only [encL, List.length_append, encL_len l, enc_eq, List.length_cons, List.length_nil]; omega
theorem encL_drop : ∀ (l : List T) (i : Nat), (encL l).drop (i * 4) = encL (l.drop i)
  | l, 0 => by simp
  | [], i + 1 => by simp [encL]
  | v :: l, i + 1 => by
    have : (i + 1) * 4 = 4 + i * 4 := by omega
    rw [this, List.drop_drop.symm, List.drop_succ_cons, ← encL_drop l i]
    simp only [encL, enc_eq]
    rfl
theorem subL {l : List T} {i : Nat} (h : i < l.length) : sub (encL l) (i * 4) 4 = enc l[i] := by
  unfold sub
  rw [encL_drop, List.drop_eq_getElem_cons h]
  simp only [encL, enc_eq]
  rfl
theorem oneA (v : T) : one (some true) (enc v) = some (A v) := by rw [enc_eq]; rfl
/-- an element, read -/
theorem ldA {l : List T} {i : Nat} {Q : V → Prop} (h : i < l.length) (hq : Q (A l[i])) : i * 4 + 4 ≤ (encL l).length ∧ opt (one (some true) (sub (encL l) (i * 4) 4)) fun v => fv v Q := by
  refine ⟨by rw [encL_len]; omega, ?_⟩
  rw [subL h, oneA]
  exact (fv_eq _ _).2 hq
theorem Ev.cast {C : Cfg} {f : Nat} {xs : List V} {r r1 : V} (h : C.Ev f xs r) (e : r = r1) : C.Ev f xs r1 := e ▸ h
theorem sel_yes {t : Bool} {A B : Prop} (h : t = true) (a : A) : sel t A B := by rw [h]; exact a
theorem sel_no {t : Bool} {A B : Prop} (h : t = false) (b : B) : sel t A B := by rw [h]; exact b
def firstLoop : Code → Option Code
  | .seq a b => match firstLoop a with | some c => some c | none => firstLoop b
  | .cond _ a b => match firstLoop a with | some c => some c | none => firstLoop b
  | .block _ c => firstLoop c
  | .scope c => firstLoop c
  | .loop c => some c
  | _ => none
def lpOf (f : Func) : Code := match f.body with | some b => (match firstLoop b with | some c => c | none => .skip) | none => .skip
/-- what is known of a state's slots -/
def Has {α : Type} (t : Nat → α) : List (Nat × α) → Prop
  | [] => True
  | p :: L => t p.1 = p.2 ∧ Has t L
def updL {α : Type} (t : Nat → α) : List (Nat × α) → Nat → α
  | [] => t
  | p :: L => upd (updL t L) p.1 p.2
theorem updL_has {α : Type} (t : Nat → α) : ∀ L, Has t L → updL t L = t
  | [], _ => rfl
  | p :: L, h => by
    rw [updL, updL_has t L h.2]
    funext j
    unfold upd
    split
    · rename_i e; rw [e]; exact h.1.symm
    · rfl
theorem St.knows {s : St} (L : List (Nat × V)) (n : Nat) (h : Has s.t L) (hn : s.hp.n = n) (B : List (Nat × Option Bx) := []) (hB : Has s.hp.h B := by trivial) : s = ⟨updL s.t L, ⟨updL s.hp.h B, n, s.hp.a, s.hp.m⟩⟩ := by
  rw [updL_has _ _ h, updL_has _ _ hB, ← hn]
def okF (f : Nat) : Bool := match f with
  | 26 | 28 | 30 | 73 => false
  | f => Nat.blt f 80
def byref (f : Nat) : Bool := match f with
  | 28 | 29 | 30 | 36 | 46 | 47 | 59 | 64 => true
  | _ => false
def extR (f : Nat) : Option (List V → Hp → Option (V × Hp)) := match f with
  | 28 => some (cloneR 4 56)
  | 30 => some (growR 4 56)
  | _ => none
noncomputable def cfg (ext : Exts) : Cfg := ⟨Tryd.prog, okF, ext, extR, byref⟩
def cmp3 (x y : Int) : Int := if x < y then -1 else if x > y then 1 else 0
theorem le_rfl' {a b : Nat} (h : Nat.ble a b = true) : a ≤ b := Nat.le_of_ble_eq_true h
theorem vi {k : IntKind} {a b : Int} (h : a = b) : V.int k a = V.int k b := by rw [h]
set_option maxRecDepth 100000
section
variable {ext : Exts}
theorem t33 (h0 : ext 33 = none) (x : Int) : (cfg ext).Ev 33 [.int .i64 x] (.bool false) := by
  refine Ev.of h0 Tryd.func33 rfl rfl ?_
  conv => whnf
  exact congrArg V.bool (by simp)
theorem t34 (h0 : ext 34 = none) (x : Int) : (cfg ext).Ev 34 [.int .i64 x] (.bool false) := by
  refine Ev.of h0 Tryd.func34 rfl rfl ?_
  conv => whnf
  exact congrArg V.bool (by simp)
theorem t60 (h0 : ext 60 = none) (x : Int) : (cfg ext).Ev 60 [.int .u32 x] (.bool false) := by
  refine Ev.of h0 Tryd.func60 rfl rfl ?_
  conv => whnf
  exact congrArg V.bool (by simp)
theorem t62 (h0 : ext 62 = none) (x : Int) : (cfg ext).Ev 62 [.int .u64 x] (.bool false) := by
  refine Ev.of h0 Tryd.func62 rfl rfl ?_
  conv => whnf
  exact congrArg V.bool (by simp)
theorem t24 (h0 : ext 33 = none) (h1 : ext 24 = none) (x y : Int) : (cfg ext).Ev 24 [.int .i64 x, .int .i64 y] (.int .i64 (cmp3 x y)) := by
  refine Ev.of h1 Tryd.func24 rfl rfl ?_
  conv => whnf
  refine ⟨_, t33 h0 x, ?_⟩
  conv => whnf
  refine ⟨_, t33 h0 y, ?_⟩
  conv => whnf
  refine sel_split (fun h => ?_) (fun h => ?_)
  · conv => whnf
    exact vi (by simp at h; simp [cmp3, h])
  · conv => whnf
    refine sel_split (fun h' => ?_) (fun h' => ?_)
    · conv => whnf
      exact vi (by simp at h h'; simp [cmp3, h']; omega)
    · conv => whnf
      exact vi (by simp at h h'; simp [cmp3]; omega)
theorem t25 (h0 : ext 34 = none) (h1 : ext 25 = none) (x y : Int) : (cfg ext).Ev 25 [.int .i64 x, .int .i64 y] (.int .i64 (cmp3 x y)) := by
  refine Ev.of h1 Tryd.func25 rfl rfl ?_
  conv => whnf
  refine ⟨_, t34 h0 x, ?_⟩
  conv => whnf
  refine ⟨_, t34 h0 y, ?_⟩
  conv => whnf
  refine sel_split (fun h => ?_) (fun h => ?_)
  · conv => whnf
    exact vi (by simp at h; simp [cmp3, h])
  · conv => whnf
    refine sel_split (fun h' => ?_) (fun h' => ?_)
    · conv => whnf
      exact vi (by simp at h h'; simp [cmp3, h']; omega)
    · conv => whnf
      exact vi (by simp at h h'; simp [cmp3]; omega)
theorem t50 (h0 : ext 60 = none) (h1 : ext 50 = none) (x y : Int) : (cfg ext).Ev 50 [.int .u32 x, .int .u32 y] (.int .i64 (cmp3 x y)) := by
  refine Ev.of h1 Tryd.func50 rfl rfl ?_
  conv => whnf
  refine ⟨_, t60 h0 x, ?_⟩
  conv => whnf
  refine ⟨_, t60 h0 y, ?_⟩
  conv => whnf
  refine sel_split (fun h => ?_) (fun h => ?_)
  · conv => whnf
    exact vi (by simp at h; simp [cmp3, h])
  · conv => whnf
    refine sel_split (fun h' => ?_) (fun h' => ?_)
    · conv => whnf
      exact vi (by simp at h h'; simp [cmp3, h']; omega)
    · conv => whnf
      exact vi (by simp at h h'; simp [cmp3]; omega)
theorem t55 (h0 : ext 62 = none) (h1 : ext 55 = none) (x y : Int) : (cfg ext).Ev 55 [.int .u64 x, .int .u64 y] (.int .i64 (cmp3 x y)) := by
  refine Ev.of h1 Tryd.func55 rfl rfl ?_
  conv => whnf
  refine ⟨_, t62 h0 x, ?_⟩
  conv => whnf
  refine ⟨_, t62 h0 y, ?_⟩
  conv => whnf
  refine sel_split (fun h => ?_) (fun h => ?_)
  · conv => whnf
    exact vi (by simp at h; simp [cmp3, h])
  · conv => whnf
    refine sel_split (fun h' => ?_) (fun h' => ?_)
    · conv => whnf
      exact vi (by simp at h h'; simp [cmp3, h']; omega)
    · conv => whnf
      exact vi (by simp at h h'; simp [cmp3]; omega)
theorem t37 (h0 : ext 37 = none) (a b : T) (r : Int) (hc : (cfg ext).Ev 15 [A b, A a] (.int .i64 r)) : (cfg ext).Ev 37 [A a, A b] (.int .i64 r) := by
  refine Ev.of h0 Tryd.func37 rfl rfl ?_
  conv => whnf
  refine ⟨_, hc, ?_⟩
  conv => whnf
theorem t49 (h0 : ext 49 = none) (x y : Int) : (cfg ext).Ev 49 [.sl false [.int .i64 x, .int .i64 y] 2] (.int .i64 (if x = 0 then y else x)) := by
  refine Ev.of h0 Tryd.func49 rfl rfl ?_
  conv => whnf
  refine Loop.round ?_
  conv => whnf
  refine ⟨by decide, ?_⟩
  conv => whnf
  refine ⟨le_rfl' rfl, ?_⟩
  conv => whnf
  refine sel_split (fun h => ?_) (fun h => ?_)
  · conv => whnf
    exact vi (by simp at h; simp [h])
  · conv => whnf
    refine Loop.round ?_
    conv => whnf
    refine ⟨by decide, ?_⟩
    conv => whnf
    refine ⟨le_rfl' rfl, ?_⟩
    conv => whnf
    refine sel_split (fun h' => ?_) (fun h' => ?_)
    · conv => whnf
      exact vi (by simp at h; simp [h])
    · conv => whnf
      refine Loop.round ?_
      conv => whnf
      exact vi (by simp at h h'; simp [h, h'])


theorem t39 (h0 : ext 39 = none) (a : T) (h e : Int) (hc : (cfg ext).Ev 51 [A a] (.tup [.int .u32 h, .int .i64 e])) : (cfg ext).Ev 39 [A a] (.int .u32 h) := by
  refine Ev.of h0 Tryd.func39 rfl rfl ?_
  conv => whnf
  refine ⟨_, hc, ?_⟩
  conv => whnf
theorem t41 (h0 : ext 41 = none) (a : T) (h e : Int) (hc : (cfg ext).Ev 53 [A a] (.tup [.int .i64 h, .int .i64 e])) : (cfg ext).Ev 41 [A a] (.int .i64 h) := by
  refine Ev.of h0 Tryd.func41 rfl rfl ?_
  conv => whnf
  refine ⟨_, hc, ?_⟩
  conv => whnf
def awy (n : Int) : Int := if n < 0 then IntKind.u64.wrap (0 - IntKind.u64.wrap n) else IntKind.u64.wrap n
theorem t56 (h0 : ext 56 = none) (n : Int) : (cfg ext).Ev 56 [.int .i64 n] (.int .u64 (awy n)) := by
  refine Ev.of h0 Tryd.func56 rfl rfl ?_
  conv => whnf
  refine sel_split (fun h => ?_) (fun h => ?_)
  · conv => whnf
    exact vi (by simp at h; simp [awy, h])
  · conv => whnf
    exact vi (by simp at h; simp [awy]; omega)
theorem t48 (h0 : ext 48 = none) (h1 : ext 50 = none) (h2 : ext 60 = none) (h3 : ext 49 = none) (a b : T) (x y c : Int) (ha : (cfg ext).Ev 39 [A a] (.int .u32 x)) (hb : (cfg ext).Ev 39 [A b] (.int .u32 y)) (hc : (cfg ext).Ev 15 [A a, A b] (.int .i64 c)) :
    (cfg ext).Ev 48 [A a, A b, .ptr [.fn 39 []] 0] (.int .i64 (if cmp3 x y = 0 then c else cmp3 x y)) := by
  refine Ev.of h0 Tryd.func48 rfl rfl ?_
  conv => whnf
  refine ⟨le_rfl' rfl, ?_⟩
  conv => whnf
  refine ⟨_, ha, ?_⟩
  conv => whnf
  refine ⟨le_rfl' rfl, ?_⟩
  conv => whnf
  refine ⟨_, hb, ?_⟩
  conv => whnf
  refine ⟨_, t50 h2 h1 x y, ?_⟩
  conv => whnf
  refine ⟨_, hc, ?_⟩
  conv => whnf
  refine ⟨_, t49 h3 _ _, ?_⟩
  conv => whnf
theorem t52 (h0 : ext 52 = none) (h1 : ext 24 = none) (h2 : ext 33 = none) (h3 : ext 49 = none) (a b : T) (x y c : Int) (ha : (cfg ext).Ev 41 [A a] (.int .i64 x)) (hb : (cfg ext).Ev 41 [A b] (.int .i64 y)) (hc : (cfg ext).Ev 15 [A a, A b] (.int .i64 c)) :
    (cfg ext).Ev 52 [A a, A b, .ptr [.fn 41 []] 0] (.int .i64 (if cmp3 x y = 0 then c else cmp3 x y)) := by
  refine Ev.of h0 Tryd.func52 rfl rfl ?_
  conv => whnf
  refine ⟨le_rfl' rfl, ?_⟩
  conv => whnf
  refine ⟨_, ha, ?_⟩
  conv => whnf
  refine ⟨le_rfl' rfl, ?_⟩
  conv => whnf
  refine ⟨_, hb, ?_⟩
  conv => whnf
  refine ⟨_, t24 h2 h1 x y, ?_⟩
  conv => whnf
  refine ⟨_, hc, ?_⟩
  conv => whnf
  refine ⟨_, t49 h3 _ _, ?_⟩
  conv => whnf
theorem t42 (h0 : ext 42 = none) (h1 : ext 24 = none) (h2 : ext 33 = none) (h3 : ext 49 = none) (a b : T) (x y c : Int) (ha : (cfg ext).Ev 54 [.str a.f2] (.int .i64 x)) (hb : (cfg ext).Ev 54 [.str b.f2] (.int .i64 y)) (hc : (cfg ext).Ev 15 [A a, A b] (.int .i64 c)) :
    (cfg ext).Ev 42 [A a, A b] (.int .i64 (if a.f0 = 3 ∧ b.f0 = 3 then (if cmp3 x y = 0 then c else cmp3 x y) else c)) := by
  refine Ev.of h0 Tryd.func42 rfl rfl ?_
  conv => whnf
  cases h4 : (a.f0 == 3) with
  | false =>
    conv => whnf
    refine ⟨_, hc, ?_⟩
    conv => whnf
    exact vi (by simp at h4; simp [h4])
  | true =>
    conv => whnf
    cases h5 : (b.f0 == 3) with
    | false =>
      conv => whnf
      refine ⟨_, hc, ?_⟩
      conv => whnf
      exact vi (by simp at h5; simp [h5])
    | true =>
      conv => whnf
      refine ⟨_, ha, ?_⟩
      conv => whnf
      refine ⟨_, hb, ?_⟩
      conv => whnf
      refine ⟨_, t24 h2 h1 x y, ?_⟩
      conv => whnf
      refine ⟨_, hc, ?_⟩
      conv => whnf
      refine ⟨_, t49 h3 _ _, ?_⟩
      conv => whnf
      exact vi (by simp at h4 h5; simp [h4, h5])
end
end Go.Proofs.YtehajklneljbgaaDoor.AB
end

section
set_option linter.unusedVariables false
set_option linter.unusedSimpArgs false
open Go Go.Ab Go.Proofs Go.Vl
namespace Go.Proofs.YtehajklneljbgaaDoor.AB
set_option maxRecDepth 100000
section
variable {ext : Exts}
theorem wrap_add1 {i : Nat} (h : i + 1 ≤ 9223372036854775807) : IntKind.i64.wrap ((i : Int) + 1) = ((i + 1 : Nat) : Int) := by
  rw [IntKind.wrap_i64]; omega
def k27 (l m : List T) (i : Nat) : List (Nat × V) := [(13, .int .i64 i), (12, .int .i64 l.length), (11, .sl false (encL l) l.length), (1, .sl false (encL m) m.length), (0, .sl false (encL l) l.length), (2, .fn 15 [])]
theorem l27 (l m : List T) (hl : l.length ≤ 9223372036854775807) (E : ∀ a ∈ l, ∀ b ∈ m, (cfg ext).Ev 15 [A a, A b] (.int .i64 (cmpV a b))) (Q : Ex → St → Prop) (d : Nat) :
    ∀ (i : Nat) (s : St), l.length - i = d → i ≤ l.length → i ≤ m.length → Has s.t (k27 l m i) → s.hp.n = 4 →
      (∀ s', s'.t 6 = .int .i64 (cmpL (l.drop i) (m.drop i)) → Q .ret s') →
      (∀ s', s'.t 0 = .sl false (encL l) l.length → s'.t 1 = .sl false (encL m) m.length → l.length ≤ m.length → cmpL (l.drop i) (m.drop i) = cmpL [] (m.drop l.length) → Q (.exit 0) s') →
      Go.Ab.Loop (cfg ext) (lpOf Tryd.f27) 4 s Q := by
  induction d with
  | zero =>
    intro i s hd hi him hs en hr hq
    obtain rfl : i = l.length := by omega
    rw [St.knows _ _ hs en]
    refine Loop.round ?_
    conv => whnf
    refine sel_split (fun h => ?_) (fun h => ?_)
    · simp at h
    conv => whnf
    exact hq _ rfl rfl him (by rw [List.drop_length])
  | succ d ih =>
    intro i s hd hi him hs en hr hq
    rw [St.knows _ _ hs en]
    refine Loop.round ?_
    conv => whnf
    refine sel_split (fun h => ?_) (fun h => ?_)
    · have hlt : i < l.length := by simpa using h
      have eD := List.drop_eq_getElem_cons hlt
      conv => whnf
      refine ⟨⟨by omega, by omega⟩, ?_⟩
      conv => whnf
      refine ldA (i := i) hlt ?_
      conv => whnf
      refine sel_split (fun h2 => ?_) (fun h2 => ?_)
      · conv => whnf
        have : m.length = i := by simp at h2; omega
        exact hr _ (vi (by rw [eD, show m.drop i = [] from List.drop_eq_nil_of_le (by omega), cmpL]))
      have hlt2 : i < m.length := by simp at h2; omega
      have eM := List.drop_eq_getElem_cons hlt2
      conv => whnf
      refine ⟨⟨by omega, by omega⟩, ?_⟩
      conv => whnf
      refine ldA (i := i) hlt2 ?_
      conv => whnf
      refine ⟨_, E _ (List.getElem_mem hlt) _ (List.getElem_mem hlt2), ?_⟩
      conv => whnf
      refine sel_split (fun h3 => ?_) (fun h3 => ?_)
      · conv => whnf
        refine hr _ (vi ?_)
        rw [eD, eM, cmpL, if_neg (by simpa using h3)]
      conv => whnf
      have h3 : cmpV l[i] m[i] = 0 := by simpa using h3
      have eC : cmpL (l.drop i) (m.drop i) = cmpL (l.drop (i + 1)) (m.drop (i + 1)) := by rw [eD, eM, cmpL, if_pos h3]
      refine ih (i + 1) _ (by omega) (by omega) (by omega) ⟨?_, rfl, rfl, rfl, rfl, rfl, trivial⟩ rfl (fun s' h => hr s' (by rw [eC]; exact h)) (fun s' h1 h2 h3 h4 => hq s' h1 h2 h3 (by rw [eC]; exact h4))
      conv => lhs; whnf
      exact vi (wrap_add1 (by omega))
    simp at h; omega
theorem t27 (h0 : ext 27 = none) (l m : List T) (hl : l.length ≤ 9223372036854775807) (E : ∀ a ∈ l, ∀ b ∈ m, (cfg ext).Ev 15 [A a, A b] (.int .i64 (cmpV a b))) :
    (cfg ext).Ev 27 [.sl false (encL l) l.length, .sl false (encL m) m.length, .fn 15 []] (.int .i64 (cmpL l m)) := by
  refine Ev.of h0 Tryd.func27 rfl rfl ?_
  conv => whnf
  refine l27 l m hl E _ _ 0 _ rfl (by omega) (by omega) ⟨rfl, rfl, rfl, rfl, rfl, rfl, trivial⟩ rfl (fun s' e => ?_) (fun s' e0 e1 hle e => ?_)
  · conv => whnf
    rw [e]
    rfl
  · rw [St.knows [(0, _), (1, _)] _ ⟨e0, e1, trivial⟩ rfl]
    conv => whnf
    simp only [List.drop_zero] at e
    rw [e]
    refine sel_split (fun h => ?_) (fun h => ?_)
    · conv => whnf
      have : l.length < m.length := by simpa using h
      exact vi (by rw [List.drop_eq_getElem_cons this, cmpL])
    · conv => whnf
      have : m.length ≤ l.length := by simpa using h
      exact vi (by rw [List.drop_eq_nil_of_le this, cmpL])
end
end Go.Proofs.YtehajklneljbgaaDoor.AB
end

section
set_option linter.unusedVariables false
set_option linter.unusedSimpArgs false
open Go Go.Ab Go.Proofs Go.Vl
namespace Go.Proofs.YtehajklneljbgaaDoor.AB
set_option maxRecDepth 100000
section
variable {ext : Exts}
/-- the externals: comparing two texts -/
def E26 (ext : Exts) : Prop := ∀ s t : ByteArray, (cfg ext).Ev 26 [.str s, .str t] (.int .i64 (Lib.compareBytes s.data.toList t.data.toList))
/-- what is none of the externals -/
def Non (ext : Exts) : Prop := ∀ f, f ≠ 26 → f ≠ 73 → ext f = none
mutual
theorem t15 (hn : Non ext) (h26 : E26 ext) : (a : T) → WfV a → (b : T) → (cfg ext).Ev 15 [A a, A b] (.int .i64 (cmpV a b))
  | ⟨k, n, t, l⟩, hw, b => by
    refine Ev.of (hn 15 (by decide) (by decide)) Tryd.func15 rfl rfl ?_
    conv => whnf
    refine sel_split (fun h => ?_) (fun h => ?_)
    · conv => whnf
      refine ⟨_, t24 (hn 33 (by decide) (by decide)) (hn 24 (by decide) (by decide)) _ _, ?_⟩
      conv => whnf
      exact vi (by rw [cmpV, if_neg (by simpa using h)]; rfl)
    conv => whnf
    have hk : k = b.f0 := by simpa using h
    have eC : cmpV ⟨k, n, t, l⟩ b = if k = 1 ∨ k = 2 then cmpI n b.f1 else if k = 3 then Lib.compareBytes t.data.toList b.f2.data.toList else if k = 4 ∨ k = 5 ∨ k = 6 then cmpL l b.f3 else 0 := by rw [cmpV, if_pos hk]
    refine sel_split (fun g1 => ?_) (fun g1 => ?_)
    · conv => whnf
      refine sel_yes g1 ?_
      conv => whnf
      have g1 : k = 1 := by simpa using g1
      refine ⟨_, t25 (hn 34 (by decide) (by decide)) (hn 25 (by decide) (by decide)) _ _, ?_⟩
      conv => whnf
      exact vi (by rw [eC, if_pos (.inl g1)]; rfl)
    have g1 : k ≠ 1 := by simpa using g1
    conv => whnf
    refine sel_split (fun g2 => ?_) (fun g2 => ?_)
    · conv => whnf
      have g2 : k = 2 := by simpa using g2
      refine ⟨_, t25 (hn 34 (by decide) (by decide)) (hn 25 (by decide) (by decide)) _ _, ?_⟩
      conv => whnf
      exact vi (by rw [eC, if_pos (.inr g2)]; rfl)
    conv => whnf
    have g2 : k ≠ 2 := by simpa using g2
    have g12 : ¬ (k = 1 ∨ k = 2) := by omega
    refine sel_split (fun g3 => ?_) (fun g3 => ?_)
    · conv => whnf
      have g3 : k = 3 := by simpa using g3
      refine ⟨_, h26 _ _, ?_⟩
      conv => whnf
      exact vi (by rw [eC, if_neg g12, if_pos g3])
    have g3 : k ≠ 3 := by simpa using g3
    have row (g : k = 4 ∨ k = 5 ∨ k = 6) : (cfg ext).Ev 27 [.sl false (encL l) l.length, .sl false (encL b.f3) b.f3.length, .fn 15 []] (.int .i64 (cmpV ⟨k, n, t, l⟩ b)) := by
      rw [eC, if_neg g12, if_neg g3, if_pos g]
      simp only [WfV] at hw
      exact t27 (hn 27 (by decide) (by decide)) l b.f3 hw.2.2.2.1 fun a ha c _ => t15L hn h26 l hw.2.2.2.2 a ha c
    conv => whnf
    refine sel_split (fun g4 => ?_) (fun g4 => ?_)
    · conv => whnf
      refine sel_yes g4 ?_
      conv => whnf
      refine ⟨_, row (.inl (by simpa using g4)), ?_⟩
      conv => whnf
    have g4 : k ≠ 4 := by simpa using g4
    conv => whnf
    refine sel_split (fun g5 => ?_) (fun g5 => ?_)
    · conv => whnf
      refine sel_yes g5 ?_
      conv => whnf
      refine ⟨_, row (.inr (.inl (by simpa using g5))), ?_⟩
      conv => whnf
    have g5 : k ≠ 5 := by simpa using g5
    conv => whnf
    refine sel_split (fun g6 => ?_) (fun g6 => ?_)
    · conv => whnf
      refine ⟨_, row (.inr (.inr (by simpa using g6))), ?_⟩
      conv => whnf
    conv => whnf
    have g6 : k ≠ 6 := by simpa using g6
    exact vi (by rw [eC, if_neg g12, if_neg g3, if_neg (by omega)])
theorem t15L (hn : Non ext) (h26 : E26 ext) : (l : List T) → WfL l → ∀ a ∈ l, ∀ b : T, (cfg ext).Ev 15 [A a, A b] (.int .i64 (cmpV a b))
  | [], _, a, ha, _ => by cases ha
  | v :: l, hw, a, ha, b => by
    simp only [WfL] at hw
    rcases List.mem_cons.1 ha with e | h
    · rw [e]; exact t15 hn h26 v hw.1 b
    · exact t15L hn h26 l hw.2 a h b
end
end
end Go.Proofs.YtehajklneljbgaaDoor.AB
end

section
set_option linter.unusedVariables false
set_option linter.unusedSimpArgs false
open Go Go.Ab Go.Proofs Go.Vl
namespace Go.Proofs.YtehajklneljbgaaDoor.AB
set_option maxRecDepth 100000
set_option maxHeartbeats 1600000
section
variable {ext : Exts}
def E73 (ext : Exts) : Prop := ∀ s : ByteArray, (cfg ext).Ev 73 [.str s] (.tup [.int .i32 (decGo s).1, .int .i64 (decGo s).2])
theorem vb {a b : Bool} (h : a = b) : V.bool a = V.bool b := by rw [h]
theorem slStr {P : Program} {t : Nat} {s : ByteArray} {k : IntKind} {i : Nat} (ht : isStrT P t = true) (h : i ≤ s.size) : sliceV P t (.str s) (some (.int k i)) none none = some (.str (s.extract i s.size)) := by
  simp only [sliceV, ht, boundO, bound, Option.bind_some]
  rw [if_pos (by omega)]
  rfl
theorem l63 (h73 : E73 ext) (s : ByteArray) (Q : Ex → St → Prop) (d : Nat) :
    ∀ (p : Nat) (z : St), s.size ≤ p + d → Has z.t [(8, .ref 2 0), (0, .str s)] → Has z.hp.h [(2, some (.iter s p))] → z.hp.n = 3 →
      (∀ z', z'.t 2 = .bool false → utfGo s d p = false → Q .ret z') →
      (∀ z', utfGo s d p = true → Q (.exit 0) z') →
      Go.Ab.Loop (cfg ext) (lpOf Tryd.f63) 3 z Q := by
  induction d with
  | zero =>
    intro p z hd hz hb hn hr hq
    rw [St.knows _ _ hz hn _ hb]
    refine Loop.round ?_
    conv => whnf
    refine sel_split (fun h => ?_) (fun h => ?_)
    · simp at h; omega
    conv => whnf
    exact hq _ rfl
  | succ d ih =>
    intro p z hd hz hb hn hr hq
    rw [St.knows _ _ hz hn _ hb]
    refine Loop.round ?_
    conv => whnf
    refine sel_split (fun h => ?_) (fun h => ?_)
    · have hp : p < s.size := by simpa using h
      have hl := dec_le s p
      have next : ∀ (h : ¬ ((Utf8.decode s p).1 = 65533 ∧ (Utf8.decode s p).2 = 1)), utfGo s (d + 1) p = utfGo s d (p + (Utf8.decode s p).2) := fun h => by rw [utfGo, if_pos hp, if_neg h]
      conv => whnf
      refine sel_split (fun h2 => ?_) (fun h2 => ?_)
      · have h2 : (Utf8.decode s p).1 = 65533 := by have := eq_of_beq h2; omega
        conv => whnf
        refine ⟨_, slStr rfl (by omega : p ≤ s.size), ?_⟩
        conv => whnf
        refine ⟨_, h73 _, ?_⟩
        rw [decGo_extract s p hp]
        conv => whnf
        refine sel_split (fun h3 => ?_) (fun h3 => ?_)
        · have h3 : (Utf8.decode s p).2 = 1 := by have := eq_of_beq h3; omega
          conv => whnf
          exact hr _ rfl (by rw [utfGo, if_pos hp, if_pos ⟨h2, h3⟩])
        · have h3 : (Utf8.decode s p).2 ≠ 1 := by have := ne_of_beq_false h3; omega
          conv => whnf
          exact ih _ _ (by omega) ⟨rfl, rfl, trivial⟩ ⟨rfl, trivial⟩ rfl (fun z' h h' => hr z' h (by rw [next (fun g => h3 g.2)]; exact h')) (fun z' h' => hq z' (by rw [next (fun g => h3 g.2)]; exact h'))
      · have h2 : (Utf8.decode s p).1 ≠ 65533 := by have := ne_of_beq_false h2; omega
        conv => whnf
        exact ih _ _ (by omega) ⟨rfl, rfl, trivial⟩ ⟨rfl, trivial⟩ rfl (fun z' h h' => hr z' h (by rw [next (fun g => h2 g.1)]; exact h')) (fun z' h' => hq z' (by rw [next (fun g => h2 g.1)]; exact h'))
    · have hp : ¬ p < s.size := by simpa using h
      conv => whnf
      exact hq _ (by rw [utfGo, if_neg hp])
theorem t63 (hn : Non ext) (h73 : E73 ext) (s : ByteArray) : (cfg ext).Ev 63 [.str s] (.bool (utfB s)) := by
  refine Ev.of (hn 63 (by decide) (by decide)) Tryd.func63 rfl rfl ?_
  conv => whnf
  refine l63 h73 s _ s.size 0 _ (by omega) ⟨rfl, rfl, trivial⟩ ⟨rfl, trivial⟩ rfl (fun z h1 h2 => ?_) (fun z h => ?_)
  · conv => whnf
    rw [h1]
    exact vb h2.symm
  · conv => whnf
    exact vb h.symm
theorem l54 (s : ByteArray) (Q : Ex → St → Prop) (d : Nat) :
    ∀ (p : Nat) (c : Int) (z : St), s.size ≤ p + d → Has z.t [(4, .ref 2 0), (2, .int .i64 c)] → Has z.hp.h [(2, some (.iter s p))] → z.hp.n = 3 →
      (∀ z' c', z'.t 2 = .int .i64 c' → Q (.exit 0) z') →
      Go.Ab.Loop (cfg ext) (lpOf Tryd.f54) 3 z Q := by
  induction d with
  | zero =>
    intro p c z hd hz hb hn hq
    rw [St.knows _ _ hz hn _ hb]
    refine Loop.round ?_
    conv => whnf
    refine sel_split (fun h => ?_) (fun h => ?_)
    · simp at h; omega
    conv => whnf
    exact hq _ _ rfl
  | succ d ih =>
    intro p c z hd hz hb hn hq
    rw [St.knows _ _ hz hn _ hb]
    refine Loop.round ?_
    conv => whnf
    refine sel_split (fun h => ?_) (fun h => ?_)
    · have hl := dec_le s p
      conv => whnf
      exact ih _ _ _ (by omega) ⟨rfl, rfl, trivial⟩ ⟨rfl, trivial⟩ rfl hq
    · conv => whnf
      exact hq _ _ rfl
theorem t54 (hn : Non ext) (s : ByteArray) : ∃ c, (cfg ext).Ev 54 [.str s] (.int .i64 c) := by
  have key : ∃ r, (cfg ext).Ev 54 [.str s] r ∧ ∃ c, r = .int .i64 c := by
    refine Ev.ofE (hn 54 (by decide) (by decide)) Tryd.func54 rfl rfl ?_
    conv => whnf
    refine l54 s _ s.size 0 0 _ (by omega) ⟨rfl, rfl, trivial⟩ ⟨rfl, trivial⟩ rfl (fun z c h => ?_)
    rw [St.knows [(2, _)] _ ⟨h, trivial⟩ rfl]
    conv => whnf
    exact ⟨_, rfl⟩
  obtain ⟨r, h, c, rfl⟩ := key
  exact ⟨c, h⟩
theorem t57 (hn : Non ext) (h73 : E73 ext) (v : T) : (cfg ext).Ev 57 [A v] (.bool (decide (PlainV v.f0 v.f1 v.f2))) := by
  refine Ev.of (hn 57 (by decide) (by decide)) Tryd.func57 rfl rfl ?_
  have u := t63 hn h73 v.f2
  have no (h : ¬ PlainV v.f0 v.f1 v.f2) : V.bool false = V.bool (decide (PlainV v.f0 v.f1 v.f2)) := vb (by simp [h])
  have tx (h : (!(v.f2.toList == (⟨#[]⟩ : ByteArray).toList)) = true) (h3 : v.f0 ≠ 3) : ¬ PlainV v.f0 v.f1 v.f2 := fun g => by
    have := g.1.resolve_left h3
    rw [this] at h; simp at h
  have tx2 (h : (!(v.f2.toList == (⟨#[]⟩ : ByteArray).toList)) = false) : v.f2 = ⟨#[]⟩ := by
    have h : v.f2.toList = (⟨#[]⟩ : ByteArray).toList := by simpa using h
    rw [ByteArray.toList_eq, ByteArray.toList_eq] at h
    exact Go.WideShapes.bytes_inj h
  conv => whnf
  by_cases k3 : v.f0 = 3
  · rw [show (v.f0 != 3) = false by simp [k3]]
    conv => whnf
    rw [show (v.f0 != 2) = true by simp [k3]]
    conv => whnf
    rw [show (v.f0 != 1) = true by simp [k3]]
    conv => whnf
    cases hn : (v.f1 != 0) with
    | true =>
      conv => whnf
      exact no fun g => by have := g.2.1; simp at hn; omega
    | false =>
      conv => whnf
      rw [show (v.f0 == 1) = false by simp [k3]]
      conv => whnf
      rw [show (v.f0 == 3) = true by simp [k3]]
      conv => whnf
      have hn : v.f1 = 0 := by simpa using hn
      refine sel_split (fun hz => ?_) (fun hz => ?_)
      · conv => whnf
        refine sel_yes hz ?_
        conv => whnf
        refine sel_yes hz ?_
        conv => whnf
        refine ⟨_, u, ?_⟩
        conv => whnf
        have hz' : decide ((v.f2.size : Int) ≤ 256) = true := by simpa using hz
        refine sel_yes hz' ?_
        conv => whnf
        refine vb ?_
        have hz : v.f2.size ≤ 256 := by simp at hz'; omega
        have : PlainV v.f0 v.f1 v.f2 ↔ utfB v.f2 = true := by
          unfold PlainV
          rw [if_neg (show ¬ v.f0 = 1 by omega), if_pos k3]
          exact ⟨fun h => h.2.2.2, fun h => ⟨.inl k3, .inr (.inr hn), hz, h⟩⟩
        rw [Bool.eq_iff_iff, decide_eq_true_iff]; exact this.symm
      · conv => whnf
        refine sel_no hz ?_
        conv => whnf
        refine sel_no hz ?_
        conv => whnf
        have hz' : decide ((v.f2.size : Int) ≤ 256) = false := by simpa using hz
        refine sel_no hz' ?_
        conv => whnf
        exact no fun g => by have := g.2.2; rw [if_neg (by omega), if_pos k3] at this; simp at hz'; omega
  · rw [show (v.f0 != 3) = true by simp [k3]]
    conv => whnf
    cases ht : (!(v.f2.toList == (⟨#[]⟩ : ByteArray).toList)) with
    | true => 
      conv => whnf
      exact no (tx ht k3)
    | false => 
      have ht := tx2 ht
      conv => whnf
      by_cases k2 : v.f0 = 2
      · rw [show (v.f0 != 2) = false by simp [k2]]
        conv => whnf
        rw [show (v.f0 == 1) = false by simp [k2]]
        conv => whnf
        rw [show (v.f0 == 3) = false by simp [k2]]
        conv => whnf
        have h0 : (decide (v.f0 ≥ 0) == true) = true := by simp [k2]
        refine sel_yes h0 ?_
        conv => whnf
        refine sel_yes h0 ?_
        conv => whnf
        refine sel_yes h0 ?_
        conv => whnf
        refine sel_yes (show decide (v.f0 ≥ 0) = true by simp [k2]) ?_
        conv => whnf
        refine vb ?_
        rw [decide_eq_true (show v.f0 ≤ 6 by omega), decide_eq_true]
        exact ⟨.inr ht, .inr (.inl k2), by rw [if_neg (by omega), if_neg (by omega)]; omega⟩
      · rw [show (v.f0 != 2) = true by simp [k2]]
        conv => whnf
        by_cases k1 : v.f0 = 1
        · rw [show (v.f0 != 1) = false by simp [k1]]
          conv => whnf
          rw [show (v.f0 == 1) = true by simp [k1]]
          conv => whnf
          have pl : PlainV v.f0 v.f1 v.f2 ↔ v.f1 = 0 ∨ v.f1 = 1 := by
            unfold PlainV
            rw [if_pos k1]
            exact ⟨fun h => h.2.2, fun h => ⟨.inr ht, .inl k1, h⟩⟩
          cases hz : (v.f1 == 0) with
          | true =>
            conv => whnf
            have : v.f1 = 0 := by simpa using hz
            exact vb (by rw [decide_eq_true (pl.2 (.inl this))])
          | false =>
            conv => whnf
            have : v.f1 ≠ 0 := by simpa using hz
            refine vb ?_
            rw [Bool.eq_iff_iff, decide_eq_true_iff, pl]
            exact ⟨fun h => .inr (by simpa using h), fun h => by simpa using h.resolve_left this⟩
        · rw [show (v.f0 != 1) = true by simp [k1]]
          conv => whnf
          cases hn : (v.f1 != 0) with
          | true =>
            conv => whnf
            exact no fun g => by have := g.2.1; simp at hn; omega
          | false =>
            conv => whnf
            rw [show (v.f0 == 1) = false by simp [k1]]
            conv => whnf
            rw [show (v.f0 == 3) = false by simp [k3]]
            conv => whnf
            have hn : v.f1 = 0 := by simpa using hn
            have pl : PlainV v.f0 v.f1 v.f2 ↔ 0 ≤ v.f0 ∧ v.f0 ≤ 6 := by
              unfold PlainV
              rw [if_neg k1, if_neg k3]
              exact ⟨fun h => h.2.2, fun h => ⟨.inr ht, .inr (.inr hn), h⟩⟩
            refine sel_split (fun h0 => ?_) (fun h0 => ?_)
            · conv => whnf
              refine sel_yes h0 ?_
              conv => whnf
              refine sel_yes h0 ?_
              conv => whnf
              have h0 : decide (v.f0 ≥ 0) = true := by simpa using h0
              refine sel_yes h0 ?_
              conv => whnf
              refine vb ?_
              have h0 : 0 ≤ v.f0 := by simpa using h0
              rw [Bool.eq_iff_iff, decide_eq_true_iff, decide_eq_true_iff, pl]
              exact ⟨fun h => ⟨h0, h⟩, fun h => h.2⟩
            · conv => whnf
              refine sel_no h0 ?_
              conv => whnf
              refine sel_no h0 ?_
              conv => whnf
              have h0 : decide (v.f0 ≥ 0) = false := by simpa using h0
              refine sel_no h0 ?_
              conv => whnf
              exact no fun g => by have := (pl.1 g).1; simp at h0; omega
end
end Go.Proofs.YtehajklneljbgaaDoor.AB
end

section
set_option linter.unusedVariables false
set_option linter.unusedSimpArgs false
open Go Go.Ab Go.Proofs Go.Vl
namespace Go.Proofs.YtehajklneljbgaaDoor.AB
set_option maxRecDepth 100000
set_option maxHeartbeats 1600000
section
variable {ext : Exts}
theorem wrapN {k : Int} {i : Nat} (e : k = i) (h : i ≤ 9223372036854775807) : IntKind.i64.wrap k = (i : Int) := by
  rw [IntKind.wrap_i64]; omega
def cellsV (v : T) : List V := [.int .i64 v.f0, .int .i64 v.f1, .str v.f2, .sl false (encL v.f3) v.f3.length]
theorem l58 (v : T) (hl : v.f3.length ≤ 4611686018427387904) (E : ∀ a ∈ v.f3, ∀ b, (cfg ext).Ev 15 [A a, A b] (.int .i64 (cmpV a b))) (st : Nat) (hs : st = 1 ∨ st = 2) (M : Nat) (Q : Ex → St → Prop) (d : Nat) :
    ∀ (i : Nat) (z : St), v.f3.length - i ≤ d → st ≤ i → i % st = 0 → i ≤ v.f3.length + 2 → Has z.t [(1, .ref 0 0), (3, .int .i64 st), (4, .int .i64 i)] → Has z.hp.h [(0, some (.cells (cellsV v) false))] → z.hp.n = M + 1 →
      (∀ z', z'.t 2 = .bool false → (¬ ∀ j : Nat, i ≤ j + st → j % st = 0 → ∀ (h : j + st < v.f3.length), cmpV (v.f3[j]'(by omega)) (v.f3[j + st]) < 0) → Q .ret z') →
      (∀ z', (∀ j : Nat, i ≤ j + st → j % st = 0 → ∀ (h : j + st < v.f3.length), cmpV (v.f3[j]'(by omega)) (v.f3[j + st]) < 0) → Q (.exit 1) z') →
      Go.Ab.Loop (cfg ext) (lpOf Tryd.f58) (M + 1) z Q := by
  have stop : ∀ (i : Nat) (z : St), v.f3.length ≤ i → Has z.t [(1, .ref 0 0), (3, .int .i64 st), (4, .int .i64 i)] → Has z.hp.h [(0, some (.cells (cellsV v) false))] → z.hp.n = M + 1 →
      (∀ z', (∀ j : Nat, i ≤ j + st → j % st = 0 → ∀ (h : j + st < v.f3.length), cmpV (v.f3[j]'(by omega)) (v.f3[j + st]) < 0) → Q (.exit 1) z') →
      Go.Ab.Loop (cfg ext) (lpOf Tryd.f58) (M + 1) z Q := by
    intro i z hi hz hb hn hq
    rw [St.knows _ _ hz hn _ hb]
    refine Loop.round ?_
    conv => whnf
    refine sel_split (fun h => ?_) (fun h => ?_)
    · simp at h; omega
    conv => whnf
    exact hq _ (by intro j h1 _ h2; omega)
  induction d with
  | zero => intro i z hd _ _ _ hz hb hn _ hq; exact stop i z (by omega) hz hb hn hq
  | succ d ih =>
    intro i z hd hi hm hi2 hz hb hn hr hq
    by_cases hlt : i < v.f3.length
    · rw [St.knows _ _ hz hn _ hb]
      refine Loop.round ?_
      conv => whnf
      refine sel_split (fun h => ?_) (fun h => ?_)
      · have e1 : IntKind.i64.wrap ((i : Int) - (st : Int)) = ((i - st : Nat) : Int) := wrapN (by omega) (by omega)
        have e2 : IntKind.i64.wrap ((i : Int) + (st : Int)) = ((i + st : Nat) : Int) := wrapN (by omega) (by omega)
        conv => whnf
        rw [e1]
        refine ⟨⟨by omega, by omega⟩, ?_⟩
        conv => whnf
        refine ldA (i := i - st) (by omega) ?_
        conv => whnf
        refine ⟨⟨by omega, by omega⟩, ?_⟩
        conv => whnf
        refine ldA (i := i) (by omega) ?_
        conv => whnf
        refine ⟨_, E _ (List.getElem_mem _) _, ?_⟩
        conv => whnf
        refine sel_split (fun h3 => ?_) (fun h3 => ?_)
        · conv => whnf
          refine hr _ rfl ?_
          intro h
          have e3 : i - st + st = i := by omega
          have := h (i - st) (by omega) (by rcases hs with rfl | rfl <;> omega) (by omega)
          simp only [e3] at this
          simp at h3
          omega
        · conv => whnf
          have hc : cmpV (v.f3[i - st]'(by omega)) (v.f3[i]) < 0 := by simp at h3; omega
          have both : (∀ j : Nat, i + st ≤ j + st → j % st = 0 → ∀ (h : j + st < v.f3.length), cmpV (v.f3[j]'(by omega)) (v.f3[j + st]) < 0) ↔ (∀ j : Nat, i ≤ j + st → j % st = 0 → ∀ (h : j + st < v.f3.length), cmpV (v.f3[j]'(by omega)) (v.f3[j + st]) < 0) := by
            constructor
            · intro h j hj hjm hjl
              by_cases e : i + st ≤ j + st
              · exact h j e hjm hjl
              · have : j = i - st := by rcases hs with rfl | rfl <;> omega
                subst this
                have e3 : i - st + st = i := by omega
                simp only [e3]
                exact hc
            · intro h j hj hjm hjl
              exact h j (by omega) hjm hjl
          refine ih (i + st) _ (by omega) (by omega) (by rcases hs with rfl | rfl <;> omega) (by omega) ⟨rfl, rfl, ?_, trivial⟩ ⟨rfl, trivial⟩ rfl (fun z' h1 h2 => hr z' h1 (fun g => h2 (both.2 g))) (fun z' h1 => hq z' (both.1 h1))
          conv => lhs; whnf
          exact vi e2
      · simp at h; omega
    · exact stop i z (by omega) hz hb hn hq
noncomputable def formB (k : Int) (l : List T) : Bool := @decide (FormV k l) (Classical.propDecidable _)
theorem formB_iff {k : Int} {l : List T} : formB k l = true ↔ FormV k l := by unfold formB; exact @decide_eq_true_iff _ (Classical.propDecidable _)
theorem formB_t {k : Int} {l : List T} (h : FormV k l) : V.bool true = V.bool (formB k l) := vb (formB_iff.2 h).symm
theorem formB_f {k : Int} {l : List T} (h : ¬ FormV k l) : V.bool false = V.bool (formB k l) := vb (by cases e : formB k l with | true => exact absurd (formB_iff.1 e) h | false => rfl)
theorem t58 (hn : Non ext) (v : T) (hl : v.f3.length ≤ 4611686018427387904) (E : ∀ a ∈ v.f3, ∀ b, (cfg ext).Ev 15 [A a, A b] (.int .i64 (cmpV a b))) : (cfg ext).Ev 58 [A v] (.bool (formB v.f0 v.f3)) := by
  refine Ev.of (hn 58 (by decide) (by decide)) Tryd.func58 rfl rfl ?_
  conv => whnf
  refine sel_split (fun c4 => ?_) (fun c4 => ?_)
  · conv => whnf
    have c4 : v.f0 = 4 := by simpa using c4
    exact formB_t (by unfold FormV; rw [if_pos c4]; trivial)
  conv => whnf
  have c4 : v.f0 ≠ 4 := by simpa using c4
  refine sel_split (fun c6 => ?_) (fun c6 => ?_)
  · conv => whnf
    have c6 : v.f0 = 6 := by simpa using c6
    refine ⟨rfl, by decide, ?_⟩
    conv => whnf
    refine sel_split (fun ho => ?_) (fun ho => ?_)
    · conv => whnf
      refine formB_f ?_
      unfold FormV
      rw [if_neg c4, if_pos c6]
      have ho : ((v.f3.length : Int).tmod 2) = 1 := by simpa using ho
      rw [Int.tmod_eq_emod_of_nonneg (by omega)] at ho
      omega
    · conv => whnf
      have ho : v.f3.length % 2 = 0 := by
        have ho : ((v.f3.length : Int).tmod 2) ≠ 1 := by simpa using ho
        rw [Int.tmod_eq_emod_of_nonneg (by omega)] at ho
        omega
      refine l58 v hl E 2 (.inr rfl) _ _ v.f3.length 2 _ (by omega) (by omega) (by omega) (by omega) ⟨rfl, rfl, rfl, trivial⟩ ⟨rfl, trivial⟩ rfl (fun z h1 h2 => ?_) (fun z h => ?_)
      · conv => whnf
        rw [h1]
        refine formB_f ?_
        unfold FormV
        rw [if_neg c4, if_pos c6]
        exact fun h => h2 fun j _ hj hh => h.2 j hj hh
      · conv => whnf
        refine formB_t ?_
        unfold FormV
        rw [if_neg c4, if_pos c6]
        exact ⟨ho, fun j hj hh => h j (by omega) hj hh⟩
  conv => whnf
  have c6 : v.f0 ≠ 6 := by simpa using c6
  refine sel_split (fun c5 => ?_) (fun c5 => ?_)
  · conv => whnf
    have c5 : v.f0 = 5 := by simpa using c5
    refine l58 v hl E 1 (.inl rfl) _ _ v.f3.length 1 _ (by omega) (by omega) (by omega) (by omega) ⟨rfl, rfl, rfl, trivial⟩ ⟨rfl, trivial⟩ rfl (fun z h1 h2 => ?_) (fun z h => ?_)
    · conv => whnf
      rw [h1]
      refine formB_f ?_
      unfold FormV
      rw [if_neg c4, if_neg c6, if_pos c5]
      exact fun h => h2 fun j _ hj hh => h j hj hh
    · conv => whnf
      refine formB_t ?_
      unfold FormV
      rw [if_neg c4, if_neg c6, if_pos c5]
      exact fun j hj hh => h j (by omega) hj hh
  · conv => whnf
    have c5 : v.f0 ≠ 5 := by simpa using c5
    refine vb ?_
    rw [Bool.eq_iff_iff, formB_iff, beq_iff_eq]
    unfold FormV
    rw [if_neg c4, if_neg c6, if_neg c5]
    constructor
    · intro h; exact List.eq_nil_of_length_eq_zero (by omega)
    · intro h; rw [h]; rfl
end
end Go.Proofs.YtehajklneljbgaaDoor.AB
end

section
set_option linter.unusedVariables false
set_option linter.unusedSimpArgs false
open Go Go.Ab Go.Proofs Go.Vl
namespace Go.Proofs.YtehajklneljbgaaDoor.AB
set_option maxRecDepth 100000
set_option maxHeartbeats 1600000
section
variable {ext : Exts}
def CntE (ext : Exts) (a : T) : Prop := ∀ a1 a2 : Int, 0 ≤ a1 → a1 ≤ 65536 → -1048576 ≤ a2 → a2 ≤ 1048576 → (cfg ext).Ev 44 [A a, .int .i64 a1, .int .i64 a2] (.int .i64 (cntZ a a1 a2))
def k44 (l : List T) (a1 a2 x7 : Int) (i : Nat) : List (Nat × V) := [(38, .int .i64 i), (37, .int .i64 l.length), (36, .sl false (encL l) l.length), (1, .int .i64 a1), (2, .int .i64 a2), (7, .int .i64 x7), (3, .ref 0 0)]
theorem l44 (v : T) (E : ∀ a ∈ v.f3, CntE ext a) (a1 a2 : Int) (h0 : 0 ≤ a1) (h1 : v.f3 ≠ [] → 1 ≤ a1) (h2 : a1 ≤ 65536) (h3 : a2 ≤ 1048576) (hl : v.f3.length ≤ 1048576) (Q : Ex → St → Prop) (d : Nat) :
    ∀ (i : Nat) (x7 : Int) (z : St), v.f3.length - i = d → i ≤ v.f3.length → 1 ≤ x7 → x7 ≤ a2 → Has z.t (k44 v.f3 a1 a2 x7 i) → Has z.hp.h [(0, some (.cells (cellsV v) false))] → z.hp.n = 31 →
      (∀ z', z'.t 6 = .int .i64 0 → cntL v.f0 v.f3 (v.f3.drop i) x7 a1 a2 = 0 → Q .ret z') →
      (∀ z' x, Has z'.t [(3, .ref 0 0), (7, .int .i64 x)] → Has z'.hp.h [(0, some (.cells (cellsV v) false))] → z'.hp.n = 32 → cntL v.f0 v.f3 (v.f3.drop i) x7 a1 a2 = cntL v.f0 v.f3 [] x a1 a2 → x ≤ a2 → Q (.exit 0) z') →
      Go.Ab.Loop (cfg ext) (lpOf Tryd.f44) (31) z Q := by
  induction d with
  | zero =>
    intro i x7 z hd hi hx hxa hz hb hn hr hq
    obtain rfl : i = v.f3.length := by omega
    rw [St.knows _ _ hz hn _ hb]
    refine Loop.round ?_
    conv => whnf
    refine sel_split (fun h => ?_) (fun h => ?_)
    · simp at h
    conv => whnf
    exact hq _ x7 ⟨rfl, rfl, trivial⟩ ⟨rfl, trivial⟩ rfl (by rw [List.drop_length]) hxa
  | succ d ih =>
    intro i x7 z hd hi hx hxa hz hb hn hr hq
    have hlt : i < v.f3.length := by omega
    have ha1 := h1 (fun e => by rw [e] at hlt; simp at hlt)
    have e1 : IntKind.i64.wrap (a1 - 1) = a1 - 1 := by rw [IntKind.wrap_i64]; omega
    have e2 : IntKind.i64.wrap (a2 - x7) = a2 - x7 := by rw [IntKind.wrap_i64]; omega
    have hr' := E _ (List.getElem_mem hlt) (a1 - 1) (a2 - x7) (by omega) (by omega) (by omega) (by omega)
    have hp := partsV_pos v.f3[i]
    have hdrop := List.drop_eq_getElem_cons hlt
    rw [St.knows _ _ hz hn _ hb]
    refine Loop.round ?_
    conv => whnf
    refine sel_split (fun h => ?_) (fun h => ?_)
    · conv => whnf
      refine ⟨⟨by omega, by omega⟩, ?_⟩
      conv => whnf
      refine ldA (i := i) hlt ?_
      conv => whnf
      rw [e1, e2]
      refine ⟨_, hr', ?_⟩
      conv => whnf
      refine sel_split (fun hz => ?_) (fun hz => ?_)
      · conv => whnf
        have hz : cntZ v.f3[i] (a1 - 1) (a2 - x7) = 0 := by simpa using hz
        refine hr _ rfl ?_
        unfold cntL
        rw [hdrop]
        refine if_neg (fun g => ?_)
        simp only [OkL, deepL, partsL] at g
        have : cntZ v.f3[i] (a1 - 1) (a2 - x7) = (partsV v.f3[i] : Int) := if_pos ⟨g.2.1.1, by omega, by omega⟩
        omega
      · conv => whnf
        have hz' : cntZ v.f3[i] (a1 - 1) (a2 - x7) ≠ 0 := by simpa using hz
        have hz : OkV v.f3[i] ∧ (deepV v.f3[i] : Int) ≤ a1 - 1 ∧ (partsV v.f3[i] : Int) ≤ a2 - x7 := by
          by_cases g : OkV v.f3[i] ∧ (deepV v.f3[i] : Int) ≤ a1 - 1 ∧ (partsV v.f3[i] : Int) ≤ a2 - x7
          · exact g
          · exact absurd (if_neg g) hz'
        have hc : cntZ v.f3[i] (a1 - 1) (a2 - x7) = (partsV v.f3[i] : Int) := if_pos hz
        have e4 : IntKind.i64.wrap (x7 + (partsV v.f3[i] : Int)) = x7 + (partsV v.f3[i] : Int) := by rw [IntKind.wrap_i64]; omega
        have hk : cntL v.f0 v.f3 (v.f3.drop i) x7 a1 a2 = cntL v.f0 v.f3 (v.f3.drop (i + 1)) (x7 + (partsV v.f3[i] : Int)) a1 a2 := by
          unfold cntL
          rw [hdrop]
          refine ite_zero ⟨fun g => ?_, fun g => ?_⟩ (fun g => ?_)
          · simp only [OkL, deepL, partsL] at g
            exact ⟨g.1, g.2.1.2, by omega, by omega⟩
          · simp only [OkL, deepL, partsL]
            exact ⟨g.1, ⟨hz.1, g.2.1⟩, by omega, by omega⟩
          · simp only [partsL]
            omega
        rw [hk] at hr hq
        refine ih (i + 1) (x7 + (partsV v.f3[i] : Int)) _ (by omega) (by omega) (by omega) (by omega) ⟨?_, rfl, rfl, rfl, rfl, ?_, rfl, trivial⟩ ⟨rfl, trivial⟩ rfl hr hq
        · conv => lhs; whnf
          exact vi (wrap_add1 (by omega))
        · conv => lhs; whnf
          exact vi (by rw [hc]; exact e4)
    · simp at h; omega
theorem okV_eq (v : T) : OkV v = (PlainV v.f0 v.f1 v.f2 ∧ FormV v.f0 v.f3 ∧ OkL v.f3) := by cases v; simp only [OkV]
theorem deepV_eq (v : T) : deepV v = deepL v.f3 := by cases v; simp only [deepV]
theorem partsV_eq (v : T) : partsV v = 1 + partsL v.f3 := by cases v; simp only [partsV]
theorem t44_one (hn : Non ext) (h73 : E73 ext) (v : T) (E : ∀ a ∈ v.f3, CntE ext a) (E15 : ∀ a ∈ v.f3, ∀ b, (cfg ext).Ev 15 [A a, A b] (.int .i64 (cmpV a b))) : CntE ext v := by
  intro a1 a2 h0 h1 h2 h3
  refine Ev.of (hn 44 (by decide) (by decide)) Tryd.func44 rfl rfl ?_
  have hpl := partsL_len v.f3
  have pl := t57 hn h73 v
  have zero (h : ¬ (PlainV v.f0 v.f1 v.f2 ∧ (deepL v.f3 : Int) ≤ a1 ∧ ((1 + partsL v.f3 : Nat) : Int) ≤ a2)) : V.int .i64 0 = .int .i64 (cntZ v a1 a2) := by
    refine vi (if_neg fun g => h ?_).symm
    rw [okV_eq, deepV_eq, partsV_eq] at g
    exact ⟨g.1.1, g.2.1, g.2.2⟩
  have hk (hp : PlainV v.f0 v.f1 v.f2) : cntZ v a1 a2 = cntL v.f0 v.f3 (v.f3.drop 0) 1 a1 a2 := by
    unfold cntZ cntL
    rw [List.drop_zero]
    rw [deepV_eq, partsV_eq]
    refine ite_zero ⟨fun g => ?_, fun g => ?_⟩ (fun g => ?_)
    · rw [okV_eq] at g
      exact ⟨g.1.2.1, g.1.2.2, g.2.1, by omega⟩
    · rw [okV_eq]
      exact ⟨⟨hp, g.1, g.2.1⟩, g.2.2.1, by omega⟩
    · omega
  conv => whnf
  by_cases c1 : a2 < 1
  · have g : (decide (a2 < 1) == false) = false := by simp [c1]
    refine sel_no g ?_
    conv => whnf
    refine sel_no g ?_
    conv => whnf
    refine sel_no g ?_
    conv => whnf
    refine sel_no g ?_
    conv => whnf
    refine sel_no g ?_
    conv => whnf
    refine sel_yes (decide_eq_true c1) ?_
    conv => whnf
    exact zero fun g => by omega
  have hn1 : a2 ≥ 1 := by omega
  have g1 : (decide (a2 < 1) == false) = true := by simp; omega
  refine sel_yes g1 ?_
  conv => whnf
  refine sel_yes g1 ?_
  conv => whnf
  refine sel_yes g1 ?_
  conv => whnf
  refine sel_yes g1 ?_
  conv => whnf
  refine sel_yes g1 ?_
  conv => whnf
  refine sel_no (decide_eq_false c1) ?_
  conv => whnf
  by_cases c5 : (v.f3.length : Int) ≥ a2
  · have g : (decide ((v.f3.length : Int) ≥ a2) == false) = false := by simp; omega
    refine sel_no g ?_
    conv => whnf
    refine sel_no g ?_
    conv => whnf
    refine sel_no g ?_
    conv => whnf
    refine sel_no g ?_
    conv => whnf
    refine sel_no g ?_
    conv => whnf
    refine sel_no g ?_
    conv => whnf
    refine sel_yes (decide_eq_true c5) ?_
    conv => whnf
    exact zero fun g => by omega
  have g5 : (decide ((v.f3.length : Int) ≥ a2) == false) = true := by simp; omega
  have fo := t58 hn v (by omega) E15
  refine sel_yes g5 ?_
  conv => whnf
  refine sel_yes g5 ?_
  conv => whnf
  refine sel_yes g5 ?_
  conv => whnf
  refine sel_yes g5 ?_
  conv => whnf
  refine sel_yes g5 ?_
  conv => whnf
  by_cases c2 : (v.f3.length : Int) > 0
  · have g : (decide ((v.f3.length : Int) > 0) == true) = true := by simpa using c2
    refine sel_yes g ?_
    conv => whnf
    refine sel_yes g ?_
    conv => whnf
    refine sel_yes g5 ?_
    conv => whnf
    refine sel_yes (decide_eq_true c2) ?_
    conv => whnf
    refine sel_no (decide_eq_false c5) ?_
    conv => whnf
    by_cases c0 : a1 = 0
    · have g0 : ((a1 == 0) == false) = false := by simp [c0]
      refine sel_no g0 ?_
      conv => whnf
      refine sel_no g0 ?_
      conv => whnf
      refine sel_no g0 ?_
      conv => whnf
      refine sel_yes (by simp [c0]) ?_
      conv => whnf
      refine zero fun g => ?_
      have : ∃ x m, v.f3 = x :: m := List.exists_cons_of_ne_nil (fun e => by rw [e] at c2; simp at c2)
      obtain ⟨x, m, e⟩ := this
      have := g.2.1
      rw [e] at this
      simp only [deepL] at this
      omega
    · have g0 : ((a1 == 0) == false) = true := by simp [c0]
      have hne : v.f3 ≠ [] → 1 ≤ a1 := fun _ => by omega
      refine sel_yes g0 ?_
      conv => whnf
      refine sel_yes g0 ?_
      conv => whnf
      refine ⟨_, pl, ?_⟩
      conv => whnf
      refine sel_yes g0 ?_
      conv => whnf
      refine sel_no (by simpa using c0) ?_
      conv => whnf
      cases hp : decide (PlainV v.f0 v.f1 v.f2) with
      | false =>
        conv => whnf
        exact zero fun g => absurd g.1 (of_decide_eq_false hp)
      | true =>
        have hp : PlainV v.f0 v.f1 v.f2 := of_decide_eq_true hp
        conv => whnf
        refine l44 v E a1 a2 h0 hne h1 h3 (by omega) _ v.f3.length 0 1 _ (by omega) (by omega) (by omega) (by omega) ⟨rfl, rfl, rfl, rfl, rfl, rfl, rfl, trivial⟩ ⟨rfl, trivial⟩ rfl (fun z e1 e2 => ?_) (fun z x e1 e2 e3 e4 e5 => ?_)
        · conv => whnf
          rw [e1]
          exact vi (by rw [hk hp, e2])
        · rw [St.knows _ _ e1 e3 _ e2]
          conv => whnf
          refine ⟨_, fo, ?_⟩
          conv => whnf
          cases hf : formB v.f0 v.f3 with
          | false =>
            conv => whnf
            refine vi ?_
            rw [hk hp, e4]
            exact (if_neg fun g => by rw [formB_iff.2 g.1] at hf; cases hf).symm
          | true =>
            conv => whnf
            refine vi ?_
            rw [hk hp, e4]
            unfold cntL
            rw [if_pos ⟨formB_iff.1 hf, by simp only [OkL], by simp only [deepL]; omega, by simp only [partsL]; omega⟩]
            simp only [partsL]; omega
  · have g : (decide ((v.f3.length : Int) > 0) == true) = false := by simpa using c2
    refine sel_no g ?_
    conv => whnf
    refine sel_no g ?_
    conv => whnf
    refine sel_yes g5 ?_
    conv => whnf
    refine sel_no (decide_eq_false c2) ?_
    conv => whnf
    refine sel_no (decide_eq_false c5) ?_
    conv => whnf
    have hne : v.f3 ≠ [] → 1 ≤ a1 := fun h => by
      have : v.f3.length ≠ 0 := fun e => h (List.eq_nil_of_length_eq_zero e)
      omega
    refine ⟨_, pl, ?_⟩
    conv => whnf
    cases hp : decide (PlainV v.f0 v.f1 v.f2) with
    | false =>
      conv => whnf
      exact zero fun g => absurd g.1 (of_decide_eq_false hp)
    | true =>
      have hp : PlainV v.f0 v.f1 v.f2 := of_decide_eq_true hp
      conv => whnf
      refine l44 v E a1 a2 h0 hne h1 h3 (by omega) _ v.f3.length 0 1 _ (by omega) (by omega) (by omega) (by omega) ⟨rfl, rfl, rfl, rfl, rfl, rfl, rfl, trivial⟩ ⟨rfl, trivial⟩ rfl (fun z e1 e2 => ?_) (fun z x e1 e2 e3 e4 e5 => ?_)
      · conv => whnf
        rw [e1]
        exact vi (by rw [hk hp, e2])
      · rw [St.knows _ _ e1 e3 _ e2]
        conv => whnf
        refine ⟨_, fo, ?_⟩
        conv => whnf
        cases hf : formB v.f0 v.f3 with
        | false =>
          conv => whnf
          refine vi ?_
          rw [hk hp, e4]
          exact (if_neg fun g => by rw [formB_iff.2 g.1] at hf; cases hf).symm
        | true =>
          conv => whnf
          refine vi ?_
          rw [hk hp, e4]
          unfold cntL
          rw [if_pos ⟨formB_iff.1 hf, by simp only [OkL], by simp only [deepL]; omega, by simp only [partsL]; omega⟩]
          simp only [partsL]; omega
mutual
theorem t44 (hn : Non ext) (h26 : E26 ext) (h73 : E73 ext) : (v : T) → WfV v → CntE ext v
  | ⟨k, n, t, l⟩, h => by
    simp only [WfV] at h
    exact t44_one hn h73 ⟨k, n, t, l⟩ (t44L hn h26 h73 l h.2.2.2.2) (t15L hn h26 l h.2.2.2.2)
theorem t44L (hn : Non ext) (h26 : E26 ext) (h73 : E73 ext) : (l : List T) → WfL l → ∀ a ∈ l, CntE ext a
  | [], _, a, ha => by cases ha
  | v :: l, hw, a, ha => by
    simp only [WfL] at hw
    rcases List.mem_cons.1 ha with e | h
    · rw [e]; exact t44 hn h26 h73 v hw.1
    · exact t44L hn h26 h73 l hw.2 a h
end
noncomputable def okB (v : T) : Bool := @decide (OK v) (Classical.propDecidable _)
theorem okB_iff {v : T} : okB v = true ↔ OK v := by unfold okB; exact @decide_eq_true_iff _ (Classical.propDecidable _)
theorem cnt_ok (v : T) : (cntZ v 16 1024 > 0) = OK v := by
  have := partsV_pos v
  apply propext
  unfold cntZ
  by_cases hh : OkV v ∧ (deepV v : Int) ≤ 16 ∧ (partsV v : Int) ≤ 1024
  · rw [if_pos hh]; exact ⟨fun _ => ⟨hh.1, by omega, by omega⟩, fun _ => by omega⟩
  · rw [if_neg hh]; exact ⟨fun h => by omega, fun g => absurd ⟨g.1, by have := g.2.1; omega, by have := g.2.2; omega⟩ hh⟩
theorem t32 (hn : Non ext) (h26 : E26 ext) (h73 : E73 ext) (v : T) (hw : WfV v) : (cfg ext).Ev 32 [A v] (.bool (okB v)) := by
  refine Ev.of (hn 32 (by decide) (by decide)) Tryd.func32 rfl rfl ?_
  conv => whnf
  refine ⟨_, t44 hn h26 h73 v hw 16 1024 (by omega) (by omega) (by omega) (by omega), ?_⟩
  conv => whnf
  refine vb ?_
  rw [Bool.eq_iff_iff, decide_eq_true_iff, cnt_ok, okB_iff]
theorem t22 (hn : Non ext) (h26 : E26 ext) (h73 : E73 ext) (v : T) (hw : WfV v) : (cfg ext).Ev 22 [A v] (.int .i64 (if okB v = true then 0 else 3)) := by
  refine Ev.of (hn 22 (by decide) (by decide)) Tryd.func22 rfl rfl ?_
  conv => whnf
  refine ⟨_, t32 hn h26 h73 v hw, ?_⟩
  conv => whnf
  cases okB v <;> rfl
theorem t53 (hn : Non ext) (h26 : E26 ext) (h73 : E73 ext) (v : T) (hw : WfV v) : ∃ e, (cfg ext).Ev 53 [A v] (.tup [.int .i64 (cntZ v 16 1024), .int .i64 e]) := by
  have c := t44 hn h26 h73 v hw 16 1024 (by omega) (by omega) (by omega) (by omega)
  by_cases h : cntZ v 16 1024 = 0
  · refine ⟨3, Ev.of (hn 53 (by decide) (by decide)) Tryd.func53 rfl rfl ?_⟩
    conv => whnf
    refine ⟨_, c, ?_⟩
    conv => whnf
    refine sel_yes (by simpa using h) ?_
    conv => whnf
    rw [h]
  · refine ⟨0, Ev.of (hn 53 (by decide) (by decide)) Tryd.func53 rfl rfl ?_⟩
    conv => whnf
    refine ⟨_, c, ?_⟩
    conv => whnf
    refine sel_no (by simpa using h) ?_
    conv => whnf
end
end Go.Proofs.YtehajklneljbgaaDoor.AB
end

section
set_option linter.unusedVariables false
set_option linter.unusedSimpArgs false
open Go Go.Ab Go.Proofs Go.Vl
namespace Go.Ab
/-- a slice that grows: nothing yet, or an array of the call's own -/
def Acc (a : Nat → Option Arr) (m : Nat) (s : V) (xs : List V) : Prop := (s = .sl true [] 0 ∧ xs = []) ∨ ∃ b v, b < m ∧ s = .rsl false b v 0 xs.length ∧ a b = some ⟨v, 1, xs, none, 0⟩
theorem Acc.upd {a : Nat → Option Arr} {m k : Nat} {s : V} {xs : List V} {x : Option Arr} (h : Acc a m s xs) (hk : m ≤ k) : Acc (Go.Ab.upd a k x) m s xs := by
  rcases h with h | ⟨b, v, hb, e, ha⟩
  · exact .inl h
  · exact .inr ⟨b, v, hb, e, by unfold Go.Ab.upd; rw [if_neg (by omega)]; exact ha⟩
theorem upd_self {α : Type} (f : Nat → α) (i : Nat) (x : α) : upd f i x i = x := by unfold upd; rw [if_pos rfl]
theorem Acc.trunc {a : Nat → Option Arr} {m n : Nat} {s : V} {k : IntKind} {l : List Int} (h : Acc a m s (l.map (.int k))) : Acc (fun b => match a b with | some A => some { A with cs := A.cs.map (cleanV n) } | none => none) m (cleanV n s) (l.map (.int k)) := by
  rcases h with ⟨rfl, h⟩ | ⟨b, v, hb, rfl, ha⟩
  · exact .inl ⟨rfl, h⟩
  · refine .inr ⟨b, v, hb, rfl, ?_⟩
    show (match a b with | some A => some { A with cs := A.cs.map (cleanV n) } | none => none) = _
    rw [ha]
    simp only [List.map_map, Option.some.injEq, Arr.mk.injEq, true_and, and_true]
    exact List.map_congr_left fun _ _ => rfl
theorem opt_app {bytes : Nat} {hp : Hp} {ida m M bx ro : Nat} {c : Bool} {cp : Option Nat} {s val : V} {xs : List V} {Q : V → Hp → Prop} (h1 : Acc hp.a m s xs) (h2 : hp.a bx = some ⟨0, 1, [val], cp, ro⟩) (hb : (xs.length + 1) * bytes ≤ maxRoom) (hl : xs.length + 1 ≤ maxRoom) (hi : ida < M) (hm : m ≤ M)
    (k : ∀ s' a', Acc a' M s' (xs ++ [val]) → (∃ b v, s' = .rsl false b v 0 (xs ++ [val]).length) → Q s' ⟨hp.h, hp.n, a', hp.m⟩) : opt (appendV 1 bytes hp ida s (.rsl c bx 0 0 1)) fun p => Q p.1 p.2 := by
  have hx : content none hp 1 (.rsl c bx 0 0 1) = some ([val], 1) := by
    simp [content, h2, sub]
  rcases h1 with ⟨rfl, rfl⟩ | ⟨b, v, hbm, rfl, ha⟩
  · have : appendV 1 bytes hp ida (.sl true [] 0) (.rsl c bx 0 0 1) = some (.rsl false ida 0 0 1, { hp with a := upd hp.a ida (some ⟨0, 1, [val], none, 0⟩) }) := by
      unfold appendV
      rw [hx, show content none hp 1 (.sl true [] 0) = some ([], 0) from by simp [content]]
      simp only
      rw [if_neg (by decide), if_pos ⟨by simpa using hb, by simpa using hl⟩]
      rfl
    rw [this]
    exact k _ _ (.inr ⟨ida, 0, hi, rfl, upd_self _ _ _⟩) ⟨_, _, rfl⟩
  · have hs : content none hp 1 (.rsl false b v 0 xs.length) = some (xs, xs.length) := by
      simp [content, ha, sub]
    have : appendV 1 bytes hp ida (.rsl false b v 0 xs.length) (.rsl c bx 0 0 1) = some (.rsl false b (v + 1) 0 (xs.length + 1), { hp with a := upd hp.a b (some ⟨v + 1, 1, xs ++ [val], none, 0⟩) }) := by
      unfold appendV
      rw [hx, hs]
      simp only
      rw [if_neg (by decide), if_pos ⟨hb, hl⟩, ha]
      simp only
      rw [if_pos (by simp)]
    rw [this]
    exact k _ _ (.inr ⟨b, v + 1, by omega, by simp, upd_self _ _ _⟩) ⟨b, v + 1, by simp⟩
end Go.Ab
end

section
set_option linter.unusedVariables false
set_option linter.unusedSimpArgs false
open Go Go.Ab Go.Proofs Go.Vl
namespace Go.Proofs.YtehajklneljbgaaDoor.AB
set_option maxRecDepth 100000
set_option maxHeartbeats 1600000
section
variable {ext : Exts}
theorem t79 (hn : Non ext) (x y : Int) (hy : y = 15 ∨ y = 13) : ∃ r, (cfg ext).Ev 79 [.int .u32 x, .int .i64 y] (.int .u32 r) := by
  have key : ∃ r, (cfg ext).Ev 79 [.int .u32 x, .int .i64 y] r ∧ ∃ c, r = .int .u32 c := by
    refine Ev.ofE (hn 79 (by decide) (by decide)) Tryd.func79 rfl rfl ?_
    rcases hy with rfl | rfl
    · conv => whnf
      exact ⟨_, rfl⟩
    · conv => whnf
      exact ⟨_, rfl⟩
  obtain ⟨r, h, c, rfl⟩ := key
  exact ⟨c, h⟩
theorem t76 (hn : Non ext) (x : Int) : ∃ r, (cfg ext).Ev 76 [.int .u32 x] (.int .u32 r) := by
  have key : ∃ r, (cfg ext).Ev 76 [.int .u32 x] r ∧ ∃ c, r = .int .u32 c := by
    refine Ev.ofE (hn 76 (by decide) (by decide)) Tryd.func76 rfl rfl ?_
    conv => whnf
    obtain ⟨r1, h1⟩ := t79 hn _ _ (.inl rfl)
    refine ⟨_, h1, ?_⟩
    conv => whnf
    exact ⟨_, rfl⟩
  obtain ⟨r, h, c, rfl⟩ := key
  exact ⟨c, h⟩
theorem t75 (hn : Non ext) (x : Int) (y : Int) : ∃ r, (cfg ext).Ev 75 [.int .u32 x, .int .u32 y] (.int .u32 r) := by
  have key : ∃ r, (cfg ext).Ev 75 [.int .u32 x, .int .u32 y] r ∧ ∃ c, r = .int .u32 c := by
    refine Ev.ofE (hn 75 (by decide) (by decide)) Tryd.func75 rfl rfl ?_
    conv => whnf
    obtain ⟨r1, h1⟩ := t79 hn _ _ (.inr rfl)
    refine ⟨_, h1, ?_⟩
    conv => whnf
    exact ⟨_, rfl⟩
  obtain ⟨r, h, c, rfl⟩ := key
  exact ⟨c, h⟩
theorem t74 (hn : Non ext) (x : Int) (y : Int) : ∃ r, (cfg ext).Ev 74 [.int .u32 x, .int .u32 y] (.int .u32 r) := by
  have key : ∃ r, (cfg ext).Ev 74 [.int .u32 x, .int .u32 y] r ∧ ∃ c, r = .int .u32 c := by
    refine Ev.ofE (hn 74 (by decide) (by decide)) Tryd.func74 rfl rfl ?_
    conv => whnf
    exact ⟨_, rfl⟩
  obtain ⟨r, h, c, rfl⟩ := key
  exact ⟨c, h⟩
theorem t77 (hn : Non ext) (x : Int) (y : Int) : ∃ r, (cfg ext).Ev 77 [.int .u32 x, .int .i64 y] (.int .u32 r) := by
  have key : ∃ r, (cfg ext).Ev 77 [.int .u32 x, .int .i64 y] r ∧ ∃ c, r = .int .u32 c := by
    refine Ev.ofE (hn 77 (by decide) (by decide)) Tryd.func77 rfl rfl ?_
    conv => whnf
    obtain ⟨r1, h1⟩ := t76 hn _
    refine ⟨_, h1, ?_⟩
    conv => whnf
    obtain ⟨r2, h2⟩ := t75 hn _ _
    refine ⟨_, h2, ?_⟩
    conv => whnf
    obtain ⟨r3, h3⟩ := t74 hn _ _
    refine ⟨_, h3, ?_⟩
    conv => whnf
    exact ⟨_, rfl⟩
  obtain ⟨r, h, c, rfl⟩ := key
  exact ⟨c, h⟩
theorem t65 (hn : Non ext) (x : Int) : ∃ r, (cfg ext).Ev 65 [.int .i64 x] (.int .u32 r) := by
  have key : ∃ r, (cfg ext).Ev 65 [.int .i64 x] r ∧ ∃ c, r = .int .u32 c := by
    refine Ev.ofE (hn 65 (by decide) (by decide)) Tryd.func65 rfl rfl ?_
    conv => whnf
    refine sel_split (fun h => ?_) (fun h => ?_)
    · conv => whnf
      exact ⟨_, rfl⟩
    conv => whnf
    obtain ⟨r1, h1⟩ := t76 hn _
    refine ⟨_, h1, ?_⟩
    conv => whnf
    obtain ⟨r2, h2⟩ := t75 hn _ _
    refine ⟨_, h2, ?_⟩
    conv => whnf
    obtain ⟨r3, h3⟩ := t76 hn _
    refine ⟨_, h3, ?_⟩
    conv => whnf
    obtain ⟨r4, h4⟩ := t75 hn _ _
    refine ⟨_, h4, ?_⟩
    conv => whnf
    obtain ⟨r5, h5⟩ := t74 hn _ _
    refine ⟨_, h5, ?_⟩
    conv => whnf
    exact ⟨_, rfl⟩
  obtain ⟨r, h, c, rfl⟩ := key
  exact ⟨c, h⟩
theorem t66 (hn : Non ext) (x : Int) : ∃ r, (cfg ext).Ev 66 [.int .i32 x] (.int .u32 r) := by
  have key : ∃ r, (cfg ext).Ev 66 [.int .i32 x] r ∧ ∃ c, r = .int .u32 c := by
    refine Ev.ofE (hn 66 (by decide) (by decide)) Tryd.func66 rfl rfl ?_
    conv => whnf
    refine sel_split (fun h => ?_) (fun h => ?_)
    · conv => whnf
      exact ⟨_, rfl⟩
    conv => whnf
    obtain ⟨r1, h1⟩ := t76 hn _
    refine ⟨_, h1, ?_⟩
    conv => whnf
    obtain ⟨r2, h2⟩ := t75 hn _ _
    refine ⟨_, h2, ?_⟩
    conv => whnf
    obtain ⟨r3, h3⟩ := t74 hn _ _
    refine ⟨_, h3, ?_⟩
    conv => whnf
    exact ⟨_, rfl⟩
  obtain ⟨r, h, c, rfl⟩ := key
  exact ⟨c, h⟩
end
end Go.Proofs.YtehajklneljbgaaDoor.AB
end

section
set_option linter.unusedVariables false
set_option linter.unusedSimpArgs false
open Go Go.Ab Go.Proofs Go.Vl
namespace Go.Ab
theorem ldI {l : List Int} {i : Nat} {k : IntKind} {Q : V → Prop} (h : i < l.length) (hq : Q (.int k l[i])) : i * 1 + 1 ≤ (l.map (V.int k)).length ∧ opt (one (some false) (sub (l.map (V.int k)) (i * 1) 1)) fun v => fv v Q := by
  refine ⟨by simp; omega, ?_⟩
  have : sub (l.map (V.int k)) (i * 1) 1 = [.int k l[i]] := by
    unfold sub
    rw [Nat.mul_one, ← List.map_drop, List.drop_eq_getElem_cons h]
    rfl
  rw [this]
  exact hq
/-- what has grown, handed out -/
theorem fz_acc {hp : Hp} {m : Nat} {s : V} {k : IntKind} {l : List Int} {d : Nat} (h : Acc hp.a m s (l.map (.int k))) : ∃ a', fz (d + 2) hp s = some (.sl false (l.map (.int k)) l.length, ⟨hp.h, hp.n, a', hp.m⟩) := by
  have ints : ∀ (g : Hp → V → Option (V × Hp)) (hp : Hp) (l : List Int), (∀ hp x, g hp (.int k x) = some (.int k x, hp)) → fzL g hp (l.map (V.int k)) = some (l.map (V.int k), hp) := by
    intro g hp l hg
    induction l with
    | nil => rfl
    | cons x l ih => simp only [List.map_cons, fzL, hg, ih]
  rcases h with ⟨rfl, h⟩ | ⟨b, v, hb, rfl, ha⟩
  · have : l = [] := by simpa using h
    subst this
    exact ⟨hp.a, rfl⟩
  · refine ⟨upd hp.a b (some ⟨v, 1, l.map (.int k), none, max 0 (0 + (l.map (V.int k)).length * 1)⟩), ?_⟩
    rw [fz]
    simp only [ha]
    rw [if_pos (by simp)]
    have : sub (l.map (V.int k)) 0 ((l.map (V.int k)).length * 1) = l.map (V.int k) := by
      unfold sub
      rw [List.drop_zero, Nat.mul_one, List.take_length]
    rw [this, ints _ _ _ (fun _ _ => rfl)]
    simp
end Go.Ab
namespace Go.Proofs.YtehajklneljbgaaDoor.AB
set_option maxRecDepth 100000
set_option maxHeartbeats 1600000
section
variable {ext : Exts}
def I (k : IntKind) (l : List Int) : V := .sl false (l.map (.int k)) l.length
theorem l67 (l : List Int) (hl : l.length ≤ 9223372036854775806) (Q : Ex → St → Prop) (d : Nat) :
    ∀ (i : Nat) (c : Int) (z : St), l.length - i = d → i ≤ l.length → Has z.t [(8, .int .i64 i), (7, .int .i64 l.length), (6, I .u16 l), (3, .int .i32 c), (0, I .u16 l)] → z.hp.n = 5 →
      (∀ z' c', Has z'.t [(3, .int .i32 c'), (0, I .u16 l)] → z'.hp.n = 6 → Q (.exit 0) z') → Go.Ab.Loop (cfg ext) (lpOf Tryd.f67) 5 z Q := by
  induction d with
  | zero =>
    intro i c z hd hi hz hn hq
    rw [St.knows _ _ hz hn]
    refine Loop.round ?_
    conv => whnf
    refine sel_split (fun h => ?_) (fun h => ?_)
    · simp at h; omega
    conv => whnf
    exact hq _ c ⟨rfl, rfl, trivial⟩ rfl
  | succ d ih =>
    intro i c z hd hi hz hn hq
    have hlt : i < l.length := by omega
    rw [St.knows _ _ hz hn]
    refine Loop.round ?_
    conv => whnf
    refine sel_split (fun h => ?_) (fun h => ?_)
    · conv => whnf
      refine ⟨⟨by omega, by omega⟩, ?_⟩
      conv => whnf
      refine ldI (i := i) hlt ?_
      conv => whnf
      refine ih (i + 1) _ _ (by omega) (by omega) ⟨?_, rfl, rfl, rfl, rfl, trivial⟩ rfl hq
      conv => lhs; whnf
      exact vi (wrap_add1 (by omega))
    · simp at h; omega
theorem t67 (hn : Non ext) (l : List Int) (hl : l.length ≤ 9223372036854775806) : ∃ r, (cfg ext).Ev 67 [I .u16 l] (.int .i32 r) := by
  have key : ∃ r, (cfg ext).Ev 67 [I .u16 l] r ∧ ∃ c, r = .int .i32 c := by
    refine Ev.ofE (hn 67 (by decide) (by decide)) Tryd.func67 rfl rfl ?_
    conv => whnf
    refine l67 l hl _ l.length 0 _ _ (by omega) (by omega) ⟨rfl, rfl, rfl, rfl, rfl, trivial⟩ rfl (fun z c h1 h2 => ?_)
    rw [St.knows _ _ h1 h2]
    conv => whnf
    exact ⟨_, rfl⟩
  obtain ⟨r, h, c, rfl⟩ := key
  exact ⟨c, h⟩
theorem l69 (l : List Int) (hl : l.length ≤ 9223372036854775806) (Q : Ex → St → Prop) (d : Nat) :
    ∀ (i : Nat) (c : Int) (z : St), l.length - i = d → i ≤ l.length → Has z.t [(8, .int .i64 i), (7, .int .i64 l.length), (6, I .u32 l), (3, .int .u32 c), (0, I .u32 l)] → z.hp.n = 5 →
      (∀ z' c', Has z'.t [(3, .int .u32 c'), (0, I .u32 l)] → z'.hp.n = 6 → Q (.exit 0) z') → Go.Ab.Loop (cfg ext) (lpOf Tryd.f69) 5 z Q := by
  induction d with
  | zero =>
    intro i c z hd hi hz hn hq
    rw [St.knows _ _ hz hn]
    refine Loop.round ?_
    conv => whnf
    refine sel_split (fun h => ?_) (fun h => ?_)
    · simp at h; omega
    conv => whnf
    exact hq _ c ⟨rfl, rfl, trivial⟩ rfl
  | succ d ih =>
    intro i c z hd hi hz hn hq
    have hlt : i < l.length := by omega
    rw [St.knows _ _ hz hn]
    refine Loop.round ?_
    conv => whnf
    refine sel_split (fun h => ?_) (fun h => ?_)
    · conv => whnf
      refine ⟨⟨by omega, by omega⟩, ?_⟩
      conv => whnf
      refine ldI (i := i) hlt ?_
      conv => whnf
      refine ih (i + 1) _ _ (by omega) (by omega) ⟨?_, rfl, rfl, rfl, rfl, trivial⟩ rfl hq
      conv => lhs; whnf
      exact vi (wrap_add1 (by omega))
    · simp at h; omega
theorem t69 (hn : Non ext) (l : List Int) (hl : l.length ≤ 9223372036854775806) : ∃ r, (cfg ext).Ev 69 [I .u32 l] (.int .u32 r) := by
  have key : ∃ r, (cfg ext).Ev 69 [I .u32 l] r ∧ ∃ c, r = .int .u32 c := by
    refine Ev.ofE (hn 69 (by decide) (by decide)) Tryd.func69 rfl rfl ?_
    conv => whnf
    refine l69 l hl _ l.length 0 _ _ (by omega) (by omega) ⟨rfl, rfl, rfl, rfl, rfl, trivial⟩ rfl (fun z c h1 h2 => ?_)
    rw [St.knows _ _ h1 h2]
    conv => whnf
    obtain ⟨r1, g1⟩ := t77 hn _ _
    refine ⟨_, g1, ?_⟩
    conv => whnf
    exact ⟨_, rfl⟩
  obtain ⟨r, h, c, rfl⟩ := key
  exact ⟨c, h⟩
theorem l71 (l : List Int) (hl : l.length ≤ 9223372036854775806) (Q : Ex → St → Prop) (d : Nat) :
    ∀ (i : Nat) (c : Int) (z : St), l.length - i = d → i ≤ l.length → Has z.t [(8, .int .i64 i), (7, .int .i64 l.length), (6, I .u32 l), (3, .int .u32 c), (0, I .u32 l)] → z.hp.n = 5 →
      (∀ z' c', Has z'.t [(3, .int .u32 c'), (0, I .u32 l)] → z'.hp.n = 6 → Q (.exit 0) z') → Go.Ab.Loop (cfg ext) (lpOf Tryd.f71) 5 z Q := by
  induction d with
  | zero =>
    intro i c z hd hi hz hn hq
    rw [St.knows _ _ hz hn]
    refine Loop.round ?_
    conv => whnf
    refine sel_split (fun h => ?_) (fun h => ?_)
    · simp at h; omega
    conv => whnf
    exact hq _ c ⟨rfl, rfl, trivial⟩ rfl
  | succ d ih =>
    intro i c z hd hi hz hn hq
    have hlt : i < l.length := by omega
    rw [St.knows _ _ hz hn]
    refine Loop.round ?_
    conv => whnf
    refine sel_split (fun h => ?_) (fun h => ?_)
    · conv => whnf
      refine ⟨⟨by omega, by omega⟩, ?_⟩
      conv => whnf
      refine ldI (i := i) hlt ?_
      conv => whnf
      refine ih (i + 1) _ _ (by omega) (by omega) ⟨?_, rfl, rfl, rfl, rfl, trivial⟩ rfl hq
      conv => lhs; whnf
      exact vi (wrap_add1 (by omega))
    · simp at h; omega
theorem t71 (hn : Non ext) (l : List Int) (hl : l.length ≤ 9223372036854775806) : ∃ r, (cfg ext).Ev 71 [I .u32 l] (.int .u32 r) := by
  have key : ∃ r, (cfg ext).Ev 71 [I .u32 l] r ∧ ∃ c, r = .int .u32 c := by
    refine Ev.ofE (hn 71 (by decide) (by decide)) Tryd.func71 rfl rfl ?_
    conv => whnf
    refine l71 l hl _ l.length 0 _ _ (by omega) (by omega) ⟨rfl, rfl, rfl, rfl, rfl, trivial⟩ rfl (fun z c h1 h2 => ?_)
    rw [St.knows _ _ h1 h2]
    conv => whnf
    obtain ⟨r1, g1⟩ := t77 hn _ _
    refine ⟨_, g1, ?_⟩
    conv => whnf
    exact ⟨_, rfl⟩
  obtain ⟨r, h, c, rfl⟩ := key
  exact ⟨c, h⟩
theorem t72 (hn : Non ext) (x y : Int) : ∃ r, (cfg ext).Ev 72 [.int .u32 x, .int .u32 y] (.int .u32 r) := by
  have key : ∃ r, (cfg ext).Ev 72 [.int .u32 x, .int .u32 y] r ∧ ∃ c, r = .int .u32 c := by
    refine Ev.ofE (hn 72 (by decide) (by decide)) Tryd.func72 rfl rfl ?_
    conv => whnf
    obtain ⟨r1, g1⟩ := t69 hn [x, y] (by simp)
    refine ⟨_, g1, ?_⟩
    conv => whnf
    exact ⟨_, rfl⟩
  obtain ⟨r, h, c, rfl⟩ := key
  exact ⟨c, h⟩
end
end Go.Proofs.YtehajklneljbgaaDoor.AB
end

section
set_option linter.unusedVariables false
set_option linter.unusedSimpArgs false
open Go Go.Ab Go.Proofs Go.Vl
namespace Go.Ab
theorem Acc.form {a : Nat → Option Arr} {m : Nat} {s : V} {xs : List V} (h : Acc a m s xs) : s = .sl true [] 0 ∨ ∃ b v n, s = .rsl false b v 0 n := by
  rcases h with ⟨e, _⟩ | ⟨b, v, _, e, _⟩
  · exact .inl e
  · exact .inr ⟨b, v, _, e⟩
theorem Acc.le {a : Nat → Option Arr} {m k : Nat} {s : V} {xs : List V} (h : Acc a m s xs) (hk : m ≤ k) : Acc a k s xs := by
  rcases h with h | ⟨b, v, hb, e, ha⟩
  · exact .inl h
  · exact .inr ⟨b, v, by omega, e, ha⟩
theorem Acc.truncS {z : St} {m M n : Nat} {s : V} {k : IntKind} {l : List Int} (h : Acc z.hp.a m s (l.map (.int k))) (hm : m ≤ M) : Acc (z.trunc n).hp.a M (cleanV n s) (l.map (.int k)) := Acc.trunc (h.le hm)
theorem opt_app' {size bytes : Nat} {hp : Hp} {ida m M : Nat} {s x : V} {kd : IntKind} {l : List Int} {Q : V × Hp → Prop} (hsz : size = 1) (h2 : ∃ c bx n cp ro, x = .rsl c bx 0 0 1 ∧ hp.a bx = some ⟨0, 1, [.int kd n], cp, ro⟩) (h1 : Acc hp.a m s (l.map (.int kd))) (hb : (l.length + 1) * bytes ≤ maxRoom) (hl : l.length + 1 ≤ maxRoom) (hi : ida < M) (hm : m ≤ M)
    (k : ∀ n b v a', Acc a' M (.rsl false b v 0 (l.length + 1)) ((l ++ [n]).map (.int kd)) → Q (.rsl false b v 0 (l.length + 1), ⟨hp.h, hp.n, a', hp.m⟩)) : opt (appendV size bytes hp ida s x) Q := by
  obtain ⟨c, bx, n, cp, ro, hx, h2⟩ := h2
  subst hsz hx
  exact opt_app (Q := fun v h => Q (v, h)) h1 h2 (by simpa using hb) (by simpa using hl) hi hm fun s' a' h hr => by
    obtain ⟨b, v, rfl⟩ := hr
    have e : (l.map (V.int kd) ++ [V.int kd n]).length = l.length + 1 := by simp
    rw [e] at h ⊢
    exact k n b v a' (by simpa using h)
theorem Fin.acc {P : Program} {fn : Func} {s : St} {R : V → Prop} {m : Nat} {k : IntKind} {l : List Int} {x : V} (h : resOf P fn s = some x) (ha : Acc s.hp.a m x (l.map (.int k))) (hR : R (.sl false (l.map (.int k)) l.length)) : Fin P fn s R := by
  refine ⟨?_⟩
  rw [h]
  obtain ⟨a', e⟩ := fz_acc (d := 4) ha
  show opt (fz 6 s.hp x) fun p => R p.1
  rw [e]
  exact hR
end Go.Ab
namespace Go.Proofs.YtehajklneljbgaaDoor.AB
set_option maxRecDepth 100000
set_option maxHeartbeats 1600000
section
variable {ext : Exts}
theorem l68 (s : ByteArray) (hs : s.size ≤ 256) (Q : Ex → St → Prop) (d : Nat) :
    ∀ (p : Nat) (l : List Int) (S : V) (z : St), s.size ≤ p + d → l.length ≤ 2 * p → p ≤ s.size + 4 → Has z.t [(7, .ref 3 0), (3, S)] → Has z.hp.h [(3, some (.iter s p))] → z.hp.n = 4 → Acc z.hp.a z.hp.m S (l.map (.int .u16)) →
      (∀ (z' : St) (l' : List Int) (S' : V), Has z'.t [(3, S')] → z'.hp.n = 6 → l'.length ≤ 1024 → Acc z'.hp.a z'.hp.m S' (l'.map (.int .u16)) → Q (.exit 0) z') →
      Go.Ab.Loop (cfg ext) (lpOf Tryd.f68) 4 z Q := by
  induction d with
  | zero =>
    intro p l S z hd hl hp hz hb hn ha hq
    rw [St.knows _ _ hz hn _ hb]
    refine Loop.round ?_
    conv => whnf
    refine sel_split (fun h => ?_) (fun h => ?_)
    · simp at h; omega
    conv => whnf
    exact hq _ l S ⟨rfl, trivial⟩ rfl (by omega) (ha.le (Nat.le_add_right _ _))
  | succ d ih =>
    intro p l S z hd hl hp hz hb hn ha hq
    have hm0 : z.hp.m = z.hp.m := rfl
    rw [St.knows _ _ hz hn _ hb]
    refine Loop.round ?_
    conv => whnf
    refine sel_split (fun h => ?_) (fun h => ?_)
    · have hlt : p < s.size := by simpa using h
      have hdl := dec_le s p
      conv => whnf
      refine sel_split (fun h => ?_) (fun h => ?_)
      · rcases ha.form with hS | ⟨b, v, n, hS⟩
        all_goals
          subst hS
          conv => whnf
          refine ⟨rfl, ?_⟩
          conv => whnf
          refine ⟨⟨rfl, Nat.one_ne_zero⟩, ?_⟩
          refine opt_app' (m := z.hp.m + 0) (M := z.hp.m + 17) (l := l) (kd := .u16) rfl ⟨_, _, _, _, _, rfl, upd_self _ _ _⟩ (ha.upd (show z.hp.m + 0 ≤ z.hp.m + 15 by omega)) ?_ ?_ ?_ (show z.hp.m + 0 ≤ z.hp.m + 17 by omega) ?_
          · show (_ + 1) * 2 ≤ 140737488355328
            (try simp only [List.length_append, List.length_cons, List.length_nil])
            omega
          · show _ + 1 ≤ 140737488355328
            (try simp only [List.length_append, List.length_cons, List.length_nil])
            omega
          · exact (show z.hp.m + 16 < z.hp.m + 17 by omega)
          intro n1 b1 v1 a1 h1
          conv => whnf
          refine ⟨rfl, ?_⟩
          conv => whnf
          refine ⟨⟨rfl, Nat.one_ne_zero⟩, ?_⟩
          refine opt_app' (m := z.hp.m + 17) (M := z.hp.m + 27) (l := (l ++ [n1])) (kd := .u16) rfl ⟨_, _, _, _, _, rfl, upd_self _ _ _⟩ (h1.upd (show z.hp.m + 17 ≤ z.hp.m + 25 by omega)) ?_ ?_ ?_ (show z.hp.m + 17 ≤ z.hp.m + 27 by omega) ?_
          · show (_ + 1) * 2 ≤ 140737488355328
            (try simp only [List.length_append, List.length_cons, List.length_nil])
            omega
          · show _ + 1 ≤ 140737488355328
            (try simp only [List.length_append, List.length_cons, List.length_nil])
            omega
          · exact (show z.hp.m + 26 < z.hp.m + 27 by omega)
          intro n3 b3 v3 a3 h3
          conv => whnf
          refine ih (p + (Utf8.decode s p).2) ((l ++ [n1]) ++ [n3]) _ _ (by omega) (by simp only [List.length_append, List.length_cons, List.length_nil]; omega) (by omega) ⟨rfl, rfl, trivial⟩ ⟨rfl, trivial⟩ rfl ?_ hq
          exact Acc.trunc (n := 4) (h3.le (show z.hp.m + 27 ≤ z.hp.m + 28 by omega))
      · rcases ha.form with hS | ⟨b, v, n, hS⟩
        all_goals
          subst hS
          conv => whnf
          refine ⟨rfl, ?_⟩
          conv => whnf
          refine ⟨⟨rfl, Nat.one_ne_zero⟩, ?_⟩
          refine opt_app' (m := z.hp.m + 0) (M := z.hp.m + 12) (l := l) (kd := .u16) rfl ⟨_, _, _, _, _, rfl, upd_self _ _ _⟩ (ha.upd (show z.hp.m + 0 ≤ z.hp.m + 10 by omega)) ?_ ?_ ?_ (show z.hp.m + 0 ≤ z.hp.m + 12 by omega) ?_
          · show (_ + 1) * 2 ≤ 140737488355328
            (try simp only [List.length_append, List.length_cons, List.length_nil])
            omega
          · show _ + 1 ≤ 140737488355328
            (try simp only [List.length_append, List.length_cons, List.length_nil])
            omega
          · exact (show z.hp.m + 11 < z.hp.m + 12 by omega)
          intro n1 b1 v1 a1 h1
          conv => whnf
          refine ih (p + (Utf8.decode s p).2) (l ++ [n1]) _ _ (by omega) (by simp only [List.length_append, List.length_cons, List.length_nil]; omega) (by omega) ⟨rfl, rfl, trivial⟩ ⟨rfl, trivial⟩ rfl ?_ hq
          exact Acc.trunc (n := 4) (h1.le (show z.hp.m + 12 ≤ z.hp.m + 13 by omega))
    · conv => whnf
      exact hq _ l S ⟨rfl, trivial⟩ rfl (by omega) (ha.le (Nat.le_add_right _ _))
theorem t68 (hn : Non ext) (s : ByteArray) (hs : s.size ≤ 256) : ∃ l : List Int, l.length ≤ 1024 ∧ (cfg ext).Ev 68 [.str s] (I .u16 l) := by
  have key : ∃ r, (cfg ext).Ev 68 [.str s] r ∧ ∃ l : List Int, l.length ≤ 1024 ∧ r = I .u16 l := by
    refine Ev.ofF (hn 68 (by decide) (by decide)) Tryd.func68 rfl rfl ?_
    conv => whnf
    refine l68 s hs _ s.size 0 [] (.sl true [] 0) _ (by omega) (by simp) (by omega) ⟨rfl, rfl, trivial⟩ ⟨rfl, trivial⟩ rfl (.inl ⟨rfl, rfl⟩) (fun z l S h1 h2 h3 h4 => ?_)
    rw [St.knows _ _ h1 h2]
    rcases h4.form with hS | ⟨b, v, n, hS⟩
    all_goals
      subst hS
      conv => whnf
      exact Fin.acc rfl h4 ⟨l, h3, rfl⟩
  obtain ⟨r, h, l, hl, rfl⟩ := key
  exact ⟨l, hl, h⟩
end
end Go.Proofs.YtehajklneljbgaaDoor.AB
end

section
set_option linter.unusedVariables false
set_option linter.unusedSimpArgs false
open Go Go.Ab Go.Proofs Go.Vl
namespace Go.Proofs.YtehajklneljbgaaDoor.AB
set_option maxRecDepth 100000
set_option maxHeartbeats 1600000
section
variable {ext : Exts}
def FullE (ext : Exts) (v : T) : Prop := ∃ r, (cfg ext).Ev 61 [A v] (.int .u32 r)
theorem l70 (l : List T) (hl : l.length ≤ 1024) (E : ∀ a ∈ l, FullE ext a) (Q : Ex → St → Prop) (d : Nat) :
    ∀ (i : Nat) (hs : List Int) (S : V) (z : St), l.length - i = d → i ≤ l.length → hs.length = i → Has z.t [(8, .int .i64 i), (7, .int .i64 l.length), (6, .sl false (encL l) l.length), (3, S)] → z.hp.n = 5 → Acc z.hp.a z.hp.m S (hs.map (.int .u32)) →
      (∀ (z' : St) (hs' : List Int) (S' : V), Has z'.t [(3, S')] → z'.hp.n = 6 → hs'.length = l.length → Acc z'.hp.a z'.hp.m S' (hs'.map (.int .u32)) → Q (.exit 0) z') →
      Go.Ab.Loop (cfg ext) (lpOf Tryd.f70) 5 z Q := by
  induction d with
  | zero =>
    intro i hs S z hd hi hh hz hn ha hq
    rw [St.knows _ _ hz hn]
    refine Loop.round ?_
    conv => whnf
    refine sel_split (fun h => ?_) (fun h => ?_)
    · simp at h; omega
    conv => whnf
    exact hq _ hs S ⟨rfl, trivial⟩ rfl (by omega) (ha.le (Nat.le_add_right _ _))
  | succ d ih =>
    intro i hs S z hd hi hh hz hn ha hq
    have hlt : i < l.length := by omega
    rw [St.knows _ _ hz hn]
    refine Loop.round ?_
    conv => whnf
    refine sel_split (fun h => ?_) (fun h => ?_)
    · conv => whnf
      refine ⟨⟨by omega, by omega⟩, ?_⟩
      conv => whnf
      refine ldA (i := i) hlt ?_
      rcases ha.form with hS | ⟨b, v, n, hS⟩
      all_goals
        subst hS
        conv => whnf
        obtain ⟨r, hr⟩ := E _ (List.getElem_mem hlt)
        refine ⟨_, hr, ?_⟩
        conv => whnf
        refine ⟨rfl, ?_⟩
        conv => whnf
        refine ⟨⟨rfl, Nat.one_ne_zero⟩, ?_⟩
        refine opt_app' (m := z.hp.m + 0) (M := z.hp.m + 10) (l := hs) (kd := .u32) rfl ⟨_, _, _, _, _, rfl, upd_self _ _ _⟩ (ha.upd (show z.hp.m + 0 ≤ z.hp.m + 8 by omega)) ?_ ?_ ?_ (show z.hp.m + 0 ≤ z.hp.m + 10 by omega) ?_
        · show (_ + 1) * 4 ≤ 140737488355328
          (try simp only [List.length_append, List.length_cons, List.length_nil])
          omega
        · show _ + 1 ≤ 140737488355328
          (try simp only [List.length_append, List.length_cons, List.length_nil])
          omega
        · exact (show z.hp.m + 9 < z.hp.m + 10 by omega)
        intro n1 b1 v1 a1 h1
        conv => whnf
        refine ih (i + 1) (hs ++ [n1]) _ _ (by omega) (by omega) (by simp; omega) ⟨?_, rfl, rfl, rfl, trivial⟩ rfl ?_ hq
        · conv => lhs; whnf
          exact vi (wrap_add1 (by omega))
        · exact Acc.trunc (n := 5) (h1.le (show z.hp.m + 10 ≤ z.hp.m + 13 by omega))
    · simp at h; omega
theorem t70 (hn : Non ext) (l : List T) (hl : l.length ≤ 1024) (E : ∀ a ∈ l, FullE ext a) : ∃ hs : List Int, hs.length = l.length ∧ (cfg ext).Ev 70 [.sl false (encL l) l.length] (I .u32 hs) := by
  have key : ∃ r, (cfg ext).Ev 70 [.sl false (encL l) l.length] r ∧ ∃ hs : List Int, hs.length = l.length ∧ r = I .u32 hs := by
    refine Ev.ofF (hn 70 (by decide) (by decide)) Tryd.func70 rfl rfl ?_
    conv => whnf
    refine l70 l hl E _ l.length 0 [] (.sl true [] 0) _ (by omega) (by omega) rfl ⟨rfl, rfl, rfl, rfl, trivial⟩ rfl (.inl ⟨rfl, rfl⟩) (fun z hs S h1 h2 h3 h4 => ?_)
    rw [St.knows _ _ h1 h2]
    rcases h4.form with hS | ⟨b, v, n, hS⟩
    all_goals
      subst hS
      conv => whnf
      exact Fin.acc rfl h4 ⟨hs, h3, rfl⟩
  obtain ⟨r, h, hs, hl, rfl⟩ := key
  exact ⟨hs, hl, h⟩
theorem l61 (hn : Non ext) (l : List Int) (hl : l.length ≤ 1024) (he : l.length % 2 = 0) (N : Nat) (Q : Ex → St → Prop) (d : Nat) :
    ∀ (i : Nat) (hs : List Int) (S : V) (z : St), l.length - i ≤ 2 * d → i ≤ l.length → i % 2 = 0 → hs.length ≤ i → Has z.t [(5, .int .i64 i), (4, I .u32 l), (3, S)] → z.hp.n = N → Acc z.hp.a z.hp.m S (hs.map (.int .u32)) →
      (∀ (z' : St) (hs' : List Int) (S' : V), Has z'.t [(3, S')] → z'.hp.n = N + 4 → hs'.length ≤ 1024 → Acc z'.hp.a z'.hp.m S' (hs'.map (.int .u32)) → Q (.exit 1) z') →
      Go.Ab.Loop (cfg ext) (lpOf Tryd.f61) N z Q := by
  induction d with
  | zero =>
    intro i hs S z hd hi hi2 hh hz hn' ha hq
    rw [St.knows _ _ hz hn']
    refine Loop.round ?_
    conv => whnf
    refine sel_split (fun h => ?_) (fun h => ?_)
    · simp at h; omega
    conv => whnf
    exact hq _ hs S ⟨rfl, trivial⟩ rfl (by omega) (ha.le (Nat.le_add_right _ _))
  | succ d ih =>
    intro i hs S z hd hi hi2 hh hz hn' ha hq
    rw [St.knows _ _ hz hn']
    refine Loop.round ?_
    conv => whnf
    refine sel_split (fun h => ?_) (fun h => ?_)
    · have hlt : i < l.length := by simpa using h
      have e1 : IntKind.i64.wrap ((i : Int) + 1) = ((i + 1 : Nat) : Int) := wrapN (by omega) (by omega)
      have e2 : IntKind.i64.wrap ((i : Int) + 2) = ((i + 2 : Nat) : Int) := wrapN (by omega) (by omega)
      rcases ha.form with hS | ⟨b, v, n, hS⟩
      all_goals
        subst hS
        conv => whnf
        refine ⟨⟨by omega, by omega⟩, ?_⟩
        conv => whnf
        refine ldI (i := i) hlt ?_
        conv => whnf
        rw [e1]
        refine ⟨⟨by omega, by omega⟩, ?_⟩
        conv => whnf
        refine ldI (i := i + 1) (by omega) ?_
        conv => whnf
        obtain ⟨r, hr⟩ := t72 hn l[i] (l[i + 1]'(by omega))
        refine ⟨_, hr, ?_⟩
        conv => whnf
        refine ⟨rfl, ?_⟩
        conv => whnf
        refine ⟨⟨rfl, Nat.one_ne_zero⟩, ?_⟩
        refine opt_app' (m := z.hp.m + 0) (M := z.hp.m + 17) (l := hs) (kd := .u32) rfl ⟨_, _, _, _, _, rfl, upd_self _ _ _⟩ (ha.upd (show z.hp.m + 0 ≤ z.hp.m + 15 by omega)) ?_ ?_ ?_ (show z.hp.m + 0 ≤ z.hp.m + 17 by omega) ?_
        · show (_ + 1) * 4 ≤ 140737488355328
          (try simp only [List.length_append, List.length_cons, List.length_nil])
          omega
        · show _ + 1 ≤ 140737488355328
          (try simp only [List.length_append, List.length_cons, List.length_nil])
          omega
        · exact (show z.hp.m + 16 < z.hp.m + 17 by omega)
        intro n1 b1 v1 a1 h1
        conv => whnf
        refine ih (i + 2) (hs ++ [n1]) _ _ (by omega) (by omega) (by omega) (by simp; omega) ⟨?_, rfl, rfl, trivial⟩ rfl ?_ hq
        · conv => lhs; whnf
          exact vi e2
        · exact Acc.trunc (n := N) (h1.le (show z.hp.m + 17 ≤ z.hp.m + 21 by omega))
    · conv => whnf
      exact hq _ hs S ⟨rfl, trivial⟩ rfl (by omega) (ha.le (Nat.le_add_right _ _))
end
end Go.Proofs.YtehajklneljbgaaDoor.AB
end

section
set_option linter.unusedVariables false
set_option linter.unusedSimpArgs false
open Go Go.Ab Go.Proofs Go.Vl
namespace Go.Proofs.YtehajklneljbgaaDoor.AB
set_option maxRecDepth 100000
set_option maxHeartbeats 1600000
theorem opt_acc1 {d : Bool} {hp : Hp} {xs : List V} {m : Nat} {s : V} {k : IntKind} {l : List Int} {Q : List V × Hp → Prop} (h : Acc hp.a m s (l.map (.int k))) (hd : d = false) (hx : xs = [s]) (hq : ∀ a', Q ([I k l], ⟨hp.h, hp.n, a', hp.m⟩)) : opt (asData d hp xs) Q := by
  subst hd hx
  obtain ⟨a', e⟩ := fz_acc (d := 4) h
  show opt (fzL (fz 6) hp [s]) Q
  have : fzL (fz 6) hp [s] = some ([I k l], ⟨hp.h, hp.n, a', hp.m⟩) := by
    simp only [fzL]
    rw [show fz 6 hp s = _ from e]
    rfl
  rw [this]
  exact hq a'
/-- a part of a function's code: left/then, right/else, what is inside -/
def atP : Code → List Bool → Code
  | c, [] => c
  | .seq a b, p :: ps => match p with | true => atP b ps | false => atP a ps
  | .cond _ a b, p :: ps => match p with | true => atP b ps | false => atP a ps
  | .block _ c, _ :: ps => atP c ps
  | .loop c, _ :: ps => atP c ps
  | .scope c, _ :: ps => atP c ps
  | c, _ :: _ => c
def bodyOf (f : Func) : Code := match f.body with | some b => b | none => .skip
section
variable {ext : Exts}
theorem c61 (hn : Non ext) (k n : Int) (t : ByteArray) (l : List T) (h0 : k = 0 ∨ k = 4 ∨ k = 5) (h3 : l.length ≤ 1024) (E : ∀ a ∈ l, FullE ext a) (z : St) (K : Ex → St → Prop)
    (hz : Has z.t [(1, .ref 0 0), (7, .int .i64 k)]) (hb : Has z.hp.h [(0, some (.cells (cellsV ⟨k, n, t, l⟩) false))]) (hN : z.hp.n = 10) (hr : ∀ z' r, z'.t 2 = .int .u32 r → K .ret z') (hq : ∀ z', K .normal z') : xCode (cfg ext) (atP (bodyOf Tryd.f61) [true, false, true, false, true, true, true, true, true, true]) z K := by
  obtain ⟨hs, hl, ha⟩ := t70 hn l h3 E
  have hb1 : hs.length ≤ 9223372036854775806 := by omega
  obtain ⟨r69, g69⟩ := t69 hn hs hb1
  obtain ⟨r71, g71⟩ := t71 hn hs hb1
  rw [St.knows _ _ hz hN _ hb]
  rcases h0 with rfl | rfl | rfl
  · conv => whnf
    exact hq _
  · conv => whnf
    refine ⟨_, ha, ?_⟩
    conv => whnf
    refine ⟨_, g69, ?_⟩
    conv => whnf
    exact hr _ _ rfl
  · conv => whnf
    refine ⟨_, ha, ?_⟩
    conv => whnf
    refine ⟨_, g71, ?_⟩
    conv => whnf
    exact hr _ _ rfl
theorem c61b (hn : Non ext) (n : Int) (t : ByteArray) (l : List T) (h3 : l.length ≤ 1024) (h6 : l.length % 2 = 0) (E : ∀ a ∈ l, FullE ext a) (z : St) (K : Ex → St → Prop)
    (hz : Has z.t [(1, .ref 0 0), (7, .int .i64 6)]) (hb : Has z.hp.h [(0, some (.cells (cellsV ⟨6, n, t, l⟩) false))]) (hN : z.hp.n = 10) (hr : ∀ z' r, z'.t 2 = .int .u32 r → K .ret z') : xCode (cfg ext) (atP (bodyOf Tryd.f61) [true, false, true, false, true, true, true, true, true, true]) z K := by
  obtain ⟨hs, hl, ha⟩ := t70 hn l h3 E
  have hb1 : hs.length ≤ 9223372036854775806 := by omega
  have hb2 : hs.length ≤ 1024 := by omega
  have ev : hs.length % 2 = 0 := by omega
  have z0 : hs.length - 0 ≤ 2 * hs.length := by omega
  have big : ∀ xs : List Int, xs.length ≤ 1024 → xs.length ≤ 9223372036854775806 := fun xs h => by omega
  rw [St.knows _ _ hz hN _ hb]
  conv => whnf
  refine ⟨_, ha, ?_⟩
  conv => whnf
  refine l61 hn hs hb2 ev _ _ hs.length 0 [] (.sl true [] 0) _ z0 (Nat.zero_le _) rfl (Nat.le_refl _) ⟨rfl, rfl, rfl, trivial⟩ rfl (.inl ⟨rfl, rfl⟩) (fun z xs S e1 e2 e3 e4 => ?_)
  rw [St.knows _ _ e1 e2]
  obtain ⟨r2, g2⟩ := t71 hn xs (big _ e3)
  rcases e4 with ⟨rfl, e4⟩ | ⟨b, w, hb, rfl, e4⟩
  · have : xs = [] := by simpa using e4
    subst this
    conv => whnf
    refine ⟨_, g2, ?_⟩
    conv => whnf
    exact hr _ _ rfl
  · have ha4 : Acc z.hp.a z.hp.m (.rsl false b w 0 (xs.map (V.int .u32)).length) (xs.map (.int .u32)) := .inr ⟨b, w, hb, rfl, e4⟩
    conv => whnf
    refine opt_acc1 (k := .u32) (l := xs) (m := z.hp.m) ha4 rfl rfl (fun a' => ?_)
    refine ⟨_, g2, ?_⟩
    conv => whnf
    exact hr _ _ rfl
theorem t61_one (hn : Non ext) (k n : Int) (t : ByteArray) (l : List T) (h0 : 0 ≤ k) (h1 : k ≤ 6) (h2 : t.size ≤ 256) (h3 : l.length ≤ 1024) (h6 : k = 6 → l.length % 2 = 0) (E : ∀ a ∈ l, FullE ext a) : FullE ext ⟨k, n, t, l⟩ := by
  have big : ∀ xs : List Int, xs.length ≤ 1024 → xs.length ≤ 9223372036854775806 := fun xs h => by omega
  have ks (n1 : (k == 1) = false) (n2 : (k == 2) = false) (n3 : (k == 3) = false) : (k = 0 ∨ k = 4 ∨ k = 5) ∨ k = 6 := by
    have n1 : k ≠ 1 := by simpa using n1
    have n2 : k ≠ 2 := by simpa using n2
    have n3 : k ≠ 3 := by simpa using n3
    omega
  have key : ∃ r, (cfg ext).Ev 61 [A ⟨k, n, t, l⟩] r ∧ ∃ c, r = .int .u32 c := by
    refine Ev.ofE (hn 61 (by decide) (by decide)) Tryd.func61 rfl rfl ?_
    conv => whnf
    refine sel_split (fun n1 => ?_) (fun n1 => ?_)
    · conv => whnf
      refine sel_split (fun h => ?_) (fun h => ?_)
      · conv => whnf
        exact ⟨_, rfl⟩
      · conv => whnf
        exact ⟨_, rfl⟩
    conv => whnf
    refine sel_split (fun n2 => ?_) (fun n2 => ?_)
    · conv => whnf
      obtain ⟨r1, g1⟩ := t65 hn n
      refine ⟨_, g1, ?_⟩
      conv => whnf
      exact ⟨_, rfl⟩
    conv => whnf
    refine sel_split (fun n3 => ?_) (fun n3 => ?_)
    · conv => whnf
      obtain ⟨l, hl, g1⟩ := t68 hn t h2
      refine ⟨_, g1, ?_⟩
      conv => whnf
      obtain ⟨r2, g2⟩ := t67 hn l (big _ hl)
      refine ⟨_, g2, ?_⟩
      conv => whnf
      obtain ⟨r3, g3⟩ := t66 hn r2
      refine ⟨_, g3, ?_⟩
      conv => whnf
      exact ⟨_, rfl⟩
    rcases ks n1 n2 n3 with c | rfl
    · refine c61 hn k n t l c h3 E _ _ ⟨rfl, rfl, trivial⟩ ⟨rfl, trivial⟩ rfl (fun z r e => ?_) (fun z => ?_)
      · rw [St.knows [(2, _)] _ ⟨e, trivial⟩ rfl]
        conv => whnf
        exact ⟨_, rfl⟩
      · conv => whnf
        exact ⟨_, rfl⟩
    · refine c61b hn n t l h3 (h6 rfl) E _ _ ⟨rfl, rfl, trivial⟩ ⟨rfl, trivial⟩ rfl (fun z r e => ?_)
      rw [St.knows [(2, _)] _ ⟨e, trivial⟩ rfl]
      conv => whnf
      exact ⟨_, rfl⟩
  obtain ⟨r, h, c, rfl⟩ := key
  exact ⟨c, h⟩
mutual
theorem t61 (hn : Non ext) : (v : T) → OkV v → partsV v ≤ 1024 → FullE ext v
  | ⟨k, n, t, l⟩, h, hp => by
    simp only [OkV] at h
    simp only [partsV] at hp
    have hl := partsL_len l
    have hk : 0 ≤ k ∧ k ≤ 6 ∧ t.size ≤ 256 := by
      have hp := h.1
      unfold PlainV at hp
      obtain ⟨a, b, c⟩ := hp
      have ht : k ≠ 3 → t.size ≤ 256 := fun h3 => by rw [a.resolve_left h3]; show 0 ≤ 256; omega
      split at c
      · exact ⟨by omega, by omega, ht (by omega)⟩
      · split at c
        · exact ⟨by omega, by omega, c.1⟩
        · exact ⟨c.1, c.2, ht ‹_›⟩
    have h6 : k = 6 → l.length % 2 = 0 := fun e => by
      have := h.2.1
      unfold FormV at this
      rw [if_neg (by omega), if_pos e] at this
      exact this.1
    exact t61_one hn k n t l hk.1 hk.2.1 hk.2.2 (by omega) h6 (t61L hn l h.2.2 (by omega))
theorem t61L (hn : Non ext) : (l : List T) → OkL l → partsL l ≤ 1024 → ∀ a ∈ l, FullE ext a
  | [], _, _, a, ha => by cases ha
  | v :: l, h, hp, a, ha => by
    simp only [OkL] at h
    simp only [partsL] at hp
    rcases List.mem_cons.1 ha with e | ha
    · rw [e]; exact t61 hn v h.1 (by omega)
    · exact t61L hn l h.2 (by omega) a ha
end
theorem t51 (hn : Non ext) (h26 : E26 ext) (h73 : E73 ext) (v : T) (hw : WfV v) : ∃ h e, (cfg ext).Ev 51 [A v] (.tup [.int .u32 h, .int .i64 e]) := by
  have key : ∃ r, (cfg ext).Ev 51 [A v] r ∧ ∃ h e, r = .tup [.int .u32 h, .int .i64 e] := by
    refine Ev.ofE (hn 51 (by decide) (by decide)) Tryd.func51 rfl rfl ?_
    have c := t22 hn h26 h73 v hw
    conv => whnf
    refine ⟨_, c, ?_⟩
    cases ho : okB v with
    | false =>
      conv => whnf
      exact ⟨_, _, rfl⟩
    | true =>
      obtain ⟨r, hr⟩ := t61 hn v (okB_iff.1 ho).1 (okB_iff.1 ho).2.2
      conv => whnf
      refine ⟨_, hr, ?_⟩
      conv => whnf
      exact ⟨_, _, rfl⟩
  obtain ⟨r, h, a, b, rfl⟩ := key
  exact ⟨a, b, h⟩
end
end Go.Proofs.YtehajklneljbgaaDoor.AB
end

section
set_option linter.unusedVariables false
set_option linter.unusedSimpArgs false
open Go Go.Ab Go.Proofs Go.Vl
namespace Go.Proofs.YtehajklneljbgaaDoor.AB
set_option maxRecDepth 100000
set_option maxHeartbeats 1600000
section
variable {ext : Exts}
theorem t7 (hn : Non ext) (a b : T) (hc : (cfg ext).Ev 15 [A a, A b] (.int .i64 (cmpV a b))) : (cfg ext).Ev 7 [A a, A b] (.bool (cmpV a b == 0)) := by
  refine Ev.of (hn 7 (by decide) (by decide)) Tryd.func7 rfl rfl ?_
  conv => whnf
  refine ⟨_, hc, ?_⟩
  conv => whnf
theorem t38 (hn : Non ext) : (cfg ext).Ev 38 [.fn 39 []] (.agg [.fn 48 [.ptr [.fn 39 []] 0]]) := by
  refine Ev.of (hn 38 (by decide) (by decide)) Tryd.func38 rfl rfl ?_
  conv => whnf
theorem t40 (hn : Non ext) : (cfg ext).Ev 40 [.fn 41 []] (.agg [.fn 52 [.ptr [.fn 41 []] 0]]) := by
  refine Ev.of (hn 40 (by decide) (by decide)) Tryd.func40 rfl rfl ?_
  conv => whnf
end
end Go.Proofs.YtehajklneljbgaaDoor.AB
end

section
set_option linter.unusedVariables false
set_option linter.unusedSimpArgs false
open Go Go.Ab Go.Proofs Go.Vl
namespace Go.Proofs.YtehajklneljbgaaDoor.AB
set_option maxRecDepth 100000
set_option maxHeartbeats 1600000
section
variable {ext : Exts}
def nearC (a b : T) : Int := if a.f0 = 2 ∧ b.f0 = 2 then (if cmp3 (awy a.f1) (awy b.f1) = 0 then cmp3 a.f1 b.f1 else cmp3 (awy a.f1) (awy b.f1)) else cmpV a b
theorem t43 (hn : Non ext) (a b : T) (hc : (cfg ext).Ev 15 [A a, A b] (.int .i64 (cmpV a b))) : (cfg ext).Ev 43 [A a, A b] (.int .i64 (nearC a b)) := by
  refine Ev.of (hn 43 (by decide) (by decide)) Tryd.func43 rfl rfl ?_
  conv => whnf
  cases h4 : (a.f0 == 2) with
  | false =>
    conv => whnf
    refine ⟨_, hc, ?_⟩
    conv => whnf
    exact vi (by unfold nearC; simp at h4; simp [h4])
  | true =>
    conv => whnf
    cases h5 : (b.f0 == 2) with
    | false =>
      conv => whnf
      refine ⟨_, hc, ?_⟩
      conv => whnf
      exact vi (by unfold nearC; simp at h5; simp [h5])
    | true =>
      conv => whnf
      refine ⟨_, t56 (hn 56 (by decide) (by decide)) a.f1, ?_⟩
      conv => whnf
      refine ⟨_, t56 (hn 56 (by decide) (by decide)) b.f1, ?_⟩
      conv => whnf
      refine ⟨_, t55 (hn 62 (by decide) (by decide)) (hn 55 (by decide) (by decide)) _ _, ?_⟩
      conv => whnf
      refine ⟨_, t25 (hn 34 (by decide) (by decide)) (hn 25 (by decide) (by decide)) _ _, ?_⟩
      conv => whnf
      refine ⟨_, t49 (hn 49 (by decide) (by decide)) _ _, ?_⟩
      conv => whnf
      exact vi (by unfold nearC; simp at h4 h5; simp [h4, h5])
end
end Go.Proofs.YtehajklneljbgaaDoor.AB
end

section
set_option linter.unusedVariables false
set_option linter.unusedSimpArgs false
open Go Go.Ab Go.Proofs Go.Vl
namespace Go.Ab
theorem Fin.of_eq {P : Program} {fn : Func} {s : St} {R : V → Prop} {v : V} (h : (resOf P fn s).bind (fun r => (fz 6 s.hp r).map Prod.fst) = some v) (hR : R v) : Fin P fn s R := by
  obtain ⟨r, h1, h2⟩ := Option.bind_eq_some_iff.1 h
  obtain ⟨p, h3, h4⟩ := Option.map_eq_some_iff.1 h2
  refine ⟨?_⟩
  rw [h1]
  show opt (fz 6 s.hp r) fun p => R p.1
  rw [h3]
  show R p.1
  rw [h4]; exact hR
end Go.Ab
namespace Go.Proofs.YtehajklneljbgaaDoor.AB
set_option maxRecDepth 100000
set_option maxHeartbeats 1600000
section
variable {ext : Exts}
def rows : List V := [.fn 15 [], .fn 37 [], .fn 48 [.ptr [.fn 39 []] 0], .fn 52 [.ptr [.fn 41 []] 0], .fn 42 [], .fn 43 []]
theorem t31 (hn : Non ext) : (cfg ext).Ev 31 [] (.sl false rows 6) := by
  have key : ∃ r, (cfg ext).Ev 31 [] r ∧ r = .sl false rows 6 := by
    refine Ev.ofF (hn 31 (by decide) (by decide)) Tryd.func31 rfl rfl ?_
    conv => whnf
    refine ⟨_, t38 hn, ?_⟩
    conv => whnf
    refine ⟨_, t40 hn, ?_⟩
    conv => whnf
    exact Fin.of_eq (v := .sl false rows 6) (by kernel_rfl) rfl
  obtain ⟨r, h, rfl⟩ := key
  exact h
end
end Go.Proofs.YtehajklneljbgaaDoor.AB
end

section
set_option linter.unusedVariables false
set_option linter.unusedSimpArgs false
open Go Go.Ab Go.Proofs Go.Vl
namespace Go.Proofs.YtehajklneljbgaaDoor.AB
set_option maxRecDepth 100000
set_option maxHeartbeats 1600000
section
variable {ext : Exts}
def rowOf (o : Nat) : V := match o with | 0 => .fn 15 [] | 1 => .fn 37 [] | 2 => .fn 48 [.ptr [.fn 39 []] 0] | 3 => .fn 52 [.ptr [.fn 41 []] 0] | 4 => .fn 42 [] | 5 => .fn 43 [] | _ => .nilfn
theorem t21 (hn : Non ext) (o : Nat) (h5 : o ≤ 5) : (cfg ext).Ev 21 [.int .i64 o] (.tup [.agg [rowOf o], .int .i64 0]) := by
  have key : ∃ r, (cfg ext).Ev 21 [.int .i64 o] r ∧ r = .tup [.agg [rowOf o], .int .i64 0] := by
    refine Ev.ofF (hn 21 (by decide) (by decide)) Tryd.func21 rfl rfl ?_
    conv => whnf
    have g3 : decide ((o : Int) > 5) = false := by simp; omega
    refine sel_no g3 ?_
    conv => whnf
    refine ⟨_, t31 hn, ?_⟩
    have c : o = 0 ∨ o = 1 ∨ o = 2 ∨ o = 3 ∨ o = 4 ∨ o = 5 := by omega
    rcases c with rfl | rfl | rfl | rfl | rfl | rfl
    all_goals
      conv => whnf
      refine ⟨by decide, ?_⟩
      conv => whnf
      refine ⟨le_rfl' rfl, ?_⟩
      conv => whnf
      exact Fin.of_eq (by kernel_rfl) rfl
  obtain ⟨r, h, rfl⟩ := key
  exact h
end
end Go.Proofs.YtehajklneljbgaaDoor.AB
end

section
set_option linter.unusedVariables false
set_option linter.unusedSimpArgs false
open Go Go.Ab Go.Proofs Go.Vl
namespace Go.Proofs.YtehajklneljbgaaDoor.AB
set_option maxRecDepth 100000
set_option maxHeartbeats 1600000
section
variable {ext : Exts}
theorem l11 (l : List T) (hl : l.length ≤ 65536) (E : ∀ a ∈ l, (cfg ext).Ev 22 [A a] (.int .i64 (if okB a = true then 0 else 3))) (f : V) (hf : cleanV 18 f = f) (Q : Ex → St → Prop) (d : Nat) :
    ∀ (i : Nat) (z : St), l.length - i = d → i ≤ l.length → Has z.t [(26, .int .i64 i), (25, .int .i64 l.length), (24, .sl false (encL l) l.length), (4, .ref 0 0), (6, .ref 7 0)] → Has z.hp.h [(0, some (.cells [.nilfn] false)), (7, some (.cells [f] false))] → z.hp.n = 18 →
      (∀ z' : St, Has z'.t [(4, .ref 0 0), (5, .int .i64 3)] → Has z'.hp.h [(0, some (.cells [f] false))] → (¬ ∀ a ∈ l.drop i, okB a = true) → Q .ret z') →
      (∀ z' : St, Has z'.t [(4, .ref 0 0), (6, .ref 7 0)] → Has z'.hp.h [(0, some (.cells [.nilfn] false)), (7, some (.cells [f] false))] → z'.hp.n = 19 → (∀ a ∈ l.drop i, okB a = true) → Q (.exit 0) z') →
      Go.Ab.Loop (cfg ext) (lpOf Tryd.f11) 18 z Q := by
  induction d with
  | zero =>
    intro i z hd hi hz hb hn hr hq
    rw [St.knows _ _ hz hn _ hb]
    refine Loop.round ?_
    conv => whnf
    refine sel_split (fun h => ?_) (fun h => ?_)
    · simp at h; omega
    conv => whnf
    exact hq _ ⟨rfl, rfl, trivial⟩ ⟨rfl, rfl, trivial⟩ rfl (by intro a ha; rw [List.drop_eq_nil_of_le (by omega)] at ha; cases ha)
  | succ d ih =>
    intro i z hd hi hz hb hn hr hq
    have hlt : i < l.length := by omega
    have eD := List.drop_eq_getElem_cons hlt
    have e1 : IntKind.i64.wrap ((i : Int) + 1) = ((i + 1 : Nat) : Int) := wrapN (by omega) (by omega)
    have hE := E _ (List.getElem_mem hlt)
    rw [St.knows _ _ hz hn _ hb]
    refine Loop.round ?_
    conv => whnf
    refine sel_split (fun h => ?_) (fun h => ?_)
    · conv => whnf
      refine ⟨⟨by omega, by omega⟩, ?_⟩
      conv => whnf
      refine ldA (i := i) hlt ?_
      conv => whnf
      refine ⟨_, hE, ?_⟩
      cases ho : okB l[i] with
      | false =>
        conv => whnf
        exact hr _ ⟨rfl, rfl, trivial⟩ ⟨rfl, trivial⟩ (fun g => by have := g l[i] (by rw [eD]; exact List.mem_cons_self); rw [ho] at this; cases this)
      | true =>
        conv => whnf
        refine ih (i + 1) _ (by omega) (by omega) ⟨?_, rfl, rfl, rfl, rfl, trivial⟩ ⟨rfl, ?_, trivial⟩ rfl (fun z' a b c => hr z' a b (fun g => c (fun x hx => g x (by rw [eD]; exact List.mem_cons_of_mem _ hx)))) (fun z' a b c e => hq z' a b c (fun x hx => by rw [eD] at hx; rcases List.mem_cons.1 hx with rfl | hx; exact ho; exact e x hx))
        · conv => lhs; whnf
          exact vi e1
        · show some (Bx.cells [cleanV 18 f] false) = _
          rw [hf]
    · simp at h; omega
end
end Go.Proofs.YtehajklneljbgaaDoor.AB
end

section
set_option linter.unusedVariables false
set_option linter.unusedSimpArgs false
open Go Go.Ab Go.Proofs Go.Vl
namespace Go.Proofs.YtehajklneljbgaaDoor.AB
set_option maxRecDepth 100000
set_option maxHeartbeats 1600000
section
variable {ext : Exts}
theorem t11e (hn : Non ext) (o : Nat) (h5 : o ≤ 5) (l : List T) (hl : l.length ≤ 65536) (E : ∀ a ∈ l, (cfg ext).Ev 22 [A a] (.int .i64 (if okB a = true then 0 else 3))) :
    (cfg ext).Ev 11 [.int .i64 o, .sl false (encL l) l.length] (.tup [.agg [rowOf o], .int .i64 (if l.all okB = true then 0 else 3)]) := by
  have hf : cleanV 18 (rowOf o) = rowOf o := by
    have c : o = 0 ∨ o = 1 ∨ o = 2 ∨ o = 3 ∨ o = 4 ∨ o = 5 := by omega
    rcases c with rfl | rfl | rfl | rfl | rfl | rfl <;> rfl
  have h65 : decide ((l.length : Int) > 65536) = false := by simp; omega
  have key : ∃ r, (cfg ext).Ev 11 [.int .i64 o, .sl false (encL l) l.length] r ∧ r = .tup [.agg [rowOf o], .int .i64 (if l.all okB = true then 0 else 3)] := by
    refine Ev.ofF (hn 11 (by decide) (by decide)) Tryd.func11 rfl rfl ?_
    conv => whnf
    refine ⟨_, t21 hn o h5, ?_⟩
    conv => whnf
    refine sel_no h65 ?_
    conv => whnf
    refine l11 l hl E (rowOf o) hf _ l.length 0 _ rfl (by omega) ⟨rfl, rfl, rfl, rfl, rfl, trivial⟩ ⟨rfl, rfl, trivial⟩ rfl (fun z a b c => ?_) (fun z a b c d => ?_)
    · have e0 := a.1
      have e5 := a.2.1
      have eb := b.1
      refine Fin.of_eq (v := .tup [.agg [rowOf o], .int .i64 3]) ?_ (by rw [if_neg (show ¬ (l.all okB = true) from fun h => c (List.all_eq_true.1 h))])
      rw [St.knows _ z.hp.n a rfl _ b]
      have c6 : o = 0 ∨ o = 1 ∨ o = 2 ∨ o = 3 ∨ o = 4 ∨ o = 5 := by omega
      rcases c6 with rfl | rfl | rfl | rfl | rfl | rfl <;> rfl
    · rw [St.knows _ _ a c _ b]
      conv => whnf
      refine Fin.of_eq (v := .tup [.agg [rowOf o], .int .i64 0]) ?_ (by rw [if_pos (show l.all okB = true from List.all_eq_true.2 d)])
      have c6 : o = 0 ∨ o = 1 ∨ o = 2 ∨ o = 3 ∨ o = 4 ∨ o = 5 := by omega
      rcases c6 with rfl | rfl | rfl | rfl | rfl | rfl <;> rfl
  obtain ⟨r, h, rfl⟩ := key
  exact h
theorem t11 (hn : Non ext) (o : Nat) (h5 : o ≤ 5) (l : List T) (hl : l.length ≤ 65536) (E : ∀ a ∈ l, (cfg ext).Ev 22 [A a] (.int .i64 (if okB a = true then 0 else 3))) :
    ∃ e : Int, (cfg ext).Ev 11 [.int .i64 o, .sl false (encL l) l.length] (.tup [.agg [rowOf o], .int .i64 e]) ∧ (e = 0 ↔ ∀ a ∈ l, okB a = true) := by
  refine ⟨_, t11e hn o h5 l hl E, ?_⟩
  cases h : l.all okB
  · rw [if_neg (by decide)]; exact ⟨fun h => (by cases h), fun h' => (by rw [List.all_eq_true.2 h'] at h; cases h)⟩
  · rw [if_pos rfl]; exact ⟨fun _ => List.all_eq_true.1 h, fun _ => rfl⟩
theorem t11long (hn : Non ext) (o : Nat) (h5 : o ≤ 5) (l : List T) (hl : 65536 < l.length) : (cfg ext).Ev 11 [.int .i64 o, .sl false (encL l) l.length] (.tup [.agg [rowOf o], .int .i64 2]) := by
  have h65 : decide ((l.length : Int) > 65536) = true := by simp; omega
  have key : ∃ r, (cfg ext).Ev 11 [.int .i64 o, .sl false (encL l) l.length] r ∧ r = .tup [.agg [rowOf o], .int .i64 2] := by
    refine Ev.ofF (hn 11 (by decide) (by decide)) Tryd.func11 rfl rfl ?_
    conv => whnf
    refine ⟨_, t21 hn o h5, ?_⟩
    conv => whnf
    refine sel_yes h65 ?_
    conv => whnf
    refine Fin.of_eq (v := .tup [.agg [rowOf o], .int .i64 2]) ?_ rfl
    have c6 : o = 0 ∨ o = 1 ∨ o = 2 ∨ o = 3 ∨ o = 4 ∨ o = 5 := by omega
    rcases c6 with rfl | rfl | rfl | rfl | rfl | rfl <;> rfl
  obtain ⟨r, h, rfl⟩ := key
  exact h
end
end Go.Proofs.YtehajklneljbgaaDoor.AB
end

section
set_option linter.unusedVariables false
set_option linter.unusedSimpArgs false
open Go Go.Ab Go.Proofs Go.Vl
namespace Go.Proofs.YtehajklneljbgaaDoor.AB
set_option maxRecDepth 100000
set_option maxHeartbeats 1600000
section
variable {ext : Exts}
/-- an order's row, called -/
def RowE (ext : Exts) (o : Nat) (a b : T) (r : Int) : Prop := match o with
  | 0 => (cfg ext).Ev 15 [A a, A b] (.int .i64 r)
  | 1 => (cfg ext).Ev 37 [A a, A b] (.int .i64 r)
  | 2 => (cfg ext).Ev 48 [A a, A b, .ptr [.fn 39 []] 0] (.int .i64 r)
  | 3 => (cfg ext).Ev 52 [A a, A b, .ptr [.fn 41 []] 0] (.int .i64 r)
  | 4 => (cfg ext).Ev 42 [A a, A b] (.int .i64 r)
  | _ => (cfg ext).Ev 43 [A a, A b] (.int .i64 r)
theorem t5 (hn : Non ext) (o : Nat) (h5 : o ≤ 5) (a b : T) (E : ∀ v ∈ [a, b], (cfg ext).Ev 22 [A v] (.int .i64 (if okB v = true then 0 else 3))) (r : Int) (hr : RowE ext o a b r) :
    ∃ c e : Int, (cfg ext).Ev 5 [.int .i64 o, A a, A b] (.tup [.int .i64 c, .int .i64 e]) ∧ (e = 0 ↔ okB a = true ∧ okB b = true) ∧ (e = 0 → c = r) := by
  obtain ⟨e, h11, he⟩ := t11 hn o h5 [a, b] (by simp) E
  have eL : encL [a, b] = enc a ++ enc b := by simp only [encL, List.append_nil]
  rw [eL, enc_eq, enc_eq] at h11
  have he : e = 0 ↔ okB a = true ∧ okB b = true := by rw [he]; simp
  by_cases e0 : e = 0
  · refine ⟨r, e, ?_, he, fun _ => rfl⟩
    refine Ev.of (hn 5 (by decide) (by decide)) Tryd.func5 rfl rfl ?_
    conv => whnf
    refine ⟨_, h11, ?_⟩
    conv => whnf
    refine sel_no (by simpa using e0) ?_
    have c6 : o = 0 ∨ o = 1 ∨ o = 2 ∨ o = 3 ∨ o = 4 ∨ o = 5 := by omega
    rcases c6 with rfl | rfl | rfl | rfl | rfl | rfl
    all_goals
      conv => whnf
      refine ⟨_, hr, ?_⟩
      conv => whnf
      rw [e0]
  · refine ⟨0, e, ?_, he, fun h => absurd h e0⟩
    refine Ev.of (hn 5 (by decide) (by decide)) Tryd.func5 rfl rfl ?_
    conv => whnf
    refine ⟨_, h11, ?_⟩
    conv => whnf
    refine sel_yes (by simpa using e0) ?_
    conv => whnf
end
end Go.Proofs.YtehajklneljbgaaDoor.AB
end

section
set_option linter.unusedVariables false
set_option linter.unusedSimpArgs false
open Go Go.Ab Go.Proofs Go.Vl
namespace Go.Proofs.YtehajklneljbgaaDoor.AB
set_option maxRecDepth 100000
set_option maxHeartbeats 1600000
section
variable {ext : Exts}
/-- an order's row says one line -/
def Line (f : T → T → Int) : Prop := (∀ a b, f b a = - f a b) ∧ (∀ a b, Shp a → Shp b → (f a b = 0 ↔ a = b)) ∧ (∀ a b c, Shp a → Shp b → Shp c → f a b ≤ 0 → f b c ≤ 0 → f a c ≤ 0) ∧ ∀ a b, One (f a b)
theorem near_is (a b : T) : nearC a b = kindC 2 (fun v => awy v.f1) a b := by
  unfold nearC kindC
  by_cases h : a.f0 = 2 ∧ b.f0 = 2
  · rw [if_pos h, if_pos h]
    have : cmpV a b = cmpI a.f1 b.f1 := by
      cases a with | mk k n t l =>
      rw [cmpV, if_pos (h.1.trans h.2.symm), if_pos (.inr h.1)]
    unfold lexC
    rw [this]
    rfl
  · rw [if_neg h, if_neg h]
theorem row_line (hn : Non ext) (h26 : E26 ext) (h73 : E73 ext) (o : Nat) (h5 : o ≤ 5) : ∃ f, Line f ∧ ∀ a b, WfV a → WfV b → RowE ext o a b (f a b) := by
  have lex (m : T → Int) : Line (lexC m) := ⟨lexC_turn m, fun _ _ => lexC_eq m, fun _ _ _ => lexC_trans m, lexC_one m⟩
  have kin (q : Int) (m : T → Int) : Line (kindC q m) := ⟨kindC_turn q m, fun _ _ => kindC_eq q m, fun _ _ _ => kindC_trans q m, kindC_one q m⟩
  have e (f : Nat) (h : f ≠ 26) (h' : f ≠ 73) := hn f h h'
  have c6 : o = 0 ∨ o = 1 ∨ o = 2 ∨ o = 3 ∨ o = 4 ∨ o = 5 := by omega
  rcases c6 with rfl | rfl | rfl | rfl | rfl | rfl
  · exact ⟨cmpV, ⟨cmpV_turn, fun _ _ => cmpV_eq, fun _ _ _ => cmpV_le, cmpV_one⟩, fun a b ha hb => t15 hn h26 a ha b⟩
  · refine ⟨fun a b => cmpV b a, ⟨fun a b => cmpV_turn b a, fun a b ha hb => (cmpV_eq hb ha).trans ⟨Eq.symm, Eq.symm⟩, fun a b c ha hb hc h1 h2 => cmpV_le hc hb ha h2 h1, fun a b => cmpV_one b a⟩, fun a b ha hb => ?_⟩
    exact t37 (e 37 (by decide) (by decide)) a b _ (t15 hn h26 b hb a)
  · have ex : ∀ v, ∃ h : Int, WfV v → ∃ e, (cfg ext).Ev 51 [A v] (.tup [.int .u32 h, .int .i64 e]) := fun v => by
      by_cases hw : WfV v
      · obtain ⟨h, e, g⟩ := t51 hn h26 h73 v hw
        exact ⟨h, fun _ => ⟨e, g⟩⟩
      · exact ⟨0, fun h => absurd h hw⟩
    refine ⟨lexC fun v => Classical.choose (ex v), lex _, fun a b ha hb => ?_⟩
    obtain ⟨ea, ga⟩ := Classical.choose_spec (ex a) ha
    obtain ⟨eb, gb⟩ := Classical.choose_spec (ex b) hb
    exact t48 (e 48 (by decide) (by decide)) (e 50 (by decide) (by decide)) (e 60 (by decide) (by decide)) (e 49 (by decide) (by decide)) a b _ _ _ (t39 (e 39 (by decide) (by decide)) a _ _ ga) (t39 (e 39 (by decide) (by decide)) b _ _ gb) (t15 hn h26 a ha b)
  · refine ⟨lexC fun v => cntZ v 16 1024, lex _, fun a b ha hb => ?_⟩
    obtain ⟨ea, ga⟩ := t53 hn h26 h73 a ha
    obtain ⟨eb, gb⟩ := t53 hn h26 h73 b hb
    exact t52 (e 52 (by decide) (by decide)) (e 24 (by decide) (by decide)) (e 33 (by decide) (by decide)) (e 49 (by decide) (by decide)) a b _ _ _ (t41 (e 41 (by decide) (by decide)) a _ _ ga) (t41 (e 41 (by decide) (by decide)) b _ _ gb) (t15 hn h26 a ha b)
  · refine ⟨kindC 3 fun v => Classical.choose (t54 hn v.f2), kin 3 _, fun a b ha hb => ?_⟩
    exact t42 (e 42 (by decide) (by decide)) (e 24 (by decide) (by decide)) (e 33 (by decide) (by decide)) (e 49 (by decide) (by decide)) a b _ _ _ (Classical.choose_spec (t54 hn a.f2)) (Classical.choose_spec (t54 hn b.f2)) (t15 hn h26 a ha b)
  · refine ⟨kindC 2 fun v => awy v.f1, kin 2 _, fun a b ha hb => ?_⟩
    rw [← near_is]
    exact t43 hn a b (t15 hn h26 a ha b)
end
end Go.Proofs.YtehajklneljbgaaDoor.AB
end

section
set_option linter.unusedVariables false
set_option linter.unusedSimpArgs false
open Go Go.Ab Go.Proofs Go.Vl
namespace Go.Proofs.YtehajklneljbgaaDoor.AB
set_option maxRecDepth 100000
set_option maxHeartbeats 1600000
section
variable {ext : Exts}
theorem t21x (hn : Non ext) (o : Int) (h : o < 0 ∨ o > 5) : (cfg ext).Ev 21 [.int .i64 o] (.tup [.agg [.nilfn], .int .i64 4]) := by
  refine Ev.of (hn 21 (by decide) (by decide)) Tryd.func21 rfl rfl ?_
  conv => whnf
  by_cases h0 : o < 0
  · have g : (decide (o < 0) == false) = false := by simp [h0]
    refine sel_no g ?_
    conv => whnf
    refine sel_no g ?_
    conv => whnf
    refine sel_yes (decide_eq_true h0) ?_
    conv => whnf
  · have g : (decide (o < 0) == false) = true := by simp; omega
    refine sel_yes g ?_
    conv => whnf
    refine sel_yes g ?_
    conv => whnf
    refine sel_no (decide_eq_false h0) ?_
    conv => whnf
    refine sel_yes (decide_eq_true (show o > 5 by omega)) ?_
    conv => whnf
theorem t11x (hn : Non ext) (o : Int) (h : o < 0 ∨ o > 5) (cs : List V) (n : Nat) : (cfg ext).Ev 11 [.int .i64 o, .sl false cs n] (.tup [.agg [.nilfn], .int .i64 4]) := by
  refine Ev.of (hn 11 (by decide) (by decide)) Tryd.func11 rfl rfl ?_
  conv => whnf
  refine ⟨_, t21x hn o h, ?_⟩
  conv => whnf
theorem t5x (hn : Non ext) (o : Int) (h : o < 0 ∨ o > 5) (a b : T) : (cfg ext).Ev 5 [.int .i64 o, A a, A b] (.tup [.int .i64 0, .int .i64 4]) := by
  refine Ev.of (hn 5 (by decide) (by decide)) Tryd.func5 rfl rfl ?_
  conv => whnf
  refine ⟨_, t11x hn o h _ _, ?_⟩
  conv => whnf
end
end Go.Proofs.YtehajklneljbgaaDoor.AB
end

section
set_option linter.unusedVariables false
set_option linter.unusedSimpArgs false
open Go Go.Ab Go.Proofs Go.Vl
namespace Go.Proofs.YtehajklneljbgaaDoor.AB
def ext0 : Exts := fun f => match f with
  | 26 => some fun xs => match xs with
    | [.str s, .str t] => some (.int .i64 (Lib.compareBytes s.data.toList t.data.toList))
    | _ => none
  | 73 => some fun xs => match xs with
    | [.str s] => some (.tup [.int .i32 (decGo s).1, .int .i64 (decGo s).2])
    | _ => none
  | _ => none
theorem non0 : Non ext0 := fun f h1 h2 => by
  unfold ext0
  split
  · exact absurd rfl h1
  · exact absurd rfl h2
  · rfl
theorem e26 : E26 ext0 := fun _ _ => Ev.ext rfl rfl
theorem e73 : E73 ext0 := fun _ => Ev.ext rfl rfl
theorem t6 : (cfg ext0).Ev 6 [] (.bool true) := Ev.closed 60 (by kernel_rfl)
end Go.Proofs.YtehajklneljbgaaDoor.AB
end

section
set_option linter.unusedVariables false
set_option linter.unusedSimpArgs false
open Go Go.Ab Go.Proofs Go.Vl Go.RowKit
namespace Go.Proofs.YtehajklneljbgaaDoor.AB
theorem own : ownKnob Tryd.prog.godebug = none := by kernel_rfl
theorem laidOut : laidOutB Tryd.prog = true := by kernel_rfl
def LaidW (w : World) : Prop := Lib.Utf8Tabs 1 2 w
theorem LaidW.below (w w' : World) (h : LaidW w) (hb : Below w.heap.size w w') : LaidW w' := Go.Proofs.Utf8Tabs_below h hb
set_option maxRecDepth 100000 in
/-- the witness's world: the settled one, the two tables holding what their initialisers lay -/
noncomputable def laidWorld (os : Os) : World :=
  let w0 := World.holding Tryd.prog os ⟨#[], #[], []⟩
  let put (h : Array Obj) (g : Nat) (cs : Array Value) : Array Obj := h.modify g fun
    | .cells _ t frozen => .cells cs t frozen
    | o => o
  let h1 := put w0.heap 1 (Lib.firstTab.map fun z => Value.int .u8 z).toArray
  let h2 := put h1 2 ((List.range 16).flatMap fun i => [Value.int .u8 (Lib.accLo i), Value.int .u8 (Lib.accHi i)]).toArray
  { w0 with heap := h2 }
theorem in64_of_wf {n : Int} (h : (Lit.int .i64 n).wf = true) : In64 n := by
  simp only [Lit.wf, Bool.and_eq_true, decide_eq_true_eq] at h
  have e1 : IntKind.i64.min = -9223372036854775808 := by decide +kernel
  have e2 : IntKind.i64.max = 9223372036854775807 := by decide +kernel
  rw [e1, e2] at h
  exact h
theorem list4 {α : Type} {l : List α} (h : l.length = 4) : ∃ a b c d, l = [a, b, c, d] := by
  match l, h with
  | [a, b, c, d], _ => exact ⟨a, b, c, d, rfl⟩
theorem pick_all {α β : Type} {R : α → β → Prop} : ∀ {l : List β}, (∀ p ∈ l, ∃ x, R x p) → ∃ xs : List α, xs.length = l.length ∧ ∀ (i : Nat) x p, xs[i]? = some x → l[i]? = some p → R x p
  | [], _ => ⟨[], rfl, fun i x p h => by simp at h⟩
  | b :: l, h => by
    obtain ⟨x, hx⟩ := h b List.mem_cons_self
    obtain ⟨xs, h1, h2⟩ := pick_all (l := l) fun p hp => h p (List.mem_cons_of_mem _ hp)
    refine ⟨x :: xs, by simp [h1], fun i y p hy hp => ?_⟩
    cases i with
    | zero => simp at hy hp; subst hy hp; exact hx
    | succ i => exact h2 i y p (by simpa using hy) (by simpa using hp)
theorem rows_enc {parts : List (List V)} (h : ∀ p ∈ parts, ∃ v : T, WfV v ∧ p = enc v) : ∃ l : List T, l.length = parts.length ∧ (∀ v ∈ l, WfV v) ∧ parts.flatten = encL l := by
  induction parts with
  | nil => exact ⟨[], rfl, fun v hv => (by cases hv), by simp only [encL]; rfl⟩
  | cons p ps ih =>
    obtain ⟨v, hv, rfl⟩ := h p List.mem_cons_self
    obtain ⟨l, h1, h2, h3⟩ := ih fun q hq => h q (List.mem_cons_of_mem _ hq)
    refine ⟨v :: l, by simp [h1], fun x hx => ?_, by simp only [List.flatten_cons, h3, encL]⟩
    rcases List.mem_cons.1 hx with rfl | hx
    · exact hv
    · exact h2 x hx
set_option maxRecDepth 100000
/-- what reads as a value is one -/
theorem opens_V : ∀ N, Opens Tryd.prog N 24 (fun vs => ∃ v : T, WfV v ∧ vs = enc v) := by
  intro N
  induction N with
  | zero => exact ⟨fun e w base spare held fuel hf => by omega⟩
  | succ N ih =>
    have hL : Opens Tryd.prog N 22 (fun vs => ∃ parts : List (List V), vs = [.sl false parts.flatten parts.length] ∧ parts.length ≤ 9223372036854775807 ∧ ∀ p ∈ parts, ∃ v : T, WfV v ∧ p = enc v) := by
      cases N with
      | zero => exact ⟨fun e w base spare held fuel hf => by omega⟩
      | succ M =>
        refine opens_slice (m := 4) Tryd.underlying22 (by kernel_rfl) (by decide) (fun vs => ?_) (Opens.le (Nat.le_succ M) ih)
        rintro ⟨v, _, rfl⟩
        rw [enc_eq]; rfl
    refine Opens.mono (opens_struct (Rf := fun j vs => match j with
      | 0 => ∃ n : Int, vs = [.int .i64 n] ∧ (Lit.int .i64 n).wf = true
      | 1 => ∃ n : Int, vs = [.int .i64 n] ∧ (Lit.int .i64 n).wf = true
      | 2 => ∃ s : ByteArray, vs = [.str s] ∧ s.size ≤ 9223372036854775807
      | _ => ∃ parts : List (List V), vs = [.sl false parts.flatten parts.length] ∧ parts.length ≤ 9223372036854775807 ∧ ∀ p ∈ parts, ∃ v : T, WfV v ∧ p = enc v) Tryd.underlying24 (by kernel_rfl) ?_) ?_
    · intro j f hf
      match j, hf with
      | 0, hf => cases hf; exact opens_int Tryd.underlying3
      | 1, hf => cases hf; exact opens_int Tryd.underlying2
      | 2, hf => cases hf; exact opens_string Tryd.underlying9
      | 3, hf => cases hf; exact hL
      | j + 4, hf => simp at hf
    · rintro vs ⟨parts, hp, rfl, hR⟩
      obtain ⟨p0, p1, p2, p3, rfl⟩ := list4 (show parts.length = 4 from hp)
      obtain ⟨k, rfl, wk⟩ := hR 0 p0 rfl
      obtain ⟨n, rfl, wn⟩ := hR 1 p1 rfl
      obtain ⟨t, rfl, wt⟩ := hR 2 p2 rfl
      obtain ⟨rows, rfl, wl, hrows⟩ := hR 3 p3 rfl
      obtain ⟨l, h1, h2, h3⟩ := rows_enc hrows
      refine ⟨⟨k, n, t, l⟩, ?_, ?_⟩
      · simp only [WfV]
        exact ⟨in64_of_wf wk, in64_of_wf wn, wt, by omega, wfL_of l h2⟩
      · simp only [enc, h1, h3, List.flatten_cons, List.flatten_nil, List.append_nil, List.cons_append, List.nil_append]
theorem opens_L (N : Nat) : Opens Tryd.prog N 22 (fun vs => ∃ l : List T, vs = [.sl false (encL l) l.length] ∧ l.length ≤ 9223372036854775807 ∧ ∀ v ∈ l, WfV v) := by
  cases N with
  | zero => exact ⟨fun e w base spare held fuel hf => by omega⟩
  | succ M =>
    refine Opens.mono (opens_slice (m := 4) Tryd.underlying22 (by kernel_rfl) (by decide) (fun vs => ?_) (opens_V M)) ?_
    · rintro ⟨v, _, rfl⟩
      rw [enc_eq]; rfl
    · rintro vs ⟨parts, rfl, hl, hp⟩
      obtain ⟨l, h1, h2, h3⟩ := rows_enc hp
      exact ⟨l, by rw [h3, h1], by omega, h2⟩
end Go.Proofs.YtehajklneljbgaaDoor.AB
end

section
set_option linter.unusedVariables false
set_option linter.unusedSimpArgs false
open Go Go.Ab Go.Proofs Go.Vl Go.RowKit
namespace Go.Proofs.YtehajklneljbgaaDoor.AB
set_option maxRecDepth 100000
theorem mixed : Tryd.prog.follows .mixedOrders = true := by kernel_rfl
theorem okf : OKF Tryd.prog okF := OKF.of 80 (fun f h => by
  unfold okF at h
  split at h <;> first | (cases h; done) | (have : f + 1 ≤ 80 := Nat.le_of_ble_eq_true h; omega)) (by kernel_rfl)
theorem ext_ok : EXT Tryd.prog LaidW ext0 := by
  intro f g xs r hf hg
  unfold ext0 at hf
  split at hf
  · cases hf
    dsimp only at hg
    split at hg <;> cases hg
    rename_i s t
    refine ⟨⟨_, Tryd.func26, rfl, by decide⟩, fun S w vs hL hS hv => ?_⟩
    obtain ⟨x, ys, hvs, rfl, y, zs, rfl, rfl, h3⟩ := hv
    simp only [VRs] at h3
    subst h3
    obtain rfl : vs = #[.string s, .string t] := by cases vs; simp_all
    refine (Tryd.strings_Compare s t w).mono ?_
    rintro e w' ⟨rfl, rfl⟩
    exact ⟨_, S, rfl, Below.refl _ _, fun _ _ h => h, fun r o h => ⟨hS r o h, fun _ => h⟩, rfl⟩
  · cases hf
    dsimp only at hg
    split at hg <;> cases hg
    rename_i s
    refine ⟨⟨_, Tryd.func73, rfl, by decide⟩, fun S w vs hL hS hv => ?_⟩
    obtain ⟨x, ys, hvs, rfl, h3⟩ := hv
    simp only [VRs] at h3
    subst h3
    obtain rfl : vs = #[.string s] := by cases vs; simp_all
    refine (Tryd.utf8_DecodeRuneInString s w hL).mono ?_
    rintro e w' ⟨rfl, hb⟩
    refine ⟨_, S, rfl, hb, fun _ _ h => h, fun r o h => ⟨Nat.lt_of_lt_of_le (hS r o h) hb.size, fun _ => h⟩, ?_⟩
    exact ⟨_, rfl, ⟨_, _, rfl, rfl, ⟨_, _, rfl, rfl, rfl⟩⟩⟩
  · cases hf
theorem extR_ok : EXTR Tryd.prog LaidW okF extR := by
  intro f g xs hp r hp' _ hf hg
  unfold extR at hf
  split at hf
  · cases hf
    exact clone_ok (t := 22) (b := 4) (e := 24) (z := [.int .i64 0, .int .i64 0, .str ⟨#[]⟩, .sl true [] 0]) mixed Tryd.func28 rfl rfl rfl (by decide) (by kernel_rfl) (by kernel_rfl) (by kernel_rfl) (by decide) (by kernel_rfl) hg
  · cases hf
    exact grow_okT (ρ := Tryd.growV_ren) (e := 24) (z := [.int .i64 0, .int .i64 0, .str ⟨#[]⟩, .sl true [] 0]) Tryd.growV ⟨_, Tryd.func30, rfl, by decide⟩ rfl (by kernel_rfl) (by kernel_rfl) (by decide) hg
  · cases hf
/-- what the evaluator says of a law, the machine does -/
theorem ev_calls {f : Nat} {vs : List V} (h : (cfg ext0).Ev f vs (.bool true)) (W : World) (hT : LaidW W) (xs : Array Value) (hv : VRs (stab (inW W)) W vs xs.toList) :
    Calls Tryd.prog f xs W fun e w' => e = .returned (.bool true) ∧ Below W.heap.size W w' := by
  refine (Ev.pure (C := cfg ext0) LaidW.below mixed okf ext_ok extR_ok h (inW W) W xs hT (fun r o h => h) hv).mono ?_
  rintro e w' ⟨x, S', rfl, hb, _, _, hx⟩
  exact ⟨by rw [show x = .bool true from hx], hb⟩
end Go.Proofs.YtehajklneljbgaaDoor.AB
end

section
set_option linter.unusedVariables false
set_option linter.unusedSimpArgs false
open Go Go.Ab Go.Proofs Go.Vl
namespace Go.Proofs.YtehajklneljbgaaDoor.AB
set_option maxRecDepth 100000
set_option maxHeartbeats 8000000
set_option linter.unusedSimpArgs false
set_option linter.unusedVariables false
section
variable {ext : Exts}
/-- how an order sets two values (in a seat without the reference): one that its row says -/
noncomputable def ordF (ext : Exts) (o : Int) : T → T → Int := @dite _ (∃ f, Line f ∧ ∀ a b, WfV a → WfV b → RowE ext o.toNat a b (f a b)) (Classical.propDecidable _) (fun h => Classical.choose h) (fun _ => cmpV)
theorem ord_line (o : Int) : Line (ordF ext o) := by
  unfold ordF
  by_cases h : ∃ f, Line f ∧ ∀ a b, WfV a → WfV b → RowE ext o.toNat a b (f a b)
  · rw [dif_pos h]; exact (Classical.choose_spec h).1
  · rw [dif_neg h]; exact ⟨cmpV_turn, fun _ _ => cmpV_eq, fun _ _ _ => cmpV_le, Go.Vl.cmpV_one⟩
theorem rowOrd (hn : Non ext) (h26 : E26 ext) (h73 : E73 ext) (o : Nat) (h5 : o ≤ 5) (a b : T) (ha : WfV a) (hb : WfV b) (oa : okB a = true) (ob : okB b = true) : RowE ext o a b (ordF ext o a b) := by
  have h : ∃ f, Line f ∧ ∀ a b, WfV a → WfV b → RowE ext (o : Int).toNat a b (f a b) := row_line hn h26 h73 o h5
  unfold ordF
  rw [dif_pos h]
  exact (Classical.choose_spec h).2 a b ha hb
end
end Go.Proofs.YtehajklneljbgaaDoor.AB
end

section
set_option linter.unusedVariables false
set_option linter.unusedSimpArgs false
open Go Go.Ab Go.Proofs Go.Vl
namespace Go.Proofs.YtehajklneljbgaaDoor.AB
set_option maxRecDepth 100000
set_option maxHeartbeats 8000000
set_option linter.unusedSimpArgs false
set_option linter.unusedVariables false
section
variable {ext : Exts}
noncomputable def listedZ (l : List T) : Int := if 65536 < l.length then 2 else if l.all okB = true then 0 else 3
/-- the program's -/
theorem plisted (hn : Non ext) (h26 : E26 ext) (h73 : E73 ext) (o : Nat) (h5 : o ≤ 5) (l : List T) (hw : ∀ a ∈ l, WfV a) : (cfg ext).Ev 11 [.int .i64 o, .sl false (encL l) l.length] (.tup [.agg [rowOf o], .int .i64 (listedZ l)]) := by
  by_cases h : 65536 < l.length
  · unfold listedZ; rw [if_pos h]; exact t11long hn o h5 l h
  · unfold listedZ; rw [if_neg h]; exact t11e hn o h5 l (by omega) (fun a ha => t22 hn h26 h73 a (hw a ha))
theorem listed_ok {l : List T} (h : listedZ l = 0) : l.length ≤ 65536 ∧ ∀ a ∈ l, okB a = true := by
  unfold listedZ at h
  split at h
  · omega
  · split at h
    · rename_i h1 h2; exact ⟨by omega, List.all_eq_true.1 h2⟩
    · omega
/-- is a list sorted? -/
def Srt (f : T → T → Int) (l : List T) : Prop := ∀ (j : Nat) (h : j + 1 < l.length), ¬ f l[j + 1] l[j] < 0
open Classical in
end
end Go.Proofs.YtehajklneljbgaaDoor.AB
end

section
set_option linter.unusedVariables false
set_option linter.unusedSimpArgs false
open Go Go.Ab Go.Proofs Go.Vl
namespace Go.Proofs.YtehajklneljbgaaDoor.AB
set_option maxRecDepth 100000
set_option maxHeartbeats 8000000
set_option linter.unusedSimpArgs false
set_option linter.unusedVariables false
section
variable {ext : Exts}
/-- the rows of an order say f of these values -/
def Rows (ext : Exts) (o : Nat) (l : List T) : Prop := ∀ a ∈ l, ∀ b ∈ l, RowE ext o a b (ordF ext o a b)
theorem lisS (hn : Non ext) (o : Nat) (h5 : o ≤ 5) (l : List T) (hl : l.length ≤ 65536) (hw : Rows ext o l) (Q : Ex → St → Prop) :
    ∀ (i : Nat) (z : St), i < l.length → Has z.t [(0, .sl false (encL l) l.length), (1, rowOf o), (5, .int .i64 i)] → z.hp.n = 5 → (∀ (j : Nat) (h : j + 1 < l.length), i ≤ j → ¬ ordF ext o l[j + 1] l[j] < 0) →
      (∀ z' : St, z'.t 4 = .bool false → ¬ Srt (ordF ext o) l → Q .ret z') →
      (∀ z' : St, Srt (ordF ext o) l → Q (.exit 0) z') →
      Go.Ab.Loop (cfg ext) (lpOf Tryd.f18) 5 z Q := by
  intro i
  induction i with
  | zero =>
    intro z hi ht hz hk hr hq
    rw [St.knows _ _ ht hz]
    refine Loop.round ?_
    conv => whnf
    exact hq _ (fun j h => hk j h (by omega))
  | succ i ih =>
    intro z hi ht hz hk hr hq
    have g : decide (((i + 1 : Nat) : Int) > 0) = true := decide_eq_true (by omega)
    have e2 : IntKind.i64.wrap (((i + 1 : Nat) : Int) - 1) = (i : Int) := by rw [IntKind.wrap_i64]; omega
    have hE := hw _ (List.getElem_mem hi) _ (List.getElem_mem (show i < l.length by omega))
    have hb : (0 : Int) ≤ ((i + 1 : Nat) : Int) ∧ ((i + 1 : Nat) : Int) < (l.length : Int) := ⟨by omega, by omega⟩
    have hb2 : (0 : Int) ≤ IntKind.i64.wrap (((i + 1 : Nat) : Int) - 1) ∧ IntKind.i64.wrap (((i + 1 : Nat) : Int) - 1) < (l.length : Int) := by rw [e2]; exact ⟨by omega, by omega⟩
    have e3 : (IntKind.i64.wrap (((i + 1 : Nat) : Int) - 1)).toNat = i := by rw [e2]; rfl
    have hlt3 : (IntKind.i64.wrap (((i + 1 : Nat) : Int) - 1)).toNat < l.length := by rw [e3]; omega
    have e4 : l[(IntKind.i64.wrap (((i + 1 : Nat) : Int) - 1)).toNat] = l[i] := by simp only [e3]
    rw [← e4] at hE
    have hns : ordF ext o l[i + 1] l[(IntKind.i64.wrap (((i + 1 : Nat) : Int) - 1)).toNat] < 0 → ¬ Srt (ordF ext o) l := fun h g => g i hi (by rw [← e4]; exact h)
    have hks : ¬ ordF ext o l[i + 1] l[(IntKind.i64.wrap (((i + 1 : Nat) : Int) - 1)).toNat] < 0 → ∀ (j : Nat) (h : j + 1 < l.length), i ≤ j → ¬ ordF ext o l[j + 1] l[j] < 0 := fun h j hj hij => by
      by_cases e : j = i
      · subst e; rw [← e4]; exact h
      · exact hk j hj (by omega)
    have c6 : o = 0 ∨ o = 1 ∨ o = 2 ∨ o = 3 ∨ o = 4 ∨ o = 5 := by omega
    generalize ordF ext o l[i + 1] l[(IntKind.i64.wrap (((i + 1 : Nat) : Int) - 1)).toNat] = c at hE hns hks
    rw [St.knows _ _ ht hz]
    refine Loop.round ?_
    conv => whnf
    refine sel_yes g ?_
    rcases c6 with rfl | rfl | rfl | rfl | rfl | rfl
    all_goals
      conv => whnf
      refine ⟨hb, ?_⟩
      conv => whnf
      refine ldA (i := i + 1) hi ?_
      conv => whnf
      refine ⟨hb2, ?_⟩
      conv => whnf
      refine ldA (i := (IntKind.i64.wrap (((i + 1 : Nat) : Int) - 1)).toNat) hlt3 ?_
      conv => whnf
      refine ⟨_, hE, ?_⟩
      conv => whnf
      refine sel_split (fun h => ?_) (fun h => ?_)
      · conv => whnf
        exact hr _ rfl (hns (of_decide_eq_true h))
      · conv => whnf
        refine ih _ (by omega) ⟨rfl, rfl, ?_, trivial⟩ rfl (hks (of_decide_eq_false h)) hr hq
        conv => lhs; whnf
        exact vi e2
open Classical in
theorem tisS (hn : Non ext) (o : Nat) (h5 : o ≤ 5) (l : List T) (hl : l.length ≤ 65536) (hw : Rows ext o l) : (cfg ext).Ev 18 [.sl false (encL l) l.length, rowOf o] (.bool (decide (Srt (ordF ext o) l))) := by
  have key : ∃ r, (cfg ext).Ev 18 [.sl false (encL l) l.length, rowOf o] r ∧ r = .bool (decide (Srt (ordF ext o) l)) := by
    refine Ev.ofF (hn 18 (by decide) (by decide)) Tryd.func18 rfl rfl ?_
    conv => whnf
    by_cases h0 : l = []
    · subst h0
      refine Loop.round ?_
      conv => whnf
      exact Fin.tmpB (i := 4) rfl rfl (by rw [decide_eq_true (show Srt (ordF ext o) [] from fun j h => by simp at h)])
    · have hlen : 0 < l.length := List.length_pos_iff.2 h0
      refine lisS hn o h5 l hl hw _ (l.length - 1) _ (by omega) ⟨rfl, rfl, ?_, trivial⟩ rfl (fun j h hj => by omega) (fun z a b => ?_) (fun z b => ?_)
      · conv => lhs; whnf
        exact vi (by rw [IntKind.wrap_i64]; omega)
      · exact Fin.tmpB (i := 4) rfl a (by rw [decide_eq_false b])
      · conv => whnf
        exact Fin.tmpB (i := 4) rfl rfl (by rw [decide_eq_true b])
  obtain ⟨r, h, rfl⟩ := key
  exact h
/-- how the middle is told -/
def midZ (i j : Nat) : Int := IntKind.i64.wrap (Int.fdiv (IntKind.u64.wrap (IntKind.i64.wrap ((i : Int) + (j : Int)))) (2 ^ (min (1 : Int).toNat IntKind.u64.bits)))
theorem midZ_is {i j : Nat} (h : i + j ≤ 131072) : midZ i j = ((i + j) / 2 : Nat) := by
  unfold midZ
  have e1 : IntKind.i64.wrap ((i : Int) + (j : Int)) = ((i + j : Nat) : Int) := by rw [IntKind.wrap_i64]; omega
  have e2 : IntKind.u64.wrap ((i + j : Nat) : Int) = ((i + j : Nat) : Int) := by rw [IntKind.wrap_u64]; omega
  rw [e1, e2]
  rw [show (2 ^ (min (1 : Int).toNat IntKind.u64.bits) : Int) = 2 from rfl, Int.fdiv_eq_ediv_of_nonneg _ (by omega), IntKind.wrap_i64]
  omega
def box4 (v : T) : Bx := .cells [.int .i64 v.f0, .int .i64 v.f1, .str v.f2, .sl false (encL v.f3) v.f3.length] false
/-- so many stand ahead -/
def Ahd (f : T → T → Int) (l : List T) (v : T) (p : Nat) : Prop := p ≤ l.length ∧ (∀ (k : Nat) (h : k < l.length), k < p → f l[k] v < 0) ∧ (∀ (k : Nat) (h : k < l.length), p ≤ k → ¬ f l[k] v < 0)
theorem srt_le {f : T → T → Int} (hf : Line f) {l : List T} (hw : ∀ a ∈ l, Shp a) (hs : Srt f l) : ∀ (d i : Nat) (h : i + d < l.length), f l[i] l[i + d] ≤ 0
  | 0, i, h => by have := (hf.2.1 l[i] l[i] (hw _ (List.getElem_mem _)) (hw _ (List.getElem_mem _))).2 rfl; simp only [Nat.add_zero]; omega
  | d + 1, i, h => by
    have h1 := srt_le hf hw hs d i (by omega)
    have h2 := hs (i + d) (by omega)
    have h3 := hf.1 l[i + d] l[i + d + 1]
    exact hf.2.2.1 _ _ _ (hw _ (List.getElem_mem _)) (hw _ (List.getElem_mem (by omega))) (hw _ (List.getElem_mem _)) h1 (show f l[i + d] l[i + d + 1] ≤ 0 by omega)
theorem ahd_down {f : T → T → Int} (hf : Line f) {l : List T} (hw : ∀ a ∈ l, Shp a) (hs : Srt f l) {v : T} (hv : Shp v) {m : Nat} (hm : m < l.length) (h : f l[m] v < 0) {k : Nat} (hk : k ≤ m) : f (l[k]'(by omega)) v < 0 := by
  obtain ⟨d, rfl⟩ := Nat.exists_eq_add_of_le hk
  have h1 := srt_le hf hw hs d k hm
  by_cases hc : f (l[k]'(by omega)) v < 0
  · exact hc
  · have h2 := hf.1 (l[k]'(by omega)) v
    have h3 := hf.2.2.1 v _ _ hv (hw _ (List.getElem_mem (show k < l.length by omega))) (hw _ (List.getElem_mem hm)) (by omega) h1
    have h4 := hf.1 l[k + d] v
    omega
theorem ahd_up {f : T → T → Int} (hf : Line f) {l : List T} (hw : ∀ a ∈ l, Shp a) (hs : Srt f l) {v : T} (hv : Shp v) {m : Nat} (hm : m < l.length) (h : ¬ f l[m] v < 0) {k : Nat} (hl : k < l.length) (hk : m ≤ k) : ¬ f l[k] v < 0 :=
  fun hc => h (ahd_down hf hw hs hv hl hc hk)
theorem ahd_one {f : T → T → Int} {l : List T} {v : T} {p q : Nat} (h1 : Ahd f l v p) (h2 : Ahd f l v q) : p = q := by
  rcases Nat.lt_trichotomy p q with h | h | h
  · exact absurd (h2.2.1 p (by have := h2.1; omega) h) (h1.2.2 p (by have := h2.1; omega) (Nat.le_refl _))
  · exact h
  · exact absurd (h1.2.1 q (by have := h1.1; omega) h) (h2.2.2 q (by have := h1.1; omega) (Nat.le_refl _))
theorem lbin (hn : Non ext) (o : Nat) (h5 : o ≤ 5) (l : List T) (hl : l.length ≤ 65536) (v : T) (hw : ∀ a ∈ l, RowE ext o a v (ordF ext o a v)) (hsh : ∀ a ∈ l, Shp a) (hv : Shp v) (hs : Srt (ordF ext o) l) (Q : Ex → St → Prop) (d : Nat) :
    ∀ (i j : Nat) (z : St), j - i ≤ d → i ≤ j → j ≤ l.length → Has z.t [(0, .sl false (encL l) l.length), (2, rowOf o), (4, .ref 0 0), (8, .int .i64 l.length), (9, .int .i64 i), (10, .int .i64 j)] → Has z.hp.h [(0, some (box4 v))] → z.hp.n = 9 →
      (∀ (k : Nat) (h : k < l.length), k < i → ordF ext o l[k] v < 0) → (∀ (k : Nat) (h : k < l.length), j ≤ k → ¬ ordF ext o l[k] v < 0) →
      (∀ (z' : St) (p : Nat), Has z'.t [(0, .sl false (encL l) l.length), (2, rowOf o), (4, .ref 0 0), (8, .int .i64 l.length), (9, .int .i64 p)] → Has z'.hp.h [(0, some (box4 v))] → z'.hp.n = 12 → Ahd (ordF ext o) l v p → Q (.exit 0) z') →
      Go.Ab.Loop (cfg ext) (lpOf Tryd.f23) 9 z Q := by
  induction d with
  | zero =>
    intro i j z hd hij hj ht hh hz k1 k2 hq
    obtain rfl : i = j := by omega
    have g : decide ((i : Int) < (i : Int)) = false := decide_eq_false (by omega)
    have c6 : o = 0 ∨ o = 1 ∨ o = 2 ∨ o = 3 ∨ o = 4 ∨ o = 5 := by omega
    rw [St.knows _ _ ht hz _ hh]
    refine Loop.round ?_
    conv => whnf
    refine sel_no g ?_
    conv => whnf
    exact hq _ i ⟨rfl, rfl, rfl, rfl, rfl, trivial⟩ ⟨rfl, trivial⟩ rfl ⟨by omega, k1, k2⟩
  | succ d ih =>
    intro i j z hd hij hj ht hh hz k1 k2 hq
    by_cases he : i = j
    · subst he
      exact ih i i z (by omega) hij hj ht hh hz k1 k2 hq
    have g : decide ((i : Int) < (j : Int)) = true := decide_eq_true (by omega)
    have em := midZ_is (i := i) (j := j) (by omega)
    have hb : (0 : Int) ≤ midZ i j ∧ midZ i j < (l.length : Int) := by rw [em]; exact ⟨by omega, by omega⟩
    have en : (midZ i j).toNat = (i + j) / 2 := by rw [em]; rfl
    have hlt : (midZ i j).toNat < l.length := by rw [en]; omega
    have hE := hw _ (List.getElem_mem hlt)
    have e1 : IntKind.i64.wrap (midZ i j + 1) = (((midZ i j).toNat + 1 : Nat) : Int) := by rw [en, em, IntKind.wrap_i64]; omega
    have e2 : midZ i j = (((midZ i j).toNat : Nat) : Int) := by rw [en, em]
    have d1 : ordF ext o l[(midZ i j).toNat] v < 0 → ∀ (k : Nat) (h : k < l.length), k < (midZ i j).toNat + 1 → ordF ext o l[k] v < 0 := fun h k hk hlk => ahd_down (ord_line o) hsh hs hv hlt h (by omega)
    have d2 : ¬ ordF ext o l[(midZ i j).toNat] v < 0 → ∀ (k : Nat) (h : k < l.length), (midZ i j).toNat ≤ k → ¬ ordF ext o l[k] v < 0 := fun h k hk hlk => ahd_up (ord_line o) hsh hs hv hlt h hk hlk
    have b1 : (midZ i j).toNat < j := by rw [en]; omega
    have b2 : i ≤ (midZ i j).toNat := by rw [en]; omega
    have c6 : o = 0 ∨ o = 1 ∨ o = 2 ∨ o = 3 ∨ o = 4 ∨ o = 5 := by omega
    generalize ordF ext o l[(midZ i j).toNat] v = c at hE d1 d2
    rw [St.knows _ _ ht hz _ hh]
    refine Loop.round ?_
    conv => whnf
    refine sel_yes g ?_
    rcases c6 with rfl | rfl | rfl | rfl | rfl | rfl
    all_goals
      conv => whnf
      refine ⟨hb, ?_⟩
      conv => whnf
      refine ldA (i := (midZ i j).toNat) hlt ?_
      conv => whnf
      refine ⟨_, hE, ?_⟩
      conv => whnf
      refine sel_split (fun h => ?_) (fun h => ?_)
      · conv => whnf
        refine ih ((midZ i j).toNat + 1) j _ (by omega) (by omega) hj ⟨rfl, rfl, rfl, rfl, ?_, rfl, trivial⟩ ⟨rfl, trivial⟩ rfl (d1 (of_decide_eq_true h)) k2 hq
        conv => lhs; whnf
        exact vi e1
      · conv => whnf
        refine ih i (midZ i j).toNat _ (by omega) (by omega) (by omega) ⟨rfl, rfl, rfl, rfl, rfl, ?_, trivial⟩ ⟨rfl, trivial⟩ rfl k1 (d2 (of_decide_eq_false h)) hq
        conv => lhs; whnf
        exact vi e2
end
end Go.Proofs.YtehajklneljbgaaDoor.AB
end

section
set_option linter.unusedVariables false
set_option linter.unusedSimpArgs false
open Go Go.Ab Go.Proofs Go.Vl
namespace Go.Proofs.YtehajklneljbgaaDoor.AB
set_option maxRecDepth 100000
set_option maxHeartbeats 8000000
set_option linter.unusedSimpArgs false
set_option linter.unusedVariables false
/-! ### an array of values, read and written -/
theorem encL_take : ∀ (l : List T) (i : Nat), (encL l).take (i * 4) = encL (l.take i)
  | l, 0 => by simp [encL]
  | [], i + 1 => by simp [encL]
  | v :: l, i + 1 => by
    have : (i + 1) * 4 = 4 + i * 4 := by omega
    rw [this, List.take_succ_cons]
    simp only [encL, enc_eq]
    rw [← encL_take l i]
    simp [List.take_add]
theorem encL_app : ∀ (l m : List T), encL (l ++ m) = encL l ++ encL m
  | [], m => by simp [encL]
  | v :: l, m => by simp only [List.cons_append, encL, encL_app l m, List.append_assoc]
theorem fill_set {l : List T} {k : Nat} (x : T) (h : k < l.length) : fillL (encL l) (k * 4) (enc x) = encL (l.set k x) := by
  have e4 : (enc x).length = 4 := by rw [enc_eq]; rfl
  unfold fillL
  rw [e4, show k * 4 + 4 = (k + 1) * 4 by omega, encL_take, encL_drop, List.set_eq_take_append_cons_drop, if_pos h, encL_app]
  simp only [encL, List.append_assoc]
theorem ldR {hp : Hp} {lim : Option (Nat × Nat)} {b v ro : Nat} {l : List T} {cap : Option Nat} {e : Int} {k : Nat} {x : T} {Q : V → Prop} (h : hp.a b = some ⟨v, 4, encL l, cap, ro⟩) (hl : ∀ m, lim = some m → b < m.2) (he : e = (k : Int)) (hx : l[k]? = some x) (hq : Q (A x)) :
    opt (Go.Ab.look lim hp (.aref b v (0 + e.toNat * 4)) 4) fun cs => opt (one (some true) cs) fun v => fv v Q := by
  subst he
  have hk : k < l.length := (List.getElem?_eq_some_iff.1 hx).1
  have e0 : l[k] = x := (List.getElem?_eq_some_iff.1 hx).2
  refine opt_look h hl (by rw [encL_len]; simp; omega) ?_
  rw [show 0 + (k : Int).toNat * 4 = k * 4 by simp, subL hk, oneA, e0]
  exact (fv_eq _ _).2 hq
theorem stR {hp : Hp} {b v : Nat} {l : List T} {cap : Option Nat} {e : Int} {k : Nat} {x : T} {Q : V × Hp → Prop} (h : hp.a b = some ⟨v, 4, encL l, cap, 0⟩) (he : e = (k : Int)) (hk : k < l.length)
    (q : ∀ a', a' b = some ⟨v, 4, encL (l.set k x), cap, 0⟩ → Q (.tup [], ⟨hp.h, hp.n, a', hp.m⟩)) :
    opt ((storeV hp (.aref b v (0 + e.toNat * 4)) [.int .i64 x.f0, .int .i64 x.f1, .str x.f2, .sl false (encL x.f3) x.f3.length]).bind fun hp' => some (.tup [], hp')) Q := by
  subst he
  refine opt_store h (Nat.zero_le _) (by rw [encL_len]; simp; omega) (fun a' h1 _ => q a' ?_)
  rw [h1, show 0 + (k : Int).toNat * 4 = k * 4 by simp, ← enc_eq, fill_set x hk]
theorem map_encL (n : Nat) : ∀ l : List T, (encL l).map (cleanV n) = encL l
  | [] => by simp [encL]
  | v :: l => by simp only [encL, List.map_append, map_encL n l, enc_eq, List.map_cons, List.map_nil]; rfl
theorem trunc_arr {z : St} {b v n : Nat} {l : List T} {cap : Option Nat} (h : z.hp.a b = some ⟨v, 4, encL l, cap, 0⟩) : (z.trunc n).hp.a b = some ⟨v, 4, encL l, cap, 0⟩ := by
  show (match z.hp.a b with | some A => some { A with cs := A.cs.map (cleanV n) } | none => none) = _
  rw [h]
  simp only [map_encL]
theorem getq {A B : List T} {x : T} {k : Nat} (h : k = A.length) : (A ++ x :: B)[k]? = some x := by subst h; simp
theorem setq {A B : List T} {x y : T} {k : Nat} (h : k = A.length) : (A ++ x :: B).set k y = A ++ y :: B := by subst h; simp
section
variable {ext : Exts}
/-- a call turns l into l', in the array b -/
def SR (ext : Exts) (f : Nat) (xs : List V) (b v : Nat) (cap : Option Nat) (l l' : List T) : Prop :=
  ∀ hp : Hp, hp.a b = some ⟨v, 4, encL l, cap, 0⟩ → b < hp.m → ∃ hp', (cfg ext).EvR f xs hp (.tup []) hp' ∧ hp'.a b = some ⟨v, 4, encL l', cap, 0⟩ ∧ b < hp'.m
theorem lswap (fn : V) (N b v : Nat) (hN : N ≤ 65536) (cap : Option Nat) (s : List T) (Q : Ex → St → Prop) (a c m : Nat) (n : Nat) :
    ∀ (x p q y : List T) (i : Nat) (z : St), x.length = y.length → i + x.length = m → a + i = p.length → c + i = p.length + x.length + q.length → (p ++ x ++ q ++ y ++ s).length = N →
      Has z.t [(0, .rsl false b v 0 N), (1, .int .i64 a), (2, .int .i64 c), (3, .int .i64 m), (10, .int .i64 i)] → z.hp.n = n → z.hp.a b = some ⟨v, 4, encL (p ++ x ++ q ++ y ++ s), cap, 0⟩ → b < z.hp.m →
      (∀ z' : St, z'.hp.a b = some ⟨v, 4, encL (p ++ y ++ q ++ x ++ s), cap, 0⟩ → b < z'.hp.m → Q (.exit 0) z') →
      Go.Ab.Loop (cfg ext) (lpOf Tryd.f64) n z Q := by
  intro x
  induction x with
  | nil =>
    intro p q y i z hxy him hap hcp hlen ht hz ha hb hq
    obtain rfl : y = [] := List.eq_nil_of_length_eq_zero hxy.symm
    have g : decide ((i : Int) < (m : Int)) = false := decide_eq_false (by simp at him; omega)
    rw [St.knows _ _ ht hz]
    refine Loop.round ?_
    conv => whnf
    refine sel_no g ?_
    conv => whnf
    exact hq _ ha (Nat.lt_of_lt_of_le hb (by (conv => lhs; whnf); (repeat ((conv => rhs; whnf); first | with_reducible exact Nat.le_refl _ | refine Nat.le_trans ?_ (Nat.le_add_right _ _) | refine Nat.le_succ_of_le ?_))))
  | cons d x ih =>
    intro p q y i z hxy him hap hcp hlen ht hz ha hb hq
    cases y with
    | nil => simp at hxy
    | cons e y =>
    simp only [List.length_cons] at hxy him hcp
    have hlen' := hlen
    simp only [List.length_append, List.length_cons] at hlen'
    have g : decide ((i : Int) < (m : Int)) = true := decide_eq_true (by omega)
    have w1 : IntKind.i64.wrap ((a : Int) + (i : Int)) = (p.length : Int) := by rw [IntKind.wrap_i64]; omega
    have w2 : IntKind.i64.wrap ((c : Int) + (i : Int)) = ((p.length + (x.length + 1) + q.length : Nat) : Int) := by rw [IntKind.wrap_i64]; omega
    have w3 : IntKind.i64.wrap ((i : Int) + 1) = ((i + 1 : Nat) : Int) := by rw [IntKind.wrap_i64]; omega
    have r1 : (p ++ d :: x ++ q ++ e :: y ++ s)[p.length]? = some d := by simp
    have r2 : (p ++ d :: x ++ q ++ e :: y ++ s)[p.length + (x.length + 1) + q.length]? = some e := by
      rw [show p ++ d :: x ++ q ++ e :: y ++ s = (p ++ d :: x ++ q) ++ e :: (y ++ s) by simp]
      exact getq (by simp; omega)
    have s1 : (p ++ d :: x ++ q ++ e :: y ++ s).set p.length e = p ++ e :: x ++ q ++ e :: y ++ s := by simp
    have s2 : (p ++ e :: x ++ q ++ e :: y ++ s).set (p.length + (x.length + 1) + q.length) d = (p ++ [e]) ++ x ++ (q ++ [d]) ++ y ++ s := by
      rw [show p ++ e :: x ++ q ++ e :: y ++ s = (p ++ e :: x ++ q) ++ e :: (y ++ s) by simp, setq (by simp; omega)]
      simp
    have b1 : p.length < N := by omega
    have b2 : p.length + (x.length + 1) + q.length < N := by omega
    rw [St.knows _ _ ht hz]
    refine Loop.round ?_
    conv => whnf
    refine sel_yes g ?_
    conv => whnf
    refine ⟨bnd w2 b2, ?_⟩
    conv => whnf
    refine ldR ha (fun l hl => by cases hl; exact Nat.lt_of_lt_of_le hb (by (conv => lhs; whnf); (repeat ((conv => rhs; whnf); first | with_reducible exact Nat.le_refl _ | refine Nat.le_trans ?_ (Nat.le_add_right _ _) | refine Nat.le_succ_of_le ?_)))) w2 r2 ?_
    conv => whnf
    refine ⟨bnd w1 b1, ?_⟩
    conv => whnf
    refine ldR ha (fun l hl => by cases hl; exact Nat.lt_of_lt_of_le hb (by (conv => lhs; whnf); (repeat ((conv => rhs; whnf); first | with_reducible exact Nat.le_refl _ | refine Nat.le_trans ?_ (Nat.le_add_right _ _) | refine Nat.le_succ_of_le ?_)))) w1 r1 ?_
    conv => whnf
    refine ⟨bnd w1 b1, ?_⟩
    conv => whnf
    refine stR ha w1 (by rw [hlen]; exact b1) (fun a1 h1 => ?_)
    rw [s1] at h1
    conv => whnf
    refine ⟨bnd w2 b2, ?_⟩
    conv => whnf
    refine stR h1 w2 (by simp; omega) (fun a2 h2 => ?_)
    rw [s2] at h2
    conv => whnf
    refine ih (p ++ [e]) (q ++ [d]) y (i + 1) _ (by omega) (by omega) (by simp; omega) (by simp; omega) (by simp; omega) ⟨rfl, rfl, rfl, rfl, ?_, trivial⟩ rfl (trunc_arr h2) (Nat.lt_of_lt_of_le hb (by (conv => lhs; whnf); (repeat ((conv => rhs; whnf); first | with_reducible exact Nat.le_refl _ | refine Nat.le_trans ?_ (Nat.le_add_right _ _) | refine Nat.le_succ_of_le ?_)))) (fun z' h3 => hq z' (by rw [h3]; simp))
    conv => lhs; whnf
    exact vi w3
theorem tswap (fn : V) (b v : Nat) (cap : Option Nat) (p x q y s : List T) (hxy : x.length = y.length) (hN : (p ++ x ++ q ++ y ++ s).length ≤ 65536) :
    SR ext 64 [.rsl false b v 0 (p ++ x ++ q ++ y ++ s).length, .int .i64 p.length, .int .i64 ((p.length + x.length + q.length : Nat) : Int), .int .i64 x.length, fn] b v cap (p ++ x ++ q ++ y ++ s) (p ++ y ++ q ++ x ++ s) := by
  intro hp ha hb
  have key : ∃ r hp', (cfg ext).EvR 64 [.rsl false b v 0 (p ++ x ++ q ++ y ++ s).length, .int .i64 p.length, .int .i64 ((p.length + x.length + q.length : Nat) : Int), .int .i64 x.length, fn] hp r hp' ∧ (r = .tup [] ∧ hp'.a b = some ⟨v, 4, encL (p ++ y ++ q ++ x ++ s), cap, 0⟩ ∧ b < hp'.m) := by
    refine EvR.ofE Tryd.func64 rfl rfl ?_
    conv => whnf
    refine lswap fn _ b v hN cap s _ p.length (p.length + x.length + q.length) x.length _ x p q y 0 _ hxy (by omega) (by omega) (by omega) rfl ⟨rfl, rfl, rfl, rfl, rfl, trivial⟩ rfl ha (Nat.lt_of_lt_of_le hb (by (conv => lhs; whnf); (repeat ((conv => rhs; whnf); first | with_reducible exact Nat.le_refl _ | refine Nat.le_trans ?_ (Nat.le_add_right _ _) | refine Nat.le_succ_of_le ?_)))) (fun z' h1 h2 => ?_)
    exact ⟨rfl, h1, h2⟩
  obtain ⟨r, hp', h, rfl, h1, h2⟩ := key
  exact ⟨hp', h, h1, h2⟩
end
end Go.Proofs.YtehajklneljbgaaDoor.AB
end

section
set_option linter.unusedVariables false
set_option linter.unusedSimpArgs false
open Go Go.Ab Go.Proofs Go.Vl
namespace Go.Proofs.YtehajklneljbgaaDoor.AB
set_option maxRecDepth 100000
set_option maxHeartbeats 8000000
set_option linter.unusedSimpArgs false
set_option linter.unusedVariables false
section
variable {ext : Exts}
theorem SR.use {f : Nat} {xs : List V} {b v : Nat} {cap : Option Nat} {l l' : List T} {hp : Hp} {Q : V → Hp → Prop} (h : SR ext f xs b v cap l l') (ha : hp.a b = some ⟨v, 4, encL l, cap, 0⟩) (hb : b < hp.m)
    (q : ∀ hp', hp'.a b = some ⟨v, 4, encL l', cap, 0⟩ → b < hp'.m → Q (.tup []) hp') : ∃ r hp', (cfg ext).EvR f xs hp r hp' ∧ Q r hp' := by
  obtain ⟨hp', h1, h2, h3⟩ := h hp ha hb
  exact ⟨_, hp', h1, q hp' h2 h3⟩
theorem SR.args {f : Nat} {xs ys : List V} {b v : Nat} {cap : Option Nat} {l l' m' : List T} (h : SR ext f xs b v cap l l') (e : xs = ys) (e' : l' = m') : SR ext f ys b v cap l m' := e ▸ e' ▸ h
theorem lrot (fk : Nat) (fc : List V) (hfn : ∀ n, cleanV n (.fn fk fc) = .fn fk fc) (N b v : Nat) (hN : N ≤ 65536) (cap : Option Nat) (Q : Ex → St → Prop) (m n : Nat) (d : Nat) :
    ∀ (p X Y s : List T) (z : St), X.length + Y.length ≤ d → 0 < X.length → 0 < Y.length → p.length + X.length = m → (p ++ X ++ Y ++ s).length = N →
      Has z.t [(0, .rsl false b v 0 N), (2, .int .i64 m), (4, .fn fk fc), (10, .int .i64 X.length), (11, .int .i64 Y.length)] → z.hp.n = n → z.hp.a b = some ⟨v, 4, encL (p ++ X ++ Y ++ s), cap, 0⟩ → b < z.hp.m →
      (∀ (z' : St) (p' X' Y' s' : List T), X'.length = Y'.length → p'.length + X'.length = m → (p' ++ X' ++ Y' ++ s').length = N → p' ++ Y' ++ X' ++ s' = p ++ Y ++ X ++ s →
        Has z'.t [(0, .rsl false b v 0 N), (2, .int .i64 m), (4, .fn fk fc), (10, .int .i64 X'.length)] → z'.hp.n = n + 3 → z'.hp.a b = some ⟨v, 4, encL (p' ++ X' ++ Y' ++ s'), cap, 0⟩ → b < z'.hp.m → Q (.exit 0) z') →
      Go.Ab.Loop (cfg ext) (lpOf Tryd.f59) n z Q := by
  induction d with
  | zero => intro p X Y s z hd hX; omega
  | succ d ih =>
    intro p X Y s z hd hX hY hm hlen ht hz ha hb hq
    have hlen' := hlen
    simp only [List.length_append] at hlen'
    by_cases he : X.length = Y.length
    · have g : ((X.length : Int) != (Y.length : Int)) = false := by rw [he]; simp
      rw [St.knows _ _ ht hz]
      refine Loop.round ?_
      conv => whnf
      refine sel_no g ?_
      conv => whnf
      exact hq _ p X Y s he hm hlen rfl ⟨rfl, rfl, rfl, rfl, trivial⟩ rfl ha (Nat.lt_of_lt_of_le hb (by (conv => lhs; whnf); (repeat ((conv => rhs; whnf); first | with_reducible exact Nat.le_refl _ | refine Nat.le_trans ?_ (Nat.le_add_right _ _) | refine Nat.le_succ_of_le ?_))))
    · have g : ((X.length : Int) != (Y.length : Int)) = true := by simp; omega
      have w1 : IntKind.i64.wrap ((m : Int) - (X.length : Int)) = (p.length : Int) := by rw [IntKind.wrap_i64]; omega
      by_cases hg : Y.length < X.length
      · have g2 : decide ((X.length : Int) > (Y.length : Int)) = true := decide_eq_true (by omega)
        obtain ⟨X1, X2, hX12, hl1⟩ : ∃ X1 X2, X = X1 ++ X2 ∧ X1.length = Y.length := ⟨X.take Y.length, X.drop Y.length, (List.take_append_drop _ _).symm, by rw [List.length_take]; omega⟩
        subst hX12
        simp only [List.length_append] at hlen' hm hd w1 g g2 hg ht hX
        have hs := tswap (ext := ext) (.fn fk fc) b v cap p X1 X2 Y s hl1 (by simp only [List.length_append]; omega)
        have hs : SR ext 64 [.rsl false b v 0 N, .int .i64 (IntKind.i64.wrap ((m : Int) - ((X1.length + X2.length : Nat) : Int))), .int .i64 m, .int .i64 Y.length, .fn fk fc] b v cap (p ++ (X1 ++ X2) ++ Y ++ s) ((p ++ Y) ++ X2 ++ X1 ++ s) := by
          rw [w1, show p ++ (X1 ++ X2) ++ Y ++ s = p ++ X1 ++ X2 ++ Y ++ s by simp]
          exact hs.args (by rw [show (p ++ X1 ++ X2 ++ Y ++ s).length = N by rw [← hlen]; simp, hl1, show p.length + Y.length + X2.length = m by omega]) rfl
        have w2 : IntKind.i64.wrap (((X1.length + X2.length : Nat) : Int) - (Y.length : Int)) = (X2.length : Int) := by rw [IntKind.wrap_i64]; omega
        rw [St.knows _ _ ht hz]
        refine Loop.round ?_
        conv => whnf
        refine sel_yes g ?_
        conv => whnf
        refine sel_yes g2 ?_
        conv => whnf
        refine SR.use hs ha (Nat.lt_of_lt_of_le hb (by (conv => lhs; whnf); (repeat ((conv => rhs; whnf); first | with_reducible exact Nat.le_refl _ | refine Nat.le_trans ?_ (Nat.le_add_right _ _) | refine Nat.le_succ_of_le ?_)))) (fun hp' h1 h2 => ?_)
        conv => whnf
        refine ih (p ++ Y) X2 X1 s _ (by omega) (by omega) (by omega) (by simp only [List.length_append]; omega) (by simp only [List.length_append]; omega) ⟨rfl, rfl, hfn n, ?_, ?_, trivial⟩ rfl (trunc_arr h1) (Nat.lt_of_lt_of_le h2 (by (conv => lhs; whnf); (repeat ((conv => rhs; whnf); first | with_reducible exact Nat.le_refl _ | refine Nat.le_trans ?_ (Nat.le_add_right _ _) | refine Nat.le_succ_of_le ?_ | exact Nat.le_refl _)))) (fun z' p' X' Y' s' c1 c2 c3 c4 => hq z' p' X' Y' s' c1 c2 c3 (by rw [c4]; simp))
        · conv => lhs; whnf
          exact vi w2
        · conv => lhs; whnf
          exact vi (by rw [hl1])
      · have g2 : decide ((X.length : Int) > (Y.length : Int)) = false := decide_eq_false (by omega)
        obtain ⟨Y1, Y2, hY12, hl1⟩ : ∃ Y1 Y2, Y = Y1 ++ Y2 ∧ Y2.length = X.length := ⟨Y.take (Y.length - X.length), Y.drop (Y.length - X.length), (List.take_append_drop _ _).symm, by rw [List.length_drop]; omega⟩
        subst hY12
        simp only [List.length_append] at hlen' hm hd w1 g g2 hg ht hY he
        have hs := tswap (ext := ext) (.fn fk fc) b v cap p X Y1 Y2 s hl1.symm (by simp only [List.length_append]; omega)
        have w3 : IntKind.i64.wrap (IntKind.i64.wrap ((m : Int) + ((Y1.length + Y2.length : Nat) : Int)) - (X.length : Int)) = ((p.length + X.length + Y1.length : Nat) : Int) := by
          have e : IntKind.i64.wrap ((m : Int) + ((Y1.length + Y2.length : Nat) : Int)) = ((m + Y1.length + Y2.length : Nat) : Int) := by rw [IntKind.wrap_i64]; omega
          rw [e, IntKind.wrap_i64]; omega
        have hs : SR ext 64 [.rsl false b v 0 N, .int .i64 (IntKind.i64.wrap ((m : Int) - (X.length : Int))), .int .i64 (IntKind.i64.wrap (IntKind.i64.wrap ((m : Int) + ((Y1.length + Y2.length : Nat) : Int)) - (X.length : Int))), .int .i64 X.length, .fn fk fc] b v cap (p ++ X ++ (Y1 ++ Y2) ++ s) (p ++ Y2 ++ Y1 ++ (X ++ s)) := by
          rw [w1, w3, show p ++ X ++ (Y1 ++ Y2) ++ s = p ++ X ++ Y1 ++ Y2 ++ s by simp]
          exact hs.args (by rw [show (p ++ X ++ Y1 ++ Y2 ++ s).length = N by rw [← hlen]; simp]) (by simp)
        have w2 : IntKind.i64.wrap (((Y1.length + Y2.length : Nat) : Int) - (X.length : Int)) = (Y1.length : Int) := by rw [IntKind.wrap_i64]; omega
        rw [St.knows _ _ ht hz]
        refine Loop.round ?_
        conv => whnf
        refine sel_yes g ?_
        conv => whnf
        refine sel_no g2 ?_
        conv => whnf
        refine SR.use hs ha (Nat.lt_of_lt_of_le hb (by (conv => lhs; whnf); (repeat ((conv => rhs; whnf); first | with_reducible exact Nat.le_refl _ | refine Nat.le_trans ?_ (Nat.le_add_right _ _) | refine Nat.le_succ_of_le ?_)))) (fun hp' h1 h2 => ?_)
        conv => whnf
        refine ih p Y2 Y1 (X ++ s) _ (by omega) (by omega) (by omega) (by omega) (by simp only [List.length_append]; omega) ⟨rfl, rfl, hfn n, ?_, ?_, trivial⟩ rfl (trunc_arr h1) (Nat.lt_of_lt_of_le h2 (by (conv => lhs; whnf); (repeat ((conv => rhs; whnf); first | with_reducible exact Nat.le_refl _ | refine Nat.le_trans ?_ (Nat.le_add_right _ _) | refine Nat.le_succ_of_le ?_ | exact Nat.le_refl _)))) (fun z' p' X' Y' s' c1 c2 c3 c4 => hq z' p' X' Y' s' c1 c2 c3 (by rw [c4]; simp))
        · conv => lhs; whnf
          exact vi (by rw [hl1])
        · conv => lhs; whnf
          exact vi w2
theorem trot (fk : Nat) (fc : List V) (hfn : ∀ n, cleanV n (.fn fk fc) = .fn fk fc) (b v : Nat) (cap : Option Nat) (p X Y s : List T) (hX : 0 < X.length) (hY : 0 < Y.length) (hN : (p ++ X ++ Y ++ s).length ≤ 65536) :
    SR ext 59 [.rsl false b v 0 (p ++ X ++ Y ++ s).length, .int .i64 p.length, .int .i64 ((p.length + X.length : Nat) : Int), .int .i64 ((p.length + X.length + Y.length : Nat) : Int), .fn fk fc] b v cap (p ++ X ++ Y ++ s) (p ++ Y ++ X ++ s) := by
  intro hp ha hb
  have hN' := hN
  simp only [List.length_append] at hN'
  have key : ∃ r hp', (cfg ext).EvR 59 [.rsl false b v 0 (p ++ X ++ Y ++ s).length, .int .i64 p.length, .int .i64 ((p.length + X.length : Nat) : Int), .int .i64 ((p.length + X.length + Y.length : Nat) : Int), .fn fk fc] hp r hp' ∧ (r = .tup [] ∧ hp'.a b = some ⟨v, 4, encL (p ++ Y ++ X ++ s), cap, 0⟩ ∧ b < hp'.m) := by
    refine EvR.ofE Tryd.func59 rfl rfl ?_
    conv => whnf
    refine lrot fk fc hfn _ b v hN cap _ (p.length + X.length) _ _ p X Y s _ (Nat.le_refl _) hX hY rfl rfl ⟨rfl, rfl, rfl, ?_, ?_, trivial⟩ rfl ha (Nat.lt_of_lt_of_le hb (by (conv => lhs; whnf); (repeat ((conv => rhs; whnf); first | with_reducible exact Nat.le_refl _ | refine Nat.le_trans ?_ (Nat.le_add_right _ _) | refine Nat.le_succ_of_le ?_)))) (fun z' p' X' Y' s' c1 c2 c3 c4 c5 c6 c7 c8 => ?_)
    · conv => lhs; whnf
      exact vi (by rw [IntKind.wrap_i64]; omega)
    · conv => lhs; whnf
      exact vi (by rw [IntKind.wrap_i64]; omega)
    · have c3' := c3
      simp only [List.length_append] at c3'
      have w1 : IntKind.i64.wrap (((p.length + X.length : Nat) : Int) - (X'.length : Int)) = (p'.length : Int) := by rw [IntKind.wrap_i64]; omega
      have hs0 := tswap (ext := ext) (.fn fk fc) b v cap p' X' [] Y' s' c1 (by simp only [List.length_append, List.length_nil]; omega)
      have e1 : p' ++ X' ++ [] ++ Y' ++ s' = p' ++ X' ++ Y' ++ s' := by simp
      have e2 : p' ++ Y' ++ [] ++ X' ++ s' = p ++ Y ++ X ++ s := by rw [← c4]; simp
      rw [e1, e2] at hs0
      have hs : SR ext 64 [.rsl false b v 0 (p ++ X ++ Y ++ s).length, .int .i64 (IntKind.i64.wrap (((p.length + X.length : Nat) : Int) - (X'.length : Int))), .int .i64 ((p.length + X.length : Nat) : Int), .int .i64 X'.length, .fn fk fc] b v cap (p' ++ X' ++ Y' ++ s') (p ++ Y ++ X ++ s) := by
        rw [w1]
        exact hs0.args (by rw [c3, show p'.length + X'.length + ([] : List T).length = p.length + X.length by simp; omega]) rfl
      rw [St.knows _ _ c5 c6]
      conv => whnf
      refine SR.use hs c7 (Nat.lt_of_lt_of_le c8 (by (conv => lhs; whnf); (repeat ((conv => rhs; whnf); first | with_reducible exact Nat.le_refl _ | refine Nat.le_trans ?_ (Nat.le_add_right _ _) | refine Nat.le_succ_of_le ?_)))) (fun hp' h1 h2 => ?_)
      conv => whnf
      exact ⟨rfl, h1, h2⟩
  obtain ⟨r, hp', h, rfl, h1, h2⟩ := key
  exact ⟨hp', h, h1, h2⟩
end
end Go.Proofs.YtehajklneljbgaaDoor.AB
end

section
set_option linter.unusedVariables false
set_option linter.unusedSimpArgs false
open Go Go.Ab Go.Proofs Go.Vl
namespace Go.Proofs.YtehajklneljbgaaDoor.AB
set_option maxRecDepth 100000
set_option maxHeartbeats 16000000
set_option linter.unusedSimpArgs false
set_option linter.unusedVariables false
/-! ### sorted lists -/
def Le (f : T → T → Int) (l : List T) : Prop := l.Pairwise fun x y => f x y ≤ 0
theorem ins_sorted {f : T → T → Int} (hf : Line f) {U W : List T} {c : T} (hsh : ∀ x ∈ U ++ c :: W, Shp x) (hs : Le f (U ++ W)) (hw : ∀ w ∈ W, f c w ≤ 0) (hu : ∀ y, U.getLast? = some y → f y c ≤ 0) : Le f (U ++ c :: W) := by
  have hs' := List.pairwise_append.1 hs
  refine List.pairwise_append.2 ⟨hs'.1, List.pairwise_cons.2 ⟨hw, hs'.2.1⟩, ?_⟩
  intro x hx y hy
  rcases List.mem_cons.1 hy with rfl | hy
  · rcases List.eq_nil_or_concat U with rfl | ⟨U', z, rfl⟩
    · cases hx
    · have hz := hu z (by simp)
      rw [List.concat_eq_append] at hx hs' hsh
      rcases List.mem_append.1 hx with hx | hx
      · have h1 : f x z ≤ 0 := (List.pairwise_append.1 hs'.1).2.2 x hx z (by simp)
        exact hf.2.2.1 x z y (hsh _ (by simp [hx])) (hsh _ (by simp)) (hsh _ (by simp)) h1 hz
      · rcases List.mem_cons.1 hx with rfl | hx
        · exact hz
        · cases hx
  · exact hs'.2.2 x hx y hy
theorem le_perm_eq {f : T → T → Int} (hf : Line f) : ∀ {l m : List T}, (∀ x ∈ l, Shp x) → Le f l → Le f m → l.Perm m → l = m
  | [], m, _, _, _, h => (List.Perm.nil_eq h)
  | a :: l, m, hsh, h1, h2, h => by
    cases m with
    | nil => exact absurd h.length_eq (by simp)
    | cons b m =>
      have h1' := List.pairwise_cons.1 h1
      have h2' := List.pairwise_cons.1 h2
      have hsm : ∀ x ∈ b :: m, Shp x := fun x hx => hsh x (h.mem_iff.2 hx)
      have hab : a = b := by
        by_cases e : a = b
        · exact e
        · have ha : a ∈ m := by rcases List.mem_cons.1 (h.mem_iff.1 List.mem_cons_self) with h' | h'; exact absurd h' e; exact h'
          have hb : b ∈ l := by rcases List.mem_cons.1 (h.mem_iff.2 List.mem_cons_self) with h' | h'; exact absurd h'.symm e; exact h'
          have q1 := h1'.1 b hb
          have q2 := h2'.1 a ha
          have q3 := hf.1 a b
          exact (hf.2.1 a b (hsh _ List.mem_cons_self) (hsm _ List.mem_cons_self)).1 (by omega)
      subst hab
      rw [le_perm_eq hf (fun x hx => hsh x (List.mem_cons_of_mem _ hx)) h1'.2 h2'.2 (List.Perm.cons_inv h)]
section
variable {ext : Exts}
/-- right values -/
def Gd (l : List T) : Prop := ∀ x ∈ l, WfV x ∧ okB x = true
theorem Gd.shp {l : List T} (h : Gd l) : ∀ x ∈ l, Shp x := fun x hx => shp_of x (okB_iff.1 (h x hx).2).1
theorem Gd.perm {l m : List T} (h : Gd l) (p : m.Perm l) : Gd m := fun x hx => h x (p.mem_iff.1 hx)
theorem linsI (hn : Non ext) (h26 : E26 ext) (h73 : E73 ext) (o : Nat) (h5 : o ≤ 5) (N b v : Nat) (hN : N ≤ 65536) (cap : Option Nat) (p S : List T) (c : T) (e i : Int) (Q : Ex → St → Prop) (n : Nat) (d : Nat) :
    ∀ (U W : List T) (z : St), U.length = d → Gd (U ++ c :: W) → Le (ordF ext o) (U ++ W) → (∀ w ∈ W, ordF ext o c w ≤ 0) → (p ++ U ++ c :: (W ++ S)).length = N →
      Has z.t [(0, .rsl false b v 0 N), (1, .int .i64 p.length), (2, .int .i64 e), (3, rowOf o), (8, .int .i64 i), (9, .int .i64 ((p.length + U.length : Nat) : Int))] → z.hp.n = n → z.hp.a b = some ⟨v, 4, encL (p ++ U ++ c :: (W ++ S)), cap, 0⟩ → b < z.hp.m →
      (∀ (z' : St) (U' W' : List T), Le (ordF ext o) (U' ++ c :: W') → (U' ++ c :: W').Perm (U ++ c :: W) →
        Has z'.t [(0, .rsl false b v 0 N), (1, .int .i64 p.length), (2, .int .i64 e), (3, rowOf o), (8, .int .i64 i)] → z'.hp.a b = some ⟨v, 4, encL (p ++ U' ++ c :: (W' ++ S)), cap, 0⟩ → b < z'.hp.m → Q (.exit 2) z') →
      Go.Ab.Loop (cfg ext) (lpN Tryd.f46 1) n z Q := by
  have c6 : o = 0 ∨ o = 1 ∨ o = 2 ∨ o = 3 ∨ o = 4 ∨ o = 5 := by omega
  induction d with
  | zero =>
    intro U W z hU hG hs hw hlen ht hz ha hb hq
    obtain rfl := List.eq_nil_of_length_eq_zero hU
    have g : decide (((p.length + ([] : List T).length : Nat) : Int) > (p.length : Int)) = false := decide_eq_false (by simp)
    have g' : (decide (((p.length + ([] : List T).length : Nat) : Int) > (p.length : Int)) == true) = false := by rw [g]; rfl
    rw [St.knows _ _ ht hz]
    refine Loop.round ?_
    conv => whnf
    repeat (first
      | (refine sel_yes ?_ ?_; (first | assumption | (simp only [beq_iff_eq, bne_iff_ne, beq_eq_false_iff_ne, bne_eq_false_iff_eq, decide_eq_true_eq, decide_eq_false_iff_not, Bool.not_eq_true', Bool.not_eq_false', ne_eq, beq_true, beq_false, bne_self_eq_false, not_true_eq_false, not_false_eq_true, gt_iff_lt, ge_iff_le, Int.not_lt, Int.not_le, Bool.true_eq_false, Bool.false_eq_true] <;> omega)); conv => whnf)
      | (refine sel_no ?_ ?_; (first | assumption | (simp only [beq_iff_eq, bne_iff_ne, beq_eq_false_iff_ne, bne_eq_false_iff_eq, decide_eq_true_eq, decide_eq_false_iff_not, Bool.not_eq_true', Bool.not_eq_false', ne_eq, beq_true, beq_false, bne_self_eq_false, not_true_eq_false, not_false_eq_true, gt_iff_lt, ge_iff_le, Int.not_lt, Int.not_le, Bool.true_eq_false, Bool.false_eq_true] <;> omega)); conv => whnf)
      | (refine ⟨le_rfl' ?_, ?_⟩; rfl; conv => whnf)
      | (refine ⟨⟨?_, ?_⟩, ?_⟩; omega; omega; conv => whnf)
      | (refine ⟨⟨?_, ?_, ?_⟩, ?_⟩; rfl; omega; omega; conv => whnf)
      | (refine ⟨rfl, ?_, ?_⟩; decide; conv => whnf))
    try exact rfl
    refine hq _ [] W (List.pairwise_cons.2 ⟨hw, by simpa [Le] using hs⟩) (List.Perm.refl _) ⟨rfl, rfl, rfl, rfl, rfl, trivial⟩ ha (Nat.lt_of_lt_of_le hb (by (conv => lhs; whnf); (repeat ((conv => rhs; whnf); first | with_reducible exact Nat.le_refl _ | refine Nat.le_trans ?_ (Nat.le_add_right _ _) | refine Nat.le_succ_of_le ?_ | exact Nat.le_refl _))))
  | succ d ih =>
    intro U W z hU hG hs hw hlen ht hz ha hb hq
    obtain ⟨U', y, rfl⟩ : ∃ U' y, U = U' ++ [y] := by
      rcases List.eq_nil_or_concat U with rfl | ⟨U', y, rfl⟩
      · simp at hU
      · exact ⟨U', y, by simp⟩
    simp only [List.length_append, List.length_cons, List.length_nil] at hU ht
    have hlen' := hlen
    simp only [List.length_append, List.length_cons, List.length_nil] at hlen'
    have g : decide (((p.length + (U'.length + (0 + 1)) : Nat) : Int) > (p.length : Int)) = true := decide_eq_true (by omega)
    have g' : (decide (((p.length + (U'.length + (0 + 1)) : Nat) : Int) > (p.length : Int)) == true) = true := by rw [g]; rfl
    have w1 : IntKind.i64.wrap (((p.length + (U'.length + (0 + 1)) : Nat) : Int) - 1) = ((p.length + U'.length : Nat) : Int) := by rw [IntKind.wrap_i64]; omega
    have r1 : (p ++ (U' ++ [y]) ++ c :: (W ++ S))[p.length + (U'.length + (0 + 1))]? = some c := by
      exact getq (by simp)
    have r2 : (p ++ (U' ++ [y]) ++ c :: (W ++ S))[p.length + U'.length]? = some y := by
      rw [show p ++ (U' ++ [y]) ++ c :: (W ++ S) = (p ++ U') ++ y :: c :: (W ++ S) by simp]
      exact getq (by simp)
    have b1 : p.length + (U'.length + (0 + 1)) < N := by omega
    have b2 : p.length + U'.length < N := by omega
    have s1 : (p ++ (U' ++ [y]) ++ c :: (W ++ S)).set (p.length + (U'.length + (0 + 1))) y = (p ++ U') ++ y :: y :: (W ++ S) := by
      rw [setq (by simp)]; simp
    have s2 : ((p ++ U') ++ y :: y :: (W ++ S)).set (p.length + U'.length) c = p ++ U' ++ c :: (y :: W ++ S) := by
      rw [setq (by simp)]; simp
    have gc := hG c (by simp)
    have gy := hG y (by simp)
    have hE := rowOrd hn h26 h73 o h5 c y gc.1 gy.1 gc.2 gy.2
    have hyes : ordF ext o c y < 0 → ∀ w ∈ y :: W, ordF ext o c w ≤ 0 := fun h w hw' => by
      rcases List.mem_cons.1 hw' with rfl | hw'
      · omega
      · exact hw w hw'
    have hno : ¬ ordF ext o c y < 0 → Le (ordF ext o) ((U' ++ [y]) ++ c :: W) := fun h =>
      ins_sorted (ord_line o) (hG.shp) hs hw (fun q hq => by simp at hq; subst hq; have := (ord_line (ext := ext) o).1 c y; omega)
    have hs3 : Le (ordF ext o) (U' ++ y :: W) := by simpa using hs
    have hG3 : Gd (U' ++ c :: y :: W) := hG.perm (by
      rw [show U' ++ [y] ++ c :: W = U' ++ y :: c :: W by simp]
      exact List.Perm.append_left _ (List.Perm.swap _ _ _))
    have hP : ∀ {X Y : List T}, (X ++ c :: Y).Perm (U' ++ c :: y :: W) → (X ++ c :: Y).Perm (U' ++ [y] ++ c :: W) := fun h => h.trans (by
      rw [show U' ++ [y] ++ c :: W = U' ++ y :: c :: W by simp]
      exact List.Perm.append_left _ (List.Perm.swap _ _ _))
    generalize ordF ext o c y = x at hE hyes hno
    rw [St.knows _ _ ht hz]
    refine Loop.round ?_
    conv => whnf
    rcases c6 with rfl | rfl | rfl | rfl | rfl | rfl
    all_goals
      refine sel_yes g' ?_
      conv => whnf
      refine sel_yes g' ?_
      conv => whnf
      refine sel_yes g' ?_
      conv => whnf
      refine sel_yes g' ?_
      conv => whnf
      refine ⟨bnd rfl b1, ?_⟩
      conv => whnf
      refine sel_yes g' ?_
      conv => whnf
      refine ldR ha (fun l hl => by cases hl; exact Nat.lt_of_lt_of_le hb (by (conv => lhs; whnf); (repeat ((conv => rhs; whnf); first | with_reducible exact Nat.le_refl _ | refine Nat.le_trans ?_ (Nat.le_add_right _ _) | refine Nat.le_succ_of_le ?_ | exact Nat.le_refl _)))) rfl r1 ?_
      conv => whnf
      refine sel_yes g' ?_
      conv => whnf
      refine sel_yes g' ?_
      conv => whnf
      refine sel_yes g' ?_
      conv => whnf
      refine sel_yes g' ?_
      conv => whnf
      refine ⟨bnd w1 b2, ?_⟩
      conv => whnf
      refine sel_yes g' ?_
      conv => whnf
      refine ldR ha (fun l hl => by cases hl; exact Nat.lt_of_lt_of_le hb (by (conv => lhs; whnf); (repeat ((conv => rhs; whnf); first | with_reducible exact Nat.le_refl _ | refine Nat.le_trans ?_ (Nat.le_add_right _ _) | refine Nat.le_succ_of_le ?_ | exact Nat.le_refl _)))) w1 r2 ?_
      conv => whnf
      refine sel_yes g' ?_
      conv => whnf
      refine ⟨_, hE, ?_⟩
      conv => whnf
      refine sel_yes g' ?_
      conv => whnf
      refine sel_yes g ?_
      conv => whnf
      refine sel_split (fun h => ?_) (fun h => ?_)
      · conv => whnf
        refine ⟨bnd w1 b2, ?_⟩
        conv => whnf
        refine ldR ha (fun l hl => by cases hl; exact Nat.lt_of_lt_of_le hb (by (conv => lhs; whnf); (repeat ((conv => rhs; whnf); first | with_reducible exact Nat.le_refl _ | refine Nat.le_trans ?_ (Nat.le_add_right _ _) | refine Nat.le_succ_of_le ?_ | exact Nat.le_refl _)))) w1 r2 ?_
        conv => whnf
        refine ⟨bnd rfl b1, ?_⟩
        conv => whnf
        refine ldR ha (fun l hl => by cases hl; exact Nat.lt_of_lt_of_le hb (by (conv => lhs; whnf); (repeat ((conv => rhs; whnf); first | with_reducible exact Nat.le_refl _ | refine Nat.le_trans ?_ (Nat.le_add_right _ _) | refine Nat.le_succ_of_le ?_ | exact Nat.le_refl _)))) rfl r1 ?_
        conv => whnf
        refine ⟨bnd rfl b1, ?_⟩
        conv => whnf
        refine stR ha rfl (by rw [hlen]; exact b1) (fun a1 h1 => ?_)
        rw [s1] at h1
        conv => whnf
        refine ⟨bnd w1 b2, ?_⟩
        conv => whnf
        refine stR h1 w1 (by simp only [List.length_append, List.length_cons]; omega) (fun a2 h2 => ?_)
        rw [s2] at h2
        conv => whnf
        refine ih U' (y :: W) _ (by omega) hG3 hs3 (hyes (of_decide_eq_true h)) (by simp only [List.length_append, List.length_cons]; omega) ⟨rfl, rfl, rfl, rfl, rfl, ?_, trivial⟩ rfl (trunc_arr h2) (Nat.lt_of_lt_of_le hb (by (conv => lhs; whnf); (repeat ((conv => rhs; whnf); first | with_reducible exact Nat.le_refl _ | refine Nat.le_trans ?_ (Nat.le_add_right _ _) | refine Nat.le_succ_of_le ?_ | exact Nat.le_refl _)))) (fun z' X Y q1 q2 => hq z' X Y q1 (hP q2))
        conv => lhs; whnf
        exact vi w1
      · conv => whnf
        refine hq _ (U' ++ [y]) W (hno (of_decide_eq_false h)) (List.Perm.refl _) ⟨rfl, rfl, rfl, rfl, rfl, trivial⟩ ha (Nat.lt_of_lt_of_le hb (by (conv => lhs; whnf); (repeat ((conv => rhs; whnf); first | with_reducible exact Nat.le_refl _ | refine Nat.le_trans ?_ (Nat.le_add_right _ _) | refine Nat.le_succ_of_le ?_ | exact Nat.le_refl _))))
end
end Go.Proofs.YtehajklneljbgaaDoor.AB
end

section
set_option linter.unusedVariables false
set_option linter.unusedSimpArgs false
open Go Go.Ab Go.Proofs Go.Vl
namespace Go.Proofs.YtehajklneljbgaaDoor.AB
set_option maxRecDepth 100000
set_option maxHeartbeats 16000000
set_option linter.unusedSimpArgs false
set_option linter.unusedVariables false
section
variable {ext : Exts}
theorem row_clean (o : Nat) (h5 : o ≤ 5) (n : Nat) : cleanV n (rowOf o) = rowOf o := by
  have c6 : o = 0 ∨ o = 1 ∨ o = 2 ∨ o = 3 ∨ o = 4 ∨ o = 5 := by omega
  rcases c6 with rfl | rfl | rfl | rfl | rfl | rfl <;> rfl
theorem linsO (hn : Non ext) (h26 : E26 ext) (h73 : E73 ext) (o : Nat) (h5 : o ≤ 5) (N b v : Nat) (hN : N ≤ 65536) (cap : Option Nat) (p s : List T) (Q : Ex → St → Prop) (n e : Nat) :
    ∀ (R D : List T) (z : St), Gd (D ++ R) → Le (ordF ext o) D → (p ++ D ++ (R ++ s)).length = N → p.length + D.length + R.length = e →
      Has z.t [(0, .rsl false b v 0 N), (1, .int .i64 p.length), (2, .int .i64 e), (3, rowOf o), (8, .int .i64 ((p.length + D.length : Nat) : Int))] → z.hp.n = n → z.hp.a b = some ⟨v, 4, encL (p ++ D ++ (R ++ s)), cap, 0⟩ → b < z.hp.m →
      (∀ (z' : St) (D' : List T), Le (ordF ext o) D' → D'.Perm (D ++ R) → z'.hp.a b = some ⟨v, 4, encL (p ++ D' ++ s), cap, 0⟩ → b < z'.hp.m → Q (.exit 0) z') →
      Go.Ab.Loop (cfg ext) (lpN Tryd.f46 0) n z Q := by
  intro R
  induction R with
  | nil =>
    intro D z hG hs hlen he ht hz ha hb hq
    have g : decide (((p.length + D.length : Nat) : Int) < (e : Int)) = false := decide_eq_false (by simp at he; omega)
    rw [St.knows _ _ ht hz]
    refine Loop.round ?_
    conv => whnf
    refine sel_no g ?_
    conv => whnf
    exact hq _ D hs (by simp) ha (Nat.lt_of_lt_of_le hb (by (conv => lhs; whnf); (repeat ((conv => rhs; whnf); first | with_reducible exact Nat.le_refl _ | refine Nat.le_trans ?_ (Nat.le_add_right _ _) | refine Nat.le_succ_of_le ?_ | exact Nat.le_refl _))))
  | cons c R ih =>
    intro D z hG hs hlen he ht hz ha hb hq
    simp only [List.length_cons] at he
    have hlen' := hlen
    simp only [List.length_append, List.length_cons] at hlen'
    have g : decide (((p.length + D.length : Nat) : Int) < (e : Int)) = true := decide_eq_true (by omega)
    have w3 : IntKind.i64.wrap (((p.length + D.length : Nat) : Int) + 1) = ((p.length + (D.length + 1) : Nat) : Int) := by rw [IntKind.wrap_i64]; omega
    rw [St.knows _ _ ht hz]
    refine Loop.round ?_
    conv => whnf
    refine sel_yes g ?_
    conv => whnf
    refine linsI hn h26 h73 o h5 N b v hN cap p (R ++ s) c e ((p.length + D.length : Nat) : Int) _ _ D.length D [] _ rfl (fun x hx => hG x (by simp at hx ⊢; rcases hx with h | h; exact .inl h; exact .inr (.inl h))) (by simpa [Le] using hs) (fun w hw => by cases hw) (by simpa using hlen) ⟨rfl, rfl, rfl, rfl, rfl, rfl, trivial⟩ rfl ha (Nat.lt_of_lt_of_le hb (by (conv => lhs; whnf); (repeat ((conv => rhs; whnf); first | with_reducible exact Nat.le_refl _ | refine Nat.le_trans ?_ (Nat.le_add_right _ _) | refine Nat.le_succ_of_le ?_ | exact Nat.le_refl _)))) (fun z' U W q1 q2 q3 q4 q5 => ?_)
    have hl2 := q2.length_eq
    simp only [List.length_append, List.length_cons, List.length_nil] at hl2
    rw [St.knows _ z'.hp.n q3 rfl]
    conv => whnf
    refine ih (U ++ c :: W) _ (hG.perm ?_) q1 ?_ ?_ ⟨rfl, rfl, rfl, row_clean o h5 n, ?_, trivial⟩ rfl (by rw [show p ++ (U ++ c :: W) ++ (R ++ s) = p ++ U ++ c :: (W ++ (R ++ s)) by simp]; exact trunc_arr q4) (Nat.lt_of_lt_of_le q5 (by (conv => lhs; whnf); (repeat ((conv => rhs; whnf); first | with_reducible exact Nat.le_refl _ | refine Nat.le_trans ?_ (Nat.le_add_right _ _) | refine Nat.le_succ_of_le ?_ | exact Nat.le_refl _)))) (fun z2 D' k1 k2 => hq z2 D' k1 (k2.trans ?_))
    · refine (List.Perm.append_right R q2).trans ?_
      rw [show D ++ [c] ++ R = D ++ c :: R by simp]
    · simp only [List.length_append, List.length_cons]; omega
    · simp only [List.length_append, List.length_cons]; omega
    · conv => lhs; whnf
      exact vi (by rw [w3]; simp only [List.length_append, List.length_cons]; omega)
    · refine (List.Perm.append_right R q2).trans ?_
      rw [show D ++ [c] ++ R = D ++ c :: R by simp]
theorem le_one (f : T → T → Int) (x : T) : Le f [x] := List.pairwise_singleton _ _
theorem tins (hn : Non ext) (h26 : E26 ext) (h73 : E73 ext) (o : Nat) (h5 : o ≤ 5) (b v : Nat) (cap : Option Nat) (p M s : List T) (hG : Gd M) (hN : (p ++ M ++ s).length ≤ 65536) :
    ∀ hp : Hp, hp.a b = some ⟨v, 4, encL (p ++ M ++ s), cap, 0⟩ → b < hp.m → ∃ hp' M', (cfg ext).EvR 46 [.rsl false b v 0 (p ++ M ++ s).length, .int .i64 p.length, .int .i64 ((p.length + M.length : Nat) : Int), rowOf o] hp (.tup []) hp' ∧
      Le (ordF ext o) M' ∧ M'.Perm M ∧ hp'.a b = some ⟨v, 4, encL (p ++ M' ++ s), cap, 0⟩ ∧ b < hp'.m := by
  intro hp ha hb
  have hN' := hN
  simp only [List.length_append] at hN'
  have key : ∃ r hp', (cfg ext).EvR 46 [.rsl false b v 0 (p ++ M ++ s).length, .int .i64 p.length, .int .i64 ((p.length + M.length : Nat) : Int), rowOf o] hp r hp' ∧ (r = .tup [] ∧ ∃ M', Le (ordF ext o) M' ∧ M'.Perm M ∧ hp'.a b = some ⟨v, 4, encL (p ++ M' ++ s), cap, 0⟩ ∧ b < hp'.m) := by
    refine EvR.ofE Tryd.func46 rfl rfl ?_
    cases M with
    | nil =>
      have w : IntKind.i64.wrap ((p.length : Int) + 1) = (p.length : Int) + 1 := by rw [IntKind.wrap_i64]; omega
      have g : decide (IntKind.i64.wrap ((p.length : Int) + 1) < ((p.length + ([] : List T).length : Nat) : Int)) = false := decide_eq_false (by rw [w]; simp; omega)
      conv => whnf
      refine Loop.round ?_
      conv => whnf
      refine sel_no g ?_
      conv => whnf
      exact ⟨rfl, [], List.Pairwise.nil, List.Perm.refl _, ha, Nat.lt_of_lt_of_le hb (by (conv => lhs; whnf); (repeat ((conv => rhs; whnf); first | with_reducible exact Nat.le_refl _ | refine Nat.le_trans ?_ (Nat.le_add_right _ _) | refine Nat.le_succ_of_le ?_ | exact Nat.le_refl _)))⟩
    | cons c R =>
      have w : IntKind.i64.wrap ((p.length : Int) + 1) = ((p.length + ([c] : List T).length : Nat) : Int) := by rw [IntKind.wrap_i64]; simp; simp at hN'; omega
      conv => whnf
      refine linsO hn h26 h73 o h5 _ b v hN cap p s _ _ (p.length + (c :: R).length) R [c] _ hG (le_one _ _) (by simp) (by simp; omega) ⟨rfl, rfl, rfl, rfl, ?_, trivial⟩ rfl (by rw [show p ++ [c] ++ (R ++ s) = p ++ c :: R ++ s by simp]; exact ha) (Nat.lt_of_lt_of_le hb (by (conv => lhs; whnf); (repeat ((conv => rhs; whnf); first | with_reducible exact Nat.le_refl _ | refine Nat.le_trans ?_ (Nat.le_add_right _ _) | refine Nat.le_succ_of_le ?_ | exact Nat.le_refl _)))) (fun z' D' k1 k2 k3 k4 => ?_)
      · conv => lhs; whnf
        exact vi w
      · exact ⟨rfl, D', k1, k2, k3, k4⟩
  obtain ⟨r, hp', h, rfl, M', h1, h2, h3, h4⟩ := key
  exact ⟨hp', M', h, h1, h2, h3, h4⟩
end
end Go.Proofs.YtehajklneljbgaaDoor.AB
end

section
set_option linter.unusedVariables false
set_option linter.unusedSimpArgs false
open Go Go.Ab Go.Proofs Go.Vl
namespace Go.Proofs.YtehajklneljbgaaDoor.AB
set_option maxRecDepth 100000
set_option maxHeartbeats 16000000
set_option linter.unusedSimpArgs false
set_option linter.unusedVariables false
/-- where a search by halves ends -/
def Bs (B : Nat → Bool) (i0 j0 k : Nat) : Prop := i0 ≤ k ∧ k ≤ j0 ∧ (k = i0 ∨ B (k - 1) = true) ∧ (k = j0 ∨ B k = false)
section
variable {ext : Exts}
noncomputable def atB (ext : Exts) (o : Int) (l : List T) (i j : Nat) : Bool := match l[i]?, l[j]? with | some x, some y => decide (ordF ext o x y < 0) | _, _ => false
theorem atB_is {o : Int} {l : List T} {i j : Nat} {x y : T} (h1 : l[i]? = some x) (h2 : l[j]? = some y) : atB ext o l i j = decide (ordF ext o x y < 0) := by unfold atB; rw [h1, h2]
theorem lbs0 (hn : Non ext) (h26 : E26 ext) (h73 : E73 ext) (o : Nat) (h5 : o ≤ 5) (N b v : Nat) (hN : N ≤ 65536) (cap : Option Nat) (L : List T) (hG : Gd L) (hL : L.length = N) (A M E : Nat) (i0 j0 : Nat) (hj0 : j0 ≤ N) (hA : A < N) (Q : Ex → St → Prop) (n : Nat) (d : Nat) :
    ∀ (i j : Nat) (z : St), j - i ≤ d → i0 ≤ i → i ≤ j → j ≤ j0 → (i = i0 ∨ (fun h => atB ext o L h A) (i - 1) = true) → (j = j0 ∨ (fun h => atB ext o L h A) j = false) →
      Has z.t [(0, .rsl false b v 0 N), (1, .int .i64 (A : Int)), (2, .int .i64 (M : Int)), (3, .int .i64 (E : Int)), (4, rowOf o), (10, .int .i64 i), (11, .int .i64 j)] → z.hp.n = n → z.hp.a b = some ⟨v, 4, encL L, cap, 0⟩ → b < z.hp.m →
      (∀ (z' : St) (k : Nat), Bs (fun h => atB ext o L h A) i0 j0 k → Has z'.t [(0, .rsl false b v 0 N), (1, .int .i64 (A : Int)), (2, .int .i64 (M : Int)), (3, .int .i64 (E : Int)), (4, rowOf o), (10, .int .i64 k)] → z'.hp.a b = some ⟨v, 4, encL L, cap, 0⟩ → b < z'.hp.m → Q (.exit 0) z') →
      Go.Ab.Loop (cfg ext) (lpN Tryd.f47 0) n z Q := by
  have c6 : o = 0 ∨ o = 1 ∨ o = 2 ∨ o = 3 ∨ o = 4 ∨ o = 5 := by omega
  induction d with
  | zero =>
    intro i j z hd hi0 hij hj k1 k2 ht hz ha hb hq
    obtain rfl : i = j := by omega
    have g : decide ((i : Int) < (i : Int)) = false := decide_eq_false (by omega)
    rw [St.knows _ _ ht hz]
    refine Loop.round ?_
    conv => whnf
    refine sel_no g ?_
    conv => whnf
    exact hq _ i ⟨hi0, hj, k1, k2⟩ ⟨rfl, rfl, rfl, rfl, rfl, rfl, trivial⟩ ha (Nat.lt_of_lt_of_le hb (by (conv => lhs; whnf); (repeat ((conv => rhs; whnf); first | with_reducible exact Nat.le_refl _ | refine Nat.le_trans ?_ (Nat.le_add_right _ _) | refine Nat.le_succ_of_le ?_ | exact Nat.le_refl _))))
  | succ d ih =>
    intro i j z hd hi0 hij hj k1 k2 ht hz ha hb hq
    by_cases he : i = j
    · subst he
      exact ih i i z (by omega) hi0 hij hj k1 k2 ht hz ha hb hq
    have g : decide ((i : Int) < (j : Int)) = true := decide_eq_true (by omega)
    have em := midZ_is (i := i) (j := j) (by omega)
    obtain ⟨h, hh⟩ : ∃ h, h = (i + j) / 2 := ⟨_, rfl⟩
    rw [← hh] at em
    have b1 : i ≤ h ∧ h < j := by omega
    have bh : h < L.length := by omega
    have e1 : IntKind.i64.wrap (midZ i j + 1) = ((h + 1 : Nat) : Int) := by rw [em, IntKind.wrap_i64]; omega
    obtain ⟨y, hy⟩ : ∃ y, L[h]? = some y := ⟨_, List.getElem?_eq_getElem bh⟩
    have gy := hG y (List.mem_of_getElem? hy)
    obtain ⟨c, hc⟩ : ∃ c, L[A]? = some c := ⟨_, List.getElem?_eq_getElem (by omega)⟩
    have gc := hG c (List.mem_of_getElem? hc)
    have hE := rowOrd hn h26 h73 o h5 y c gy.1 gc.1 gy.2 gc.2
    have hB : (fun h => atB ext o L h A) h = (decide (ordF ext o y c < 0)) := by show (atB ext o L (h) (A)) = _; rw [atB_is hy hc]
    generalize ordF ext o y c = q at hE hB
    rw [St.knows _ _ ht hz]
    refine Loop.round ?_
    conv => whnf
    refine sel_yes g ?_
    rcases c6 with rfl | rfl | rfl | rfl | rfl | rfl
    all_goals
      conv => whnf
      refine ⟨bnd em (by omega), ?_⟩
      conv => whnf
      refine ldR ha (fun l hl => by cases hl; exact Nat.lt_of_lt_of_le hb (by (conv => lhs; whnf); (repeat ((conv => rhs; whnf); first | with_reducible exact Nat.le_refl _ | refine Nat.le_trans ?_ (Nat.le_add_right _ _) | refine Nat.le_succ_of_le ?_ | exact Nat.le_refl _)))) em hy ?_
      conv => whnf
      refine ⟨bnd rfl (by omega), ?_⟩
      conv => whnf
      refine ldR ha (fun l hl => by cases hl; exact Nat.lt_of_lt_of_le hb (by (conv => lhs; whnf); (repeat ((conv => rhs; whnf); first | with_reducible exact Nat.le_refl _ | refine Nat.le_trans ?_ (Nat.le_add_right _ _) | refine Nat.le_succ_of_le ?_ | exact Nat.le_refl _)))) rfl hc ?_
      conv => whnf
      refine ⟨_, hE, ?_⟩
      conv => whnf
      refine sel_split (fun hs => ?_) (fun hs => ?_)
      · conv => whnf
        refine ih (h + 1) j _ (by omega) (by omega) (by omega) hj (.inr (by rw [Nat.add_sub_cancel, hB]; exact hs)) k2 ⟨rfl, rfl, rfl, rfl, rfl, ?_, rfl, trivial⟩ rfl (trunc_arr ha) (Nat.lt_of_lt_of_le hb (by (conv => lhs; whnf); (repeat ((conv => rhs; whnf); first | with_reducible exact Nat.le_refl _ | refine Nat.le_trans ?_ (Nat.le_add_right _ _) | refine Nat.le_succ_of_le ?_ | exact Nat.le_refl _)))) hq
        conv => lhs; whnf
        exact vi e1
      · conv => whnf
        refine ih i h _ (by omega) hi0 (by omega) (by omega) k1 (.inr (by rw [hB]; exact hs)) ⟨rfl, rfl, rfl, rfl, rfl, rfl, ?_, trivial⟩ rfl (trunc_arr ha) (Nat.lt_of_lt_of_le hb (by (conv => lhs; whnf); (repeat ((conv => rhs; whnf); first | with_reducible exact Nat.le_refl _ | refine Nat.le_trans ?_ (Nat.le_add_right _ _) | refine Nat.le_succ_of_le ?_ | exact Nat.le_refl _)))) hq
        conv => lhs; whnf
        exact vi em
theorem lbs2 (hn : Non ext) (h26 : E26 ext) (h73 : E73 ext) (o : Nat) (h5 : o ≤ 5) (N b v : Nat) (hN : N ≤ 65536) (cap : Option Nat) (L : List T) (hG : Gd L) (hL : L.length = N) (A M E : Nat) (i0 j0 : Nat) (hj0 : j0 ≤ N) (hM : M < N) (Q : Ex → St → Prop) (n : Nat) (d : Nat) :
    ∀ (i j : Nat) (z : St), j - i ≤ d → i0 ≤ i → i ≤ j → j ≤ j0 → (i = i0 ∨ (fun h => !atB ext o L M h) (i - 1) = true) → (j = j0 ∨ (fun h => !atB ext o L M h) j = false) →
      Has z.t [(0, .rsl false b v 0 N), (1, .int .i64 (A : Int)), (2, .int .i64 (M : Int)), (3, .int .i64 (E : Int)), (4, rowOf o), (14, .int .i64 i), (15, .int .i64 j)] → z.hp.n = n → z.hp.a b = some ⟨v, 4, encL L, cap, 0⟩ → b < z.hp.m →
      (∀ (z' : St) (k : Nat), Bs (fun h => !atB ext o L M h) i0 j0 k → Has z'.t [(0, .rsl false b v 0 N), (1, .int .i64 (A : Int)), (2, .int .i64 (M : Int)), (3, .int .i64 (E : Int)), (4, rowOf o), (14, .int .i64 k)] → z'.hp.a b = some ⟨v, 4, encL L, cap, 0⟩ → b < z'.hp.m → Q (.exit 4) z') →
      Go.Ab.Loop (cfg ext) (lpN Tryd.f47 2) n z Q := by
  have c6 : o = 0 ∨ o = 1 ∨ o = 2 ∨ o = 3 ∨ o = 4 ∨ o = 5 := by omega
  induction d with
  | zero =>
    intro i j z hd hi0 hij hj k1 k2 ht hz ha hb hq
    obtain rfl : i = j := by omega
    have g : decide ((i : Int) < (i : Int)) = false := decide_eq_false (by omega)
    rw [St.knows _ _ ht hz]
    refine Loop.round ?_
    conv => whnf
    refine sel_no g ?_
    conv => whnf
    exact hq _ i ⟨hi0, hj, k1, k2⟩ ⟨rfl, rfl, rfl, rfl, rfl, rfl, trivial⟩ ha (Nat.lt_of_lt_of_le hb (by (conv => lhs; whnf); (repeat ((conv => rhs; whnf); first | with_reducible exact Nat.le_refl _ | refine Nat.le_trans ?_ (Nat.le_add_right _ _) | refine Nat.le_succ_of_le ?_ | exact Nat.le_refl _))))
  | succ d ih =>
    intro i j z hd hi0 hij hj k1 k2 ht hz ha hb hq
    by_cases he : i = j
    · subst he
      exact ih i i z (by omega) hi0 hij hj k1 k2 ht hz ha hb hq
    have g : decide ((i : Int) < (j : Int)) = true := decide_eq_true (by omega)
    have em := midZ_is (i := i) (j := j) (by omega)
    obtain ⟨h, hh⟩ : ∃ h, h = (i + j) / 2 := ⟨_, rfl⟩
    rw [← hh] at em
    have b1 : i ≤ h ∧ h < j := by omega
    have bh : h < L.length := by omega
    have e1 : IntKind.i64.wrap (midZ i j + 1) = ((h + 1 : Nat) : Int) := by rw [em, IntKind.wrap_i64]; omega
    obtain ⟨y, hy⟩ : ∃ y, L[h]? = some y := ⟨_, List.getElem?_eq_getElem bh⟩
    have gy := hG y (List.mem_of_getElem? hy)
    obtain ⟨c, hc⟩ : ∃ c, L[M]? = some c := ⟨_, List.getElem?_eq_getElem (by omega)⟩
    have gc := hG c (List.mem_of_getElem? hc)
    have hE := rowOrd hn h26 h73 o h5 c y gc.1 gy.1 gc.2 gy.2
    have hB : (fun h => !atB ext o L M h) h = (!decide (ordF ext o c y < 0)) := by show (!atB ext o L (M) (h)) = _; rw [atB_is hc hy]
    generalize ordF ext o c y = q at hE hB
    rw [St.knows _ _ ht hz]
    refine Loop.round ?_
    conv => whnf
    refine sel_yes g ?_
    rcases c6 with rfl | rfl | rfl | rfl | rfl | rfl
    all_goals
      conv => whnf
      refine ⟨bnd rfl (by omega), ?_⟩
      conv => whnf
      refine ldR ha (fun l hl => by cases hl; exact Nat.lt_of_lt_of_le hb (by (conv => lhs; whnf); (repeat ((conv => rhs; whnf); first | with_reducible exact Nat.le_refl _ | refine Nat.le_trans ?_ (Nat.le_add_right _ _) | refine Nat.le_succ_of_le ?_ | exact Nat.le_refl _)))) rfl hc ?_
      conv => whnf
      refine ⟨bnd em (by omega), ?_⟩
      conv => whnf
      refine ldR ha (fun l hl => by cases hl; exact Nat.lt_of_lt_of_le hb (by (conv => lhs; whnf); (repeat ((conv => rhs; whnf); first | with_reducible exact Nat.le_refl _ | refine Nat.le_trans ?_ (Nat.le_add_right _ _) | refine Nat.le_succ_of_le ?_ | exact Nat.le_refl _)))) em hy ?_
      conv => whnf
      refine ⟨_, hE, ?_⟩
      conv => whnf
      refine sel_split (fun hs => ?_) (fun hs => ?_)
      · conv => whnf
        refine ih (h + 1) j _ (by omega) (by omega) (by omega) hj (.inr (by rw [Nat.add_sub_cancel, hB]; exact hs)) k2 ⟨rfl, rfl, rfl, rfl, rfl, ?_, rfl, trivial⟩ rfl (trunc_arr ha) (Nat.lt_of_lt_of_le hb (by (conv => lhs; whnf); (repeat ((conv => rhs; whnf); first | with_reducible exact Nat.le_refl _ | refine Nat.le_trans ?_ (Nat.le_add_right _ _) | refine Nat.le_succ_of_le ?_ | exact Nat.le_refl _)))) hq
        conv => lhs; whnf
        exact vi e1
      · conv => whnf
        refine ih i h _ (by omega) hi0 (by omega) (by omega) k1 (.inr (by rw [hB]; exact hs)) ⟨rfl, rfl, rfl, rfl, rfl, rfl, ?_, trivial⟩ rfl (trunc_arr ha) (Nat.lt_of_lt_of_le hb (by (conv => lhs; whnf); (repeat ((conv => rhs; whnf); first | with_reducible exact Nat.le_refl _ | refine Nat.le_trans ?_ (Nat.le_add_right _ _) | refine Nat.le_succ_of_le ?_ | exact Nat.le_refl _)))) hq
        conv => lhs; whnf
        exact vi em
theorem lbs4 (hn : Non ext) (h26 : E26 ext) (h73 : E73 ext) (o : Nat) (h5 : o ≤ 5) (N b v : Nat) (hN : N ≤ 65536) (cap : Option Nat) (L : List T) (hG : Gd L) (hL : L.length = N) (A M E : Nat) (i0 j0 : Nat) (hj0 : j0 ≤ N) (mid nn : Int) (P : Nat) (hP : ∀ h, i0 ≤ h → h < j0 → h ≤ P ∧ P - h < N) (hP2 : P ≤ 131072) (Q : Ex → St → Prop) (n : Nat) (d : Nat) :
    ∀ (i j : Nat) (z : St), j - i ≤ d → i0 ≤ i → i ≤ j → j ≤ j0 → (i = i0 ∨ (fun h => !atB ext o L (P - h) h) (i - 1) = true) → (j = j0 ∨ (fun h => !atB ext o L (P - h) h) j = false) →
      Has z.t [(0, .rsl false b v 0 N), (1, .int .i64 (A : Int)), (2, .int .i64 (M : Int)), (3, .int .i64 (E : Int)), (4, rowOf o), (18, .int .i64 mid), (19, .int .i64 nn), (22, .int .i64 (P : Int)), (20, .int .i64 i), (21, .int .i64 j)] → z.hp.n = n → z.hp.a b = some ⟨v, 4, encL L, cap, 0⟩ → b < z.hp.m →
      (∀ (z' : St) (k : Nat), Bs (fun h => !atB ext o L (P - h) h) i0 j0 k → Has z'.t [(0, .rsl false b v 0 N), (1, .int .i64 (A : Int)), (2, .int .i64 (M : Int)), (3, .int .i64 (E : Int)), (4, rowOf o), (18, .int .i64 mid), (19, .int .i64 nn), (22, .int .i64 (P : Int)), (20, .int .i64 k)] → z'.hp.a b = some ⟨v, 4, encL L, cap, 0⟩ → b < z'.hp.m → Q (.exit 8) z') →
      Go.Ab.Loop (cfg ext) (lpN Tryd.f47 4) n z Q := by
  have c6 : o = 0 ∨ o = 1 ∨ o = 2 ∨ o = 3 ∨ o = 4 ∨ o = 5 := by omega
  induction d with
  | zero =>
    intro i j z hd hi0 hij hj k1 k2 ht hz ha hb hq
    obtain rfl : i = j := by omega
    have g : decide ((i : Int) < (i : Int)) = false := decide_eq_false (by omega)
    rw [St.knows _ _ ht hz]
    refine Loop.round ?_
    conv => whnf
    refine sel_no g ?_
    conv => whnf
    exact hq _ i ⟨hi0, hj, k1, k2⟩ ⟨rfl, rfl, rfl, rfl, rfl, rfl, rfl, rfl, rfl, trivial⟩ ha (Nat.lt_of_lt_of_le hb (by (conv => lhs; whnf); (repeat ((conv => rhs; whnf); first | with_reducible exact Nat.le_refl _ | refine Nat.le_trans ?_ (Nat.le_add_right _ _) | refine Nat.le_succ_of_le ?_ | exact Nat.le_refl _))))
  | succ d ih =>
    intro i j z hd hi0 hij hj k1 k2 ht hz ha hb hq
    by_cases he : i = j
    · subst he
      exact ih i i z (by omega) hi0 hij hj k1 k2 ht hz ha hb hq
    have g : decide ((i : Int) < (j : Int)) = true := decide_eq_true (by omega)
    have em := midZ_is (i := i) (j := j) (by omega)
    obtain ⟨h, hh⟩ : ∃ h, h = (i + j) / 2 := ⟨_, rfl⟩
    rw [← hh] at em
    have b1 : i ≤ h ∧ h < j := by omega
    have bh : h < L.length := by omega
    have e1 : IntKind.i64.wrap (midZ i j + 1) = ((h + 1 : Nat) : Int) := by rw [em, IntKind.wrap_i64]; omega
    obtain ⟨y, hy⟩ : ∃ y, L[h]? = some y := ⟨_, List.getElem?_eq_getElem bh⟩
    have gy := hG y (List.mem_of_getElem? hy)
    have bp := hP h (by omega) (by omega)
    have e2 : IntKind.i64.wrap ((P : Int) - midZ i j) = ((P - h : Nat) : Int) := by rw [em, IntKind.wrap_i64]; omega
    obtain ⟨c, hc⟩ : ∃ c, L[P - h]? = some c := ⟨_, List.getElem?_eq_getElem (by omega)⟩
    have gc := hG c (List.mem_of_getElem? hc)
    have hE := rowOrd hn h26 h73 o h5 c y gc.1 gy.1 gc.2 gy.2
    have hB : (fun h => !atB ext o L (P - h) h) h = (!decide (ordF ext o c y < 0)) := by show (!atB ext o L (P - h) (h)) = _; rw [atB_is hc hy]
    generalize ordF ext o c y = q at hE hB
    rw [St.knows _ _ ht hz]
    refine Loop.round ?_
    conv => whnf
    refine sel_yes g ?_
    rcases c6 with rfl | rfl | rfl | rfl | rfl | rfl
    all_goals
      conv => whnf
      refine ⟨bnd e2 (by omega), ?_⟩
      conv => whnf
      refine ldR ha (fun l hl => by cases hl; exact Nat.lt_of_lt_of_le hb (by (conv => lhs; whnf); (repeat ((conv => rhs; whnf); first | with_reducible exact Nat.le_refl _ | refine Nat.le_trans ?_ (Nat.le_add_right _ _) | refine Nat.le_succ_of_le ?_ | exact Nat.le_refl _)))) e2 hc ?_
      conv => whnf
      refine ⟨bnd em (by omega), ?_⟩
      conv => whnf
      refine ldR ha (fun l hl => by cases hl; exact Nat.lt_of_lt_of_le hb (by (conv => lhs; whnf); (repeat ((conv => rhs; whnf); first | with_reducible exact Nat.le_refl _ | refine Nat.le_trans ?_ (Nat.le_add_right _ _) | refine Nat.le_succ_of_le ?_ | exact Nat.le_refl _)))) em hy ?_
      conv => whnf
      refine ⟨_, hE, ?_⟩
      conv => whnf
      refine sel_split (fun hs => ?_) (fun hs => ?_)
      · conv => whnf
        refine ih (h + 1) j _ (by omega) (by omega) (by omega) hj (.inr (by rw [Nat.add_sub_cancel, hB]; exact hs)) k2 ⟨rfl, rfl, rfl, rfl, rfl, rfl, rfl, rfl, ?_, rfl, trivial⟩ rfl (trunc_arr ha) (Nat.lt_of_lt_of_le hb (by (conv => lhs; whnf); (repeat ((conv => rhs; whnf); first | with_reducible exact Nat.le_refl _ | refine Nat.le_trans ?_ (Nat.le_add_right _ _) | refine Nat.le_succ_of_le ?_ | exact Nat.le_refl _)))) hq
        conv => lhs; whnf
        exact vi e1
      · conv => whnf
        refine ih i h _ (by omega) hi0 (by omega) (by omega) k1 (.inr (by rw [hB]; exact hs)) ⟨rfl, rfl, rfl, rfl, rfl, rfl, rfl, rfl, rfl, ?_, trivial⟩ rfl (trunc_arr ha) (Nat.lt_of_lt_of_le hb (by (conv => lhs; whnf); (repeat ((conv => rhs; whnf); first | with_reducible exact Nat.le_refl _ | refine Nat.le_trans ?_ (Nat.le_add_right _ _) | refine Nat.le_succ_of_le ?_ | exact Nat.le_refl _)))) hq
        conv => lhs; whnf
        exact vi em
end
end Go.Proofs.YtehajklneljbgaaDoor.AB
end

section
set_option linter.unusedVariables false
set_option linter.unusedSimpArgs false
open Go Go.Ab Go.Proofs Go.Vl
namespace Go.Proofs.YtehajklneljbgaaDoor.AB
set_option maxRecDepth 100000
set_option maxHeartbeats 16000000
set_option linter.unusedSimpArgs false
set_option linter.unusedVariables false
theorem cross {f : T → T → Int} (hf : Line f) {A B : List T} (hA : ∀ x ∈ A, Shp x) (hB : ∀ x ∈ B, Shp x) (sA : Le f A) (sB : Le f B) (h : ∀ a b, A.getLast? = some a → B.head? = some b → f a b ≤ 0) : ∀ u ∈ A, ∀ w ∈ B, f u w ≤ 0 := by
  intro u hu w hw
  rcases List.eq_nil_or_concat A with rfl | ⟨A', a, rfl⟩
  · cases hu
  cases B with
  | nil => cases hw
  | cons b B =>
  rw [List.concat_eq_append] at *
  have hab := h a b (by simp) rfl
  have ha := hA a (by simp)
  have hb := hB b (by simp)
  have rf : ∀ {x}, Shp x → f x x ≤ 0 := fun hx => by have := (hf.2.1 _ _ hx hx).2 rfl; omega
  have h1 : f u a ≤ 0 := by
    rcases List.mem_append.1 hu with hu | hu
    · exact (List.pairwise_append.1 sA).2.2 u hu a (by simp)
    · rcases List.mem_cons.1 hu with rfl | hu
      · exact rf ha
      · cases hu
  have h2 : f b w ≤ 0 := by
    rcases List.mem_cons.1 hw with rfl | hw
    · exact rf hb
    · exact (List.pairwise_cons.1 sB).1 w hw
  exact hf.2.2.1 u b w (hA u hu) hb (hB w hw) (hf.2.2.1 u a b (hA u hu) ha hb h1 hab) h2
theorem mrg {f : T → T → Int} (hf : Line f) {X1 X2 Y1 Y2 Z1 Z2 : List T} (hsh : ∀ x ∈ X1 ++ X2 ++ Y1 ++ Y2, Shp x) (sX : Le f (X1 ++ X2)) (sY : Le f (Y1 ++ Y2)) (h1 : ∀ a b, X1.getLast? = some a → Y2.head? = some b → f a b ≤ 0) (h2 : ∀ a b, Y1.getLast? = some a → X2.head? = some b → f a b ≤ 0)
    (p1 : Z1.Perm (X1 ++ Y1)) (p2 : Z2.Perm (X2 ++ Y2)) (s1 : Le f Z1) (s2 : Le f Z2) : Le f (Z1 ++ Z2) := by
  have sX' := List.pairwise_append.1 sX
  have sY' := List.pairwise_append.1 sY
  have c1 := cross hf (fun x hx => hsh x (by simp [hx])) (fun x hx => hsh x (by simp [hx])) sX'.1 sY'.2.1 h1
  have c2 := cross hf (fun x hx => hsh x (by simp [hx])) (fun x hx => hsh x (by simp [hx])) sY'.1 sX'.2.1 h2
  refine List.pairwise_append.2 ⟨s1, s2, fun u hu w hw => ?_⟩
  rcases List.mem_append.1 (p1.mem_iff.1 hu) with hu | hu <;> rcases List.mem_append.1 (p2.mem_iff.1 hw) with hw | hw
  · exact sX'.2.2 u hu w hw
  · exact c1 u hu w hw
  · exact c2 u hu w hw
  · exact sY'.2.2 u hu w hw
theorem ins2 {f : T → T → Int} (hf : Line f) {U W : List T} {c : T} (hsh : ∀ x ∈ U ++ c :: W, Shp x) (hs : Le f (U ++ W)) (hu : ∀ y, U.getLast? = some y → f y c ≤ 0) (hw : ∀ y, W.head? = some y → f c y ≤ 0) : Le f (U ++ c :: W) := by
  refine ins_sorted hf hsh hs (fun w hw' => ?_) hu
  have sW := (List.pairwise_append.1 hs).2.1
  exact cross hf (A := [c]) (fun x hx => hsh x (by simp at hx; simp [hx])) (fun x hx => hsh x (by simp [hx])) (le_one f c) sW (fun a b ha hb => by simp at ha; subst ha; exact hw b hb) c (by simp) w hw'
section
variable {ext : Exts}
theorem row_fn (o : Nat) (h5 : o ≤ 5) : ∃ fk fc, rowOf o = .fn fk fc := by
  have c6 : o = 0 ∨ o = 1 ∨ o = 2 ∨ o = 3 ∨ o = 4 ∨ o = 5 := by omega
  rcases c6 with rfl | rfl | rfl | rfl | rfl | rfl <;> exact ⟨_, _, rfl⟩
/-- symMerge on two such parts -/
def SM (ext : Exts) (o : Nat) (X Y : List T) : Prop := ∀ (p s : List T) (b v : Nat) (cap : Option Nat), Gd (p ++ X ++ Y ++ s) → (p ++ X ++ Y ++ s).length ≤ 65536 → 0 < X.length → 0 < Y.length → Le (ordF ext o) X → Le (ordF ext o) Y →
  ∀ hp : Hp, hp.a b = some ⟨v, 4, encL (p ++ X ++ Y ++ s), cap, 0⟩ → b < hp.m → ∃ hp' Z, (cfg ext).EvR 47 [.rsl false b v 0 (p ++ X ++ Y ++ s).length, .int .i64 p.length, .int .i64 ((p.length + X.length : Nat) : Int), .int .i64 ((p.length + X.length + Y.length : Nat) : Int), rowOf o] hp (.tup []) hp' ∧
    Le (ordF ext o) Z ∧ Z.Perm (X ++ Y) ∧ hp'.a b = some ⟨v, 4, encL (p ++ Z ++ s), cap, 0⟩ ∧ b < hp'.m
theorem SM.use {o : Nat} {X Y : List T} (h : SM ext o X Y) {p s : List T} {b v N : Nat} {cap : Option Nat} {xs : List V} {hp : Hp} {Q : V → Hp → Prop} (hG : Gd (p ++ X ++ Y ++ s)) (hN : N ≤ 65536) (hlen : (p ++ X ++ Y ++ s).length = N) (hX : 0 < X.length) (hY : 0 < Y.length) (sX : Le (ordF ext o) X) (sY : Le (ordF ext o) Y)
    (e : [.rsl false b v 0 N, .int .i64 p.length, .int .i64 ((p.length + X.length : Nat) : Int), .int .i64 ((p.length + X.length + Y.length : Nat) : Int), rowOf o] = xs) (ha : hp.a b = some ⟨v, 4, encL (p ++ X ++ Y ++ s), cap, 0⟩) (hb : b < hp.m)
    (q : ∀ hp' Z, Le (ordF ext o) Z → Z.Perm (X ++ Y) → hp'.a b = some ⟨v, 4, encL (p ++ Z ++ s), cap, 0⟩ → b < hp'.m → Q (.tup []) hp') : ∃ r hp', (cfg ext).EvR 47 xs hp r hp' ∧ Q r hp' := by
  obtain ⟨hp', Z, h1, h2, h3, h4, h5⟩ := h p s b v cap hG (by omega) hX hY sX sY hp ha hb
  rw [hlen, e] at h1
  exact ⟨_, hp', h1, q hp' Z h2 h3 h4 h5⟩
/-- the right half, if there is something to do -/
theorem smR (o : Nat) (h5 : o ≤ 5) (N b v : Nat) (hN : N ≤ 65536) (cap : Option Nat) (q X Y s : List T) (hG : Gd (q ++ X ++ Y ++ s)) (hlen : (q ++ X ++ Y ++ s).length = N) (sX : Le (ordF ext o) X) (sY : Le (ordF ext o) Y) (ih : SM ext o X Y) (z : St) (K : Ex → St → Prop)
    (ht : Has z.t [(0, .rsl false b v 0 N), (3, .int .i64 ((q.length + X.length + Y.length : Nat) : Int)), (4, rowOf o), (18, .int .i64 q.length), (24, .int .i64 ((q.length + X.length : Nat) : Int))]) (ha : z.hp.a b = some ⟨v, 4, encL (q ++ X ++ Y ++ s), cap, 0⟩) (hb : b < z.hp.m)
    (hq : ∀ (z' : St) (Z : List T), Le (ordF ext o) Z → Z.Perm (X ++ Y) → z'.hp.a b = some ⟨v, 4, encL (q ++ Z ++ s), cap, 0⟩ → b < z'.hp.m → K .normal z') :
    xCode (cfg ext) (atP (bodyOf Tryd.f47) [true, true, true, true, true, true, true, true, true, true, true]) z K := by
  obtain ⟨fk, fc, ef⟩ := row_fn o h5
  rw [ef] at ht
  by_cases hX : X = []
  · subst hX
    have g : decide ((q.length : Int) < ((q.length + ([] : List T).length : Nat) : Int)) = false := decide_eq_false (by simp)
    have g' : (decide ((q.length : Int) < ((q.length + ([] : List T).length : Nat) : Int)) == true) = false := by rw [g]; rfl
    have ha' : z.hp.a b = some ⟨v, 4, encL (q ++ Y ++ s), cap, 0⟩ := by simpa using ha
    rw [St.knows _ z.hp.n ht rfl]
    conv => whnf
    repeat (first
      | (refine sel_yes ?_ ?_; (first | assumption | (simp only [beq_iff_eq, bne_iff_ne, beq_eq_false_iff_ne, bne_eq_false_iff_eq, decide_eq_true_eq, decide_eq_false_iff_not, Bool.not_eq_true', Bool.not_eq_false', ne_eq, beq_true, beq_false, bne_self_eq_false, not_true_eq_false, not_false_eq_true, gt_iff_lt, ge_iff_le, Int.not_lt, Int.not_le, Bool.true_eq_false, Bool.false_eq_true] <;> omega)); conv => whnf)
      | (refine sel_no ?_ ?_; (first | assumption | (simp only [beq_iff_eq, bne_iff_ne, beq_eq_false_iff_ne, bne_eq_false_iff_eq, decide_eq_true_eq, decide_eq_false_iff_not, Bool.not_eq_true', Bool.not_eq_false', ne_eq, beq_true, beq_false, bne_self_eq_false, not_true_eq_false, not_false_eq_true, gt_iff_lt, ge_iff_le, Int.not_lt, Int.not_le, Bool.true_eq_false, Bool.false_eq_true] <;> omega)); conv => whnf)
      | (refine ⟨le_rfl' ?_, ?_⟩; rfl; conv => whnf)
      | (refine ⟨⟨?_, ?_⟩, ?_⟩; omega; omega; conv => whnf)
      | (refine ⟨⟨?_, ?_, ?_⟩, ?_⟩; rfl; omega; omega; conv => whnf)
      | (refine ⟨rfl, ?_, ?_⟩; decide; conv => whnf))
    try exact rfl
    exact hq _ Y sY (by simp) ha' (Nat.lt_of_lt_of_le hb (by (conv => lhs; whnf); (repeat ((conv => rhs; whnf); first | with_reducible exact Nat.le_refl _ | refine Nat.le_trans ?_ (Nat.le_add_right _ _) | refine Nat.le_succ_of_le ?_ | exact Nat.le_refl _))))
  have hX0 : 0 < X.length := List.length_pos_iff.2 hX
  have g : decide ((q.length : Int) < ((q.length + X.length : Nat) : Int)) = true := decide_eq_true (by omega)
  have g' : (decide ((q.length : Int) < ((q.length + X.length : Nat) : Int)) == true) = true := by rw [g]; rfl
  by_cases hY : Y = []
  · subst hY
    have g2 : decide (((q.length + X.length : Nat) : Int) < ((q.length + X.length + ([] : List T).length : Nat) : Int)) = false := decide_eq_false (by simp)
    have ha' : z.hp.a b = some ⟨v, 4, encL (q ++ X ++ s), cap, 0⟩ := by simpa using ha
    rw [St.knows _ z.hp.n ht rfl]
    conv => whnf
    repeat (first
      | (refine sel_yes ?_ ?_; (first | assumption | (simp only [beq_iff_eq, bne_iff_ne, beq_eq_false_iff_ne, bne_eq_false_iff_eq, decide_eq_true_eq, decide_eq_false_iff_not, Bool.not_eq_true', Bool.not_eq_false', ne_eq, beq_true, beq_false, bne_self_eq_false, not_true_eq_false, not_false_eq_true, gt_iff_lt, ge_iff_le, Int.not_lt, Int.not_le, Bool.true_eq_false, Bool.false_eq_true] <;> omega)); conv => whnf)
      | (refine sel_no ?_ ?_; (first | assumption | (simp only [beq_iff_eq, bne_iff_ne, beq_eq_false_iff_ne, bne_eq_false_iff_eq, decide_eq_true_eq, decide_eq_false_iff_not, Bool.not_eq_true', Bool.not_eq_false', ne_eq, beq_true, beq_false, bne_self_eq_false, not_true_eq_false, not_false_eq_true, gt_iff_lt, ge_iff_le, Int.not_lt, Int.not_le, Bool.true_eq_false, Bool.false_eq_true] <;> omega)); conv => whnf)
      | (refine ⟨le_rfl' ?_, ?_⟩; rfl; conv => whnf)
      | (refine ⟨⟨?_, ?_⟩, ?_⟩; omega; omega; conv => whnf)
      | (refine ⟨⟨?_, ?_, ?_⟩, ?_⟩; rfl; omega; omega; conv => whnf)
      | (refine ⟨rfl, ?_, ?_⟩; decide; conv => whnf))
    try exact rfl
    exact hq _ X sX (by simp) ha' (Nat.lt_of_lt_of_le hb (by (conv => lhs; whnf); (repeat ((conv => rhs; whnf); first | with_reducible exact Nat.le_refl _ | refine Nat.le_trans ?_ (Nat.le_add_right _ _) | refine Nat.le_succ_of_le ?_ | exact Nat.le_refl _))))
  have hY0 : 0 < Y.length := List.length_pos_iff.2 hY
  have g2 : decide (((q.length + X.length : Nat) : Int) < ((q.length + X.length + Y.length : Nat) : Int)) = true := decide_eq_true (by omega)
  rw [St.knows _ z.hp.n ht rfl]
  conv => whnf
  repeat (first
    | (refine sel_yes ?_ ?_; (first | assumption | (simp only [beq_iff_eq, bne_iff_ne, beq_eq_false_iff_ne, bne_eq_false_iff_eq, decide_eq_true_eq, decide_eq_false_iff_not, Bool.not_eq_true', Bool.not_eq_false', ne_eq, beq_true, beq_false, bne_self_eq_false, not_true_eq_false, not_false_eq_true, gt_iff_lt, ge_iff_le, Int.not_lt, Int.not_le, Bool.true_eq_false, Bool.false_eq_true] <;> omega)); conv => whnf)
    | (refine sel_no ?_ ?_; (first | assumption | (simp only [beq_iff_eq, bne_iff_ne, beq_eq_false_iff_ne, bne_eq_false_iff_eq, decide_eq_true_eq, decide_eq_false_iff_not, Bool.not_eq_true', Bool.not_eq_false', ne_eq, beq_true, beq_false, bne_self_eq_false, not_true_eq_false, not_false_eq_true, gt_iff_lt, ge_iff_le, Int.not_lt, Int.not_le, Bool.true_eq_false, Bool.false_eq_true] <;> omega)); conv => whnf)
    | (refine ⟨le_rfl' ?_, ?_⟩; rfl; conv => whnf)
    | (refine ⟨⟨?_, ?_⟩, ?_⟩; omega; omega; conv => whnf)
    | (refine ⟨⟨?_, ?_, ?_⟩, ?_⟩; rfl; omega; omega; conv => whnf)
    | (refine ⟨rfl, ?_, ?_⟩; decide; conv => whnf))
  try exact rfl
  refine ih.use hG hN hlen hX0 hY0 sX sY (by rw [ef]; rfl) ha (Nat.lt_of_lt_of_le hb (by (conv => lhs; whnf); (repeat ((conv => rhs; whnf); first | with_reducible exact Nat.le_refl _ | refine Nat.le_trans ?_ (Nat.le_add_right _ _) | refine Nat.le_succ_of_le ?_ | exact Nat.le_refl _)))) (fun hp' Z q1 q2 q3 q4 => ?_)
  conv => whnf
  exact hq _ Z q1 q2 q3 q4
/-- the left half -/
theorem smLeft (o : Nat) (h5 : o ≤ 5) (N b v : Nat) (hN : N ≤ 65536) (cap : Option Nat) (p X Y s : List T) (e3 e24 : Int) (hG : Gd (p ++ X ++ Y ++ s)) (hlen : (p ++ X ++ Y ++ s).length = N) (sX : Le (ordF ext o) X) (sY : Le (ordF ext o) Y) (ih : SM ext o X Y) (z : St) (K : Ex → St → Prop)
    (ht : Has z.t [(0, .rsl false b v 0 N), (1, .int .i64 p.length), (3, .int .i64 e3), (4, rowOf o), (18, .int .i64 ((p.length + X.length + Y.length : Nat) : Int)), (20, .int .i64 ((p.length + X.length : Nat) : Int)), (24, .int .i64 e24)]) (ha : z.hp.a b = some ⟨v, 4, encL (p ++ X ++ Y ++ s), cap, 0⟩) (hb : b < z.hp.m)
    (hq : ∀ (z' : St) (Z : List T), Le (ordF ext o) Z → Z.Perm (X ++ Y) → Has z'.t [(0, .rsl false b v 0 N), (3, .int .i64 e3), (4, rowOf o), (18, .int .i64 ((p.length + X.length + Y.length : Nat) : Int)), (24, .int .i64 e24)] → z'.hp.a b = some ⟨v, 4, encL (p ++ Z ++ s), cap, 0⟩ → b < z'.hp.m → K .normal z') :
    xCode (cfg ext) (atP (bodyOf Tryd.f47) [true, true, true, true, true, true, true, true, true, true, false]) z K := by
  obtain ⟨fk, fc, ef⟩ := row_fn o h5
  rw [ef] at ht hq
  by_cases hX : X = []
  · subst hX
    have g : decide ((p.length : Int) < ((p.length + ([] : List T).length : Nat) : Int)) = false := decide_eq_false (by simp)
    have g' : (decide ((p.length : Int) < ((p.length + ([] : List T).length : Nat) : Int)) == true) = false := by rw [g]; rfl
    have ha' : z.hp.a b = some ⟨v, 4, encL (p ++ Y ++ s), cap, 0⟩ := by simpa using ha
    rw [St.knows _ z.hp.n ht rfl]
    conv => whnf
    repeat (first
      | (refine sel_yes ?_ ?_; (first | assumption | (simp only [beq_iff_eq, bne_iff_ne, beq_eq_false_iff_ne, bne_eq_false_iff_eq, decide_eq_true_eq, decide_eq_false_iff_not, Bool.not_eq_true', Bool.not_eq_false', ne_eq, beq_true, beq_false, bne_self_eq_false, not_true_eq_false, not_false_eq_true, gt_iff_lt, ge_iff_le, Int.not_lt, Int.not_le, Bool.true_eq_false, Bool.false_eq_true] <;> omega)); conv => whnf)
      | (refine sel_no ?_ ?_; (first | assumption | (simp only [beq_iff_eq, bne_iff_ne, beq_eq_false_iff_ne, bne_eq_false_iff_eq, decide_eq_true_eq, decide_eq_false_iff_not, Bool.not_eq_true', Bool.not_eq_false', ne_eq, beq_true, beq_false, bne_self_eq_false, not_true_eq_false, not_false_eq_true, gt_iff_lt, ge_iff_le, Int.not_lt, Int.not_le, Bool.true_eq_false, Bool.false_eq_true] <;> omega)); conv => whnf)
      | (refine ⟨le_rfl' ?_, ?_⟩; rfl; conv => whnf)
      | (refine ⟨⟨?_, ?_⟩, ?_⟩; omega; omega; conv => whnf)
      | (refine ⟨⟨?_, ?_, ?_⟩, ?_⟩; rfl; omega; omega; conv => whnf)
      | (refine ⟨rfl, ?_, ?_⟩; decide; conv => whnf))
    try exact rfl
    exact hq _ Y sY (by simp) ⟨rfl, rfl, rfl, rfl, rfl, trivial⟩ ha' (Nat.lt_of_lt_of_le hb (by (conv => lhs; whnf); (repeat ((conv => rhs; whnf); first | with_reducible exact Nat.le_refl _ | refine Nat.le_trans ?_ (Nat.le_add_right _ _) | refine Nat.le_succ_of_le ?_ | exact Nat.le_refl _))))
  have hX0 : 0 < X.length := List.length_pos_iff.2 hX
  have g : decide ((p.length : Int) < ((p.length + X.length : Nat) : Int)) = true := decide_eq_true (by omega)
  have g' : (decide ((p.length : Int) < ((p.length + X.length : Nat) : Int)) == true) = true := by rw [g]; rfl
  by_cases hY : Y = []
  · subst hY
    have g2 : decide (((p.length + X.length : Nat) : Int) < ((p.length + X.length + ([] : List T).length : Nat) : Int)) = false := decide_eq_false (by simp)
    have ha' : z.hp.a b = some ⟨v, 4, encL (p ++ X ++ s), cap, 0⟩ := by simpa using ha
    rw [St.knows _ z.hp.n ht rfl]
    conv => whnf
    repeat (first
      | (refine sel_yes ?_ ?_; (first | assumption | (simp only [beq_iff_eq, bne_iff_ne, beq_eq_false_iff_ne, bne_eq_false_iff_eq, decide_eq_true_eq, decide_eq_false_iff_not, Bool.not_eq_true', Bool.not_eq_false', ne_eq, beq_true, beq_false, bne_self_eq_false, not_true_eq_false, not_false_eq_true, gt_iff_lt, ge_iff_le, Int.not_lt, Int.not_le, Bool.true_eq_false, Bool.false_eq_true] <;> omega)); conv => whnf)
      | (refine sel_no ?_ ?_; (first | assumption | (simp only [beq_iff_eq, bne_iff_ne, beq_eq_false_iff_ne, bne_eq_false_iff_eq, decide_eq_true_eq, decide_eq_false_iff_not, Bool.not_eq_true', Bool.not_eq_false', ne_eq, beq_true, beq_false, bne_self_eq_false, not_true_eq_false, not_false_eq_true, gt_iff_lt, ge_iff_le, Int.not_lt, Int.not_le, Bool.true_eq_false, Bool.false_eq_true] <;> omega)); conv => whnf)
      | (refine ⟨le_rfl' ?_, ?_⟩; rfl; conv => whnf)
      | (refine ⟨⟨?_, ?_⟩, ?_⟩; omega; omega; conv => whnf)
      | (refine ⟨⟨?_, ?_, ?_⟩, ?_⟩; rfl; omega; omega; conv => whnf)
      | (refine ⟨rfl, ?_, ?_⟩; decide; conv => whnf))
    try exact rfl
    exact hq _ X sX (by simp) ⟨rfl, rfl, rfl, rfl, rfl, trivial⟩ ha' (Nat.lt_of_lt_of_le hb (by (conv => lhs; whnf); (repeat ((conv => rhs; whnf); first | with_reducible exact Nat.le_refl _ | refine Nat.le_trans ?_ (Nat.le_add_right _ _) | refine Nat.le_succ_of_le ?_ | exact Nat.le_refl _))))
  have hY0 : 0 < Y.length := List.length_pos_iff.2 hY
  have g2 : decide (((p.length + X.length : Nat) : Int) < ((p.length + X.length + Y.length : Nat) : Int)) = true := decide_eq_true (by omega)
  rw [St.knows _ z.hp.n ht rfl]
  conv => whnf
  repeat (first
    | (refine sel_yes ?_ ?_; (first | assumption | (simp only [beq_iff_eq, bne_iff_ne, beq_eq_false_iff_ne, bne_eq_false_iff_eq, decide_eq_true_eq, decide_eq_false_iff_not, Bool.not_eq_true', Bool.not_eq_false', ne_eq, beq_true, beq_false, bne_self_eq_false, not_true_eq_false, not_false_eq_true, gt_iff_lt, ge_iff_le, Int.not_lt, Int.not_le, Bool.true_eq_false, Bool.false_eq_true] <;> omega)); conv => whnf)
    | (refine sel_no ?_ ?_; (first | assumption | (simp only [beq_iff_eq, bne_iff_ne, beq_eq_false_iff_ne, bne_eq_false_iff_eq, decide_eq_true_eq, decide_eq_false_iff_not, Bool.not_eq_true', Bool.not_eq_false', ne_eq, beq_true, beq_false, bne_self_eq_false, not_true_eq_false, not_false_eq_true, gt_iff_lt, ge_iff_le, Int.not_lt, Int.not_le, Bool.true_eq_false, Bool.false_eq_true] <;> omega)); conv => whnf)
    | (refine ⟨le_rfl' ?_, ?_⟩; rfl; conv => whnf)
    | (refine ⟨⟨?_, ?_⟩, ?_⟩; omega; omega; conv => whnf)
    | (refine ⟨⟨?_, ?_, ?_⟩, ?_⟩; rfl; omega; omega; conv => whnf)
    | (refine ⟨rfl, ?_, ?_⟩; decide; conv => whnf))
  try exact rfl
  refine ih.use hG hN hlen hX0 hY0 sX sY (by rw [ef]; rfl) ha (Nat.lt_of_lt_of_le hb (by (conv => lhs; whnf); (repeat ((conv => rhs; whnf); first | with_reducible exact Nat.le_refl _ | refine Nat.le_trans ?_ (Nat.le_add_right _ _) | refine Nat.le_succ_of_le ?_ | exact Nat.le_refl _)))) (fun hp' Z q1 q2 q3 q4 => ?_)
  conv => whnf
  exact hq _ Z q1 q2 ⟨rfl, rfl, rfl, rfl, rfl, trivial⟩ q3 q4
/-- the left half, and the right half -/
theorem smL (o : Nat) (h5 : o ≤ 5) (N b v : Nat) (hN : N ≤ 65536) (cap : Option Nat) (p X1 Y1 X2 Y2 s : List T) (hG : Gd (p ++ X1 ++ Y1 ++ (X2 ++ Y2 ++ s))) (hlen : (p ++ X1 ++ Y1 ++ (X2 ++ Y2 ++ s)).length = N) (sX1 : Le (ordF ext o) X1) (sY1 : Le (ordF ext o) Y1) (sX2 : Le (ordF ext o) X2) (sY2 : Le (ordF ext o) Y2) (ih1 : SM ext o X1 Y1) (ih2 : SM ext o X2 Y2) (z : St) (K : Ex → St → Prop)
    (ht : Has z.t [(0, .rsl false b v 0 N), (1, .int .i64 p.length), (3, .int .i64 ((p.length + X1.length + Y1.length + X2.length + Y2.length : Nat) : Int)), (4, rowOf o), (18, .int .i64 ((p.length + X1.length + Y1.length : Nat) : Int)), (20, .int .i64 ((p.length + X1.length : Nat) : Int)), (24, .int .i64 ((p.length + X1.length + Y1.length + X2.length : Nat) : Int))]) (ha : z.hp.a b = some ⟨v, 4, encL (p ++ X1 ++ Y1 ++ (X2 ++ Y2 ++ s)), cap, 0⟩) (hb : b < z.hp.m)
    (hq : ∀ (z' : St) (Z1 Z2 : List T), Le (ordF ext o) Z1 → Le (ordF ext o) Z2 → Z1.Perm (X1 ++ Y1) → Z2.Perm (X2 ++ Y2) → z'.hp.a b = some ⟨v, 4, encL (p ++ (Z1 ++ Z2) ++ s), cap, 0⟩ → b < z'.hp.m → K .normal z') :
    xCode (cfg ext) (atP (bodyOf Tryd.f47) [true, true, true, true, true, true, true, true, true, true]) z K := by
  refine smLeft o h5 N b v hN cap p X1 Y1 (X2 ++ Y2 ++ s) _ _ hG hlen sX1 sY1 ih1 z _ ht ha hb (fun z2 Z1 s1 p1 ht2 ha2 hb2 => ?_)
  have hl := p1.length_eq
  simp only [List.length_append] at hl
  have el : (p ++ Z1).length = p.length + X1.length + Y1.length := by simp only [List.length_append]; omega
  have er : p ++ Z1 ++ (X2 ++ Y2 ++ s) = (p ++ Z1) ++ X2 ++ Y2 ++ s := by simp
  rw [er] at ha2
  refine smR o h5 N b v hN cap (p ++ Z1) X2 Y2 s (hG.perm ?_) ?_ sX2 sY2 ih2 z2 K ?_ ha2 hb2 (fun z' Z2 k1 k2 k3 k4 => hq z' Z1 Z2 s1 k1 p1 k2 (by rw [k3]; simp) k4)
  · rw [← er, show p ++ X1 ++ Y1 ++ (X2 ++ Y2 ++ s) = p ++ (X1 ++ Y1) ++ (X2 ++ Y2 ++ s) by simp]
    exact List.Perm.append_right _ (List.Perm.append_left _ p1)
  · rw [← hlen]; simp only [List.length_append]; omega
  · rw [el]; exact ht2
end
end Go.Proofs.YtehajklneljbgaaDoor.AB
end

section
set_option linter.unusedVariables false
set_option linter.unusedSimpArgs false
open Go Go.Ab Go.Proofs Go.Vl
namespace Go.Proofs.YtehajklneljbgaaDoor.AB
set_option maxRecDepth 100000
set_option maxHeartbeats 16000000
set_option linter.unusedSimpArgs false
set_option linter.unusedVariables false
section
variable {ext : Exts}
theorem lmv1 (N b v : Nat) (hN : N ≤ 65536) (cap : Option Nat) (p R : List T) (c : T) (Q : Ex → St → Prop) (n : Nat) :
    ∀ (W Z : List T) (z : St), (p ++ Z ++ c :: (W ++ R)).length = N → Has z.t [(0, .rsl false b v 0 N), (10, .int .i64 ((p.length + Z.length + 1 + W.length : Nat) : Int)), (13, .int .i64 ((p.length + Z.length : Nat) : Int))] → z.hp.n = n →
      z.hp.a b = some ⟨v, 4, encL (p ++ Z ++ c :: (W ++ R)), cap, 0⟩ → b < z.hp.m →
      (∀ z' : St, z'.hp.a b = some ⟨v, 4, encL (p ++ (Z ++ W) ++ c :: R), cap, 0⟩ → b < z'.hp.m → Q (.exit 2) z') →
      Go.Ab.Loop (cfg ext) (lpN Tryd.f47 1) n z Q := by
  intro W
  induction W with
  | nil =>
    intro Z z hlen ht hz ha hb hq
    simp only [List.length_append, List.length_cons, List.length_nil] at hlen
    have w1 : IntKind.i64.wrap (((p.length + Z.length + 1 + ([] : List T).length : Nat) : Int) - 1) = ((p.length + Z.length : Nat) : Int) := by rw [IntKind.wrap_i64]; simp; omega
    have g : decide (((p.length + Z.length : Nat) : Int) < IntKind.i64.wrap (((p.length + Z.length + 1 + ([] : List T).length : Nat) : Int) - 1)) = false := decide_eq_false (by rw [w1]; omega)
    have ha' : z.hp.a b = some ⟨v, 4, encL (p ++ (Z ++ []) ++ c :: R), cap, 0⟩ := by simpa using ha
    rw [St.knows _ _ ht hz]
    refine Loop.round ?_
    conv => whnf
    refine sel_no g ?_
    conv => whnf
    exact hq _ ha' (Nat.lt_of_lt_of_le hb (by (conv => lhs; whnf); (repeat ((conv => rhs; whnf); first | with_reducible exact Nat.le_refl _ | refine Nat.le_trans ?_ (Nat.le_add_right _ _) | refine Nat.le_succ_of_le ?_ | exact Nat.le_refl _))))
  | cons w W ih =>
    intro Z z hlen ht hz ha hb hq
    have hlen' := hlen
    simp only [List.length_append, List.length_cons] at hlen'
    simp only [List.length_cons] at ht
    have w1 : IntKind.i64.wrap (((p.length + Z.length + 1 + (W.length + 1) : Nat) : Int) - 1) = ((p.length + Z.length + 1 + W.length : Nat) : Int) := by rw [IntKind.wrap_i64]; omega
    have g : decide (((p.length + Z.length : Nat) : Int) < IntKind.i64.wrap (((p.length + Z.length + 1 + (W.length + 1) : Nat) : Int) - 1)) = true := decide_eq_true (by rw [w1]; omega)
    have w2 : IntKind.i64.wrap (((p.length + Z.length : Nat) : Int) + 1) = ((p.length + Z.length + 1 : Nat) : Int) := by rw [IntKind.wrap_i64]; omega
    have r1 : (p ++ Z ++ c :: (w :: W ++ R))[p.length + Z.length]? = some c := getq (by simp)
    have r2 : (p ++ Z ++ c :: (w :: W ++ R))[p.length + Z.length + 1]? = some w := by
      rw [show p ++ Z ++ c :: (w :: W ++ R) = (p ++ Z ++ [c]) ++ w :: (W ++ R) by simp]; exact getq (by simp; omega)
    have s1 : (p ++ Z ++ c :: (w :: W ++ R)).set (p.length + Z.length) w = (p ++ Z ++ [w]) ++ w :: (W ++ R) := by
      rw [setq (by simp)]; simp
    have s2 : ((p ++ Z ++ [w]) ++ w :: (W ++ R)).set (p.length + Z.length + 1) c = p ++ (Z ++ [w]) ++ c :: (W ++ R) := by
      rw [setq (by simp; omega)]; simp
    have b1 : p.length + Z.length < N := by omega
    have b2 : p.length + Z.length + 1 < N := by omega
    rw [St.knows _ _ ht hz]
    refine Loop.round ?_
    conv => whnf
    refine sel_yes g ?_
    conv => whnf
    refine ⟨bnd w2 b2, ?_⟩
    conv => whnf
    refine ldR ha (fun l hl => by cases hl; exact Nat.lt_of_lt_of_le hb (by (conv => lhs; whnf); (repeat ((conv => rhs; whnf); first | with_reducible exact Nat.le_refl _ | refine Nat.le_trans ?_ (Nat.le_add_right _ _) | refine Nat.le_succ_of_le ?_ | exact Nat.le_refl _)))) w2 r2 ?_
    conv => whnf
    refine ⟨bnd rfl b1, ?_⟩
    conv => whnf
    refine ldR ha (fun l hl => by cases hl; exact Nat.lt_of_lt_of_le hb (by (conv => lhs; whnf); (repeat ((conv => rhs; whnf); first | with_reducible exact Nat.le_refl _ | refine Nat.le_trans ?_ (Nat.le_add_right _ _) | refine Nat.le_succ_of_le ?_ | exact Nat.le_refl _)))) rfl r1 ?_
    conv => whnf
    refine ⟨bnd rfl b1, ?_⟩
    conv => whnf
    refine stR ha rfl (by rw [hlen]; exact b1) (fun a1 h1 => ?_)
    rw [s1] at h1
    conv => whnf
    refine ⟨bnd w2 b2, ?_⟩
    conv => whnf
    refine stR h1 w2 (by simp only [List.length_append, List.length_cons, List.length_nil]; omega) (fun a2 h2 => ?_)
    rw [s2] at h2
    conv => whnf
    refine ih (Z ++ [w]) _ (by simp only [List.length_append, List.length_cons, List.length_nil]; omega) ⟨rfl, ?_, ?_, trivial⟩ rfl (trunc_arr h2) (Nat.lt_of_lt_of_le hb (by (conv => lhs; whnf); (repeat ((conv => rhs; whnf); first | with_reducible exact Nat.le_refl _ | refine Nat.le_trans ?_ (Nat.le_add_right _ _) | refine Nat.le_succ_of_le ?_ | exact Nat.le_refl _)))) (fun z' k1 => hq z' (by rw [k1]; simp))
    · exact vi (by simp only [List.length_append, List.length_cons, List.length_nil]; omega)
    · conv => lhs; whnf
      exact vi (by rw [w2]; simp only [List.length_append, List.length_cons, List.length_nil]; omega)
theorem lmv3 (N b v : Nat) (hN : N ≤ 65536) (cap : Option Nat) (p : List T) (c : T) (Q : Ex → St → Prop) (n : Nat) (d : Nat) :
    ∀ (W R : List T) (z : St), W.length = d → (p ++ W ++ c :: R).length = N → Has z.t [(0, .rsl false b v 0 N), (14, .int .i64 p.length), (17, .int .i64 ((p.length + W.length : Nat) : Int))] → z.hp.n = n →
      z.hp.a b = some ⟨v, 4, encL (p ++ W ++ c :: R), cap, 0⟩ → b < z.hp.m →
      (∀ z' : St, z'.hp.a b = some ⟨v, 4, encL (p ++ c :: (W ++ R)), cap, 0⟩ → b < z'.hp.m → Q (.exit 6) z') →
      Go.Ab.Loop (cfg ext) (lpN Tryd.f47 3) n z Q := by
  induction d with
  | zero =>
    intro W R z hW hlen ht hz ha hb hq
    obtain rfl := List.eq_nil_of_length_eq_zero hW
    have g : decide (((p.length + ([] : List T).length : Nat) : Int) > (p.length : Int)) = false := decide_eq_false (by simp)
    have ha' : z.hp.a b = some ⟨v, 4, encL (p ++ c :: ([] ++ R)), cap, 0⟩ := by simpa using ha
    rw [St.knows _ _ ht hz]
    refine Loop.round ?_
    conv => whnf
    refine sel_no g ?_
    conv => whnf
    exact hq _ ha' (Nat.lt_of_lt_of_le hb (by (conv => lhs; whnf); (repeat ((conv => rhs; whnf); first | with_reducible exact Nat.le_refl _ | refine Nat.le_trans ?_ (Nat.le_add_right _ _) | refine Nat.le_succ_of_le ?_ | exact Nat.le_refl _))))
  | succ d ih =>
    intro W R z hW hlen ht hz ha hb hq
    obtain ⟨U, y, rfl⟩ : ∃ U y, W = U ++ [y] := by
      rcases List.eq_nil_or_concat W with rfl | ⟨U, y, rfl⟩
      · simp at hW
      · exact ⟨U, y, by simp⟩
    simp only [List.length_append, List.length_cons, List.length_nil] at hW ht
    have hlen' := hlen
    simp only [List.length_append, List.length_cons, List.length_nil] at hlen'
    have g : decide (((p.length + (U.length + (0 + 1)) : Nat) : Int) > (p.length : Int)) = true := decide_eq_true (by omega)
    have w1 : IntKind.i64.wrap (((p.length + (U.length + (0 + 1)) : Nat) : Int) - 1) = ((p.length + U.length : Nat) : Int) := by rw [IntKind.wrap_i64]; omega
    have r1 : (p ++ (U ++ [y]) ++ c :: R)[p.length + (U.length + (0 + 1))]? = some c := getq (by simp)
    have r2 : (p ++ (U ++ [y]) ++ c :: R)[p.length + U.length]? = some y := by
      rw [show p ++ (U ++ [y]) ++ c :: R = (p ++ U) ++ y :: c :: R by simp]; exact getq (by simp)
    have b1 : p.length + (U.length + (0 + 1)) < N := by omega
    have b2 : p.length + U.length < N := by omega
    have s1 : (p ++ (U ++ [y]) ++ c :: R).set (p.length + (U.length + (0 + 1))) y = (p ++ U) ++ y :: y :: R := by
      rw [setq (by simp)]; simp
    have s2 : ((p ++ U) ++ y :: y :: R).set (p.length + U.length) c = p ++ U ++ c :: (y :: R) := by
      rw [setq (by simp)]
    rw [St.knows _ _ ht hz]
    refine Loop.round ?_
    conv => whnf
    refine sel_yes g ?_
    conv => whnf
    refine ⟨bnd w1 b2, ?_⟩
    conv => whnf
    refine ldR ha (fun l hl => by cases hl; exact Nat.lt_of_lt_of_le hb (by (conv => lhs; whnf); (repeat ((conv => rhs; whnf); first | with_reducible exact Nat.le_refl _ | refine Nat.le_trans ?_ (Nat.le_add_right _ _) | refine Nat.le_succ_of_le ?_ | exact Nat.le_refl _)))) w1 r2 ?_
    conv => whnf
    refine ⟨bnd rfl b1, ?_⟩
    conv => whnf
    refine ldR ha (fun l hl => by cases hl; exact Nat.lt_of_lt_of_le hb (by (conv => lhs; whnf); (repeat ((conv => rhs; whnf); first | with_reducible exact Nat.le_refl _ | refine Nat.le_trans ?_ (Nat.le_add_right _ _) | refine Nat.le_succ_of_le ?_ | exact Nat.le_refl _)))) rfl r1 ?_
    conv => whnf
    refine ⟨bnd rfl b1, ?_⟩
    conv => whnf
    refine stR ha rfl (by rw [hlen]; exact b1) (fun a1 h1 => ?_)
    rw [s1] at h1
    conv => whnf
    refine ⟨bnd w1 b2, ?_⟩
    conv => whnf
    refine stR h1 w1 (by simp only [List.length_append, List.length_cons]; omega) (fun a2 h2 => ?_)
    rw [s2] at h2
    conv => whnf
    refine ih U (y :: R) _ (by omega) (by simp only [List.length_append, List.length_cons]; omega) ⟨rfl, rfl, ?_, trivial⟩ rfl (trunc_arr h2) (Nat.lt_of_lt_of_le hb (by (conv => lhs; whnf); (repeat ((conv => rhs; whnf); first | with_reducible exact Nat.le_refl _ | refine Nat.le_trans ?_ (Nat.le_add_right _ _) | refine Nat.le_succ_of_le ?_ | exact Nat.le_refl _)))) (fun z' k1 => hq z' (by rw [k1]; simp))
    conv => lhs; whnf
    exact vi w1
/-- the turn in the middle -/
theorem smRot (o : Nat) (h5 : o ≤ 5) (N b v : Nat) (hN : N ≤ 65536) (cap : Option Nat) (q X Y s : List T) (e1 e3 e18 : Int) (hlen : (q ++ X ++ Y ++ s).length = N) (z : St) (K : Ex → St → Prop)
    (ht : Has z.t [(0, .rsl false b v 0 N), (1, .int .i64 e1), (2, .int .i64 ((q.length + X.length : Nat) : Int)), (3, .int .i64 e3), (4, rowOf o), (18, .int .i64 e18), (20, .int .i64 q.length), (24, .int .i64 ((q.length + X.length + Y.length : Nat) : Int))]) (ha : z.hp.a b = some ⟨v, 4, encL (q ++ X ++ Y ++ s), cap, 0⟩) (hb : b < z.hp.m)
    (hq : ∀ (z' : St), Has z'.t [(0, .rsl false b v 0 N), (1, .int .i64 e1), (3, .int .i64 e3), (4, rowOf o), (18, .int .i64 e18), (20, .int .i64 q.length), (24, .int .i64 ((q.length + X.length + Y.length : Nat) : Int))] → z'.hp.a b = some ⟨v, 4, encL (q ++ Y ++ X ++ s), cap, 0⟩ → b < z'.hp.m → K .normal z') :
    xCode (cfg ext) (atP (bodyOf Tryd.f47) [true, true, true, true, true, true, true, true, true, false]) z K := by
  have hc := row_clean o h5
  obtain ⟨fk, fc, ef⟩ := row_fn o h5
  rw [ef] at ht hq
  by_cases hX : X = []
  · subst hX
    have g : decide ((q.length : Int) < ((q.length + ([] : List T).length : Nat) : Int)) = false := decide_eq_false (by simp)
    have g' : (decide ((q.length : Int) < ((q.length + ([] : List T).length : Nat) : Int)) == true) = false := by rw [g]; rfl
    have ha' : z.hp.a b = some ⟨v, 4, encL (q ++ Y ++ [] ++ s), cap, 0⟩ := by simpa using ha
    rw [St.knows _ z.hp.n ht rfl]
    conv => whnf
    repeat (first
      | (refine sel_yes ?_ ?_; (first | assumption | (simp only [beq_iff_eq, bne_iff_ne, beq_eq_false_iff_ne, bne_eq_false_iff_eq, decide_eq_true_eq, decide_eq_false_iff_not, Bool.not_eq_true', Bool.not_eq_false', ne_eq, beq_true, beq_false, bne_self_eq_false, not_true_eq_false, not_false_eq_true, gt_iff_lt, ge_iff_le, Int.not_lt, Int.not_le, Bool.true_eq_false, Bool.false_eq_true] <;> omega)); conv => whnf)
      | (refine sel_no ?_ ?_; (first | assumption | (simp only [beq_iff_eq, bne_iff_ne, beq_eq_false_iff_ne, bne_eq_false_iff_eq, decide_eq_true_eq, decide_eq_false_iff_not, Bool.not_eq_true', Bool.not_eq_false', ne_eq, beq_true, beq_false, bne_self_eq_false, not_true_eq_false, not_false_eq_true, gt_iff_lt, ge_iff_le, Int.not_lt, Int.not_le, Bool.true_eq_false, Bool.false_eq_true] <;> omega)); conv => whnf)
      | (refine ⟨le_rfl' ?_, ?_⟩; rfl; conv => whnf)
      | (refine ⟨⟨?_, ?_⟩, ?_⟩; omega; omega; conv => whnf)
      | (refine ⟨⟨?_, ?_, ?_⟩, ?_⟩; rfl; omega; omega; conv => whnf)
      | (refine ⟨rfl, ?_, ?_⟩; decide; conv => whnf))
    try exact rfl
    exact hq _ ⟨rfl, rfl, rfl, rfl, rfl, rfl, rfl, trivial⟩ ha' (Nat.lt_of_lt_of_le hb (by (conv => lhs; whnf); (repeat ((conv => rhs; whnf); first | with_reducible exact Nat.le_refl _ | refine Nat.le_trans ?_ (Nat.le_add_right _ _) | refine Nat.le_succ_of_le ?_ | exact Nat.le_refl _))))
  have hX0 : 0 < X.length := List.length_pos_iff.2 hX
  have g : decide ((q.length : Int) < ((q.length + X.length : Nat) : Int)) = true := decide_eq_true (by omega)
  have g' : (decide ((q.length : Int) < ((q.length + X.length : Nat) : Int)) == true) = true := by rw [g]; rfl
  by_cases hY : Y = []
  · subst hY
    have g2 : decide (((q.length + X.length : Nat) : Int) < ((q.length + X.length + ([] : List T).length : Nat) : Int)) = false := decide_eq_false (by simp)
    have ha' : z.hp.a b = some ⟨v, 4, encL (q ++ [] ++ X ++ s), cap, 0⟩ := by simpa using ha
    rw [St.knows _ z.hp.n ht rfl]
    conv => whnf
    repeat (first
      | (refine sel_yes ?_ ?_; (first | assumption | (simp only [beq_iff_eq, bne_iff_ne, beq_eq_false_iff_ne, bne_eq_false_iff_eq, decide_eq_true_eq, decide_eq_false_iff_not, Bool.not_eq_true', Bool.not_eq_false', ne_eq, beq_true, beq_false, bne_self_eq_false, not_true_eq_false, not_false_eq_true, gt_iff_lt, ge_iff_le, Int.not_lt, Int.not_le, Bool.true_eq_false, Bool.false_eq_true] <;> omega)); conv => whnf)
      | (refine sel_no ?_ ?_; (first | assumption | (simp only [beq_iff_eq, bne_iff_ne, beq_eq_false_iff_ne, bne_eq_false_iff_eq, decide_eq_true_eq, decide_eq_false_iff_not, Bool.not_eq_true', Bool.not_eq_false', ne_eq, beq_true, beq_false, bne_self_eq_false, not_true_eq_false, not_false_eq_true, gt_iff_lt, ge_iff_le, Int.not_lt, Int.not_le, Bool.true_eq_false, Bool.false_eq_true] <;> omega)); conv => whnf)
      | (refine ⟨le_rfl' ?_, ?_⟩; rfl; conv => whnf)
      | (refine ⟨⟨?_, ?_⟩, ?_⟩; omega; omega; conv => whnf)
      | (refine ⟨⟨?_, ?_, ?_⟩, ?_⟩; rfl; omega; omega; conv => whnf)
      | (refine ⟨rfl, ?_, ?_⟩; decide; conv => whnf))
    try exact rfl
    exact hq _ ⟨rfl, rfl, rfl, rfl, rfl, rfl, rfl, trivial⟩ ha' (Nat.lt_of_lt_of_le hb (by (conv => lhs; whnf); (repeat ((conv => rhs; whnf); first | with_reducible exact Nat.le_refl _ | refine Nat.le_trans ?_ (Nat.le_add_right _ _) | refine Nat.le_succ_of_le ?_ | exact Nat.le_refl _))))
  have hY0 : 0 < Y.length := List.length_pos_iff.2 hY
  have g2 : decide (((q.length + X.length : Nat) : Int) < ((q.length + X.length + Y.length : Nat) : Int)) = true := decide_eq_true (by omega)
  have hr := trot (ext := ext) fk fc (fun n => by rw [← ef]; exact hc n) b v cap q X Y s hX0 hY0 (by omega)
  rw [hlen] at hr
  rw [St.knows _ z.hp.n ht rfl]
  conv => whnf
  repeat (first
    | (refine sel_yes ?_ ?_; (first | assumption | (simp only [beq_iff_eq, bne_iff_ne, beq_eq_false_iff_ne, bne_eq_false_iff_eq, decide_eq_true_eq, decide_eq_false_iff_not, Bool.not_eq_true', Bool.not_eq_false', ne_eq, beq_true, beq_false, bne_self_eq_false, not_true_eq_false, not_false_eq_true, gt_iff_lt, ge_iff_le, Int.not_lt, Int.not_le, Bool.true_eq_false, Bool.false_eq_true] <;> omega)); conv => whnf)
    | (refine sel_no ?_ ?_; (first | assumption | (simp only [beq_iff_eq, bne_iff_ne, beq_eq_false_iff_ne, bne_eq_false_iff_eq, decide_eq_true_eq, decide_eq_false_iff_not, Bool.not_eq_true', Bool.not_eq_false', ne_eq, beq_true, beq_false, bne_self_eq_false, not_true_eq_false, not_false_eq_true, gt_iff_lt, ge_iff_le, Int.not_lt, Int.not_le, Bool.true_eq_false, Bool.false_eq_true] <;> omega)); conv => whnf)
    | (refine ⟨le_rfl' ?_, ?_⟩; rfl; conv => whnf)
    | (refine ⟨⟨?_, ?_⟩, ?_⟩; omega; omega; conv => whnf)
    | (refine ⟨⟨?_, ?_, ?_⟩, ?_⟩; rfl; omega; omega; conv => whnf)
    | (refine ⟨rfl, ?_, ?_⟩; decide; conv => whnf))
  try exact rfl
  refine SR.use hr ha (Nat.lt_of_lt_of_le hb (by (conv => lhs; whnf); (repeat ((conv => rhs; whnf); first | with_reducible exact Nat.le_refl _ | refine Nat.le_trans ?_ (Nat.le_add_right _ _) | refine Nat.le_succ_of_le ?_ | exact Nat.le_refl _)))) (fun hp' q1 q2 => ?_)
  conv => whnf
  exact hq _ ⟨rfl, rfl, rfl, rfl, rfl, rfl, rfl, trivial⟩ q1 q2
end
end Go.Proofs.YtehajklneljbgaaDoor.AB
end
