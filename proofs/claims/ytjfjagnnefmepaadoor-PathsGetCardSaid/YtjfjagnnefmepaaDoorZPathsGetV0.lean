/- What PathsGet is proved with: what the program's functions make of their arguments, by the evaluator. -/
import Derived.Test.YtjfjagnnefmepaaDoorProg
import Derived.Test.YtjfjagnnefmepaaDoorZPathsGetA1
import Derived.Test.YtjfjagnnefmepaaDoorZPathsGetA2
import Derived.Test.YtjfjagnnefmepaaDoorZPathsGetL0
import Derived.KernelRfl
import Derived.Test.YtjfjagnnefmepaaDoorChecked
import Derived.Test.YtjfjagnnefmepaaDoorShelf
import Derived.Lib.LaidU8T
import Derived.Lib.LaidIn
section
set_option linter.unusedVariables false
set_option linter.unusedSimpArgs false
open Go Go.Ab Go.Proofs Go.Vl
namespace Go.Proofs.YtjfjagnnefmepaaDoor.AB
mutual
def enc : T → List V
  | ⟨a, b, c, l⟩ => [.int .i64 a, .int .i64 b, .str c, .sl false (encL l) l.length]
def encL : List T → List V
  | [] => []
  | v :: l => enc v ++ encL l
end
def A (v : T) : V := .agg [.int .i64 v.f0, .int .i64 v.f1, .str v.f2, .sl false (encL v.f3) v.f3.length]
theorem enc_eq (v : T) : enc v = [.int .i64 v.f0, .int .i64 v.f1, .str v.f2, .sl false (encL v.f3) v.f3.length] := by cases v; simp only [enc]
theorem encL_len : ∀ l : List T, (encL l).length = l.length * 4
  | [] => by simp only [encL]; rfl
  | v :: l => by simp only [encL, List.length_append, encL_len l, enc_eq, List.length_cons, List.length_nil]; omega
theorem encL_drop : ∀ (l : List T) (i : Nat), (encL l).drop (i * 4) = encL (l.drop i)
  | l, 0 => by simp
  | [], i + 1 => by simp [encL]
  | v :: l, i + 1 => by
    have : (i + 1) * 4 = 4 + i * 4 := by omega
    rw [this, List.drop_drop.symm, List.drop_succ_cons, ← encL_drop l i]
    simp only [encL, enc_eq]
    rfl
theorem subL {l : List T} {i : Nat} (h : i < l.length) : sub (encL l) (i * 4) 4 = enc l[i] := by
  unfold sub
  rw [encL_drop, List.drop_eq_getElem_cons h]
  simp only [encL, enc_eq]
  rfl
theorem oneA (v : T) : one (some true) (enc v) = some (A v) := by rw [enc_eq]; rfl
/-- an element, read -/
theorem ldA {l : List T} {i : Nat} {Q : V → Prop} (h : i < l.length) (hq : Q (A l[i])) : i * 4 + 4 ≤ (encL l).length ∧ opt (one (some true) (sub (encL l) (i * 4) 4)) fun v => fv v Q := by
  refine ⟨by rw [encL_len]; omega, ?_⟩
  rw [subL h, oneA]
  exact (fv_eq _ _).2 hq
theorem Ev.cast {C : Cfg} {f : Nat} {xs : List V} {r r1 : V} (h : C.Ev f xs r) (e : r = r1) : C.Ev f xs r1 := e ▸ h
theorem sel_yes {t : Bool} {A B : Prop} (h : t = true) (a : A) : sel t A B := by rw [h]; exact a
theorem sel_no {t : Bool} {A B : Prop} (h : t = false) (b : B) : sel t A B := by rw [h]; exact b
def firstLoop : Code → Option Code
  | .seq a b => match firstLoop a with | some c => some c | none => firstLoop b
  | .cond _ a b => match firstLoop a with | some c => some c | none => firstLoop b
  | .block _ c => firstLoop c
  | .scope c => firstLoop c
  | .loop c => some c
  | _ => none
def lpOf (f : Func) : Code := match f.body with | some b => (match firstLoop b with | some c => c | none => .skip) | none => .skip
/-- what is known of a state's slots -/
def Has {α : Type} (t : Nat → α) : List (Nat × α) → Prop
  | [] => True
  | p :: L => t p.1 = p.2 ∧ Has t L
def updL {α : Type} (t : Nat → α) : List (Nat × α) → Nat → α
  | [] => t
  | p :: L => upd (updL t L) p.1 p.2
theorem updL_has {α : Type} (t : Nat → α) : ∀ L, Has t L → updL t L = t
  | [], _ => rfl
  | p :: L, h => by
    rw [updL, updL_has t L h.2]
    funext j
    unfold upd
    split
    · rename_i e; rw [e]; exact h.1.symm
    · rfl
theorem St.knows {s : St} (L : List (Nat × V)) (n : Nat) (h : Has s.t L) (hn : s.hp.n = n) (B : List (Nat × Option Bx) := []) (hB : Has s.hp.h B := by trivial) : s = ⟨updL s.t L, ⟨updL s.hp.h B, n, s.hp.a, s.hp.m⟩⟩ := by
  rw [updL_has _ _ h, updL_has _ _ hB, ← hn]
def okF (f : Nat) : Bool := match f with
  | 27 | 53 | 56 | 58 | 67 | 102 | 119 => false
  | f => Nat.blt f 122
def byref (f : Nat) : Bool := match f with
  | 56 | 58 | 67 | 68 => true
  | _ => false
def extR (f : Nat) : Option (List V → Hp → Option (V × Hp)) := match f with
  | 56 => some (cloneR 4 56)
  | 58 => some (insR 4 56)
  | 67 => some (delR 4 56)
  | _ => none
noncomputable def cfg (ext : Exts) : Cfg := ⟨Tryd.prog, okF, ext, extR, byref⟩
def cmp3 (x y : Int) : Int := if x < y then -1 else if x > y then 1 else 0
theorem le_rfl' {a b : Nat} (h : Nat.ble a b = true) : a ≤ b := Nat.le_of_ble_eq_true h
theorem vi {k : IntKind} {a b : Int} (h : a = b) : V.int k a = V.int k b := by rw [h]
set_option maxRecDepth 100000
section
variable {ext : Exts}
theorem t33 (h0 : ext 113 = none) (x : Int) : (cfg ext).Ev 113 [.int .i64 x] (.bool false) := by
  refine Ev.of h0 Tryd.func113 rfl rfl ?_
  conv => whnf
  exact congrArg V.bool (by simp)
theorem t34 (h0 : ext 114 = none) (x : Int) : (cfg ext).Ev 114 [.int .i64 x] (.bool false) := by
  refine Ev.of h0 Tryd.func114 rfl rfl ?_
  conv => whnf
  exact congrArg V.bool (by simp)
theorem t24 (h0 : ext 113 = none) (h1 : ext 100 = none) (x y : Int) : (cfg ext).Ev 100 [.int .i64 x, .int .i64 y] (.int .i64 (cmp3 x y)) := by
  refine Ev.of h1 Tryd.func100 rfl rfl ?_
  conv => whnf
  refine ⟨_, t33 h0 x, ?_⟩
  conv => whnf
  refine ⟨_, t33 h0 y, ?_⟩
  conv => whnf
  refine sel_split (fun h => ?_) (fun h => ?_)
  · conv => whnf
    exact vi (by simp at h; simp [cmp3, h])
  · conv => whnf
    refine sel_split (fun h' => ?_) (fun h' => ?_)
    · conv => whnf
      exact vi (by simp at h h'; simp [cmp3, h']; omega)
    · conv => whnf
      exact vi (by simp at h h'; simp [cmp3]; omega)
theorem t25 (h0 : ext 114 = none) (h1 : ext 101 = none) (x y : Int) : (cfg ext).Ev 101 [.int .i64 x, .int .i64 y] (.int .i64 (cmp3 x y)) := by
  refine Ev.of h1 Tryd.func101 rfl rfl ?_
  conv => whnf
  refine ⟨_, t34 h0 x, ?_⟩
  conv => whnf
  refine ⟨_, t34 h0 y, ?_⟩
  conv => whnf
  refine sel_split (fun h => ?_) (fun h => ?_)
  · conv => whnf
    exact vi (by simp at h; simp [cmp3, h])
  · conv => whnf
    refine sel_split (fun h' => ?_) (fun h' => ?_)
    · conv => whnf
      exact vi (by simp at h h'; simp [cmp3, h']; omega)
    · conv => whnf
      exact vi (by simp at h h'; simp [cmp3]; omega)
def awy (n : Int) : Int := if n < 0 then IntKind.u64.wrap (0 - IntKind.u64.wrap n) else IntKind.u64.wrap n
end
end Go.Proofs.YtjfjagnnefmepaaDoor.AB
end

section
set_option linter.unusedVariables false
set_option linter.unusedSimpArgs false
open Go Go.Ab Go.Proofs Go.Vl
namespace Go.Proofs.YtjfjagnnefmepaaDoor.AB
set_option maxRecDepth 100000
section
variable {ext : Exts}
theorem wrap_add1 {i : Nat} (h : i + 1 ≤ 9223372036854775807) : IntKind.i64.wrap ((i : Int) + 1) = ((i + 1 : Nat) : Int) := by
  rw [IntKind.wrap_i64]; omega
def k27 (l m : List T) (i : Nat) : List (Nat × V) := [(13, .int .i64 i), (12, .int .i64 l.length), (11, .sl false (encL l) l.length), (1, .sl false (encL m) m.length), (0, .sl false (encL l) l.length), (2, .fn 78 [])]
theorem l27 (l m : List T) (hl : l.length ≤ 9223372036854775807) (E : ∀ a ∈ l, ∀ b ∈ m, (cfg ext).Ev 78 [A a, A b] (.int .i64 (cmpV a b))) (Q : Ex → St → Prop) (d : Nat) :
    ∀ (i : Nat) (s : St), l.length - i = d → i ≤ l.length → i ≤ m.length → Has s.t (k27 l m i) → s.hp.n = 4 →
      (∀ s', s'.t 6 = .int .i64 (cmpL (l.drop i) (m.drop i)) → Q .ret s') →
      (∀ s', s'.t 0 = .sl false (encL l) l.length → s'.t 1 = .sl false (encL m) m.length → l.length ≤ m.length → cmpL (l.drop i) (m.drop i) = cmpL [] (m.drop l.length) → Q (.exit 0) s') →
      Go.Ab.Loop (cfg ext) (lpOf Tryd.f103) 4 s Q := by
  induction d with
  | zero =>
    intro i s hd hi him hs en hr hq
    obtain rfl : i = l.length := by omega
    rw [St.knows _ _ hs en]
    refine Loop.round ?_
    conv => whnf
    refine sel_split (fun h => ?_) (fun h => ?_)
    · simp at h
    conv => whnf
    exact hq _ rfl rfl him (by rw [List.drop_length])
  | succ d ih =>
    intro i s hd hi him hs en hr hq
    rw [St.knows _ _ hs en]
    refine Loop.round ?_
    conv => whnf
    refine sel_split (fun h => ?_) (fun h => ?_)
    · have hlt : i < l.length := by simpa using h
      have eD := List.drop_eq_getElem_cons hlt
      conv => whnf
      refine ⟨⟨by omega, by omega⟩, ?_⟩
      conv => whnf
      refine ldA (i := i) hlt ?_
      conv => whnf
      refine sel_split (fun h2 => ?_) (fun h2 => ?_)
      · conv => whnf
        have : m.length = i := by simp at h2; omega
        exact hr _ (vi (by rw [eD, show m.drop i = [] from List.drop_eq_nil_of_le (by omega), cmpL]))
      have hlt2 : i < m.length := by simp at h2; omega
      have eM := List.drop_eq_getElem_cons hlt2
      conv => whnf
      refine ⟨⟨by omega, by omega⟩, ?_⟩
      conv => whnf
      refine ldA (i := i) hlt2 ?_
      conv => whnf
      refine ⟨_, E _ (List.getElem_mem hlt) _ (List.getElem_mem hlt2), ?_⟩
      conv => whnf
      refine sel_split (fun h3 => ?_) (fun h3 => ?_)
      · conv => whnf
        refine hr _ (vi ?_)
        rw [eD, eM, cmpL, if_neg (by simpa using h3)]
      conv => whnf
      have h3 : cmpV l[i] m[i] = 0 := by simpa using h3
      have eC : cmpL (l.drop i) (m.drop i) = cmpL (l.drop (i + 1)) (m.drop (i + 1)) := by rw [eD, eM, cmpL, if_pos h3]
      refine ih (i + 1) _ (by omega) (by omega) (by omega) ⟨?_, rfl, rfl, rfl, rfl, rfl, trivial⟩ rfl (fun s' h => hr s' (by rw [eC]; exact h)) (fun s' h1 h2 h3 h4 => hq s' h1 h2 h3 (by rw [eC]; exact h4))
      conv => lhs; whnf
      exact vi (wrap_add1 (by omega))
    simp at h; omega
theorem t27 (h0 : ext 103 = none) (l m : List T) (hl : l.length ≤ 9223372036854775807) (E : ∀ a ∈ l, ∀ b ∈ m, (cfg ext).Ev 78 [A a, A b] (.int .i64 (cmpV a b))) :
    (cfg ext).Ev 103 [.sl false (encL l) l.length, .sl false (encL m) m.length, .fn 78 []] (.int .i64 (cmpL l m)) := by
  refine Ev.of h0 Tryd.func103 rfl rfl ?_
  conv => whnf
  refine l27 l m hl E _ _ 0 _ rfl (by omega) (by omega) ⟨rfl, rfl, rfl, rfl, rfl, rfl, trivial⟩ rfl (fun s' e => ?_) (fun s' e0 e1 hle e => ?_)
  · conv => whnf
    rw [e]
    rfl
  · rw [St.knows [(0, _), (1, _)] _ ⟨e0, e1, trivial⟩ rfl]
    conv => whnf
    simp only [List.drop_zero] at e
    rw [e]
    refine sel_split (fun h => ?_) (fun h => ?_)
    · conv => whnf
      have : l.length < m.length := by simpa using h
      exact vi (by rw [List.drop_eq_getElem_cons this, cmpL])
    · conv => whnf
      have : m.length ≤ l.length := by simpa using h
      exact vi (by rw [List.drop_eq_nil_of_le this, cmpL])
end
end Go.Proofs.YtjfjagnnefmepaaDoor.AB
end

section
set_option linter.unusedVariables false
set_option linter.unusedSimpArgs false
open Go Go.Ab Go.Proofs Go.Vl
namespace Go.Proofs.YtjfjagnnefmepaaDoor.AB
set_option maxRecDepth 100000
section
variable {ext : Exts}
/-- the externals: comparing two texts -/
def E26 (ext : Exts) : Prop := ∀ s t : ByteArray, (cfg ext).Ev 102 [.str s, .str t] (.int .i64 (Lib.compareBytes s.data.toList t.data.toList))
/-- what is none of the externals -/
def Non (ext : Exts) : Prop := ∀ f, f ≠ 102 → f ≠ 119 → ext f = none
mutual
theorem t15 (hn : Non ext) (h26 : E26 ext) : (a : T) → WfV a → (b : T) → (cfg ext).Ev 78 [A a, A b] (.int .i64 (cmpV a b))
  | ⟨k, n, t, l⟩, hw, b => by
    refine Ev.of (hn 78 (by decide) (by decide)) Tryd.func78 rfl rfl ?_
    conv => whnf
    refine sel_split (fun h => ?_) (fun h => ?_)
    · conv => whnf
      refine ⟨_, t24 (hn 113 (by decide) (by decide)) (hn 100 (by decide) (by decide)) _ _, ?_⟩
      conv => whnf
      exact vi (by rw [cmpV, if_neg (by simpa using h)]; rfl)
    conv => whnf
    have hk : k = b.f0 := by simpa using h
    have eC : cmpV ⟨k, n, t, l⟩ b = if k = 1 ∨ k = 2 then cmpI n b.f1 else if k = 3 then Lib.compareBytes t.data.toList b.f2.data.toList else if k = 4 ∨ k = 5 ∨ k = 6 then cmpL l b.f3 else 0 := by rw [cmpV, if_pos hk]
    refine sel_split (fun g1 => ?_) (fun g1 => ?_)
    · conv => whnf
      refine sel_yes g1 ?_
      conv => whnf
      have g1 : k = 1 := by simpa using g1
      refine ⟨_, t25 (hn 114 (by decide) (by decide)) (hn 101 (by decide) (by decide)) _ _, ?_⟩
      conv => whnf
      exact vi (by rw [eC, if_pos (.inl g1)]; rfl)
    have g1 : k ≠ 1 := by simpa using g1
    conv => whnf
    refine sel_split (fun g2 => ?_) (fun g2 => ?_)
    · conv => whnf
      have g2 : k = 2 := by simpa using g2
      refine ⟨_, t25 (hn 114 (by decide) (by decide)) (hn 101 (by decide) (by decide)) _ _, ?_⟩
      conv => whnf
      exact vi (by rw [eC, if_pos (.inr g2)]; rfl)
    conv => whnf
    have g2 : k ≠ 2 := by simpa using g2
    have g12 : ¬ (k = 1 ∨ k = 2) := by omega
    refine sel_split (fun g3 => ?_) (fun g3 => ?_)
    · conv => whnf
      have g3 : k = 3 := by simpa using g3
      refine ⟨_, h26 _ _, ?_⟩
      conv => whnf
      exact vi (by rw [eC, if_neg g12, if_pos g3])
    have g3 : k ≠ 3 := by simpa using g3
    have row (g : k = 4 ∨ k = 5 ∨ k = 6) : (cfg ext).Ev 103 [.sl false (encL l) l.length, .sl false (encL b.f3) b.f3.length, .fn 78 []] (.int .i64 (cmpV ⟨k, n, t, l⟩ b)) := by
      rw [eC, if_neg g12, if_neg g3, if_pos g]
      simp only [WfV] at hw
      exact t27 (hn 103 (by decide) (by decide)) l b.f3 hw.2.2.2.1 fun a ha c _ => t15L hn h26 l hw.2.2.2.2 a ha c
    conv => whnf
    refine sel_split (fun g4 => ?_) (fun g4 => ?_)
    · conv => whnf
      refine sel_yes g4 ?_
      conv => whnf
      refine ⟨_, row (.inl (by simpa using g4)), ?_⟩
      conv => whnf
    have g4 : k ≠ 4 := by simpa using g4
    conv => whnf
    refine sel_split (fun g5 => ?_) (fun g5 => ?_)
    · conv => whnf
      refine sel_yes g5 ?_
      conv => whnf
      refine ⟨_, row (.inr (.inl (by simpa using g5))), ?_⟩
      conv => whnf
    have g5 : k ≠ 5 := by simpa using g5
    conv => whnf
    refine sel_split (fun g6 => ?_) (fun g6 => ?_)
    · conv => whnf
      refine ⟨_, row (.inr (.inr (by simpa using g6))), ?_⟩
      conv => whnf
    conv => whnf
    have g6 : k ≠ 6 := by simpa using g6
    exact vi (by rw [eC, if_neg g12, if_neg g3, if_neg (by omega)])
theorem t15L (hn : Non ext) (h26 : E26 ext) : (l : List T) → WfL l → ∀ a ∈ l, ∀ b : T, (cfg ext).Ev 78 [A a, A b] (.int .i64 (cmpV a b))
  | [], _, a, ha, _ => by cases ha
  | v :: l, hw, a, ha, b => by
    simp only [WfL] at hw
    rcases List.mem_cons.1 ha with e | h
    · rw [e]; exact t15 hn h26 v hw.1 b
    · exact t15L hn h26 l hw.2 a h b
end
end
end Go.Proofs.YtjfjagnnefmepaaDoor.AB
end

section
set_option linter.unusedVariables false
set_option linter.unusedSimpArgs false
open Go Go.Ab Go.Proofs Go.Vl
namespace Go.Proofs.YtjfjagnnefmepaaDoor.AB
set_option maxRecDepth 100000
set_option maxHeartbeats 1600000
section
variable {ext : Exts}
def E73 (ext : Exts) : Prop := ∀ s : ByteArray, (cfg ext).Ev 119 [.str s] (.tup [.int .i32 (decGo s).1, .int .i64 (decGo s).2])
theorem vb {a b : Bool} (h : a = b) : V.bool a = V.bool b := by rw [h]
theorem slStr {P : Program} {t : Nat} {s : ByteArray} {k : IntKind} {i : Nat} (ht : isStrT P t = true) (h : i ≤ s.size) : sliceV P t (.str s) (some (.int k i)) none none = some (.str (s.extract i s.size)) := by
  simp only [sliceV, ht, boundO, bound, Option.bind_some]
  rw [if_pos (by omega)]
  rfl
theorem l63 (h73 : E73 ext) (s : ByteArray) (Q : Ex → St → Prop) (d : Nat) :
    ∀ (p : Nat) (z : St), s.size ≤ p + d → Has z.t [(8, .ref 2 0), (0, .str s)] → Has z.hp.h [(2, some (.iter s p))] → z.hp.n = 3 →
      (∀ z', z'.t 2 = .bool false → utfGo s d p = false → Q .ret z') →
      (∀ z', utfGo s d p = true → Q (.exit 0) z') →
      Go.Ab.Loop (cfg ext) (lpOf Tryd.f109) 3 z Q := by
  induction d with
  | zero =>
    intro p z hd hz hb hn hr hq
    rw [St.knows _ _ hz hn _ hb]
    refine Loop.round ?_
    conv => whnf
    refine sel_split (fun h => ?_) (fun h => ?_)
    · simp at h; omega
    conv => whnf
    exact hq _ rfl
  | succ d ih =>
    intro p z hd hz hb hn hr hq
    rw [St.knows _ _ hz hn _ hb]
    refine Loop.round ?_
    conv => whnf
    refine sel_split (fun h => ?_) (fun h => ?_)
    · have hp : p < s.size := by simpa using h
      have hl := dec_le s p
      have next : ∀ (h : ¬ ((Utf8.decode s p).1 = 65533 ∧ (Utf8.decode s p).2 = 1)), utfGo s (d + 1) p = utfGo s d (p + (Utf8.decode s p).2) := fun h => by rw [utfGo, if_pos hp, if_neg h]
      conv => whnf
      refine sel_split (fun h2 => ?_) (fun h2 => ?_)
      · have h2 : (Utf8.decode s p).1 = 65533 := by have := eq_of_beq h2; omega
        conv => whnf
        refine ⟨_, slStr rfl (by omega : p ≤ s.size), ?_⟩
        conv => whnf
        refine ⟨_, h73 _, ?_⟩
        rw [decGo_extract s p hp]
        conv => whnf
        refine sel_split (fun h3 => ?_) (fun h3 => ?_)
        · have h3 : (Utf8.decode s p).2 = 1 := by have := eq_of_beq h3; omega
          conv => whnf
          exact hr _ rfl (by rw [utfGo, if_pos hp, if_pos ⟨h2, h3⟩])
        · have h3 : (Utf8.decode s p).2 ≠ 1 := by have := ne_of_beq_false h3; omega
          conv => whnf
          exact ih _ _ (by omega) ⟨rfl, rfl, trivial⟩ ⟨rfl, trivial⟩ rfl (fun z' h h' => hr z' h (by rw [next (fun g => h3 g.2)]; exact h')) (fun z' h' => hq z' (by rw [next (fun g => h3 g.2)]; exact h'))
      · have h2 : (Utf8.decode s p).1 ≠ 65533 := by have := ne_of_beq_false h2; omega
        conv => whnf
        exact ih _ _ (by omega) ⟨rfl, rfl, trivial⟩ ⟨rfl, trivial⟩ rfl (fun z' h h' => hr z' h (by rw [next (fun g => h2 g.1)]; exact h')) (fun z' h' => hq z' (by rw [next (fun g => h2 g.1)]; exact h'))
    · have hp : ¬ p < s.size := by simpa using h
      conv => whnf
      exact hq _ (by rw [utfGo, if_neg hp])
theorem t63 (hn : Non ext) (h73 : E73 ext) (s : ByteArray) : (cfg ext).Ev 109 [.str s] (.bool (utfB s)) := by
  refine Ev.of (hn 109 (by decide) (by decide)) Tryd.func109 rfl rfl ?_
  conv => whnf
  refine l63 h73 s _ s.size 0 _ (by omega) ⟨rfl, rfl, trivial⟩ ⟨rfl, trivial⟩ rfl (fun z h1 h2 => ?_) (fun z h => ?_)
  · conv => whnf
    rw [h1]
    exact vb h2.symm
  · conv => whnf
    exact vb h.symm
theorem t57 (hn : Non ext) (h73 : E73 ext) (v : T) : (cfg ext).Ev 83 [A v] (.bool (decide (PlainV v.f0 v.f1 v.f2))) := by
  refine Ev.of (hn 83 (by decide) (by decide)) Tryd.func83 rfl rfl ?_
  have u := t63 hn h73 v.f2
  have no (h : ¬ PlainV v.f0 v.f1 v.f2) : V.bool false = V.bool (decide (PlainV v.f0 v.f1 v.f2)) := vb (by simp [h])
  have tx (h : (!(v.f2.toList == (⟨#[]⟩ : ByteArray).toList)) = true) (h3 : v.f0 ≠ 3) : ¬ PlainV v.f0 v.f1 v.f2 := fun g => by
    have := g.1.resolve_left h3
    rw [this] at h; simp at h
  have tx2 (h : (!(v.f2.toList == (⟨#[]⟩ : ByteArray).toList)) = false) : v.f2 = ⟨#[]⟩ := by
    have h : v.f2.toList = (⟨#[]⟩ : ByteArray).toList := by simpa using h
    rw [ByteArray.toList_eq, ByteArray.toList_eq] at h
    exact Go.WideShapes.bytes_inj h
  conv => whnf
  by_cases k3 : v.f0 = 3
  · rw [show (v.f0 != 3) = false by simp [k3]]
    conv => whnf
    rw [show (v.f0 != 2) = true by simp [k3]]
    conv => whnf
    rw [show (v.f0 != 1) = true by simp [k3]]
    conv => whnf
    cases hn : (v.f1 != 0) with
    | true =>
      conv => whnf
      exact no fun g => by have := g.2.1; simp at hn; omega
    | false =>
      conv => whnf
      rw [show (v.f0 == 1) = false by simp [k3]]
      conv => whnf
      rw [show (v.f0 == 3) = true by simp [k3]]
      conv => whnf
      have hn : v.f1 = 0 := by simpa using hn
      refine sel_split (fun hz => ?_) (fun hz => ?_)
      · conv => whnf
        refine sel_yes hz ?_
        conv => whnf
        refine sel_yes hz ?_
        conv => whnf
        refine ⟨_, u, ?_⟩
        conv => whnf
        have hz' : decide ((v.f2.size : Int) ≤ 256) = true := by simpa using hz
        refine sel_yes hz' ?_
        conv => whnf
        refine vb ?_
        have hz : v.f2.size ≤ 256 := by simp at hz'; omega
        have : PlainV v.f0 v.f1 v.f2 ↔ utfB v.f2 = true := by
          unfold PlainV
          rw [if_neg (show ¬ v.f0 = 1 by omega), if_pos k3]
          exact ⟨fun h => h.2.2.2, fun h => ⟨.inl k3, .inr (.inr hn), hz, h⟩⟩
        rw [Bool.eq_iff_iff, decide_eq_true_iff]; exact this.symm
      · conv => whnf
        refine sel_no hz ?_
        conv => whnf
        refine sel_no hz ?_
        conv => whnf
        have hz' : decide ((v.f2.size : Int) ≤ 256) = false := by simpa using hz
        refine sel_no hz' ?_
        conv => whnf
        exact no fun g => by have := g.2.2; rw [if_neg (by omega), if_pos k3] at this; simp at hz'; omega
  · rw [show (v.f0 != 3) = true by simp [k3]]
    conv => whnf
    cases ht : (!(v.f2.toList == (⟨#[]⟩ : ByteArray).toList)) with
    | true => 
      conv => whnf
      exact no (tx ht k3)
    | false => 
      have ht := tx2 ht
      conv => whnf
      by_cases k2 : v.f0 = 2
      · rw [show (v.f0 != 2) = false by simp [k2]]
        conv => whnf
        rw [show (v.f0 == 1) = false by simp [k2]]
        conv => whnf
        rw [show (v.f0 == 3) = false by simp [k2]]
        conv => whnf
        have h0 : (decide (v.f0 ≥ 0) == true) = true := by simp [k2]
        refine sel_yes h0 ?_
        conv => whnf
        refine sel_yes h0 ?_
        conv => whnf
        refine sel_yes h0 ?_
        conv => whnf
        refine sel_yes (show decide (v.f0 ≥ 0) = true by simp [k2]) ?_
        conv => whnf
        refine vb ?_
        rw [decide_eq_true (show v.f0 ≤ 6 by omega), decide_eq_true]
        exact ⟨.inr ht, .inr (.inl k2), by rw [if_neg (by omega), if_neg (by omega)]; omega⟩
      · rw [show (v.f0 != 2) = true by simp [k2]]
        conv => whnf
        by_cases k1 : v.f0 = 1
        · rw [show (v.f0 != 1) = false by simp [k1]]
          conv => whnf
          rw [show (v.f0 == 1) = true by simp [k1]]
          conv => whnf
          have pl : PlainV v.f0 v.f1 v.f2 ↔ v.f1 = 0 ∨ v.f1 = 1 := by
            unfold PlainV
            rw [if_pos k1]
            exact ⟨fun h => h.2.2, fun h => ⟨.inr ht, .inl k1, h⟩⟩
          cases hz : (v.f1 == 0) with
          | true =>
            conv => whnf
            have : v.f1 = 0 := by simpa using hz
            exact vb (by rw [decide_eq_true (pl.2 (.inl this))])
          | false =>
            conv => whnf
            have : v.f1 ≠ 0 := by simpa using hz
            refine vb ?_
            rw [Bool.eq_iff_iff, decide_eq_true_iff, pl]
            exact ⟨fun h => .inr (by simpa using h), fun h => by simpa using h.resolve_left this⟩
        · rw [show (v.f0 != 1) = true by simp [k1]]
          conv => whnf
          cases hn : (v.f1 != 0) with
          | true =>
            conv => whnf
            exact no fun g => by have := g.2.1; simp at hn; omega
          | false =>
            conv => whnf
            rw [show (v.f0 == 1) = false by simp [k1]]
            conv => whnf
            rw [show (v.f0 == 3) = false by simp [k3]]
            conv => whnf
            have hn : v.f1 = 0 := by simpa using hn
            have pl : PlainV v.f0 v.f1 v.f2 ↔ 0 ≤ v.f0 ∧ v.f0 ≤ 6 := by
              unfold PlainV
              rw [if_neg k1, if_neg k3]
              exact ⟨fun h => h.2.2, fun h => ⟨.inr ht, .inr (.inr hn), h⟩⟩
            refine sel_split (fun h0 => ?_) (fun h0 => ?_)
            · conv => whnf
              refine sel_yes h0 ?_
              conv => whnf
              refine sel_yes h0 ?_
              conv => whnf
              have h0 : decide (v.f0 ≥ 0) = true := by simpa using h0
              refine sel_yes h0 ?_
              conv => whnf
              refine vb ?_
              have h0 : 0 ≤ v.f0 := by simpa using h0
              rw [Bool.eq_iff_iff, decide_eq_true_iff, decide_eq_true_iff, pl]
              exact ⟨fun h => ⟨h0, h⟩, fun h => h.2⟩
            · conv => whnf
              refine sel_no h0 ?_
              conv => whnf
              refine sel_no h0 ?_
              conv => whnf
              have h0 : decide (v.f0 ≥ 0) = false := by simpa using h0
              refine sel_no h0 ?_
              conv => whnf
              exact no fun g => by have := (pl.1 g).1; simp at h0; omega
end
end Go.Proofs.YtjfjagnnefmepaaDoor.AB
end

section
set_option linter.unusedVariables false
set_option linter.unusedSimpArgs false
open Go Go.Ab Go.Proofs Go.Vl
namespace Go.Proofs.YtjfjagnnefmepaaDoor.AB
set_option maxRecDepth 100000
set_option maxHeartbeats 1600000
section
variable {ext : Exts}
theorem wrapN {k : Int} {i : Nat} (e : k = i) (h : i ≤ 9223372036854775807) : IntKind.i64.wrap k = (i : Int) := by
  rw [IntKind.wrap_i64]; omega
def cellsV (v : T) : List V := [.int .i64 v.f0, .int .i64 v.f1, .str v.f2, .sl false (encL v.f3) v.f3.length]
theorem l58 (v : T) (hl : v.f3.length ≤ 4611686018427387904) (E : ∀ a ∈ v.f3, ∀ b, (cfg ext).Ev 78 [A a, A b] (.int .i64 (cmpV a b))) (st : Nat) (hs : st = 1 ∨ st = 2) (M : Nat) (Q : Ex → St → Prop) (d : Nat) :
    ∀ (i : Nat) (z : St), v.f3.length - i ≤ d → st ≤ i → i % st = 0 → i ≤ v.f3.length + 2 → Has z.t [(1, .ref 0 0), (3, .int .i64 st), (4, .int .i64 i)] → Has z.hp.h [(0, some (.cells (cellsV v) false))] → z.hp.n = M + 1 →
      (∀ z', z'.t 2 = .bool false → (¬ ∀ j : Nat, i ≤ j + st → j % st = 0 → ∀ (h : j + st < v.f3.length), cmpV (v.f3[j]'(by omega)) (v.f3[j + st]) < 0) → Q .ret z') →
      (∀ z', (∀ j : Nat, i ≤ j + st → j % st = 0 → ∀ (h : j + st < v.f3.length), cmpV (v.f3[j]'(by omega)) (v.f3[j + st]) < 0) → Q (.exit 1) z') →
      Go.Ab.Loop (cfg ext) (lpOf Tryd.f84) (M + 1) z Q := by
  have stop : ∀ (i : Nat) (z : St), v.f3.length ≤ i → Has z.t [(1, .ref 0 0), (3, .int .i64 st), (4, .int .i64 i)] → Has z.hp.h [(0, some (.cells (cellsV v) false))] → z.hp.n = M + 1 →
      (∀ z', (∀ j : Nat, i ≤ j + st → j % st = 0 → ∀ (h : j + st < v.f3.length), cmpV (v.f3[j]'(by omega)) (v.f3[j + st]) < 0) → Q (.exit 1) z') →
      Go.Ab.Loop (cfg ext) (lpOf Tryd.f84) (M + 1) z Q := by
    intro i z hi hz hb hn hq
    rw [St.knows _ _ hz hn _ hb]
    refine Loop.round ?_
    conv => whnf
    refine sel_split (fun h => ?_) (fun h => ?_)
    · simp at h; omega
    conv => whnf
    exact hq _ (by intro j h1 _ h2; omega)
  induction d with
  | zero => intro i z hd _ _ _ hz hb hn _ hq; exact stop i z (by omega) hz hb hn hq
  | succ d ih =>
    intro i z hd hi hm hi2 hz hb hn hr hq
    by_cases hlt : i < v.f3.length
    · rw [St.knows _ _ hz hn _ hb]
      refine Loop.round ?_
      conv => whnf
      refine sel_split (fun h => ?_) (fun h => ?_)
      · have e1 : IntKind.i64.wrap ((i : Int) - (st : Int)) = ((i - st : Nat) : Int) := wrapN (by omega) (by omega)
        have e2 : IntKind.i64.wrap ((i : Int) + (st : Int)) = ((i + st : Nat) : Int) := wrapN (by omega) (by omega)
        conv => whnf
        rw [e1]
        refine ⟨⟨by omega, by omega⟩, ?_⟩
        conv => whnf
        refine ldA (i := i - st) (by omega) ?_
        conv => whnf
        refine ⟨⟨by omega, by omega⟩, ?_⟩
        conv => whnf
        refine ldA (i := i) (by omega) ?_
        conv => whnf
        refine ⟨_, E _ (List.getElem_mem _) _, ?_⟩
        conv => whnf
        refine sel_split (fun h3 => ?_) (fun h3 => ?_)
        · conv => whnf
          refine hr _ rfl ?_
          intro h
          have e3 : i - st + st = i := by omega
          have := h (i - st) (by omega) (by rcases hs with rfl | rfl <;> omega) (by omega)
          simp only [e3] at this
          simp at h3
          omega
        · conv => whnf
          have hc : cmpV (v.f3[i - st]'(by omega)) (v.f3[i]) < 0 := by simp at h3; omega
          have both : (∀ j : Nat, i + st ≤ j + st → j % st = 0 → ∀ (h : j + st < v.f3.length), cmpV (v.f3[j]'(by omega)) (v.f3[j + st]) < 0) ↔ (∀ j : Nat, i ≤ j + st → j % st = 0 → ∀ (h : j + st < v.f3.length), cmpV (v.f3[j]'(by omega)) (v.f3[j + st]) < 0) := by
            constructor
            · intro h j hj hjm hjl
              by_cases e : i + st ≤ j + st
              · exact h j e hjm hjl
              · have : j = i - st := by rcases hs with rfl | rfl <;> omega
                subst this
                have e3 : i - st + st = i := by omega
                simp only [e3]
                exact hc
            · intro h j hj hjm hjl
              exact h j (by omega) hjm hjl
          refine ih (i + st) _ (by omega) (by omega) (by rcases hs with rfl | rfl <;> omega) (by omega) ⟨rfl, rfl, ?_, trivial⟩ ⟨rfl, trivial⟩ rfl (fun z' h1 h2 => hr z' h1 (fun g => h2 (both.2 g))) (fun z' h1 => hq z' (both.1 h1))
          conv => lhs; whnf
          exact vi e2
      · simp at h; omega
    · exact stop i z (by omega) hz hb hn hq
noncomputable def formB (k : Int) (l : List T) : Bool := @decide (FormV k l) (Classical.propDecidable _)
theorem formB_iff {k : Int} {l : List T} : formB k l = true ↔ FormV k l := by unfold formB; exact @decide_eq_true_iff _ (Classical.propDecidable _)
theorem formB_t {k : Int} {l : List T} (h : FormV k l) : V.bool true = V.bool (formB k l) := vb (formB_iff.2 h).symm
theorem formB_f {k : Int} {l : List T} (h : ¬ FormV k l) : V.bool false = V.bool (formB k l) := vb (by cases e : formB k l with | true => exact absurd (formB_iff.1 e) h | false => rfl)
theorem t58 (hn : Non ext) (v : T) (hl : v.f3.length ≤ 4611686018427387904) (E : ∀ a ∈ v.f3, ∀ b, (cfg ext).Ev 78 [A a, A b] (.int .i64 (cmpV a b))) : (cfg ext).Ev 84 [A v] (.bool (formB v.f0 v.f3)) := by
  refine Ev.of (hn 84 (by decide) (by decide)) Tryd.func84 rfl rfl ?_
  conv => whnf
  refine sel_split (fun c4 => ?_) (fun c4 => ?_)
  · conv => whnf
    have c4 : v.f0 = 4 := by simpa using c4
    exact formB_t (by unfold FormV; rw [if_pos c4]; trivial)
  conv => whnf
  have c4 : v.f0 ≠ 4 := by simpa using c4
  refine sel_split (fun c6 => ?_) (fun c6 => ?_)
  · conv => whnf
    have c6 : v.f0 = 6 := by simpa using c6
    refine ⟨rfl, by decide, ?_⟩
    conv => whnf
    refine sel_split (fun ho => ?_) (fun ho => ?_)
    · conv => whnf
      refine formB_f ?_
      unfold FormV
      rw [if_neg c4, if_pos c6]
      have ho : ((v.f3.length : Int).tmod 2) = 1 := by simpa using ho
      rw [Int.tmod_eq_emod_of_nonneg (by omega)] at ho
      omega
    · conv => whnf
      have ho : v.f3.length % 2 = 0 := by
        have ho : ((v.f3.length : Int).tmod 2) ≠ 1 := by simpa using ho
        rw [Int.tmod_eq_emod_of_nonneg (by omega)] at ho
        omega
      refine l58 v hl E 2 (.inr rfl) _ _ v.f3.length 2 _ (by omega) (by omega) (by omega) (by omega) ⟨rfl, rfl, rfl, trivial⟩ ⟨rfl, trivial⟩ rfl (fun z h1 h2 => ?_) (fun z h => ?_)
      · conv => whnf
        rw [h1]
        refine formB_f ?_
        unfold FormV
        rw [if_neg c4, if_pos c6]
        exact fun h => h2 fun j _ hj hh => h.2 j hj hh
      · conv => whnf
        refine formB_t ?_
        unfold FormV
        rw [if_neg c4, if_pos c6]
        exact ⟨ho, fun j hj hh => h j (by omega) hj hh⟩
  conv => whnf
  have c6 : v.f0 ≠ 6 := by simpa using c6
  refine sel_split (fun c5 => ?_) (fun c5 => ?_)
  · conv => whnf
    have c5 : v.f0 = 5 := by simpa using c5
    refine l58 v hl E 1 (.inl rfl) _ _ v.f3.length 1 _ (by omega) (by omega) (by omega) (by omega) ⟨rfl, rfl, rfl, trivial⟩ ⟨rfl, trivial⟩ rfl (fun z h1 h2 => ?_) (fun z h => ?_)
    · conv => whnf
      rw [h1]
      refine formB_f ?_
      unfold FormV
      rw [if_neg c4, if_neg c6, if_pos c5]
      exact fun h => h2 fun j _ hj hh => h j hj hh
    · conv => whnf
      refine formB_t ?_
      unfold FormV
      rw [if_neg c4, if_neg c6, if_pos c5]
      exact fun j hj hh => h j (by omega) hj hh
  · conv => whnf
    have c5 : v.f0 ≠ 5 := by simpa using c5
    refine vb ?_
    rw [Bool.eq_iff_iff, formB_iff, beq_iff_eq]
    unfold FormV
    rw [if_neg c4, if_neg c6, if_neg c5]
    constructor
    · intro h; exact List.eq_nil_of_length_eq_zero (by omega)
    · intro h; rw [h]; rfl
end
end Go.Proofs.YtjfjagnnefmepaaDoor.AB
end

section
set_option linter.unusedVariables false
set_option linter.unusedSimpArgs false
open Go Go.Ab Go.Proofs Go.Vl
namespace Go.Proofs.YtjfjagnnefmepaaDoor.AB
set_option maxRecDepth 100000
set_option maxHeartbeats 1600000
section
variable {ext : Exts}
def CntE (ext : Exts) (a : T) : Prop := ∀ a1 a2 : Int, 0 ≤ a1 → a1 ≤ 65536 → -1048576 ≤ a2 → a2 ≤ 1048576 → (cfg ext).Ev 64 [A a, .int .i64 a1, .int .i64 a2] (.int .i64 (cntZ a a1 a2))
def k44 (l : List T) (a1 a2 x7 : Int) (i : Nat) : List (Nat × V) := [(38, .int .i64 i), (37, .int .i64 l.length), (36, .sl false (encL l) l.length), (1, .int .i64 a1), (2, .int .i64 a2), (7, .int .i64 x7), (3, .ref 0 0)]
theorem l44 (v : T) (E : ∀ a ∈ v.f3, CntE ext a) (a1 a2 : Int) (h0 : 0 ≤ a1) (h1 : v.f3 ≠ [] → 1 ≤ a1) (h2 : a1 ≤ 65536) (h3 : a2 ≤ 1048576) (hl : v.f3.length ≤ 1048576) (Q : Ex → St → Prop) (d : Nat) :
    ∀ (i : Nat) (x7 : Int) (z : St), v.f3.length - i = d → i ≤ v.f3.length → 1 ≤ x7 → x7 ≤ a2 → Has z.t (k44 v.f3 a1 a2 x7 i) → Has z.hp.h [(0, some (.cells (cellsV v) false))] → z.hp.n = 31 →
      (∀ z', z'.t 6 = .int .i64 0 → cntL v.f0 v.f3 (v.f3.drop i) x7 a1 a2 = 0 → Q .ret z') →
      (∀ z' x, Has z'.t [(3, .ref 0 0), (7, .int .i64 x)] → Has z'.hp.h [(0, some (.cells (cellsV v) false))] → z'.hp.n = 32 → cntL v.f0 v.f3 (v.f3.drop i) x7 a1 a2 = cntL v.f0 v.f3 [] x a1 a2 → x ≤ a2 → Q (.exit 0) z') →
      Go.Ab.Loop (cfg ext) (lpOf Tryd.f64) (31) z Q := by
  induction d with
  | zero =>
    intro i x7 z hd hi hx hxa hz hb hn hr hq
    obtain rfl : i = v.f3.length := by omega
    rw [St.knows _ _ hz hn _ hb]
    refine Loop.round ?_
    conv => whnf
    refine sel_split (fun h => ?_) (fun h => ?_)
    · simp at h
    conv => whnf
    exact hq _ x7 ⟨rfl, rfl, trivial⟩ ⟨rfl, trivial⟩ rfl (by rw [List.drop_length]) hxa
  | succ d ih =>
    intro i x7 z hd hi hx hxa hz hb hn hr hq
    have hlt : i < v.f3.length := by omega
    have ha1 := h1 (fun e => by rw [e] at hlt; simp at hlt)
    have e1 : IntKind.i64.wrap (a1 - 1) = a1 - 1 := by rw [IntKind.wrap_i64]; omega
    have e2 : IntKind.i64.wrap (a2 - x7) = a2 - x7 := by rw [IntKind.wrap_i64]; omega
    have hr' := E _ (List.getElem_mem hlt) (a1 - 1) (a2 - x7) (by omega) (by omega) (by omega) (by omega)
    have hp := partsV_pos v.f3[i]
    have hdrop := List.drop_eq_getElem_cons hlt
    rw [St.knows _ _ hz hn _ hb]
    refine Loop.round ?_
    conv => whnf
    refine sel_split (fun h => ?_) (fun h => ?_)
    · conv => whnf
      refine ⟨⟨by omega, by omega⟩, ?_⟩
      conv => whnf
      refine ldA (i := i) hlt ?_
      conv => whnf
      rw [e1, e2]
      refine ⟨_, hr', ?_⟩
      conv => whnf
      refine sel_split (fun hz => ?_) (fun hz => ?_)
      · conv => whnf
        have hz : cntZ v.f3[i] (a1 - 1) (a2 - x7) = 0 := by simpa using hz
        refine hr _ rfl ?_
        unfold cntL
        rw [hdrop]
        refine if_neg (fun g => ?_)
        simp only [OkL, deepL, partsL] at g
        have : cntZ v.f3[i] (a1 - 1) (a2 - x7) = (partsV v.f3[i] : Int) := if_pos ⟨g.2.1.1, by omega, by omega⟩
        omega
      · conv => whnf
        have hz' : cntZ v.f3[i] (a1 - 1) (a2 - x7) ≠ 0 := by simpa using hz
        have hz : OkV v.f3[i] ∧ (deepV v.f3[i] : Int) ≤ a1 - 1 ∧ (partsV v.f3[i] : Int) ≤ a2 - x7 := by
          by_cases g : OkV v.f3[i] ∧ (deepV v.f3[i] : Int) ≤ a1 - 1 ∧ (partsV v.f3[i] : Int) ≤ a2 - x7
          · exact g
          · exact absurd (if_neg g) hz'
        have hc : cntZ v.f3[i] (a1 - 1) (a2 - x7) = (partsV v.f3[i] : Int) := if_pos hz
        have e4 : IntKind.i64.wrap (x7 + (partsV v.f3[i] : Int)) = x7 + (partsV v.f3[i] : Int) := by rw [IntKind.wrap_i64]; omega
        have hk : cntL v.f0 v.f3 (v.f3.drop i) x7 a1 a2 = cntL v.f0 v.f3 (v.f3.drop (i + 1)) (x7 + (partsV v.f3[i] : Int)) a1 a2 := by
          unfold cntL
          rw [hdrop]
          refine ite_zero ⟨fun g => ?_, fun g => ?_⟩ (fun g => ?_)
          · simp only [OkL, deepL, partsL] at g
            exact ⟨g.1, g.2.1.2, by omega, by omega⟩
          · simp only [OkL, deepL, partsL]
            exact ⟨g.1, ⟨hz.1, g.2.1⟩, by omega, by omega⟩
          · simp only [partsL]
            omega
        rw [hk] at hr hq
        refine ih (i + 1) (x7 + (partsV v.f3[i] : Int)) _ (by omega) (by omega) (by omega) (by omega) ⟨?_, rfl, rfl, rfl, rfl, ?_, rfl, trivial⟩ ⟨rfl, trivial⟩ rfl hr hq
        · conv => lhs; whnf
          exact vi (wrap_add1 (by omega))
        · conv => lhs; whnf
          exact vi (by rw [hc]; exact e4)
    · simp at h; omega
theorem okV_eq (v : T) : OkV v = (PlainV v.f0 v.f1 v.f2 ∧ FormV v.f0 v.f3 ∧ OkL v.f3) := by cases v; simp only [OkV]
theorem deepV_eq (v : T) : deepV v = deepL v.f3 := by cases v; simp only [deepV]
theorem partsV_eq (v : T) : partsV v = 1 + partsL v.f3 := by cases v; simp only [partsV]
theorem t44_one (hn : Non ext) (h73 : E73 ext) (v : T) (E : ∀ a ∈ v.f3, CntE ext a) (E15 : ∀ a ∈ v.f3, ∀ b, (cfg ext).Ev 78 [A a, A b] (.int .i64 (cmpV a b))) : CntE ext v := by
  intro a1 a2 h0 h1 h2 h3
  refine Ev.of (hn 64 (by decide) (by decide)) Tryd.func64 rfl rfl ?_
  have hpl := partsL_len v.f3
  have pl := t57 hn h73 v
  have zero (h : ¬ (PlainV v.f0 v.f1 v.f2 ∧ (deepL v.f3 : Int) ≤ a1 ∧ ((1 + partsL v.f3 : Nat) : Int) ≤ a2)) : V.int .i64 0 = .int .i64 (cntZ v a1 a2) := by
    refine vi (if_neg fun g => h ?_).symm
    rw [okV_eq, deepV_eq, partsV_eq] at g
    exact ⟨g.1.1, g.2.1, g.2.2⟩
  have hk (hp : PlainV v.f0 v.f1 v.f2) : cntZ v a1 a2 = cntL v.f0 v.f3 (v.f3.drop 0) 1 a1 a2 := by
    unfold cntZ cntL
    rw [List.drop_zero]
    rw [deepV_eq, partsV_eq]
    refine ite_zero ⟨fun g => ?_, fun g => ?_⟩ (fun g => ?_)
    · rw [okV_eq] at g
      exact ⟨g.1.2.1, g.1.2.2, g.2.1, by omega⟩
    · rw [okV_eq]
      exact ⟨⟨hp, g.1, g.2.1⟩, g.2.2.1, by omega⟩
    · omega
  conv => whnf
  by_cases c1 : a2 < 1
  · have g : (decide (a2 < 1) == false) = false := by simp [c1]
    refine sel_no g ?_
    conv => whnf
    refine sel_no g ?_
    conv => whnf
    refine sel_no g ?_
    conv => whnf
    refine sel_no g ?_
    conv => whnf
    refine sel_no g ?_
    conv => whnf
    refine sel_yes (decide_eq_true c1) ?_
    conv => whnf
    exact zero fun g => by omega
  have hn1 : a2 ≥ 1 := by omega
  have g1 : (decide (a2 < 1) == false) = true := by simp; omega
  refine sel_yes g1 ?_
  conv => whnf
  refine sel_yes g1 ?_
  conv => whnf
  refine sel_yes g1 ?_
  conv => whnf
  refine sel_yes g1 ?_
  conv => whnf
  refine sel_yes g1 ?_
  conv => whnf
  refine sel_no (decide_eq_false c1) ?_
  conv => whnf
  by_cases c5 : (v.f3.length : Int) ≥ a2
  · have g : (decide ((v.f3.length : Int) ≥ a2) == false) = false := by simp; omega
    refine sel_no g ?_
    conv => whnf
    refine sel_no g ?_
    conv => whnf
    refine sel_no g ?_
    conv => whnf
    refine sel_no g ?_
    conv => whnf
    refine sel_no g ?_
    conv => whnf
    refine sel_no g ?_
    conv => whnf
    refine sel_yes (decide_eq_true c5) ?_
    conv => whnf
    exact zero fun g => by omega
  have g5 : (decide ((v.f3.length : Int) ≥ a2) == false) = true := by simp; omega
  have fo := t58 hn v (by omega) E15
  refine sel_yes g5 ?_
  conv => whnf
  refine sel_yes g5 ?_
  conv => whnf
  refine sel_yes g5 ?_
  conv => whnf
  refine sel_yes g5 ?_
  conv => whnf
  refine sel_yes g5 ?_
  conv => whnf
  by_cases c2 : (v.f3.length : Int) > 0
  · have g : (decide ((v.f3.length : Int) > 0) == true) = true := by simpa using c2
    refine sel_yes g ?_
    conv => whnf
    refine sel_yes g ?_
    conv => whnf
    refine sel_yes g5 ?_
    conv => whnf
    refine sel_yes (decide_eq_true c2) ?_
    conv => whnf
    refine sel_no (decide_eq_false c5) ?_
    conv => whnf
    by_cases c0 : a1 = 0
    · have g0 : ((a1 == 0) == false) = false := by simp [c0]
      refine sel_no g0 ?_
      conv => whnf
      refine sel_no g0 ?_
      conv => whnf
      refine sel_no g0 ?_
      conv => whnf
      refine sel_yes (by simp [c0]) ?_
      conv => whnf
      refine zero fun g => ?_
      have : ∃ x m, v.f3 = x :: m := List.exists_cons_of_ne_nil (fun e => by rw [e] at c2; simp at c2)
      obtain ⟨x, m, e⟩ := this
      have := g.2.1
      rw [e] at this
      simp only [deepL] at this
      omega
    · have g0 : ((a1 == 0) == false) = true := by simp [c0]
      have hne : v.f3 ≠ [] → 1 ≤ a1 := fun _ => by omega
      refine sel_yes g0 ?_
      conv => whnf
      refine sel_yes g0 ?_
      conv => whnf
      refine ⟨_, pl, ?_⟩
      conv => whnf
      refine sel_yes g0 ?_
      conv => whnf
      refine sel_no (by simpa using c0) ?_
      conv => whnf
      cases hp : decide (PlainV v.f0 v.f1 v.f2) with
      | false =>
        conv => whnf
        exact zero fun g => absurd g.1 (of_decide_eq_false hp)
      | true =>
        have hp : PlainV v.f0 v.f1 v.f2 := of_decide_eq_true hp
        conv => whnf
        refine l44 v E a1 a2 h0 hne h1 h3 (by omega) _ v.f3.length 0 1 _ (by omega) (by omega) (by omega) (by omega) ⟨rfl, rfl, rfl, rfl, rfl, rfl, rfl, trivial⟩ ⟨rfl, trivial⟩ rfl (fun z e1 e2 => ?_) (fun z x e1 e2 e3 e4 e5 => ?_)
        · conv => whnf
          rw [e1]
          exact vi (by rw [hk hp, e2])
        · rw [St.knows _ _ e1 e3 _ e2]
          conv => whnf
          refine ⟨_, fo, ?_⟩
          conv => whnf
          cases hf : formB v.f0 v.f3 with
          | false =>
            conv => whnf
            refine vi ?_
            rw [hk hp, e4]
            exact (if_neg fun g => by rw [formB_iff.2 g.1] at hf; cases hf).symm
          | true =>
            conv => whnf
            refine vi ?_
            rw [hk hp, e4]
            unfold cntL
            rw [if_pos ⟨formB_iff.1 hf, by simp only [OkL], by simp only [deepL]; omega, by simp only [partsL]; omega⟩]
            simp only [partsL]; omega
  · have g : (decide ((v.f3.length : Int) > 0) == true) = false := by simpa using c2
    refine sel_no g ?_
    conv => whnf
    refine sel_no g ?_
    conv => whnf
    refine sel_yes g5 ?_
    conv => whnf
    refine sel_no (decide_eq_false c2) ?_
    conv => whnf
    refine sel_no (decide_eq_false c5) ?_
    conv => whnf
    have hne : v.f3 ≠ [] → 1 ≤ a1 := fun h => by
      have : v.f3.length ≠ 0 := fun e => h (List.eq_nil_of_length_eq_zero e)
      omega
    refine ⟨_, pl, ?_⟩
    conv => whnf
    cases hp : decide (PlainV v.f0 v.f1 v.f2) with
    | false =>
      conv => whnf
      exact zero fun g => absurd g.1 (of_decide_eq_false hp)
    | true =>
      have hp : PlainV v.f0 v.f1 v.f2 := of_decide_eq_true hp
      conv => whnf
      refine l44 v E a1 a2 h0 hne h1 h3 (by omega) _ v.f3.length 0 1 _ (by omega) (by omega) (by omega) (by omega) ⟨rfl, rfl, rfl, rfl, rfl, rfl, rfl, trivial⟩ ⟨rfl, trivial⟩ rfl (fun z e1 e2 => ?_) (fun z x e1 e2 e3 e4 e5 => ?_)
      · conv => whnf
        rw [e1]
        exact vi (by rw [hk hp, e2])
      · rw [St.knows _ _ e1 e3 _ e2]
        conv => whnf
        refine ⟨_, fo, ?_⟩
        conv => whnf
        cases hf : formB v.f0 v.f3 with
        | false =>
          conv => whnf
          refine vi ?_
          rw [hk hp, e4]
          exact (if_neg fun g => by rw [formB_iff.2 g.1] at hf; cases hf).symm
        | true =>
          conv => whnf
          refine vi ?_
          rw [hk hp, e4]
          unfold cntL
          rw [if_pos ⟨formB_iff.1 hf, by simp only [OkL], by simp only [deepL]; omega, by simp only [partsL]; omega⟩]
          simp only [partsL]; omega
mutual
theorem t44 (hn : Non ext) (h26 : E26 ext) (h73 : E73 ext) : (v : T) → WfV v → CntE ext v
  | ⟨k, n, t, l⟩, h => by
    simp only [WfV] at h
    exact t44_one hn h73 ⟨k, n, t, l⟩ (t44L hn h26 h73 l h.2.2.2.2) (t15L hn h26 l h.2.2.2.2)
theorem t44L (hn : Non ext) (h26 : E26 ext) (h73 : E73 ext) : (l : List T) → WfL l → ∀ a ∈ l, CntE ext a
  | [], _, a, ha => by cases ha
  | v :: l, hw, a, ha => by
    simp only [WfL] at hw
    rcases List.mem_cons.1 ha with e | h
    · rw [e]; exact t44 hn h26 h73 v hw.1
    · exact t44L hn h26 h73 l hw.2 a h
end
noncomputable def okB (v : T) : Bool := @decide (OK v) (Classical.propDecidable _)
theorem okB_iff {v : T} : okB v = true ↔ OK v := by unfold okB; exact @decide_eq_true_iff _ (Classical.propDecidable _)
theorem cnt_ok (v : T) : (cntZ v 16 1024 > 0) = OK v := by
  have := partsV_pos v
  apply propext
  unfold cntZ
  by_cases hh : OkV v ∧ (deepV v : Int) ≤ 16 ∧ (partsV v : Int) ≤ 1024
  · rw [if_pos hh]; exact ⟨fun _ => ⟨hh.1, by omega, by omega⟩, fun _ => by omega⟩
  · rw [if_neg hh]; exact ⟨fun h => by omega, fun g => absurd ⟨g.1, by have := g.2.1; omega, by have := g.2.2; omega⟩ hh⟩
theorem t32 (hn : Non ext) (h26 : E26 ext) (h73 : E73 ext) (v : T) (hw : WfV v) : (cfg ext).Ev 38 [A v] (.bool (okB v)) := by
  refine Ev.of (hn 38 (by decide) (by decide)) Tryd.func38 rfl rfl ?_
  conv => whnf
  refine ⟨_, t44 hn h26 h73 v hw 16 1024 (by omega) (by omega) (by omega) (by omega), ?_⟩
  conv => whnf
  refine vb ?_
  rw [Bool.eq_iff_iff, decide_eq_true_iff, cnt_ok, okB_iff]
theorem t22 (hn : Non ext) (h26 : E26 ext) (h73 : E73 ext) (v : T) (hw : WfV v) : (cfg ext).Ev 14 [A v] (.int .i64 (if okB v = true then 0 else 3)) := by
  refine Ev.of (hn 14 (by decide) (by decide)) Tryd.func14 rfl rfl ?_
  conv => whnf
  refine ⟨_, t32 hn h26 h73 v hw, ?_⟩
  conv => whnf
  cases okB v <;> rfl
end
end Go.Proofs.YtjfjagnnefmepaaDoor.AB
end

section
set_option linter.unusedVariables false
set_option linter.unusedSimpArgs false
open Go Go.Ab Go.Proofs Go.Vl
namespace Go.Ab
/-- a slice that grows: nothing yet, or an array of the call's own -/
def Acc (a : Nat → Option Arr) (m : Nat) (s : V) (xs : List V) : Prop := (s = .sl true [] 0 ∧ xs = []) ∨ ∃ b v, b < m ∧ s = .rsl false b v 0 xs.length ∧ a b = some ⟨v, 1, xs, none, 0⟩
theorem Acc.upd {a : Nat → Option Arr} {m k : Nat} {s : V} {xs : List V} {x : Option Arr} (h : Acc a m s xs) (hk : m ≤ k) : Acc (Go.Ab.upd a k x) m s xs := by
  rcases h with h | ⟨b, v, hb, e, ha⟩
  · exact .inl h
  · exact .inr ⟨b, v, hb, e, by unfold Go.Ab.upd; rw [if_neg (by omega)]; exact ha⟩
theorem upd_self {α : Type} (f : Nat → α) (i : Nat) (x : α) : upd f i x i = x := by unfold upd; rw [if_pos rfl]
theorem Acc.trunc {a : Nat → Option Arr} {m n : Nat} {s : V} {k : IntKind} {l : List Int} (h : Acc a m s (l.map (.int k))) : Acc (fun b => match a b with | some A => some { A with cs := A.cs.map (cleanV n) } | none => none) m (cleanV n s) (l.map (.int k)) := by
  rcases h with ⟨rfl, h⟩ | ⟨b, v, hb, rfl, ha⟩
  · exact .inl ⟨rfl, h⟩
  · refine .inr ⟨b, v, hb, rfl, ?_⟩
    show (match a b with | some A => some { A with cs := A.cs.map (cleanV n) } | none => none) = _
    rw [ha]
    simp only [List.map_map, Option.some.injEq, Arr.mk.injEq, true_and, and_true]
    exact List.map_congr_left fun _ _ => rfl
theorem opt_app {bytes : Nat} {hp : Hp} {ida m M bx ro : Nat} {c : Bool} {cp : Option Nat} {s val : V} {xs : List V} {Q : V → Hp → Prop} (h1 : Acc hp.a m s xs) (h2 : hp.a bx = some ⟨0, 1, [val], cp, ro⟩) (hb : (xs.length + 1) * bytes ≤ maxRoom) (hl : xs.length + 1 ≤ maxRoom) (hi : ida < M) (hm : m ≤ M)
    (k : ∀ s' a', Acc a' M s' (xs ++ [val]) → (∃ b v, s' = .rsl false b v 0 (xs ++ [val]).length) → Q s' ⟨hp.h, hp.n, a', hp.m⟩) : opt (appendV 1 bytes hp ida s (.rsl c bx 0 0 1)) fun p => Q p.1 p.2 := by
  have hx : content none hp 1 (.rsl c bx 0 0 1) = some ([val], 1) := by
    simp [content, h2, sub]
  rcases h1 with ⟨rfl, rfl⟩ | ⟨b, v, hbm, rfl, ha⟩
  · have : appendV 1 bytes hp ida (.sl true [] 0) (.rsl c bx 0 0 1) = some (.rsl false ida 0 0 1, { hp with a := upd hp.a ida (some ⟨0, 1, [val], none, 0⟩) }) := by
      unfold appendV
      rw [hx, show content none hp 1 (.sl true [] 0) = some ([], 0) from by simp [content]]
      simp only
      rw [if_neg (by decide), if_pos ⟨by simpa using hb, by simpa using hl⟩]
      rfl
    rw [this]
    exact k _ _ (.inr ⟨ida, 0, hi, rfl, upd_self _ _ _⟩) ⟨_, _, rfl⟩
  · have hs : content none hp 1 (.rsl false b v 0 xs.length) = some (xs, xs.length) := by
      simp [content, ha, sub]
    have : appendV 1 bytes hp ida (.rsl false b v 0 xs.length) (.rsl c bx 0 0 1) = some (.rsl false b (v + 1) 0 (xs.length + 1), { hp with a := upd hp.a b (some ⟨v + 1, 1, xs ++ [val], none, 0⟩) }) := by
      unfold appendV
      rw [hx, hs]
      simp only
      rw [if_neg (by decide), if_pos ⟨hb, hl⟩, ha]
      simp only
      rw [if_pos (by simp)]
    rw [this]
    exact k _ _ (.inr ⟨b, v + 1, by omega, by simp, upd_self _ _ _⟩) ⟨b, v + 1, by simp⟩
end Go.Ab
end

section
set_option linter.unusedVariables false
set_option linter.unusedSimpArgs false
open Go Go.Ab Go.Proofs Go.Vl
namespace Go.Proofs.YtjfjagnnefmepaaDoor.AB
set_option maxRecDepth 100000
set_option maxHeartbeats 1600000
section
variable {ext : Exts}
end
end Go.Proofs.YtjfjagnnefmepaaDoor.AB
end

section
set_option linter.unusedVariables false
set_option linter.unusedSimpArgs false
open Go Go.Ab Go.Proofs Go.Vl
namespace Go.Ab
theorem ldI {l : List Int} {i : Nat} {k : IntKind} {Q : V → Prop} (h : i < l.length) (hq : Q (.int k l[i])) : i * 1 + 1 ≤ (l.map (V.int k)).length ∧ opt (one (some false) (sub (l.map (V.int k)) (i * 1) 1)) fun v => fv v Q := by
  refine ⟨by simp; omega, ?_⟩
  have : sub (l.map (V.int k)) (i * 1) 1 = [.int k l[i]] := by
    unfold sub
    rw [Nat.mul_one, ← List.map_drop, List.drop_eq_getElem_cons h]
    rfl
  rw [this]
  exact hq
/-- what has grown, handed out -/
theorem fz_acc {hp : Hp} {m : Nat} {s : V} {k : IntKind} {l : List Int} {d : Nat} (h : Acc hp.a m s (l.map (.int k))) : ∃ a', fz (d + 2) hp s = some (.sl false (l.map (.int k)) l.length, ⟨hp.h, hp.n, a', hp.m⟩) := by
  have ints : ∀ (g : Hp → V → Option (V × Hp)) (hp : Hp) (l : List Int), (∀ hp x, g hp (.int k x) = some (.int k x, hp)) → fzL g hp (l.map (V.int k)) = some (l.map (V.int k), hp) := by
    intro g hp l hg
    induction l with
    | nil => rfl
    | cons x l ih => simp only [List.map_cons, fzL, hg, ih]
  rcases h with ⟨rfl, h⟩ | ⟨b, v, hb, rfl, ha⟩
  · have : l = [] := by simpa using h
    subst this
    exact ⟨hp.a, rfl⟩
  · refine ⟨upd hp.a b (some ⟨v, 1, l.map (.int k), none, max 0 (0 + (l.map (V.int k)).length * 1)⟩), ?_⟩
    rw [fz]
    simp only [ha]
    rw [if_pos (by simp)]
    have : sub (l.map (V.int k)) 0 ((l.map (V.int k)).length * 1) = l.map (V.int k) := by
      unfold sub
      rw [List.drop_zero, Nat.mul_one, List.take_length]
    rw [this, ints _ _ _ (fun _ _ => rfl)]
    simp
end Go.Ab
namespace Go.Proofs.YtjfjagnnefmepaaDoor.AB
set_option maxRecDepth 100000
set_option maxHeartbeats 1600000
section
variable {ext : Exts}
def I (k : IntKind) (l : List Int) : V := .sl false (l.map (.int k)) l.length
end
end Go.Proofs.YtjfjagnnefmepaaDoor.AB
end

section
set_option linter.unusedVariables false
set_option linter.unusedSimpArgs false
open Go Go.Ab Go.Proofs Go.Vl
namespace Go.Ab
theorem Acc.form {a : Nat → Option Arr} {m : Nat} {s : V} {xs : List V} (h : Acc a m s xs) : s = .sl true [] 0 ∨ ∃ b v n, s = .rsl false b v 0 n := by
  rcases h with ⟨e, _⟩ | ⟨b, v, _, e, _⟩
  · exact .inl e
  · exact .inr ⟨b, v, _, e⟩
theorem Acc.le {a : Nat → Option Arr} {m k : Nat} {s : V} {xs : List V} (h : Acc a m s xs) (hk : m ≤ k) : Acc a k s xs := by
  rcases h with h | ⟨b, v, hb, e, ha⟩
  · exact .inl h
  · exact .inr ⟨b, v, by omega, e, ha⟩
theorem Acc.truncS {z : St} {m M n : Nat} {s : V} {k : IntKind} {l : List Int} (h : Acc z.hp.a m s (l.map (.int k))) (hm : m ≤ M) : Acc (z.trunc n).hp.a M (cleanV n s) (l.map (.int k)) := Acc.trunc (h.le hm)
theorem opt_app' {size bytes : Nat} {hp : Hp} {ida m M : Nat} {s x : V} {kd : IntKind} {l : List Int} {Q : V × Hp → Prop} (hsz : size = 1) (h2 : ∃ c bx n cp ro, x = .rsl c bx 0 0 1 ∧ hp.a bx = some ⟨0, 1, [.int kd n], cp, ro⟩) (h1 : Acc hp.a m s (l.map (.int kd))) (hb : (l.length + 1) * bytes ≤ maxRoom) (hl : l.length + 1 ≤ maxRoom) (hi : ida < M) (hm : m ≤ M)
    (k : ∀ n b v a', Acc a' M (.rsl false b v 0 (l.length + 1)) ((l ++ [n]).map (.int kd)) → Q (.rsl false b v 0 (l.length + 1), ⟨hp.h, hp.n, a', hp.m⟩)) : opt (appendV size bytes hp ida s x) Q := by
  obtain ⟨c, bx, n, cp, ro, hx, h2⟩ := h2
  subst hsz hx
  exact opt_app (Q := fun v h => Q (v, h)) h1 h2 (by simpa using hb) (by simpa using hl) hi hm fun s' a' h hr => by
    obtain ⟨b, v, rfl⟩ := hr
    have e : (l.map (V.int kd) ++ [V.int kd n]).length = l.length + 1 := by simp
    rw [e] at h ⊢
    exact k n b v a' (by simpa using h)
theorem Fin.acc {P : Program} {fn : Func} {s : St} {R : V → Prop} {m : Nat} {k : IntKind} {l : List Int} {x : V} (h : resOf P fn s = some x) (ha : Acc s.hp.a m x (l.map (.int k))) (hR : R (.sl false (l.map (.int k)) l.length)) : Fin P fn s R := by
  refine ⟨?_⟩
  rw [h]
  obtain ⟨a', e⟩ := fz_acc (d := 4) ha
  show opt (fz 6 s.hp x) fun p => R p.1
  rw [e]
  exact hR
end Go.Ab
namespace Go.Proofs.YtjfjagnnefmepaaDoor.AB
set_option maxRecDepth 100000
set_option maxHeartbeats 1600000
section
variable {ext : Exts}
end
end Go.Proofs.YtjfjagnnefmepaaDoor.AB
end

section
set_option linter.unusedVariables false
set_option linter.unusedSimpArgs false
open Go Go.Ab Go.Proofs Go.Vl
namespace Go.Proofs.YtjfjagnnefmepaaDoor.AB
set_option maxRecDepth 100000
set_option maxHeartbeats 1600000
section
variable {ext : Exts}
end
end Go.Proofs.YtjfjagnnefmepaaDoor.AB
end

section
set_option linter.unusedVariables false
set_option linter.unusedSimpArgs false
open Go Go.Ab Go.Proofs Go.Vl
namespace Go.Proofs.YtjfjagnnefmepaaDoor.AB
set_option maxRecDepth 100000
set_option maxHeartbeats 1600000
theorem opt_acc1 {d : Bool} {hp : Hp} {xs : List V} {m : Nat} {s : V} {k : IntKind} {l : List Int} {Q : List V × Hp → Prop} (h : Acc hp.a m s (l.map (.int k))) (hd : d = false) (hx : xs = [s]) (hq : ∀ a', Q ([I k l], ⟨hp.h, hp.n, a', hp.m⟩)) : opt (asData d hp xs) Q := by
  subst hd hx
  obtain ⟨a', e⟩ := fz_acc (d := 4) h
  show opt (fzL (fz 6) hp [s]) Q
  have : fzL (fz 6) hp [s] = some ([I k l], ⟨hp.h, hp.n, a', hp.m⟩) := by
    simp only [fzL]
    rw [show fz 6 hp s = _ from e]
    rfl
  rw [this]
  exact hq a'
/-- a part of a function's code: left/then, right/else, what is inside -/
def atP : Code → List Bool → Code
  | c, [] => c
  | .seq a b, p :: ps => match p with | true => atP b ps | false => atP a ps
  | .cond _ a b, p :: ps => match p with | true => atP b ps | false => atP a ps
  | .block _ c, _ :: ps => atP c ps
  | .loop c, _ :: ps => atP c ps
  | .scope c, _ :: ps => atP c ps
  | c, _ :: _ => c
def bodyOf (f : Func) : Code := match f.body with | some b => b | none => .skip
section
variable {ext : Exts}
end
end Go.Proofs.YtjfjagnnefmepaaDoor.AB
end

section
set_option linter.unusedVariables false
set_option linter.unusedSimpArgs false
open Go Go.Ab Go.Proofs Go.Vl
namespace Go.Proofs.YtjfjagnnefmepaaDoor.AB
set_option maxRecDepth 100000
set_option maxHeartbeats 1600000
section
variable {ext : Exts}
theorem t7 (hn : Non ext) (a b : T) (hc : (cfg ext).Ev 78 [A a, A b] (.int .i64 (cmpV a b))) : (cfg ext).Ev 70 [A a, A b] (.bool (cmpV a b == 0)) := by
  refine Ev.of (hn 70 (by decide) (by decide)) Tryd.func70 rfl rfl ?_
  conv => whnf
  refine ⟨_, hc, ?_⟩
  conv => whnf
end
end Go.Proofs.YtjfjagnnefmepaaDoor.AB
end

section
set_option linter.unusedVariables false
set_option linter.unusedSimpArgs false
open Go Go.Ab Go.Proofs Go.Vl
namespace Go.Proofs.YtjfjagnnefmepaaDoor.AB
set_option maxRecDepth 100000
set_option maxHeartbeats 1600000
section
variable {ext : Exts}
def nearC (a b : T) : Int := if a.f0 = 2 ∧ b.f0 = 2 then (if cmp3 (awy a.f1) (awy b.f1) = 0 then cmp3 a.f1 b.f1 else cmp3 (awy a.f1) (awy b.f1)) else cmpV a b
end
end Go.Proofs.YtjfjagnnefmepaaDoor.AB
end

section
set_option linter.unusedVariables false
set_option linter.unusedSimpArgs false
open Go Go.Ab Go.Proofs Go.Vl
namespace Go.Ab
theorem Fin.of_eq {P : Program} {fn : Func} {s : St} {R : V → Prop} {v : V} (h : (resOf P fn s).bind (fun r => (fz 6 s.hp r).map Prod.fst) = some v) (hR : R v) : Fin P fn s R := by
  obtain ⟨r, h1, h2⟩ := Option.bind_eq_some_iff.1 h
  obtain ⟨p, h3, h4⟩ := Option.map_eq_some_iff.1 h2
  refine ⟨?_⟩
  rw [h1]
  show opt (fz 6 s.hp r) fun p => R p.1
  rw [h3]
  show R p.1
  rw [h4]; exact hR
end Go.Ab
namespace Go.Proofs.YtjfjagnnefmepaaDoor.AB
set_option maxRecDepth 100000
set_option maxHeartbeats 1600000
section
variable {ext : Exts}
end
end Go.Proofs.YtjfjagnnefmepaaDoor.AB
end

section
set_option linter.unusedVariables false
set_option linter.unusedSimpArgs false
open Go Go.Ab Go.Proofs Go.Vl
namespace Go.Proofs.YtjfjagnnefmepaaDoor.AB
set_option maxRecDepth 100000
set_option maxHeartbeats 1600000
section
variable {ext : Exts}
end
end Go.Proofs.YtjfjagnnefmepaaDoor.AB
end

section
set_option linter.unusedVariables false
set_option linter.unusedSimpArgs false
open Go Go.Ab Go.Proofs Go.Vl
namespace Go.Proofs.YtjfjagnnefmepaaDoor.AB
set_option maxRecDepth 100000
set_option maxHeartbeats 1600000
section
variable {ext : Exts}
end
end Go.Proofs.YtjfjagnnefmepaaDoor.AB
end

section
set_option linter.unusedVariables false
set_option linter.unusedSimpArgs false
open Go Go.Ab Go.Proofs Go.Vl
namespace Go.Proofs.YtjfjagnnefmepaaDoor.AB
set_option maxRecDepth 100000
set_option maxHeartbeats 1600000
section
variable {ext : Exts}
end
end Go.Proofs.YtjfjagnnefmepaaDoor.AB
end

section
set_option linter.unusedVariables false
set_option linter.unusedSimpArgs false
open Go Go.Ab Go.Proofs Go.Vl
namespace Go.Proofs.YtjfjagnnefmepaaDoor.AB
set_option maxRecDepth 100000
set_option maxHeartbeats 1600000
section
variable {ext : Exts}
end
end Go.Proofs.YtjfjagnnefmepaaDoor.AB
end

section
set_option linter.unusedVariables false
set_option linter.unusedSimpArgs false
open Go Go.Ab Go.Proofs Go.Vl
namespace Go.Proofs.YtjfjagnnefmepaaDoor.AB
set_option maxRecDepth 100000
set_option maxHeartbeats 1600000
section
variable {ext : Exts}
/-- an order's row says one line -/
def Line (f : T → T → Int) : Prop := (∀ a b, f b a = - f a b) ∧ (∀ a b, Shp a → Shp b → (f a b = 0 ↔ a = b)) ∧ (∀ a b c, Shp a → Shp b → Shp c → f a b ≤ 0 → f b c ≤ 0 → f a c ≤ 0) ∧ ∀ a b, One (f a b)
theorem near_is (a b : T) : nearC a b = kindC 2 (fun v => awy v.f1) a b := by
  unfold nearC kindC
  by_cases h : a.f0 = 2 ∧ b.f0 = 2
  · rw [if_pos h, if_pos h]
    have : cmpV a b = cmpI a.f1 b.f1 := by
      cases a with | mk k n t l =>
      rw [cmpV, if_pos (h.1.trans h.2.symm), if_pos (.inr h.1)]
    unfold lexC
    rw [this]
    rfl
  · rw [if_neg h, if_neg h]
end
end Go.Proofs.YtjfjagnnefmepaaDoor.AB
end

section
set_option linter.unusedVariables false
set_option linter.unusedSimpArgs false
open Go Go.Ab Go.Proofs Go.Vl
namespace Go.Proofs.YtjfjagnnefmepaaDoor.AB
set_option maxRecDepth 100000
set_option maxHeartbeats 1600000
section
variable {ext : Exts}
end
end Go.Proofs.YtjfjagnnefmepaaDoor.AB
end

section
set_option linter.unusedVariables false
set_option linter.unusedSimpArgs false
open Go Go.Ab Go.Proofs Go.Vl
namespace Go.Proofs.YtjfjagnnefmepaaDoor.AB
def ext0 : Exts := fun f => match f with
  | 102 => some fun xs => match xs with
    | [.str s, .str t] => some (.int .i64 (Lib.compareBytes s.data.toList t.data.toList))
    | _ => none
  | 119 => some fun xs => match xs with
    | [.str s] => some (.tup [.int .i32 (decGo s).1, .int .i64 (decGo s).2])
    | _ => none
  | _ => none
theorem non0 : Non ext0 := fun f h1 h2 => by
  unfold ext0
  split
  · exact absurd rfl h1
  · exact absurd rfl h2
  · rfl
theorem e26 : E26 ext0 := fun _ _ => Ev.ext rfl rfl
theorem e73 : E73 ext0 := fun _ => Ev.ext rfl rfl
end Go.Proofs.YtjfjagnnefmepaaDoor.AB
end

section
set_option linter.unusedVariables false
set_option linter.unusedSimpArgs false
open Go Go.Ab Go.Proofs Go.Vl Go.RowKit
namespace Go.Proofs.YtjfjagnnefmepaaDoor.AB
theorem own : ownKnob Tryd.prog.godebug = none := by kernel_rfl
theorem laidOut : laidOutB Tryd.prog = true := by kernel_rfl
def LaidW (w : World) : Prop := Lib.Utf8Tabs 1 2 w
theorem LaidW.below (w w' : World) (h : LaidW w) (hb : Below w.heap.size w w') : LaidW w' := Go.Proofs.Utf8Tabs_below h hb
set_option maxRecDepth 100000 in
/-- the witness's world: the settled one, the two tables holding what their initialisers lay -/
noncomputable def laidWorld (os : Os) : World :=
  let w0 := World.holding Tryd.prog os ⟨#[], #[], []⟩
  let put (h : Array Obj) (g : Nat) (cs : Array Value) : Array Obj := h.modify g fun
    | .cells _ t frozen => .cells cs t frozen
    | o => o
  let h1 := put w0.heap 1 (Lib.firstTab.map fun z => Value.int .u8 z).toArray
  let h2 := put h1 2 ((List.range 16).flatMap fun i => [Value.int .u8 (Lib.accLo i), Value.int .u8 (Lib.accHi i)]).toArray
  { w0 with heap := h2 }
theorem in64_of_wf {n : Int} (h : (Lit.int .i64 n).wf = true) : In64 n := by
  simp only [Lit.wf, Bool.and_eq_true, decide_eq_true_eq] at h
  have e1 : IntKind.i64.min = -9223372036854775808 := by decide +kernel
  have e2 : IntKind.i64.max = 9223372036854775807 := by decide +kernel
  rw [e1, e2] at h
  exact h
theorem list4 {α : Type} {l : List α} (h : l.length = 4) : ∃ a b c d, l = [a, b, c, d] := by
  match l, h with
  | [a, b, c, d], _ => exact ⟨a, b, c, d, rfl⟩
theorem pick_all {α β : Type} {R : α → β → Prop} : ∀ {l : List β}, (∀ p ∈ l, ∃ x, R x p) → ∃ xs : List α, xs.length = l.length ∧ ∀ (i : Nat) x p, xs[i]? = some x → l[i]? = some p → R x p
  | [], _ => ⟨[], rfl, fun i x p h => by simp at h⟩
  | b :: l, h => by
    obtain ⟨x, hx⟩ := h b List.mem_cons_self
    obtain ⟨xs, h1, h2⟩ := pick_all (l := l) fun p hp => h p (List.mem_cons_of_mem _ hp)
    refine ⟨x :: xs, by simp [h1], fun i y p hy hp => ?_⟩
    cases i with
    | zero => simp at hy hp; subst hy hp; exact hx
    | succ i => exact h2 i y p (by simpa using hy) (by simpa using hp)
theorem rows_enc {parts : List (List V)} (h : ∀ p ∈ parts, ∃ v : T, WfV v ∧ p = enc v) : ∃ l : List T, l.length = parts.length ∧ (∀ v ∈ l, WfV v) ∧ parts.flatten = encL l := by
  induction parts with
  | nil => exact ⟨[], rfl, fun v hv => (by cases hv), by simp only [encL]; rfl⟩
  | cons p ps ih =>
    obtain ⟨v, hv, rfl⟩ := h p List.mem_cons_self
    obtain ⟨l, h1, h2, h3⟩ := ih fun q hq => h q (List.mem_cons_of_mem _ hq)
    refine ⟨v :: l, by simp [h1], fun x hx => ?_, by simp only [List.flatten_cons, h3, encL]⟩
    rcases List.mem_cons.1 hx with rfl | hx
    · exact hv
    · exact h2 x hx
set_option maxRecDepth 100000
/-- what reads as a value is one -/
theorem opens_V : ∀ N, Opens Tryd.prog N 24 (fun vs => ∃ v : T, WfV v ∧ vs = enc v) := by
  intro N
  induction N with
  | zero => exact ⟨fun e w base spare held fuel hf => by omega⟩
  | succ N ih =>
    have hL : Opens Tryd.prog N 22 (fun vs => ∃ parts : List (List V), vs = [.sl false parts.flatten parts.length] ∧ parts.length ≤ 9223372036854775807 ∧ ∀ p ∈ parts, ∃ v : T, WfV v ∧ p = enc v) := by
      cases N with
      | zero => exact ⟨fun e w base spare held fuel hf => by omega⟩
      | succ M =>
        refine opens_slice (m := 4) Tryd.underlying22 (by kernel_rfl) (by decide) (fun vs => ?_) (Opens.le (Nat.le_succ M) ih)
        rintro ⟨v, _, rfl⟩
        rw [enc_eq]; rfl
    refine Opens.mono (opens_struct (Rf := fun j vs => match j with
      | 0 => ∃ n : Int, vs = [.int .i64 n] ∧ (Lit.int .i64 n).wf = true
      | 1 => ∃ n : Int, vs = [.int .i64 n] ∧ (Lit.int .i64 n).wf = true
      | 2 => ∃ s : ByteArray, vs = [.str s] ∧ s.size ≤ 9223372036854775807
      | _ => ∃ parts : List (List V), vs = [.sl false parts.flatten parts.length] ∧ parts.length ≤ 9223372036854775807 ∧ ∀ p ∈ parts, ∃ v : T, WfV v ∧ p = enc v) Tryd.underlying24 (by kernel_rfl) ?_) ?_
    · intro j f hf
      match j, hf with
      | 0, hf => cases hf; exact opens_int Tryd.underlying3
      | 1, hf => cases hf; exact opens_int Tryd.underlying2
      | 2, hf => cases hf; exact opens_string Tryd.underlying9
      | 3, hf => cases hf; exact hL
      | j + 4, hf => simp at hf
    · rintro vs ⟨parts, hp, rfl, hR⟩
      obtain ⟨p0, p1, p2, p3, rfl⟩ := list4 (show parts.length = 4 from hp)
      obtain ⟨k, rfl, wk⟩ := hR 0 p0 rfl
      obtain ⟨n, rfl, wn⟩ := hR 1 p1 rfl
      obtain ⟨t, rfl, wt⟩ := hR 2 p2 rfl
      obtain ⟨rows, rfl, wl, hrows⟩ := hR 3 p3 rfl
      obtain ⟨l, h1, h2, h3⟩ := rows_enc hrows
      refine ⟨⟨k, n, t, l⟩, ?_, ?_⟩
      · simp only [WfV]
        exact ⟨in64_of_wf wk, in64_of_wf wn, wt, by omega, wfL_of l h2⟩
      · simp only [enc, h1, h3, List.flatten_cons, List.flatten_nil, List.append_nil, List.cons_append, List.nil_append]
theorem opens_L (N : Nat) : Opens Tryd.prog N 22 (fun vs => ∃ l : List T, vs = [.sl false (encL l) l.length] ∧ l.length ≤ 9223372036854775807 ∧ ∀ v ∈ l, WfV v) := by
  cases N with
  | zero => exact ⟨fun e w base spare held fuel hf => by omega⟩
  | succ M =>
    refine Opens.mono (opens_slice (m := 4) Tryd.underlying22 (by kernel_rfl) (by decide) (fun vs => ?_) (opens_V M)) ?_
    · rintro ⟨v, _, rfl⟩
      rw [enc_eq]; rfl
    · rintro vs ⟨parts, rfl, hl, hp⟩
      obtain ⟨l, h1, h2, h3⟩ := rows_enc hp
      exact ⟨l, by rw [h3, h1], by omega, h2⟩
end Go.Proofs.YtjfjagnnefmepaaDoor.AB
end

section
set_option linter.unusedVariables false
set_option linter.unusedSimpArgs false
open Go Go.Ab Go.Proofs Go.Vl Go.RowKit
namespace Go.Proofs.YtjfjagnnefmepaaDoor.AB
set_option maxRecDepth 100000
set_option linter.unusedVariables false
variable {L : World → Prop}
noncomputable abbrev NC : Cfg := noCfg Tryd.prog
theorem okIns : okCode 95 (bodyOf Tryd.f58) = true := by kernel_rfl
theorem ts22 : tslice Tryd.prog 22 = some 24 := by kernel_rfl
theorem sz24 : tsize Tryd.prog 24 = 4 := by kernel_rfl
theorem slLoR {P : Program} {t e : Nat} {b v n sz : Nat} {k : IntKind} {x : Int} {i : Nat} (ht : tslice P t = some e) (h4 : tsize P e = sz) (hx : x = (i : Int)) (h : i ≤ n) (o : Nat) : sliceV P t (.rsl false b v o n) (some (.int k x)) none none = some (.rsl false b v (o + i * sz) (n - i)) := by
  subst hx
  have hb : (0 : Int) ≤ (i : Int) ∧ (i : Int) ≤ (n : Int) := by omega
  simp only [sliceV, ht, bounds, boundO, bound, if_pos hb, Option.bind_some, Int.toNat_natCast, h4]
  rfl
theorem slHiR {P : Program} {t e : Nat} {b v n sz : Nat} {k : IntKind} {x : Int} {i : Nat} (ht : tslice P t = some e) (h4 : tsize P e = sz) (hx : x = (i : Int)) (h : i ≤ n) (o : Nat) : sliceV P t (.rsl false b v o n) none (some (.int k x)) none = some (.rsl false b v o i) := by
  subst hx
  have hb : (0 : Int) ≤ (i : Int) ∧ (i : Int) ≤ (n : Int) := by omega
  have h0 : (0 : Nat) ≤ i := by omega
  simp only [sliceV, ht, bounds, boundO, bound, if_pos hb, Option.bind_some, Int.toNat_natCast, h4]
  simp
theorem arrOkN {P : Program} {hp : Hp} {t e : Nat} {c : Bool} {b v o n : Nat} {A : Arr} (ht : tslice P t = some e) (hA : hp.a b = some A) (hv : A.ver = v) (hz : A.sz = tsize P e) : arrOk P none hp t (.rsl c b v o n) = true := by
  simp [arrOk, hA, ht, hv, hz]
theorem arrOkS {P : Program} {hp : Hp} {t e : Nat} {c : Bool} {b v o n l1 l2 : Nat} {A : Arr} (ht : tslice P t = some e) (hA : hp.a b = some A) (hl : b < l2) (hv : A.ver = v) (hz : A.sz = tsize P e) : arrOk P (some (l1, l2)) hp t (.rsl c b v o n) = true := by
  simp [arrOk, hA, ht, hv, hz, hl]
theorem opt_of {α : Type} {o : Option α} {x : α} {Q : α → Prop} (h : o = some x) (hq : Q x) : opt o Q := by rw [h]; exact hq
theorem contR {hp : Hp} {sz b v n : Nat} {c : Bool} {A : Arr} (hA : hp.a b = some A) (hv : A.ver = v) (hs : A.sz = sz) (o : Nat) (hl : o + n * sz ≤ A.cs.length) : content none hp sz (.rsl c b v o n) = some (sub A.cs o (n * sz), n) := by
  simp only [content, hA]
  rw [if_pos ⟨hv, hs, hl⟩]
theorem subAll {cs : List V} {k : Nat} (h : cs.length = k) : sub cs 0 k = cs := by simp [sub, ← h]
theorem appRoom {size bytes ida b v n b2 v2 m : Nat} {hp : Hp} {A B : Arr} (hA : hp.a b = some A) (hB : hp.a b2 = some B) (hAv : A.ver = v) (hAs : A.sz = size) (hAc : A.cap = none) (hAl : A.cs.length = n * size) (hBv : B.ver = v2) (hBs : B.sz = size) (hBl : B.cs.length = m * size) (hm : m ≠ 0) (hb1 : (n + m) * bytes ≤ maxRoom) (hb2 : n + m ≤ maxRoom) :
    appendV size bytes hp ida (.rsl false b v 0 n) (.rsl false b2 v2 0 m) = some (.rsl false b (v + 1) 0 (n + m), ⟨hp.h, hp.n, upd hp.a b (some ⟨v + 1, size, A.cs ++ B.cs, none, A.ro⟩), hp.m⟩) := by
  unfold appendV
  rw [contR hA hAv hAs 0 (by omega), contR hB hBv hBs 0 (by omega), subAll hAl, subAll hBl]
  simp only
  rw [if_neg hm, if_pos ⟨hb1, hb2⟩]
  simp only [hA, hAc]
  rw [if_pos ⟨trivial, hAl.symm⟩]
theorem appNew {size bytes ida b2 v2 m : Nat} {hp : Hp} {B : Arr} (hB : hp.a b2 = some B) (hBv : B.ver = v2) (hBs : B.sz = size) (hBl : B.cs.length = m * size) (hm : m ≠ 0) (hb1 : m * bytes ≤ maxRoom) (hb2 : m ≤ maxRoom) :
    appendV size bytes hp ida (.sl true [] 0) (.rsl false b2 v2 0 m) = some (.rsl false ida 0 0 (0 + m), ⟨hp.h, hp.n, upd hp.a ida (some ⟨0, size, B.cs, none, 0⟩), hp.m⟩) := by
  unfold appendV
  rw [contR hB hBv hBs 0 (by omega), subAll hBl]
  simp [content, hm, hb1, hb2]
theorem appX {P : Program} {t e : Nat} {bytes size : Nat} {z : List V} {hp : Hp} {ida : Nat} {s x : V} {p : V × Hp} {Q : V × Hp → Prop} (ht : tslice P t = some e) (hz : tzero P e = some z) (hl : z.length = tsize P e ∧ tsize P e ≠ 0) (hs : tsize P e = size) (hb : tbytes P e = bytes) (h : appendV size bytes hp ida s x = some p) (hq : Q p) :
    t = t ∧ opt (tslice P t) fun e => opt (tzero P e) fun z => (z.length = tsize P e ∧ tsize P e ≠ 0) ∧ opt (appendV (tsize P e) (tbytes P e) hp ida s x) Q := by
  subst hs hb
  exact ⟨rfl, opt_of ht (opt_of hz ⟨hl, opt_of h hq⟩)⟩
theorem fzR {d : Nat} {hp : Hp} {b v n sz : Nat} {c : Bool} {A : Arr} {cs : List V} (hA : hp.a b = some A) (hv : A.ver = v) (hs : A.sz = sz) (hl : A.cs.length = n * sz) (hf : fzPL (fzP d) A.cs = some cs) :
    fz (d + 1) hp (.rsl c b v 0 n) = some (.sl false cs n, ⟨hp.h, hp.n, upd hp.a b (some ⟨A.ver, A.sz, A.cs, A.cap, max A.ro (0 + n * A.sz)⟩), hp.m⟩) := by
  have h0 : A.ver = v ∧ 0 + n * A.sz ≤ A.cs.length := ⟨hv, by rw [hs, hl]; omega⟩
  have e : sub A.cs 0 (n * A.sz) = A.cs := subAll (by rw [hs]; exact hl)
  have := fzPL_fz (fzP_fz d) _ _ ⟨hp.h, hp.n, upd hp.a b (some ⟨A.ver, A.sz, A.cs, A.cap, max A.ro (0 + n * A.sz)⟩), hp.m⟩ hf
  simp only [fz, hA]
  rw [if_pos h0, e, this]
noncomputable def zT : List V := [.int .i64 0, .int .i64 0, .str ⟨#[]⟩, .sl true [] 0]
theorem tz24 : tzero Tryd.prog 24 = some zT := by kernel_rfl
theorem tb24 : tbytes Tryd.prog 24 = 56 := by kernel_rfl
theorem tl24 : zT.length = tsize Tryd.prog 24 ∧ tsize Tryd.prog 24 ≠ 0 := by rw [sz24]; exact ⟨rfl, by decide⟩
def InsEnd (hp hp' : Hp) (r : V) (ex : Ex) (s' : St) : Prop := match ex with | .exit _ => False | _ => ∃ r0 hp2, resOf Tryd.prog Tryd.f58 s' = some r0 ∧ fz 6 s'.hp r0 = some (r, hp2) ∧ hp'.h = hp2.h ∧ hp2.n ≤ hp'.n ∧ hp2.m ≤ hp'.m ∧ ∀ j A, hp'.a j = some A → hp2.a j = some A
/-- at the end -/
theorem ins_end (hS : Sound NC L) {hp : Hp} {b v n m i b2 v2 : Nat} {A B : Arr} (hi : i = n) (hA : hp.a b = some A) (hB : hp.a b2 = some B) (hne : Nat.beq b b2 = false) (hbm : b < hp.m) (hbm2 : b2 < hp.m) (hAv : A.ver = v) (hAs : A.sz = 4) (hAc : A.cap = none) (hAr : A.ro = 0) (hAl : A.cs.length = n * 4) (hBv : B.ver = v2) (hBs : B.sz = 4) (hBl : B.cs.length = m * 4) (hm : m ≠ 0)
    (hb1 : (n + m) * 56 ≤ maxRoom) (hb2 : n + m ≤ maxRoom) {cs : List V} (hf : fzPL (fzP 5) (A.cs ++ B.cs) = some cs) :
    SW NC L 95 (bodyOf Tryd.f58) ⟨init [.rsl false b v 0 n, .int .i64 i, .rsl false b2 v2 0 m], hp⟩
      (InsEnd hp ⟨hp.h, hp.n + 200, fun j => if j = b then none else if hp.m ≤ j then none else hp.a j, hp.m + 200⟩ (.sl false cs (n + m))) (fun _ => False) := by
  subst hi
  refine SW.of_x hS okIns ?_
  conv => whnf
  refine sel_yes (arrOkN ts22 hA hAv (by rw [hAs]; exact sz24.symm)) ⟨_, slLoR ts22 sz24 rfl (Nat.le_refl _) _, ?_⟩
  conv => whnf
  refine sel_no (decide_eq_false (by omega)) ?_
  conv => whnf
  refine sel_yes (decide_eq_true (by omega)) ?_
  conv => whnf
  refine appX ts22 tz24 tl24 sz24 tb24 (appRoom hA hB hAv hAs hAc hAl hBv hBs hBl hm hb1 hb2) ?_
  conv => whnf
  refine ⟨_, _, rfl, fzR (d := 5) (upd_self0 _ _ _) rfl rfl (by simp only [List.length_append, hAl, hBl, Nat.add_mul]) hf, rfl, Nat.add_le_add_left (show 19 ≤ 200 by decide) _, Nat.add_le_add_left (show 19 ≤ 200 by decide) _, ?_⟩
  intro j A' hj
  have hj' : (if j = b then none else if hp.m ≤ j then none else hp.a j) = some A' := hj
  by_cases h1 : j = b
  · rw [if_pos h1] at hj'; cases hj'
  · rw [if_neg h1] at hj'
    by_cases h2 : hp.m ≤ j
    · rw [if_pos h2] at hj'; cases hj'
    · rw [if_neg h2] at hj'
      show upd (upd hp.a b _) b _ j = _
      rw [upd_off h1, upd_off h1]; exact hj'
/-- nothing yet -/
theorem ins_new (hS : Sound NC L) {hp : Hp} {i m b2 v2 : Nat} {B : Arr} (hi : i = 0) (hB : hp.a b2 = some B) (hBv : B.ver = v2) (hBs : B.sz = 4) (hBl : B.cs.length = m * 4) (hm : m ≠ 0)
    (hb1 : m * 56 ≤ maxRoom) (hb2 : m ≤ maxRoom) {cs : List V} (hf : fzPL (fzP 5) B.cs = some cs) :
    SW NC L 95 (bodyOf Tryd.f58) ⟨init [.sl true [] 0, .int .i64 i, .rsl false b2 v2 0 m], hp⟩
      (InsEnd hp ⟨hp.h, hp.n + 200, fun j => if hp.m ≤ j then none else hp.a j, hp.m + 200⟩ (.sl false cs (0 + m))) (fun _ => False) := by
  subst hi
  refine SW.of_x hS okIns ?_
  conv => whnf
  refine ⟨_, rfl, ?_⟩
  conv => whnf
  refine sel_no (decide_eq_false (by omega)) ?_
  conv => whnf
  refine appX ts22 tz24 tl24 sz24 tb24 (appNew hB hBv hBs hBl hm hb1 hb2) ?_
  conv => whnf
  refine ⟨_, _, rfl, fzR (d := 5) (n := 0 + m) (sz := 4) (upd_self0 _ _ _) rfl rfl (by rw [Nat.zero_add]; exact hBl) hf, rfl, Nat.add_le_add_left (show 19 ≤ 200 by decide) _, Nat.add_le_add_left (show 19 ≤ 200 by decide) _, ?_⟩
  intro j A' hj
  have hj' : (if hp.m ≤ j then none else hp.a j) = some A' := hj
  by_cases h2 : hp.m ≤ j
  · rw [if_pos h2] at hj'; cases hj'
  · rw [if_neg h2] at hj'
    show upd (upd hp.a (hp.m + 17) _) (hp.m + 17) _ j = _
    rw [upd_off (by omega), upd_off (by omega)]; exact hj'
end Go.Proofs.YtjfjagnnefmepaaDoor.AB
end

section
set_option linter.unusedVariables false
set_option linter.unusedSimpArgs false
open Go Go.Ab Go.Proofs Go.Vl Go.RowKit
namespace Go.Proofs.YtjfjagnnefmepaaDoor.AB
set_option maxRecDepth 100000
set_option linter.unusedVariables false
variable {L : World → Prop}
/-- copy, wherever it stands -/
theorem xCopy {C : Cfg} {ops : List Oper} {draw : Bool} {n0 m0 i : Nat} {o : Oper} {os : List Oper} {s : St} {Q : St → Prop} {x y : Operand} {t e sz b v o1 n1 k j : Nat} {c : Bool} {A : Arr} {xs : List V} (ho : o.op = .call ⟨.builtin .copy, #[x, y], #[t, t]⟩) (hg : o.guard = none) (ht : tslice C.P t = some e) (hsz : tsize C.P e = sz) (hx : val s.t x = .rsl c b v o1 n1) (hy : content none s.hp sz (val s.t y) = some (xs, k)) (hj : min k n1 = j) (hj0 : j ≠ 0)
    (hA : s.hp.a b = some A) (hv : A.ver = v) (hro : A.ro ≤ o1) (hxs : xs.length = k * sz) (hle : o1 + j * sz ≤ A.cs.length)
    (hq : xOps C ops draw n0 m0 (i + 1) os (({ s with hp := { s.hp with a := upd s.hp.a b (some { A with cs := fillL A.cs o1 (xs.take (j * sz)) }) } } : St).put o.dst (.int .i64 j)) Q) : xOps C ops draw n0 m0 i (o :: os) s Q := by
  obtain ⟨dst, op, ty, pos, after, guard⟩ := o
  simp only at ho hg
  subst ho hg
  simp only [xOps, xOp, isLoud, xLoud]
  refine opt_of (x := (V.int .i64 (j : Int), ({ s.hp with a := upd s.hp.a b (some { A with cs := fillL A.cs o1 (xs.take (j * sz)) }) } : Hp))) ?_ hq
  have hlt : (xs.take (j * sz)).length = j * sz := by
    rw [List.length_take, hxs, Nat.min_eq_left]
    exact Nat.mul_le_mul_right _ (by omega)
  have hst : storeV s.hp (.aref b v o1) (xs.take (j * sz)) = some { s.hp with a := upd s.hp.a b (some { A with cs := fillL A.cs o1 (xs.take (j * sz)) }) } := by
    simp only [storeV, hA]
    rw [if_pos ⟨hv, hro, by rw [hlt]; exact hle⟩]
  subst hsz
  simp [loud, ht, hx, hy, hj, hst]
  intro h; exfalso; omega
theorem xMv {C : Cfg} {ops : List Oper} {draw : Bool} {n0 m0 i : Nat} {o : Oper} {os : List Oper} {s : St} {Q : St → Prop} {x : Operand} (ho : o.op = .move x) (hg : o.guard = none) (hq : xOps C ops draw n0 m0 (i + 1) os (s.put o.dst (val s.t x)) Q) : xOps C ops draw n0 m0 i (o :: os) s Q := by
  obtain ⟨dst, op, ty, pos, after, guard⟩ := o
  simp only at ho hg
  subst ho hg
  simp only [xOps, xOp, isLoud, xCore, fv_eq]
  exact hq
theorem fzR2 {d : Nat} {hp : Hp} {b v n sz : Nat} {c : Bool} {A : Arr} {cs : List V} (hA : hp.a b = some A) (hv : A.ver = v) (hs : A.sz = sz) (hl : n * sz ≤ A.cs.length) (hf : fzPL (fzP d) (sub A.cs 0 (n * sz)) = some cs) :
    fz (d + 1) hp (.rsl c b v 0 n) = some (.sl false cs n, ⟨hp.h, hp.n, upd hp.a b (some ⟨A.ver, A.sz, A.cs, A.cap, max A.ro (0 + n * A.sz)⟩), hp.m⟩) := by
  have h0 : A.ver = v ∧ 0 + n * A.sz ≤ A.cs.length := ⟨hv, by rw [hs]; omega⟩
  have := fzPL_fz (fzP_fz d) _ _ ⟨hp.h, hp.n, upd hp.a b (some ⟨A.ver, A.sz, A.cs, A.cap, max A.ro (0 + n * A.sz)⟩), hp.m⟩ hf
  simp only [fz, hA]
  rw [if_pos h0]
  have e : sub A.cs 0 (n * A.sz) = sub A.cs 0 (n * sz) := by rw [hs]
  rw [e, this]
theorem sub_bad {ca r : List V} {a l : Nat} (h : a + l ≤ ca.length) : sub (ca ++ r) a l = sub ca a l := by
  unfold sub
  rw [List.drop_append_of_le_length (by omega), List.take_append_of_le_length (by simp; omega)]
theorem fill_mid {x y z u : List V} (h : y.length = u.length) : fillL (x ++ y ++ z) x.length u = x ++ u ++ z := by
  unfold fillL
  have e1 : (x ++ y ++ z).take x.length = x := by rw [List.append_assoc, List.take_left]
  have e2 : (x ++ y ++ z).drop (x.length + u.length) = z := by rw [← h, ← List.length_append, List.drop_left]
  rw [e1, e2]
theorem ins_list1 {ca cb : List V} {n m i : Nat} (hi : i ≤ n) (ha : ca.length = n * 4) (hb : cb.length = m * 4) :
    fillL (fillL (ca.take (i * 4) ++ List.replicate ((n + m - i) * 4) V.bad) (i * 4) cb) ((i + m) * 4) (ca.drop (i * 4)) = ca.take (i * 4) ++ cb ++ ca.drop (i * 4) := by
  have e1 : (ca.take (i * 4)).length = i * 4 := by simp; omega
  have e2 : List.replicate ((n + m - i) * 4) V.bad = List.replicate (m * 4) V.bad ++ List.replicate ((n - i) * 4) V.bad := by
    rw [List.replicate_append_replicate]; congr 1; omega
  have k1 : fillL (ca.take (i * 4) ++ List.replicate ((n + m - i) * 4) V.bad) (i * 4) cb = ca.take (i * 4) ++ cb ++ List.replicate ((n - i) * 4) V.bad := by
    rw [e2, ← List.append_assoc]
    have := fill_mid (x := ca.take (i * 4)) (y := List.replicate (m * 4) V.bad) (z := List.replicate ((n - i) * 4) V.bad) (u := cb) (by simp [hb])
    rw [e1] at this; exact this
  rw [k1]
  have := fill_mid (x := ca.take (i * 4) ++ cb) (y := List.replicate ((n - i) * 4) V.bad) (z := []) (u := ca.drop (i * 4)) (by simp; omega)
  rw [List.append_nil, List.append_nil, List.length_append, e1, hb, ← Nat.add_mul] at this
  exact this
theorem ins_list2 {ca cb : List V} {n m i k : Nat} (hi : i ≤ n) (hk : n + m ≤ k) (ha : ca.length = n * 4) (hb : cb.length = m * 4) :
    sub (fillL (fillL (ca ++ List.replicate (k * 4 - ca.length) V.bad) ((i + m) * 4) (ca.drop (i * 4))) (i * 4) cb) 0 ((n + m) * 4) = ca.take (i * 4) ++ cb ++ ca.drop (i * 4) := by
  have e1 : (ca.take (i * 4)).length = i * 4 := by simp; omega
  -- the first (i + m) elements of what was there
  obtain ⟨P, hP⟩ : ∃ P, P = (ca ++ List.replicate (k * 4 - ca.length) V.bad) := ⟨_, rfl⟩
  have hPl : P.length = k * 4 := by rw [hP]; simp; omega
  have hPt : P.take (i * 4) = ca.take (i * 4) := by rw [hP, List.take_append_of_le_length (by omega)]
  rw [← hP]
  have s1 : P = (ca.take (i * 4) ++ (P.drop (i * 4)).take (m * 4)) ++ ((P.drop ((i + m) * 4)).take ((n - i) * 4)) ++ P.drop ((n + m) * 4) := by
    have q1 : P = P.take (i * 4) ++ P.drop (i * 4) := (List.take_append_drop _ _).symm
    have q2 : P.drop (i * 4) = (P.drop (i * 4)).take (m * 4) ++ P.drop ((i + m) * 4) := by
      conv => lhs; rw [← List.take_append_drop (m * 4) (P.drop (i * 4))]
      rw [List.drop_drop]; congr 2; omega
    have q3 : P.drop ((i + m) * 4) = (P.drop ((i + m) * 4)).take ((n - i) * 4) ++ P.drop ((n + m) * 4) := by
      conv => lhs; rw [← List.take_append_drop ((n - i) * 4) (P.drop ((i + m) * 4))]
      rw [List.drop_drop]; congr 2; omega
    conv => lhs; rw [q1, q2, q3, hPt]
    simp only [List.append_assoc]
  have l1 : (ca.take (i * 4) ++ (P.drop (i * 4)).take (m * 4)).length = (i + m) * 4 := by simp [e1]; omega
  have l2 : ((P.drop ((i + m) * 4)).take ((n - i) * 4)).length = (ca.drop (i * 4)).length := by simp; omega
  have k1 := fill_mid (z := P.drop ((n + m) * 4)) (x := ca.take (i * 4) ++ (P.drop (i * 4)).take (m * 4)) l2
  rw [← s1, l1] at k1
  rw [k1]
  have k2 := fill_mid (x := ca.take (i * 4)) (y := (P.drop (i * 4)).take (m * 4)) (z := ca.drop (i * 4) ++ P.drop ((n + m) * 4)) (u := cb) (by simp; omega)
  rw [e1] at k2
  rw [show ca.take (i * 4) ++ (P.drop (i * 4)).take (m * 4) ++ ca.drop (i * 4) ++ P.drop ((n + m) * 4) = ca.take (i * 4) ++ (P.drop (i * 4)).take (m * 4) ++ (ca.drop (i * 4) ++ P.drop ((n + m) * 4)) by simp only [List.append_assoc]]
  rw [k2]
  unfold sub
  rw [List.drop_zero, ← List.append_assoc, List.take_append_of_le_length (by simp; omega), List.take_of_length_le (by simp; omega)]
theorem St.knowsT {s : St} (L : List (Nat × V)) (h : Has s.t L) : s = ⟨updL s.t L, s.hp⟩ := by rw [updL_has _ _ h]
theorem ins_grow2 (hS : Sound NC L) {Q : Ex → St → Prop} {X : Value → Prop} {S : St} {b v n m i u k : Nat} {X1 ca : List V} (hi : i < n) (hm : m ≠ 0) (hb2 : n + m ≤ maxRoom) (ht : Has S.t [(0, .rsl false b v 0 n), (1, .int .i64 i), (7, .int .i64 m), (9, .rsl false u 0 0 (n + m))])
    (hA : S.hp.a b = some ⟨v, 4, ca ++ List.replicate (k * 4 - ca.length) .bad, some k, 0⟩) (hU : S.hp.a u = some ⟨0, 4, X1, none, 0⟩) (hX : X1.length = (n + m) * 4) (hAl : ca.length = n * 4) (hbu : b ≠ u) (hbm : b < S.hp.m) (hum : u < S.hp.m)
    (hq : ∀ s' : St, s'.t 6 = .rsl false u 0 0 (n + m) → s'.hp = ⟨S.hp.h, S.hp.n + 11, upd S.hp.a u (some ⟨0, 4, fillL X1 ((i + m) * 4) (ca.drop (i * 4)), none, 0⟩), S.hp.m + 11⟩ → Q .ret s') :
    SW NC L 95 (atP (bodyOf Tryd.f58) [true, true, true, true, true, true, false, true, false, true, true]) S Q X := by
  obtain ⟨t, h, N, a, M⟩ := S
  simp only at hA hU hbm hum hq ht
  rw [St.knowsT (s := ⟨t, ⟨h, N, a, M⟩⟩) _ ht]
  simp only
  have hmr : maxRoom = 140737488355328 := rfl
  have hw2 : IntKind.i64.wrap ((i : Int) + (m : Int)) = ((i + m : Nat) : Int) := by rw [IntKind.wrap_i64]; omega
  have hcon : ∀ hp1 : Hp, hp1.a b = some ⟨v, 4, ca ++ List.replicate (k * 4 - ca.length) .bad, some k, 0⟩ → content none hp1 4 (.rsl false b v (0 + i * 4) (n - i)) = some (ca.drop (i * 4), n - i) := fun hp1 h1 => by
    have e : sub (ca ++ List.replicate (k * 4 - ca.length) V.bad) (0 + i * 4) ((n - i) * 4) = ca.drop (i * 4) := by
      rw [sub_bad (by omega)]; unfold sub; rw [Nat.zero_add, List.take_of_length_le (by simp; omega)]
    rw [contR h1 rfl rfl _ (by simp; omega), e]
  refine SW.seq (SW.of_x hS (by kernel_rfl) ?_)
  conv => whnf
  refine sel_yes (arrOkS ts22 hU ?_ rfl sz24.symm) ⟨_, slLoR ts22 sz24 hw2 (show i + m ≤ n + m by omega) _, ?_⟩
  · exact Nat.lt_of_lt_of_le hum (Nat.le_refl _)
  refine xMv rfl rfl (xMv rfl rfl ?_)
  conv => whnf
  refine sel_yes (arrOkS ts22 hA ?_ rfl sz24.symm) ⟨_, slLoR ts22 sz24 rfl (show i ≤ n by omega) _, ?_⟩
  · exact Nat.lt_of_lt_of_le hbm (Nat.le_refl _)
  refine xCopy (e := 24) (sz := 4) (b := u) (v := 0) (o1 := 0 + (i + m) * 4) (n1 := n + m - (i + m)) (k := n - i) (j := n - i) (xs := ca.drop (i * 4)) rfl rfl ts22 sz24 rfl ?_ ?_ ?_ hU rfl ?_ ?_ ?_ ?_
  · exact hcon _ hA
  · omega
  · omega
  · exact Nat.zero_le _
  · simp; omega
  · show 0 + (i + m) * 4 + (n - i) * 4 ≤ X1.length
    rw [hX]; omega
  conv => whnf
  refine SW.of_x hS (by kernel_rfl) ?_
  conv => whnf
  refine hq _ rfl ?_
  show (⟨h, N + 11, upd a u (some ⟨0, 4, fillL X1 (0 + (i + m) * 4) ((ca.drop (i * 4)).take ((n - i) * 4)), none, 0⟩), M + 11⟩ : Hp) = _
  rw [Nat.zero_add, List.take_of_length_le (by simp; omega)]
theorem ins_grow1 (hS : Sound NC L) {Q : Ex → St → Prop} {X : Value → Prop} {S : St} {b v b2 v2 n m i u k roB : Nat} {capB : Option Nat} {ca cb : List V} (hi : i < n) (hm : m ≠ 0) (hb2 : n + m ≤ maxRoom) (ht : Has S.t [(0, .rsl false b v 0 n), (1, .int .i64 i), (2, .rsl false b2 v2 0 m), (7, .int .i64 m), (9, .rsl false u 0 0 (n + m))])
    (hA : S.hp.a b = some ⟨v, 4, ca ++ List.replicate (k * 4 - ca.length) .bad, some k, 0⟩) (hB : S.hp.a b2 = some ⟨v2, 4, cb, capB, roB⟩) (hU : S.hp.a u = some ⟨0, 4, ca.take (i * 4) ++ List.replicate ((n + m - i) * 4) .bad, none, 0⟩) (hAl : ca.length = n * 4) (hBl : cb.length = m * 4) (hbu : b ≠ u) (hb2u : b2 ≠ u) (hbm : b < S.hp.m) (hum : u < S.hp.m)
    (hq : ∀ s' : St, s'.t 6 = .rsl false u 0 0 (n + m) → s'.hp.h = S.hp.h → s'.hp.n = S.hp.n + 16 → s'.hp.m = S.hp.m + 16 → s'.hp.a u = some ⟨0, 4, ca.take (i * 4) ++ cb ++ ca.drop (i * 4), none, 0⟩ → (∀ j, j ≠ u → s'.hp.a j = S.hp.a j) → Q .ret s') :
    SW NC L 95 (atP (bodyOf Tryd.f58) [true, true, true, true, true, true, false, true, false, true]) S Q X := by
  obtain ⟨t, h, N, a, M⟩ := S
  simp only at hA hB hU hbm hum hq ht
  rw [St.knowsT (s := ⟨t, ⟨h, N, a, M⟩⟩) _ ht]
  simp only
  have hcon : ∀ hp1 : Hp, hp1.a b2 = some ⟨v2, 4, cb, capB, roB⟩ → content none hp1 4 (.rsl false b2 v2 0 m) = some (cb, m) := fun hp1 h1 => by
    rw [contR h1 rfl rfl 0 (by simp; omega), subAll hBl]
  refine SW.seq (SW.of_x hS (by kernel_rfl) ?_)
  conv => whnf
  refine sel_yes (arrOkN ts22 hU rfl sz24.symm) ⟨_, slLoR ts22 sz24 rfl (show i ≤ n + m by omega) _, ?_⟩
  refine xMv rfl rfl ?_
  refine xCopy (e := 24) (sz := 4) (b := u) (v := 0) (o1 := 0 + i * 4) (n1 := n + m - i) (k := m) (j := m) (xs := cb) rfl rfl ts22 sz24 rfl ?_ ?_ hm hU rfl ?_ hBl ?_ ?_
  · exact hcon _ hB
  · omega
  · exact Nat.zero_le _
  · show 0 + i * 4 + m * 4 ≤ (ca.take (i * 4) ++ List.replicate ((n + m - i) * 4) V.bad).length
    simp; omega
  conv => whnf
  refine ins_grow2 hS (u := u) (b := b) (v := v) (X1 := fillL (ca.take (i * 4) ++ List.replicate ((n + m - i) * 4) V.bad) (0 + i * 4) (cb.take (m * 4))) (k := k) hi hm hb2 ⟨rfl, rfl, rfl, rfl, trivial⟩ ?_ ?_ ?_ hAl hbu (Nat.lt_of_lt_of_le hbm (Nat.le_add_right M 5)) (Nat.lt_of_lt_of_le hum (Nat.le_add_right M 5)) ?_
  · show upd a u _ b = _
    rw [upd_off hbu]; exact hA
  · show upd a u _ u = _
    rw [upd_self0]
  · simp [fillL]; omega
  · intro s' h6 hp'
    have hl := ins_list1 (ca := ca) (cb := cb) (Nat.le_of_lt hi) hAl hBl
    refine hq s' h6 (by rw [hp']; rfl) (by rw [hp']; rfl) (by rw [hp']; rfl) ?_ ?_
    · rw [hp']
      show upd _ u _ u = _
      rw [upd_self0, Nat.zero_add, List.take_of_length_le (show cb.length ≤ m * 4 by omega), hl]
    · intro j hj
      rw [hp']
      show upd (upd a u _) u _ j = a j
      rw [upd_off hj, upd_off hj]
theorem ins_in2 (hS : Sound NC L) {Q : Ex → St → Prop} {X : Value → Prop} {S : St} {b v b2 v2 n m i k roB : Nat} {capB : Option Nat} {P cb : List V} (hi : i < n) (hm : m ≠ 0) (ht : Has S.t [(0, .rsl false b v 0 (n + m)), (1, .int .i64 i), (2, .rsl false b2 v2 0 m), (7, .int .i64 m)])
    (hA : S.hp.a b = some ⟨v, 4, P, some k, 0⟩) (hB : S.hp.a b2 = some ⟨v2, 4, cb, capB, roB⟩) (hP : P.length = k * 4) (hBl : cb.length = m * 4) (hnk : n + m ≤ k)
    (hq : ∀ s' : St, s'.t 6 = .rsl false b v 0 (n + m) → s'.hp = ⟨S.hp.h, S.hp.n + 7, upd S.hp.a b (some ⟨v, 4, fillL P (i * 4) cb, some k, 0⟩), S.hp.m + 7⟩ → Q .ret s') :
    SW NC L 95 (atP (bodyOf Tryd.f58) [true, true, true, true, true, true, true, true, false, true, false, true]) S Q X := by
  obtain ⟨t, h, N, a, M⟩ := S
  simp only at hA hB hq ht
  rw [St.knowsT (s := ⟨t, ⟨h, N, a, M⟩⟩) _ ht]
  simp only
  have hcon : ∀ hp1 : Hp, hp1.a b2 = some ⟨v2, 4, cb, capB, roB⟩ → content none hp1 4 (.rsl false b2 v2 0 m) = some (cb, m) := fun hp1 h1 => by
    rw [contR h1 rfl rfl 0 (by simp; omega), subAll hBl]
  refine SW.seq (SW.of_x hS (by kernel_rfl) ?_)
  conv => whnf
  refine sel_yes (arrOkN ts22 hA rfl sz24.symm) ⟨_, slLoR ts22 sz24 rfl (show i ≤ n + m by omega) _, ?_⟩
  refine xMv rfl rfl ?_
  refine xCopy (e := 24) (sz := 4) (b := b) (v := v) (o1 := 0 + i * 4) (n1 := n + m - i) (k := m) (j := m) (xs := cb) rfl rfl ts22 sz24 rfl ?_ ?_ hm hA rfl ?_ hBl ?_ ?_
  · exact hcon _ hB
  · omega
  · exact Nat.zero_le _
  · show 0 + i * 4 + m * 4 ≤ P.length
    omega
  conv => whnf
  refine SW.of_x hS (by kernel_rfl) ?_
  conv => whnf
  refine hq _ rfl ?_
  show (⟨h, N + 7, upd a b (some ⟨v, 4, fillL P (0 + i * 4) (cb.take (m * 4)), some k, 0⟩), M + 7⟩ : Hp) = _
  rw [Nat.zero_add, List.take_of_length_le (show cb.length ≤ m * 4 by omega)]
theorem ins_in1 (hS : Sound NC L) {Q : Ex → St → Prop} {X : Value → Prop} {S : St} {b v b2 v2 n m i k roB : Nat} {capB : Option Nat} {ca cb : List V} (hi : i < n) (hm : m ≠ 0) (hb2 : n + m ≤ maxRoom) (ht : Has S.t [(0, .rsl false b v 0 (n + m)), (1, .int .i64 i), (2, .rsl false b2 v2 0 m), (7, .int .i64 m)])
    (hA : S.hp.a b = some ⟨v, 4, ca ++ List.replicate (k * 4 - ca.length) .bad, some k, 0⟩) (hB : S.hp.a b2 = some ⟨v2, 4, cb, capB, roB⟩) (hAl : ca.length = n * 4) (hBl : cb.length = m * 4) (hnk : n + m ≤ k) (hne : b2 ≠ b) (hbm : b < S.hp.m)
    (hq : ∀ s' : St, s'.t 6 = .rsl false b v 0 (n + m) → s'.hp.h = S.hp.h → s'.hp.n = S.hp.n + 16 → s'.hp.m = S.hp.m + 16 → s'.hp.a b = some ⟨v, 4, fillL (fillL (ca ++ List.replicate (k * 4 - ca.length) .bad) ((i + m) * 4) (ca.drop (i * 4))) (i * 4) cb, some k, 0⟩ → (∀ j, j ≠ b → s'.hp.a j = S.hp.a j) → Q .ret s') :
    SW NC L 95 (atP (bodyOf Tryd.f58) [true, true, true, true, true, true, true, true, false, true, false]) S Q X := by
  obtain ⟨t, h, N, a, M⟩ := S
  simp only at hA hB hbm hq ht
  rw [St.knowsT (s := ⟨t, ⟨h, N, a, M⟩⟩) _ ht]
  simp only
  have hmr : maxRoom = 140737488355328 := rfl
  have hw2 : IntKind.i64.wrap ((i : Int) + (m : Int)) = ((i + m : Nat) : Int) := by rw [IntKind.wrap_i64]; omega
  have hPl : (ca ++ List.replicate (k * 4 - ca.length) V.bad).length = k * 4 := by simp; omega
  have hcon : ∀ hp1 : Hp, hp1.a b = some ⟨v, 4, ca ++ List.replicate (k * 4 - ca.length) .bad, some k, 0⟩ → content none hp1 4 (.rsl false b v (0 + i * 4) (n + m - i)) = some (sub (ca ++ List.replicate (k * 4 - ca.length) .bad) (0 + i * 4) ((n + m - i) * 4), n + m - i) := fun hp1 h1 => by
    exact contR (sz := 4) h1 rfl rfl _ (show 0 + i * 4 + (n + m - i) * 4 ≤ (ca ++ List.replicate (k * 4 - ca.length) V.bad).length by rw [hPl]; omega)
  have hxl : (sub (ca ++ List.replicate (k * 4 - ca.length) V.bad) (0 + i * 4) ((n + m - i) * 4)).length = (n + m - i) * 4 := by
    unfold sub; rw [List.length_take, List.length_drop, hPl]; omega
  have hxt : (sub (ca ++ List.replicate (k * 4 - ca.length) V.bad) (0 + i * 4) ((n + m - i) * 4)).take ((n - i) * 4) = ca.drop (i * 4) := by
    have e1 : (sub (ca ++ List.replicate (k * 4 - ca.length) V.bad) (0 + i * 4) ((n + m - i) * 4)).take ((n - i) * 4) = sub (ca ++ List.replicate (k * 4 - ca.length) V.bad) (0 + i * 4) ((n - i) * 4) := by
      unfold sub; rw [List.take_take, Nat.min_eq_left (by omega)]
    rw [e1, sub_bad (by omega)]; unfold sub; rw [Nat.zero_add, List.take_of_length_le (by simp; omega)]
  refine SW.seq (SW.of_x hS (by kernel_rfl) ?_)
  conv => whnf
  refine sel_yes (arrOkS ts22 hA ?_ rfl sz24.symm) ⟨_, slLoR ts22 sz24 hw2 (show i + m ≤ n + m by omega) _, ?_⟩
  · exact Nat.lt_of_lt_of_le hbm (Nat.le_refl _)
  refine xMv rfl rfl (xMv rfl rfl ?_)
  conv => whnf
  refine sel_yes (arrOkS ts22 hA ?_ rfl sz24.symm) ⟨_, slLoR ts22 sz24 rfl (show i ≤ n + m by omega) _, ?_⟩
  · exact Nat.lt_of_lt_of_le hbm (Nat.le_refl _)
  refine xCopy (e := 24) (sz := 4) (b := b) (v := v) (o1 := 0 + (i + m) * 4) (n1 := n + m - (i + m)) (k := n + m - i) (j := n - i) (xs := sub (ca ++ List.replicate (k * 4 - ca.length) .bad) (0 + i * 4) ((n + m - i) * 4)) rfl rfl ts22 sz24 rfl ?_ ?_ ?_ hA rfl ?_ hxl ?_ ?_
  · exact hcon _ hA
  · omega
  · omega
  · exact Nat.zero_le _
  · show 0 + (i + m) * 4 + (n - i) * 4 ≤ (ca ++ List.replicate (k * 4 - ca.length) V.bad).length
    rw [hPl]; omega
  conv => whnf
  refine ins_in2 hS (b := b) (v := v) (b2 := b2) (v2 := v2) (capB := capB) (roB := roB) (cb := cb) (k := k) (P := fillL (ca ++ List.replicate (k * 4 - ca.length) .bad) ((i + m) * 4) (ca.drop (i * 4))) hi hm ⟨rfl, rfl, rfl, rfl, trivial⟩ ?_ ?_ ?_ hBl hnk ?_
  · show upd a b (some ⟨v, 4, fillL (ca ++ List.replicate (k * 4 - ca.length) .bad) (0 + (i + m) * 4) ((sub (ca ++ List.replicate (k * 4 - ca.length) V.bad) (0 + i * 4) ((n + m - i) * 4)).take ((n - i) * 4)), some k, 0⟩) b = _
    rw [upd_self0, hxt, Nat.zero_add]
  · show upd a b _ b2 = _
    rw [upd_off hne]; exact hB
  · unfold fillL
    simp only [List.length_append, List.length_take, List.length_drop, List.length_replicate, hAl]; omega
  · intro s' h6 hp'
    refine hq s' h6 (by rw [hp']; rfl) (by rw [hp']; rfl) (by rw [hp']; rfl) ?_ ?_
    · rw [hp']; exact upd_self0 _ _ _
    · intro j hj
      rw [hp']
      show upd (upd a b _) b _ j = a j
      rw [upd_off hj, upd_off hj]
end Go.Proofs.YtjfjagnnefmepaaDoor.AB
end

section
set_option linter.unusedVariables false
set_option linter.unusedSimpArgs false
open Go Go.Ab Go.Proofs Go.Vl Go.RowKit
namespace Go.Proofs.YtjfjagnnefmepaaDoor.AB
set_option maxRecDepth 100000
set_option linter.unusedVariables false
variable {L : World → Prop}
theorem insEnd_of {hp hp2 : Hp} {r r0 : V} {b : Nat} {s' : St} (h1 : resOf Tryd.prog Tryd.f58 s' = some r0) (h2 : fz 6 s'.hp r0 = some (r, hp2)) (h3 : hp.h = hp2.h) (h4 : hp2.n ≤ hp.n + 200) (h5 : hp2.m ≤ hp.m + 200) (h6 : ∀ j A, j ≠ b → j < hp.m → hp.a j = some A → hp2.a j = some A) :
    InsEnd hp ⟨hp.h, hp.n + 200, fun j => if j = b then none else if hp.m ≤ j then none else hp.a j, hp.m + 200⟩ r .ret s' := by
  refine ⟨r0, hp2, h1, h2, h3, h4, h5, ?_⟩
  intro j A' hj
  have hj' : (if j = b then none else if hp.m ≤ j then none else hp.a j) = some A' := hj
  by_cases h1 : j = b
  · rw [if_pos h1] at hj'; cases hj'
  · rw [if_neg h1] at hj'
    by_cases h2 : hp.m ≤ j
    · rw [if_pos h2] at hj'; cases hj'
    · rw [if_neg h2] at hj'
      exact h6 j A' h1 (by omega) hj'
theorem ins_mid (hS : Sound NC L) {hp : Hp} {b v n m i b2 v2 k roB : Nat} {capB : Option Nat} {ca cb : List V} (hi : i < n) (hA : hp.a b = some ⟨v, 4, ca ++ List.replicate (k * 4 - ca.length) .bad, some k, 0⟩) (hB : hp.a b2 = some ⟨v2, 4, cb, capB, roB⟩) (hne : Nat.beq b b2 = false) (hbm : b < hp.m) (hbm2 : b2 < hp.m) (hAl : ca.length = n * 4) (hBl : cb.length = m * 4) (hm : m ≠ 0) (hnk : n ≤ k)
    (hb1 : (n + m) * 56 ≤ maxRoom) (hb2 : n + m ≤ maxRoom) {cs : List V} (hf : fzPL (fzP 5) (ca.take (i * 4) ++ cb ++ ca.drop (i * 4)) = some cs) :
    SW NC L 95 (bodyOf Tryd.f58) ⟨init [.rsl false b v 0 n, .int .i64 i, .rsl false b2 v2 0 m], hp⟩
      (InsEnd hp ⟨hp.h, hp.n + 200, fun j => if j = b then none else if hp.m ≤ j then none else hp.a j, hp.m + 200⟩ (.sl false cs (n + m))) (fun _ => False) := by
  have hne' : b ≠ b2 := by rintro rfl; simp at hne
  have hmr : maxRoom = 140737488355328 := rfl
  have hw1 : IntKind.i64.wrap ((n : Int) + (m : Int)) = ((n + m : Nat) : Int) := by rw [IntKind.wrap_i64]; omega
  have hw2 : IntKind.i64.wrap ((i : Int) + (m : Int)) = ((i + m : Nat) : Int) := by rw [IntKind.wrap_i64]; omega
  have hw3 : IntKind.i64.wrap (((n + m : Nat) : Int) - (i : Int)) = ((n + m - i : Nat) : Int) := by rw [IntKind.wrap_i64]; omega
  have hvq : V.int .i64 (IntKind.i64.wrap (IntKind.i64.wrap ((n : Int) + (m : Int)) - (i : Int))) = V.int .i64 ((n + m - i : Nat) : Int) := vi (by rw [hw1]; exact hw3)
  have hcon : ∀ hp1 : Hp, hp1.a b = some ⟨v, 4, ca ++ List.replicate (k * 4 - ca.length) .bad, some k, 0⟩ → content none hp1 (tsize Tryd.prog 24) (.rsl false b v 0 i) = some (ca.take (i * 4), i) := fun hp1 h1 => by
    have e : sub (ca ++ List.replicate (k * 4 - ca.length) V.bad) 0 (i * 4) = ca.take (i * 4) := by
      rw [sub_bad (by omega)]; simp [sub]
    rw [sz24, contR h1 rfl rfl 0 (by simp; omega), e]
  have hconB : ∀ hp1 : Hp, hp1.a b2 = some ⟨v2, 4, cb, capB, roB⟩ → content none hp1 4 (.rsl false b2 v2 0 m) = some (cb, m) := fun hp1 h1 => by
    rw [contR h1 rfl rfl 0 (by simp; omega), subAll hBl]
  have hbb : (i + (n + m - i)) * tbytes Tryd.prog 24 ≤ 140737488355328 := by
    rw [tb24, ← hmr, show i + (n + m - i) = n + m by omega]; exact hb1
  have hlen : (ca.take (i * 4) ++ cb ++ ca.drop (i * 4)).length = (n + m) * 4 := by
    simp only [List.length_append, List.length_take, List.length_drop, hAl, hBl]; omega
  have hsub := subAll hlen
  refine SW.seq (SW.of_x hS (by kernel_rfl) ?_)
  conv => whnf
  refine SW.seq (SW.of_x hS (by kernel_rfl) ?_)
  conv => whnf
  refine sel_yes (arrOkN ts22 hA rfl sz24.symm) ⟨_, slLoR ts22 sz24 rfl (Nat.le_of_lt hi) _, ?_⟩
  conv => whnf
  refine SW.seq (SW.of_x hS (by kernel_rfl) ?_)
  conv => whnf
  refine SW.seq (SW.of_x hS (by kernel_rfl) ?_)
  conv => whnf
  refine sel_no (decide_eq_false (by omega)) ?_
  conv => whnf
  refine SW.seq (SW.of_x hS (by kernel_rfl) ?_)
  conv => whnf
  refine SW.seq (SW.of_x hS (by kernel_rfl) ?_)
  conv => whnf
  refine sel_no (decide_eq_false (by omega)) ?_
  conv => whnf
  refine SW.seq (SW.seq (SW.region hS 4 rfl (by kernel_rfl) ?_))
  conv => whnf
  refine OpW.mono (OpW.cap (n := n) (k := k) rfl rfl (by kernel_rfl) rfl hA rfl rfl (show (4 : Nat) ≠ 0 by decide)) ?_
  rintro _ rfl
  conv => whnf
  refine SW.cond (t := decide (IntKind.i64.wrap ((n : Int) + (m : Int)) > (k : Int))) rfl (fun hgt => ?_) (fun hgt => ?_)
  · have hgt : k < n + m := by
      have := of_decide_eq_true hgt
      rw [hw1] at this; omega
    refine SW.seq (SW.region hS 8 rfl (by kernel_rfl) ?_)
    conv => whnf
    refine sel_yes (arrOkN ts22 hA rfl sz24.symm) ⟨_, slHiR ts22 sz24 rfl (Nat.le_of_lt hi) _, ?_⟩
    conv => whnf
    refine OpW.mono (OpW.appendMake (A := ⟨v, 4, ca ++ List.replicate (k * 4 - ca.length) .bad, some k, 0⟩) (e := 24) (z := zT) (cs := ca.take (i * 4)) (b := b) (v := v) (n := i) (k := k) (q := n + m - i) (kn := .i64) rfl rfl ts22 ?_ tz24 tl24.1 tl24.2 rfl ?_ ?_ rfl rfl sz24.symm ?_ ?_ ?_ ?_ ?_) ?_
    · kernel_rfl
    · exact hvq
    · exact hA
    · exact hcon _ hA
    · omega
    · omega
    · exact hbb
    · omega
    rintro _ rfl
    conv => whnf
    refine ins_grow1 hS (u := hp.m + 29) (b := b) (v := v) (b2 := b2) (v2 := v2) (capB := capB) (roB := roB) (k := k) hi hm hb2 ⟨rfl, rfl, rfl, rfl, ?_, trivial⟩ ?_ ?_ ?_ hAl hBl (by omega) (by omega) (Nat.lt_of_lt_of_le hbm (Nat.le_add_right hp.m 31)) (Nat.add_lt_add_left (show 29 < 31 by decide) hp.m) ?_
    · show V.rsl false (hp.m + 29) 0 0 (i + (n + m - i)) = _
      rw [show i + (n + m - i) = n + m by omega]
    · show upd hp.a (hp.m + 29) _ b = _
      rw [upd_off (by omega)]; exact hA
    · show upd hp.a (hp.m + 29) _ b2 = _
      rw [upd_off (by omega)]; exact hB
    · show upd hp.a (hp.m + 29) (some ⟨0, tsize Tryd.prog 24, ca.take (i * 4) ++ List.replicate ((n + m - i) * tsize Tryd.prog 24) .bad, none, 0⟩) (hp.m + 29) = _
      rw [upd_self0, sz24]
    · intro s' h6 e1 e2 e3 e4 e5
      have f1 : hp.h = s'.hp.h := e1.symm
      have f2 : s'.hp.n = hp.n + 47 := e2
      have f3 : s'.hp.m = hp.m + 47 := e3
      have f5 : ∀ j, j ≠ hp.m + 29 → s'.hp.a j = hp.a j := fun j hj => (e5 j hj).trans (upd_off hj _)
      clear e1 e2 e3 e5
      refine insEnd_of (r0 := .rsl false (hp.m + 29) 0 0 (n + m)) (congrArg some h6) (fzR2 (d := 5) (sz := 4) e4 rfl rfl (Nat.le_of_eq hlen.symm) (by rw [hsub]; exact hf)) f1 ?_ ?_ ?_
      · show s'.hp.n ≤ hp.n + 200
        omega
      · show s'.hp.m ≤ hp.m + 200
        omega
      · intro j A' h1 h2 hj
        show upd s'.hp.a (hp.m + 29) _ j = _
        have hj29 : j ≠ hp.m + 29 := by omega
        rw [upd_off hj29, f5 j hj29]; exact hj
  · have hgt : n + m ≤ k := by
      have := of_decide_eq_false hgt
      rw [hw1] at this; omega
    refine SW.of_x hS (by kernel_rfl) ?_
    conv => whnf
    refine SW.seq (SW.region hS 4 rfl (by kernel_rfl) ?_)
    conv => whnf
    refine OpW.mono (OpW.sliceTo (A := ⟨v, 4, ca ++ List.replicate (k * 4 - ca.length) .bad, some k, 0⟩) (b := b) (v := v) (n := n) (h := n + m) (k := k) rfl rfl ts22 ?_ ?_ ?_ rfl rfl sz24.symm (show (4 : Nat) ≠ 0 by decide) hgt) ?_
    · rfl
    · exact vi hw1
    · exact hA
    rintro _ rfl
    conv => whnf
    refine SW.seq (SW.seq (SW.region hS 6 rfl (by kernel_rfl) ?_))
    conv => whnf
    refine sel_yes (arrOkN ts22 hA rfl sz24.symm) ⟨_, slLoR ts22 sz24 hw2 (show i + m ≤ n + m by omega) _, ?_⟩
    conv => whnf
    refine OpW.mono (OpW.overlaps (fn := Tryd.f79) (t := 22) (tb := 4) (c1 := false) (b1 := b2) (v1 := v2) (o1 := 0) (n1 := m) (c2 := false) (b2 := b) (v2 := v) (o2 := 0 + (i + m) * 4) (n2 := n + m - (i + m)) (A := ⟨v2, 4, cb, capB, roB⟩) (B := ⟨v, 4, ca ++ List.replicate (k * 4 - ca.length) .bad, some k, 0⟩) rfl rfl rfl (by kernel_rfl) (by kernel_rfl) (by kernel_rfl) (by kernel_rfl) ts22 ?_ ?_ ?_ ?_ rfl rfl (Ne.symm hne') ?_) ?_
    · rfl
    · rfl
    · exact hB
    · exact hA
    · show 0 < (ca ++ List.replicate (k * 4 - ca.length) V.bad).length
      rw [List.length_append, hAl]; omega
    rintro _ rfl
    conv => whnf
    refine SW.cond (t := true) rfl (fun _ => ?_) (fun h => by cases h)
    refine ins_in1 hS (b := b) (v := v) (b2 := b2) (v2 := v2) (n := n) (m := m) (i := i) (capB := capB) (roB := roB) (cb := cb) (k := k) hi hm hb2 ⟨rfl, rfl, rfl, rfl, trivial⟩ hA hB hAl hBl hgt (Ne.symm hne') (Nat.lt_of_lt_of_le hbm (Nat.le_add_right hp.m 35)) ?_
    intro s' h6 e1 e2 e3 e4 e5
    have f1 : hp.h = s'.hp.h := e1.symm
    have f2 : s'.hp.n = hp.n + 51 := e2
    have f3 : s'.hp.m = hp.m + 51 := e3
    have f5 : ∀ j, j ≠ b → s'.hp.a j = hp.a j := fun j hj => e5 j hj
    clear e1 e2 e3 e5
    have hsub2 := ins_list2 (k := k) (Nat.le_of_lt hi) hgt hAl hBl
    refine insEnd_of (r0 := .rsl false b v 0 (n + m)) (congrArg some h6) (fzR2 (d := 5) (sz := 4) e4 rfl rfl ?_ (by rw [hsub2]; exact hf)) f1 ?_ ?_ ?_
    · show (n + m) * 4 ≤ (fillL (fillL (ca ++ List.replicate (k * 4 - ca.length) .bad) ((i + m) * 4) (ca.drop (i * 4))) (i * 4) cb).length
      unfold fillL
      simp only [List.length_append, List.length_take, List.length_drop, List.length_replicate, hAl, hBl]; omega
    · show s'.hp.n ≤ hp.n + 200
      omega
    · show s'.hp.m ≤ hp.m + 200
      omega
    · intro j A' h1 h2 hj
      show upd s'.hp.a b _ j = _
      rw [upd_off h1, f5 j h1]; exact hj
end Go.Proofs.YtjfjagnnefmepaaDoor.AB
end

section
set_option linter.unusedVariables false
set_option linter.unusedSimpArgs false
open Go Go.Ab Go.Proofs Go.Vl Go.RowKit
namespace Go.Proofs.YtjfjagnnefmepaaDoor.AB
set_option maxRecDepth 100000
set_option linter.unusedVariables false
variable {L : World → Prop}
theorem ins_ok (hS : Sound NC L) {av : List V} {hp hp' : Hp} {r : V} (hc : insR 4 56 av hp = some (r, hp')) : Goes Tryd.prog 58 ∧ RefC Tryd.prog L 58 av hp r hp' := by
  refine ⟨⟨_, Tryd.func58, rfl, by decide⟩, ?_⟩
  have go : ∀ {hp' r}, SW NC L 95 (bodyOf Tryd.f58) ⟨init av, hp⟩ (InsEnd hp hp' r) (fun _ => False) → RefC Tryd.prog L 58 av hp r hp' := fun {hp' r} h =>
    RefC.of_SWz (C := NC) (fn := Tryd.f58) Tryd.func58 rfl (h.mono fun ex s' h => h)
  unfold insR at hc
  split at hc
  · rename_i i b2 v2 m
    split at hc <;> try cases hc
    rename_i B hB
    split at hc <;> try cases hc
    rename_i hcond
    obtain ⟨h1, h2, h3, h4, h5, h6, h7⟩ := hcond
    split at hc <;> cases hc
    rename_i cs hf
    subst h1
    refine go ?_
    have := ins_new hS (i := 0) rfl hB h3 h4 h5 h2 h6 h7 hf
    rw [Nat.zero_add] at this
    exact this
  · rename_i b v n i b2 v2 m
    split at hc <;> try cases hc
    rename_i A B hA hB
    split at hc <;> try cases hc
    rename_i hcond
    obtain ⟨⟨h0, h1⟩, h2, h3, h4, h5, a1, a2, a3, a4, a5, b1, b3, b4, h6, h7⟩ := hcond
    split at hc <;> cases hc
    rename_i cs hf
    obtain ⟨j, rfl⟩ : ∃ j : Nat, i = j := ⟨i.toNat, by omega⟩
    rw [Int.toNat_natCast] at hf
    refine go ?_
    by_cases hj : j = n
    · refine ins_end hS hj hA hB h3 h4 h5 a1 a2 a3 a4 a5 b1 b3 b4 h2 h6 h7 ?_
      rw [List.take_of_length_le (by omega), List.drop_of_length_le (by omega), List.append_nil] at hf
      exact hf
    · obtain ⟨va, sa, ca, cap, ro⟩ := A
      obtain ⟨vb, sb, cb, capb, rob⟩ := B
      simp only at a1 a2 a3 a4 a5 b1 b3 b4
      subst a1 a2 a3 a4 b1 b3
      have hcap : va = va := rfl
      refine SW.split (d := 0) (b := b) (v := va) (n := n) rfl hA rfl rfl ?_
      intro k hk hl
      have hne : b ≠ b2 := by rintro rfl; simp at h3
      exact ins_mid hS (hp := { hp with a := upd hp.a b (some ⟨va, 4, ca ++ List.replicate (k * 4 - ca.length) .bad, some k, 0⟩) }) (b := b) (b2 := b2) (k := k) (by omega) (upd_self0 _ _ _) ((upd_off (Ne.symm hne) _).trans hB) h3 h4 h5 a5 b4 h2 hk h6 h7 hf |>.mono fun ex s' h => by
        cases ex with
        | exit i => exact h
        | normal =>
          obtain ⟨r0, hp2, k1, k2, k3, k4, k5, k6⟩ := h
          refine ⟨r0, hp2, k1, k2, k3, k4, k5, fun j A hj => k6 j A ?_⟩
          have hj' : (if j = b then none else if hp.m ≤ j then none else hp.a j) = some A := hj
          show (if j = b then none else if hp.m ≤ j then none else upd hp.a b _ j) = some A
          by_cases e : j = b
          · rw [if_pos e] at hj'; cases hj'
          · rw [if_neg e] at hj' ⊢; rw [upd_off e]; exact hj'
        | ret =>
          obtain ⟨r0, hp2, k1, k2, k3, k4, k5, k6⟩ := h
          refine ⟨r0, hp2, k1, k2, k3, k4, k5, fun j A hj => k6 j A ?_⟩
          have hj' : (if j = b then none else if hp.m ≤ j then none else hp.a j) = some A := hj
          show (if j = b then none else if hp.m ≤ j then none else upd hp.a b _ j) = some A
          by_cases e : j = b
          · rw [if_pos e] at hj'; cases hj'
          · rw [if_neg e] at hj' ⊢; rw [upd_off e]; exact hj'
  · cases hc
end Go.Proofs.YtjfjagnnefmepaaDoor.AB
end

section
set_option linter.unusedVariables false
set_option linter.unusedSimpArgs false
open Go Go.Ab Go.Proofs Go.Vl Go.RowKit
namespace Go.Proofs.YtjfjagnnefmepaaDoor.AB
set_option maxRecDepth 100000
set_option maxHeartbeats 8000000
set_option linter.unusedVariables false
variable {L : World → Prop}
def DelEnd (hp hp' : Hp) (r : V) (ex : Ex) (s' : St) : Prop := match ex with | .exit _ => False | _ => ∃ r0 hp2, resOf Tryd.prog Tryd.f67 s' = some r0 ∧ fz 6 s'.hp r0 = some (r, hp2) ∧ hp'.h = hp2.h ∧ hp2.n ≤ hp'.n ∧ hp2.m ≤ hp'.m ∧ ∀ j A, hp'.a j = some A → hp2.a j = some A
theorem delEnd_of {hp hp2 : Hp} {r r0 : V} {b : Nat} {s' : St} (h1 : resOf Tryd.prog Tryd.f67 s' = some r0) (h2 : fz 6 s'.hp r0 = some (r, hp2)) (h3 : hp.h = hp2.h) (h4 : hp2.n ≤ hp.n + 200) (h5 : hp2.m ≤ hp.m + 200) (h6 : ∀ j A, j ≠ b → j < hp.m → hp.a j = some A → hp2.a j = some A) :
    DelEnd hp ⟨hp.h, hp.n + 200, fun j => if j = b then none else if hp.m ≤ j then none else hp.a j, hp.m + 200⟩ r .ret s' := by
  refine ⟨r0, hp2, h1, h2, h3, h4, h5, ?_⟩
  intro j A' hj
  have hj' : (if j = b then none else if hp.m ≤ j then none else hp.a j) = some A' := hj
  by_cases h1 : j = b
  · rw [if_pos h1] at hj'; cases hj'
  · rw [if_neg h1] at hj'
    by_cases h2 : hp.m ≤ j
    · rw [if_pos h2] at hj'; cases hj'
    · rw [if_neg h2] at hj'
      exact h6 j A' h1 (by omega) hj'
theorem fill_sub {F vs : List V} {a c : Nat} (h : c ≤ a) (hF : a ≤ F.length) : sub (fillL F a vs) 0 c = sub F 0 c := by
  unfold fillL sub
  simp only [List.drop_zero]
  rw [List.append_assoc, List.take_append_of_le_length (by simp; omega), List.take_take, Nat.min_eq_left h]
/-- clear, wherever it stands -/
theorem xClear {C : Cfg} {ops : List Oper} {draw : Bool} {n0 m0 i : Nat} {o : Oper} {os : List Oper} {s : St} {Q : St → Prop} {x : Operand} {t e sz b v o1 n1 : Nat} {c : Bool} {z : List V} {A : Arr} (ho : o.op = .call ⟨.builtin .clear, #[x], #[t]⟩) (hg : o.guard = none) (ht : tslice C.P t = some e) (hz : tzero C.P e = some z) (hsz : tsize C.P e = sz) (hzl : z.length = sz) (hx : val s.t x = .rsl c b v o1 n1) (hn : n1 * sz ≠ 0)
    (hA : s.hp.a b = some A) (hv : A.ver = v) (hro : A.ro ≤ o1) (hle : o1 + n1 * sz ≤ A.cs.length)
    (hq : xOps C ops draw n0 m0 (i + 1) os (({ s with hp := { s.hp with a := upd s.hp.a b (some { A with cs := fillL A.cs o1 ((List.replicate n1 z).flatten) }) } } : St).put o.dst (.tup [])) Q) : xOps C ops draw n0 m0 i (o :: os) s Q := by
  obtain ⟨dst, op, ty, pos, after, guard⟩ := o
  simp only at ho hg
  subst ho hg
  simp only [xOps, xOp, isLoud, xLoud]
  refine opt_of (x := (V.tup [], ({ s.hp with a := upd s.hp.a b (some { A with cs := fillL A.cs o1 ((List.replicate n1 z).flatten) }) } : Hp))) ?_ hq
  have hl : ((List.replicate n1 z).flatten).length = n1 * sz := by rw [len_zero, hzl]
  have hst : storeV s.hp (.aref b v o1) ((List.replicate n1 z).flatten) = some { s.hp with a := upd s.hp.a b (some { A with cs := fillL A.cs o1 ((List.replicate n1 z).flatten) }) } := by
    simp only [storeV, hA]
    rw [if_pos ⟨hv, hro, by rw [hl]; exact hle⟩]
  subst hsz
  simp only [loud, List.map, ht, hz, hx, Option.bind_some]
  rw [if_pos ⟨hzl, hn⟩, hst]
  rfl
theorem del_mid (hS : Sound NC L) {hp : Hp} {b v n i j k : Nat} {ca : List V} (hij : i < j) (hjn : j ≤ n) (hA : hp.a b = some ⟨v, 4, ca ++ List.replicate (k * 4 - ca.length) .bad, some k, 0⟩) (hbm : b < hp.m) (hAl : ca.length = n * 4) (hnk : n ≤ k)
    (hb1 : n * 56 ≤ maxRoom) (hb2 : n ≤ maxRoom) {cs : List V} (hf : fzPL (fzP 5) (ca.take (i * 4) ++ ca.drop (j * 4)) = some cs) :
    SW NC L 33 (bodyOf Tryd.f67) ⟨init [.rsl false b v 0 n, .int .i64 i, .int .i64 j], hp⟩
      (DelEnd hp ⟨hp.h, hp.n + 200, fun j => if j = b then none else if hp.m ≤ j then none else hp.a j, hp.m + 200⟩ (.sl false cs (i + (n - j)))) (fun _ => False) := by
  have hmr : maxRoom = 140737488355328 := rfl
  obtain ⟨u, hu⟩ := sl3 (P := Tryd.prog) (b := b) (v := v) (k1 := .i64) (k2 := .i64) (k3 := .i64) (n := n) (i := i) (j := j) ts22 rfl rfl rfl (Nat.le_of_lt hij) hjn
  have hFl : (ca ++ List.replicate (k * 4 - ca.length) V.bad).length = k * 4 := by rw [List.length_append, List.length_replicate]; omega
  refine SW.seq (SW.of_x hS (by kernel_rfl) ?_)
  conv => whnf
  refine SW.seq (SW.of_x hS (by kernel_rfl) ?_)
  conv => whnf
  refine sel_yes (arrOkN ts22 hA rfl sz24.symm) ⟨_, hu, ?_⟩
  conv => whnf
  refine SW.seq (SW.of_x hS (by kernel_rfl) ?_)
  conv => whnf
  refine sel_no (by simp; omega) ?_
  conv => whnf
  refine SW.seq (SW.of_x hS (by kernel_rfl) ?_)
  conv => whnf
  refine SW.seq (SW.of_x hS (by kernel_rfl) ?_)
  conv => whnf
  obtain ⟨F, h1, h2, h3⟩ := del_app (b := b) (v := v) (k := k) (i := i) (j := j) (n := n) (bytes := 56) (sz := 4) (F0 := ca ++ List.replicate (k * 4 - ca.length) .bad) (by rw [hFl]; exact Nat.mul_le_mul_right _ hnk) hnk (Nat.le_of_lt hij) hjn hb1 hb2
  refine sel_yes (arrOkS ts22 hA (Nat.lt_of_lt_of_le hbm (by (conv => lhs; whnf); (repeat ((conv => rhs; whnf); first | with_reducible exact Nat.le_refl _ | refine Nat.le_trans ?_ (Nat.le_add_right _ _) | refine Nat.le_succ_of_le ?_ | exact Nat.le_refl _)))) rfl sz24.symm) ⟨_, slHiR ts22 sz24 rfl (by omega) _, ?_⟩
  conv => whnf
  refine sel_yes (arrOkS ts22 hA (Nat.lt_of_lt_of_le hbm (by (conv => lhs; whnf); (repeat ((conv => rhs; whnf); first | with_reducible exact Nat.le_refl _ | refine Nat.le_trans ?_ (Nat.le_add_right _ _) | refine Nat.le_succ_of_le ?_ | exact Nat.le_refl _)))) rfl sz24.symm) ⟨_, slLoR ts22 sz24 rfl hjn _, ?_⟩
  conv => whnf
  refine appX ts22 tz24 tl24 sz24 tb24 (h1 _ _ hA) ?_
  conv => whnf
  refine SW.seq (SW.region hS 4 rfl (by kernel_rfl) ?_)
  conv => whnf
  refine OpW.mono (OpW.sliceLH (A := ⟨v, 4, F, some k, 0⟩) (b := b) (v := v) (n := i + (n - j)) (l := i + (n - j)) (h := n) (k := k) rfl rfl ts22 ?_ ?_ ?_ ?_ rfl rfl sz24.symm (show (4 : Nat) ≠ 0 by decide) (by omega) hnk) ?_
  · rfl
  · rfl
  · rfl
  · exact upd_self0 _ _ _
  rintro _ rfl
  have n1 : (i + (n - j)) * 4 ≤ n * 4 := Nat.mul_le_mul_right _ (by omega)
  have n2 : n * 4 ≤ k * 4 := Nat.mul_le_mul_right _ hnk
  have n3 : (n - (i + (n - j))) * 4 = n * 4 - (i + (n - j)) * 4 := Nat.sub_mul _ _ _
  refine xClear (A := ⟨v, 4, F, some k, 0⟩) (b := b) (v := v) (c := false) (o1 := 0 + (i + (n - j)) * 4) (n1 := n - (i + (n - j))) rfl rfl ts22 tz24 sz24 rfl ?_ (by omega) ?_ rfl (Nat.zero_le _) (by rw [h2, hFl]; omega) ?_
  · rfl
  · exact upd_self0 _ _ _
  conv => whnf
  refine SW.of_x hS (by kernel_rfl) ?_
  conv => whnf
  refine ⟨.rsl false b v 0 (i + (n - j)), _, rfl, fzR2 (d := 5) (sz := 4) (upd_self0 _ _ _) rfl rfl ?_ ?_, rfl, Nat.add_le_add_left (show 29 ≤ 200 by decide) _, Nat.add_le_add_left (show 29 ≤ 200 by decide) _, ?_⟩
  · show (i + (n - j)) * 4 ≤ (fillL F _ _).length
    rw [fill_len (by rw [len_zero]; show 0 + (i + (n - j)) * 4 + (n - (i + (n - j))) * 4 ≤ F.length; rw [h2, hFl]; omega), h2, hFl]; omega
  · show fzPL (fzP 5) (sub (fillL F _ _) 0 ((i + (n - j)) * 4)) = some cs
    rw [fill_sub (by omega) (by rw [h2, hFl]; omega), h3]
    have e1 : List.take (i * 4) (ca ++ List.replicate (k * 4 - ca.length) V.bad) = ca.take (i * 4) := List.take_append_of_le_length (by omega)
    have e2 : List.take ((n - j) * 4) (List.drop (j * 4) (ca ++ List.replicate (k * 4 - ca.length) V.bad)) = ca.drop (j * 4) := by
      rw [List.drop_append_of_le_length (by omega), List.take_append_of_le_length (by simp; omega), List.take_of_length_le (by simp; omega)]
    rw [e1, e2]; exact hf
  · intro q A' hj
    have hj' : (if q = b then none else if hp.m ≤ q then none else hp.a q) = some A' := hj
    by_cases h1 : q = b
    · rw [if_pos h1] at hj'; cases hj'
    · rw [if_neg h1] at hj'
      by_cases h2 : hp.m ≤ q
      · rw [if_pos h2] at hj'; cases hj'
      · rw [if_neg h2] at hj'
        show upd (upd (upd hp.a b _) b _) b _ q = _
        rw [upd_off h1, upd_off h1, upd_off h1]; exact hj'
theorem del_ok (hS : Sound NC L) {av : List V} {hp hp' : Hp} {r : V} (hc : delR 4 56 av hp = some (r, hp')) : Goes Tryd.prog 67 ∧ RefC Tryd.prog L 67 av hp r hp' := by
  refine ⟨⟨_, Tryd.func67, rfl, by decide⟩, ?_⟩
  unfold delR at hc
  split at hc
  · rename_i b v n i j
    split at hc <;> try cases hc
    rename_i A hA
    split at hc <;> try cases hc
    rename_i hcond
    obtain ⟨⟨h0, h1, h2⟩, a0, a1, a2, a3, a4, a5, h6, h7⟩ := hcond
    split at hc <;> cases hc
    rename_i cs hf
    obtain ⟨i, rfl⟩ : ∃ q : Nat, i = q := ⟨i.toNat, by omega⟩
    obtain ⟨j, rfl⟩ : ∃ q : Nat, j = q := ⟨j.toNat, by omega⟩
    rw [Int.toNat_natCast, Int.toNat_natCast] at hf ⊢
    obtain ⟨va, sa, ca, cap, ro⟩ := A
    simp only at a1 a2 a3 a4 a5
    subst a1 a2 a3 a4
    refine RefC.of_SWz (C := NC) (fn := Tryd.f67) Tryd.func67 rfl ?_
    refine SW.split (d := 0) (b := b) (v := va) (n := n) rfl hA rfl rfl ?_
    intro k hk hl
    exact del_mid hS (hp := { hp with a := upd hp.a b (some ⟨va, 4, ca ++ List.replicate (k * 4 - ca.length) .bad, some k, 0⟩) }) (b := b) (k := k) (by omega) (by omega) (upd_self0 _ _ _) a0 a5 hk h6 h7 hf |>.mono fun ex s' h => by
      have key : (∃ r0 hp2, resOf Tryd.prog Tryd.f67 s' = some r0 ∧ fz 6 s'.hp r0 = some (V.sl false cs (i + (n - j)), hp2) ∧ hp.h = hp2.h ∧ hp2.n ≤ hp.n + 200 ∧ hp2.m ≤ hp.m + 200 ∧ ∀ q A, (if q = b then none else if hp.m ≤ q then none else upd hp.a b (some ⟨va, 4, ca ++ List.replicate (k * 4 - ca.length) .bad, some k, 0⟩) q) = some A → hp2.a q = some A) →
          ∃ r0 hp2, resOf Tryd.prog Tryd.f67 s' = some r0 ∧ fz 6 s'.hp r0 = some (V.sl false cs (i + (n - j)), hp2) ∧ hp.h = hp2.h ∧ hp2.n ≤ hp.n + 200 ∧ hp2.m ≤ hp.m + 200 ∧ ∀ q A, (if q = b then none else if hp.m ≤ q then none else hp.a q) = some A → hp2.a q = some A := by
        rintro ⟨r0, hp2, k1, k2, k3, k4, k5, k6⟩
        refine ⟨r0, hp2, k1, k2, k3, k4, k5, fun q A hj => k6 q A ?_⟩
        by_cases e : q = b
        · rw [if_pos e] at hj; cases hj
        · rw [if_neg e] at hj ⊢; rw [upd_off e]; exact hj
      cases ex with
      | exit i => exact h
      | normal => exact key h
      | ret => exact key h
  · cases hc
end Go.Proofs.YtjfjagnnefmepaaDoor.AB
end

section
set_option linter.unusedVariables false
set_option linter.unusedSimpArgs false
open Go Go.Ab Go.Proofs Go.Vl Go.RowKit
namespace Go.Proofs.YtjfjagnnefmepaaDoor.AB
set_option maxRecDepth 100000
theorem mixed : Tryd.prog.follows .mixedOrders = true := by kernel_rfl
theorem okf : OKF Tryd.prog okF := OKF.of 122 (fun f h => by
  unfold okF at h
  split at h <;> first | (cases h; done) | (have : f + 1 ≤ 122 := Nat.le_of_ble_eq_true h; omega)) (by kernel_rfl)
theorem ext_ok : EXT Tryd.prog LaidW ext0 := by
  intro f g xs r hf hg
  unfold ext0 at hf
  split at hf
  · cases hf
    dsimp only at hg
    split at hg <;> cases hg
    rename_i s t
    refine ⟨⟨_, Tryd.func102, rfl, by decide⟩, fun S w vs hL hS hv => ?_⟩
    obtain ⟨x, ys, hvs, rfl, y, zs, rfl, rfl, h3⟩ := hv
    simp only [VRs] at h3
    subst h3
    obtain rfl : vs = #[.string s, .string t] := by cases vs; simp_all
    refine (Tryd.strings_Compare s t w).mono ?_
    rintro e w' ⟨rfl, rfl⟩
    exact ⟨_, S, rfl, Below.refl _ _, fun _ _ h => h, fun r o h => ⟨hS r o h, fun _ => h⟩, rfl⟩
  · cases hf
    dsimp only at hg
    split at hg <;> cases hg
    rename_i s
    refine ⟨⟨_, Tryd.func119, rfl, by decide⟩, fun S w vs hL hS hv => ?_⟩
    obtain ⟨x, ys, hvs, rfl, h3⟩ := hv
    simp only [VRs] at h3
    subst h3
    obtain rfl : vs = #[.string s] := by cases vs; simp_all
    refine (Tryd.utf8_DecodeRuneInString s w hL).mono ?_
    rintro e w' ⟨rfl, hb⟩
    refine ⟨_, S, rfl, hb, fun _ _ h => h, fun r o h => ⟨Nat.lt_of_lt_of_le (hS r o h) hb.size, fun _ => h⟩, ?_⟩
    exact ⟨_, rfl, ⟨_, _, rfl, rfl, ⟨_, _, rfl, rfl, rfl⟩⟩⟩
  · cases hf
theorem extR_ok : EXTR Tryd.prog LaidW okF extR := by
  intro f g xs hp r hp' _ hf hg
  unfold extR at hf
  split at hf
  · cases hf
    exact clone_ok (t := 22) (b := 4) (e := 24) (z := [.int .i64 0, .int .i64 0, .str ⟨#[]⟩, .sl true [] 0]) mixed Tryd.func56 rfl rfl rfl (by decide) (by kernel_rfl) (by kernel_rfl) (by kernel_rfl) (by decide) (by kernel_rfl) hg
  · cases hf
    exact ins_ok (noCfg_sound LaidW.below mixed) hg
  · cases hf
    exact del_ok (noCfg_sound LaidW.below mixed) hg
  · cases hf
/-- what the evaluator says of a law, the machine does -/
theorem ev_calls {f : Nat} {vs : List V} (h : (cfg ext0).Ev f vs (.bool true)) (W : World) (hT : LaidW W) (xs : Array Value) (hv : VRs (stab (inW W)) W vs xs.toList) :
    Calls Tryd.prog f xs W fun e w' => e = .returned (.bool true) ∧ Below W.heap.size W w' := by
  refine (Ev.pure (C := cfg ext0) LaidW.below mixed okf ext_ok extR_ok h (inW W) W xs hT (fun r o h => h) hv).mono ?_
  rintro e w' ⟨x, S', rfl, hb, _, _, hx⟩
  exact ⟨by rw [show x = .bool true from hx], hb⟩
end Go.Proofs.YtjfjagnnefmepaaDoor.AB
end

section
set_option linter.unusedVariables false
set_option linter.unusedSimpArgs false
open Go Go.Ab Go.Proofs Go.Vl
namespace Go.Proofs.YtjfjagnnefmepaaDoor.AB
set_option maxRecDepth 100000
set_option maxHeartbeats 8000000
set_option linter.unusedSimpArgs false
set_option linter.unusedVariables false
theorem St.knowsT0 {s : St} (L : List (Nat × V)) (h : Has s.t L) : s = ⟨updL s.t L, s.hp⟩ := by rw [updL_has _ _ h]
section
variable {ext : Exts}
/-- where a key stands in a map's row -/
theorem lkey (v s : T) (hl : v.f3.length ≤ 1048576) (h2 : v.f3.length % 2 = 0) (E : ∀ a ∈ v.f3, (cfg ext).Ev 78 [A a, A s] (.int .i64 (cmpV a s))) (Q : Ex → St → Prop) (d : Nat) :
    ∀ (i : Nat) (z : St), v.f3.length - i = d → i ≤ v.f3.length → i % 2 = 0 → Has z.t [(2, .ref 0 0), (3, .ref 1 0), (6, .int .i64 i)] → z.hp.n = 5 → Has z.hp.h [(0, some (.cells (cellsV v) false)), (1, some (.cells (cellsV s) false))] →
      (∀ z' : St, Has z'.t [(4, .int .i64 ((i + (keyF (v.f3.drop i) s).1 : Nat) : Int)), (5, .bool (keyF (v.f3.drop i) s).2)] → Q .ret z') →
      (∀ z' : St, z'.t 2 = .ref 0 0 → Has z'.hp.h [(0, some (.cells (cellsV v) false))] → i + (keyF (v.f3.drop i) s).1 = v.f3.length → (keyF (v.f3.drop i) s).2 = false → Q (.exit 0) z') →
      Go.Ab.Loop (cfg ext) (lpOf Tryd.f57) 5 z Q := by
  induction d using Nat.strongRecOn with
  | ind d ih =>
    intro i z hd hi h2i ht hz hb hr hq
    rw [St.knows _ _ ht hz _ hb]
    by_cases hlt : i < v.f3.length
    · have g : decide ((i : Int) < (v.f3.length : Int)) = true := decide_eq_true (by omega)
      have hlt1 : i + 1 < v.f3.length := by omega
      have eD : v.f3.drop i = v.f3[i] :: v.f3[i + 1] :: v.f3.drop (i + 2) := by rw [List.drop_eq_getElem_cons hlt, List.drop_eq_getElem_cons hlt1]
      have e1 : IntKind.i64.wrap ((i : Int) + 2) = ((i + 2 : Nat) : Int) := wrapN (by omega) (by omega)
      have hE := E v.f3[i] (List.getElem_mem hlt)
      refine Loop.round ?_
      conv => whnf
      repeat (first
        | (refine sel_yes ?_ ?_; (first | assumption | (simp only [beq_iff_eq, bne_iff_ne, beq_eq_false_iff_ne, bne_eq_false_iff_eq, decide_eq_true_eq, decide_eq_false_iff_not, Bool.not_eq_true', Bool.not_eq_false', ne_eq, beq_true, beq_false, bne_self_eq_false, not_true_eq_false, not_false_eq_true, gt_iff_lt, ge_iff_le, Int.not_lt, Int.not_le, Bool.true_eq_false, Bool.false_eq_true] <;> omega)); conv => whnf)
        | (refine sel_no ?_ ?_; (first | assumption | (simp only [beq_iff_eq, bne_iff_ne, beq_eq_false_iff_ne, bne_eq_false_iff_eq, decide_eq_true_eq, decide_eq_false_iff_not, Bool.not_eq_true', Bool.not_eq_false', ne_eq, beq_true, beq_false, bne_self_eq_false, not_true_eq_false, not_false_eq_true, gt_iff_lt, ge_iff_le, Int.not_lt, Int.not_le, Bool.true_eq_false, Bool.false_eq_true] <;> omega)); conv => whnf)
        | (refine ⟨le_rfl' ?_, ?_⟩; rfl; conv => whnf)
        | (refine ⟨⟨?_, ?_⟩, ?_⟩; omega; omega; conv => whnf)
        | (refine ⟨⟨?_, ?_, ?_⟩, ?_⟩; rfl; omega; omega; conv => whnf)
        | (refine ⟨rfl, ?_, ?_⟩; decide; conv => whnf))
      try exact rfl
      refine ldA (i := i) hlt ?_
      conv => whnf
      refine ⟨_, hE, ?_⟩
      conv => whnf
      by_cases hc : 0 ≤ cmpV v.f3[i] s
      · have eK : keyF (v.f3.drop i) s = (0, decide (cmpV v.f3[i] s = 0)) := by rw [eD]; unfold keyF; rw [if_pos hc]
        refine sel_yes (decide_eq_true hc) ?_
        conv => whnf
        refine hr _ ⟨?_, ?_, trivial⟩
        · rw [eK]; rfl
        · rw [eK]
          show V.bool (cmpV v.f3[i] s == 0) = _
          exact vb (by by_cases h : cmpV v.f3[i] s = 0 <;> simp [h])
      · have eK : keyF (v.f3.drop i) s = ((keyF (v.f3.drop (i + 2)) s).1 + 2, (keyF (v.f3.drop (i + 2)) s).2) := by
          conv => lhs; rw [eD]; unfold keyF
          rw [if_neg hc]
        refine sel_no (decide_eq_false hc) ?_
        conv => whnf
        refine ih (v.f3.length - (i + 2)) (by omega) (i + 2) _ rfl (by omega) (by omega) ⟨rfl, rfl, ?_, trivial⟩ rfl ⟨rfl, rfl, trivial⟩ (fun z' a => hr z' ?_) (fun z' a b c e => hq z' a b ?_ ?_)
        · conv => lhs; whnf
          exact vi e1
        · rw [eK]
          obtain ⟨a1, a2, _⟩ := a
          exact ⟨a1.trans (vi (by omega)), a2, trivial⟩
        · rw [eK]; simp only; omega
        · rw [eK]; exact e
    · have g : decide ((i : Int) < (v.f3.length : Int)) = false := decide_eq_false (by omega)
      have eN : v.f3.drop i = [] := List.drop_eq_nil_of_le (by omega)
      refine Loop.round ?_
      conv => whnf
      repeat (first
        | (refine sel_yes ?_ ?_; (first | assumption | (simp only [beq_iff_eq, bne_iff_ne, beq_eq_false_iff_ne, bne_eq_false_iff_eq, decide_eq_true_eq, decide_eq_false_iff_not, Bool.not_eq_true', Bool.not_eq_false', ne_eq, beq_true, beq_false, bne_self_eq_false, not_true_eq_false, not_false_eq_true, gt_iff_lt, ge_iff_le, Int.not_lt, Int.not_le, Bool.true_eq_false, Bool.false_eq_true] <;> omega)); conv => whnf)
        | (refine sel_no ?_ ?_; (first | assumption | (simp only [beq_iff_eq, bne_iff_ne, beq_eq_false_iff_ne, bne_eq_false_iff_eq, decide_eq_true_eq, decide_eq_false_iff_not, Bool.not_eq_true', Bool.not_eq_false', ne_eq, beq_true, beq_false, bne_self_eq_false, not_true_eq_false, not_false_eq_true, gt_iff_lt, ge_iff_le, Int.not_lt, Int.not_le, Bool.true_eq_false, Bool.false_eq_true] <;> omega)); conv => whnf)
        | (refine ⟨le_rfl' ?_, ?_⟩; rfl; conv => whnf)
        | (refine ⟨⟨?_, ?_⟩, ?_⟩; omega; omega; conv => whnf)
        | (refine ⟨⟨?_, ?_, ?_⟩, ?_⟩; rfl; omega; omega; conv => whnf)
        | (refine ⟨rfl, ?_, ?_⟩; decide; conv => whnf))
      try exact rfl
      exact hq _ rfl ⟨rfl, trivial⟩ (by rw [eN]; show i + 0 = _; omega) (by rw [eN]; rfl)
theorem tkey (hn : Non ext) (v s : T) (hl : v.f3.length ≤ 1048576) (h2 : v.f3.length % 2 = 0) (E : ∀ a ∈ v.f3, (cfg ext).Ev 78 [A a, A s] (.int .i64 (cmpV a s))) :
    (cfg ext).Ev 57 [A v, A s] (.tup [.int .i64 (((keyF v.f3 s).1 : Nat) : Int), .bool (keyF v.f3 s).2]) := by
  have key : ∃ r, (cfg ext).Ev 57 [A v, A s] r ∧ r = .tup [.int .i64 (((keyF v.f3 s).1 : Nat) : Int), .bool (keyF v.f3 s).2] := by
    refine Ev.ofE (hn 57 (by decide) (by decide)) Tryd.func57 rfl rfl ?_
    conv => whnf
    refine lkey v s hl h2 E _ v.f3.length 0 _ (by omega) (by omega) rfl ⟨rfl, rfl, rfl, trivial⟩ rfl ⟨rfl, rfl, trivial⟩ (fun z a => ?_) (fun z a b c e => ?_)
    · obtain ⟨a1, a2, _⟩ := a
      obtain ⟨t, h⟩ := z
      simp only at a1 a2
      rw [St.knowsT0 (s := ⟨t, h⟩) [(4, _), (5, _)] ⟨a1, a2, trivial⟩]
      conv => whnf
      rw [Nat.zero_add]; rfl
    · rw [Nat.zero_add] at c
      rw [St.knows (s := z) [(2, .ref 0 0)] z.hp.n ⟨a, trivial⟩ rfl [(0, some (.cells (cellsV v) false))] b]
      conv => whnf
      have e1 : (keyF v.f3 s).1 = v.f3.length := c
      have e2 : (keyF v.f3 s).2 = false := e
      rw [e1, e2]
  obtain ⟨r, h, rfl⟩ := key
  exact h
end
end Go.Proofs.YtjfjagnnefmepaaDoor.AB
end

section
set_option linter.unusedVariables false
set_option linter.unusedSimpArgs false
open Go Go.Ab Go.Proofs Go.Vl
namespace Go.Proofs.YtjfjagnnefmepaaDoor.AB
set_option maxRecDepth 100000
set_option maxHeartbeats 8000000
set_option linter.unusedSimpArgs false
set_option linter.unusedVariables false
section
variable {ext : Exts}
theorem tEqual (hn : Non ext) (a b : T) (E : (cfg ext).Ev 78 [A a, A b] (.int .i64 (cmpV a b))) : (cfg ext).Ev 70 [A a, A b] (.bool (decide (cmpV a b = 0))) := by
  refine Ev.of (hn 70 (by decide) (by decide)) Tryd.func70 rfl rfl ?_
  conv => whnf
  refine ⟨_, E, ?_⟩
  conv => whnf
  exact vb (by by_cases h : cmpV a b = 0 <;> simp [h])
theorem tpart1 (hn : Non ext) (a s : T) (E : (cfg ext).Ev 78 [A a, A s] (.int .i64 (cmpV a s))) : (cfg ext).Ev 77 [A a, .ptr (enc s) 0] (.bool (decide (cmpV a s = 0))) := by
  refine Ev.of (hn 77 (by decide) (by decide)) Tryd.func77 rfl rfl ?_
  rw [enc_eq]
  conv => whnf
  refine ⟨le_rfl' ?_, ?_⟩
  · rfl
  conv => whnf
  refine ⟨_, tEqual hn a s E, ?_⟩
  conv => whnf
/-- slices.IndexFunc -/
theorem lindexF (l : List T) (s : T) (p : T → Bool) (hl : l.length ≤ 1048576) (E : ∀ a ∈ l, (cfg ext).Ev 77 [A a, .ptr (enc s) 0] (.bool (p a))) (Q : Ex → St → Prop) (d : Nat) :
    ∀ (i : Nat) (z : St), l.length - i = d → i ≤ l.length → Has z.t [(0, .sl false (encL l) l.length), (1, .fn 77 [.ptr (enc s) 0]), (7, .int .i64 l.length), (8, .int .i64 i)] → z.hp.n = 4 →
      (∀ z' : St, z'.t 4 = .int .i64 (fstF p (l.drop i) i) → 0 ≤ fstF p (l.drop i) i → Q .ret z') →
      (∀ z' : St, fstF p (l.drop i) i = -1 → Q (.exit 0) z') →
      Go.Ab.Loop (cfg ext) (lpOf Tryd.f85) 4 z Q := by
  induction d with
  | zero =>
    intro i z hd hi ht hz hr hq
    have g : decide ((i : Int) < (l.length : Int)) = false := decide_eq_false (by omega)
    rw [St.knows _ _ ht hz]
    refine Loop.round ?_
    conv => whnf
    repeat (first
      | (refine sel_yes ?_ ?_; (first | assumption | (simp only [beq_iff_eq, bne_iff_ne, beq_eq_false_iff_ne, bne_eq_false_iff_eq, decide_eq_true_eq, decide_eq_false_iff_not, Bool.not_eq_true', Bool.not_eq_false', ne_eq, beq_true, beq_false, bne_self_eq_false, not_true_eq_false, not_false_eq_true, gt_iff_lt, ge_iff_le, Int.not_lt, Int.not_le, Bool.true_eq_false, Bool.false_eq_true] <;> omega)); conv => whnf)
      | (refine sel_no ?_ ?_; (first | assumption | (simp only [beq_iff_eq, bne_iff_ne, beq_eq_false_iff_ne, bne_eq_false_iff_eq, decide_eq_true_eq, decide_eq_false_iff_not, Bool.not_eq_true', Bool.not_eq_false', ne_eq, beq_true, beq_false, bne_self_eq_false, not_true_eq_false, not_false_eq_true, gt_iff_lt, ge_iff_le, Int.not_lt, Int.not_le, Bool.true_eq_false, Bool.false_eq_true] <;> omega)); conv => whnf)
      | (refine ⟨le_rfl' ?_, ?_⟩; rfl; conv => whnf)
      | (refine ⟨⟨?_, ?_⟩, ?_⟩; omega; omega; conv => whnf)
      | (refine ⟨⟨?_, ?_, ?_⟩, ?_⟩; rfl; omega; omega; conv => whnf)
      | (refine ⟨rfl, ?_, ?_⟩; decide; conv => whnf))
    try exact rfl
    exact hq _ (by rw [List.drop_eq_nil_of_le (by omega)]; rfl)
  | succ d ih =>
    intro i z hd hi ht hz hr hq
    have hlt : i < l.length := by omega
    have g : decide ((i : Int) < (l.length : Int)) = true := decide_eq_true (by omega)
    have eD := List.drop_eq_getElem_cons hlt
    have e1 : IntKind.i64.wrap ((i : Int) + 1) = ((i + 1 : Nat) : Int) := wrapN (by omega) (by omega)
    have hE := E l[i] (List.getElem_mem hlt)
    rw [St.knows _ _ ht hz]
    refine Loop.round ?_
    conv => whnf
    repeat (first
      | (refine sel_yes ?_ ?_; (first | assumption | (simp only [beq_iff_eq, bne_iff_ne, beq_eq_false_iff_ne, bne_eq_false_iff_eq, decide_eq_true_eq, decide_eq_false_iff_not, Bool.not_eq_true', Bool.not_eq_false', ne_eq, beq_true, beq_false, bne_self_eq_false, not_true_eq_false, not_false_eq_true, gt_iff_lt, ge_iff_le, Int.not_lt, Int.not_le, Bool.true_eq_false, Bool.false_eq_true] <;> omega)); conv => whnf)
      | (refine sel_no ?_ ?_; (first | assumption | (simp only [beq_iff_eq, bne_iff_ne, beq_eq_false_iff_ne, bne_eq_false_iff_eq, decide_eq_true_eq, decide_eq_false_iff_not, Bool.not_eq_true', Bool.not_eq_false', ne_eq, beq_true, beq_false, bne_self_eq_false, not_true_eq_false, not_false_eq_true, gt_iff_lt, ge_iff_le, Int.not_lt, Int.not_le, Bool.true_eq_false, Bool.false_eq_true] <;> omega)); conv => whnf)
      | (refine ⟨le_rfl' ?_, ?_⟩; rfl; conv => whnf)
      | (refine ⟨⟨?_, ?_⟩, ?_⟩; omega; omega; conv => whnf)
      | (refine ⟨⟨?_, ?_, ?_⟩, ?_⟩; rfl; omega; omega; conv => whnf)
      | (refine ⟨rfl, ?_, ?_⟩; decide; conv => whnf))
    try exact rfl
    refine ldA (i := i) hlt ?_
    conv => whnf
    refine ⟨_, hE, ?_⟩
    cases hp : p l[i] with
    | true =>
      conv => whnf
      have eF : fstF p (l.drop i) i = (i : Int) := by rw [eD]; unfold fstF; rw [if_pos hp]
      exact hr _ (by rw [eF]; rfl) (by rw [eF]; omega)
    | false =>
      conv => whnf
      have eF : fstF p (l.drop i) i = fstF p (l.drop (i + 1)) (i + 1) := by
        conv => lhs; rw [eD]; unfold fstF
        rw [if_neg (by rw [hp]; simp)]
      refine ih (i + 1) _ (by omega) (by omega) ⟨rfl, rfl, rfl, ?_, trivial⟩ rfl (fun z' a b => hr z' (by rw [eF]; exact a) (by rw [eF]; exact b)) (fun z' a => hq z' (by rw [eF]; exact a))
      conv => lhs; whnf
      exact vi e1
theorem tindexF (hn : Non ext) (l : List T) (s : T) (p : T → Bool) (hl : l.length ≤ 1048576) (E : ∀ a ∈ l, (cfg ext).Ev 77 [A a, .ptr (enc s) 0] (.bool (p a))) :
    (cfg ext).Ev 85 [.sl false (encL l) l.length, .fn 77 [.ptr (enc s) 0]] (.int .i64 (fstF p l 0)) := by
  have key : ∃ r, (cfg ext).Ev 85 [.sl false (encL l) l.length, .fn 77 [.ptr (enc s) 0]] r ∧ r = .int .i64 (fstF p l 0) := by
    refine Ev.ofF (hn 85 (by decide) (by decide)) Tryd.func85 rfl rfl ?_
    conv => whnf
    refine lindexF l s p hl E _ l.length 0 _ rfl (by omega) ⟨rfl, rfl, rfl, rfl, trivial⟩ rfl (fun z a b => ?_) (fun z a => ?_)
    · exact Fin.tmp (i := 4) rfl a rfl
    · conv => whnf
      exact Fin.tmp (i := 4) rfl rfl (vi a.symm)
  obtain ⟨r, h, rfl⟩ := key
  exact h
theorem tcont (hn : Non ext) (l : List T) (s : T) (p : T → Bool) (hl : l.length ≤ 1048576) (E : ∀ a ∈ l, (cfg ext).Ev 77 [A a, .ptr (enc s) 0] (.bool (p a))) :
    (cfg ext).Ev 76 [.sl false (encL l) l.length, .fn 77 [.ptr (enc s) 0]] (.bool (l.any p)) := by
  refine Ev.of (hn 76 (by decide) (by decide)) Tryd.func76 rfl rfl ?_
  conv => whnf
  refine ⟨_, tindexF hn l s p hl E, ?_⟩
  conv => whnf
  exact vb (fstF_any p l 0)
/-- a step's place in a list -/
theorem tindex (hn : Non ext) (v s : T) : (cfg ext).Ev 55 [A v, A s] (match idxF v.f3.length s with | some i => .tup [.int .i64 i, .bool true] | none => .tup [.int .i64 0, .bool false]) := by
  have key : ∃ r, (cfg ext).Ev 55 [A v, A s] r ∧ r = (match idxF v.f3.length s with | some i => .tup [.int .i64 i, .bool true] | none => .tup [.int .i64 0, .bool false]) := by
    refine Ev.ofE (hn 55 (by decide) (by decide)) Tryd.func55 rfl rfl ?_
    conv => whnf
    by_cases h1 : s.f0 = 2
    · have g1 : (s.f0 != 2) = false := by simp [h1]
      by_cases h2 : s.f1 < 0
      · have g2 : decide (s.f1 < 0) = true := decide_eq_true h2
        have e : idxF v.f3.length s = none := if_neg (by omega)
        repeat (first
          | (refine sel_yes ?_ ?_; (first | assumption | (simp only [beq_iff_eq, bne_iff_ne, beq_eq_false_iff_ne, bne_eq_false_iff_eq, decide_eq_true_eq, decide_eq_false_iff_not, Bool.not_eq_true', Bool.not_eq_false', ne_eq, beq_true, beq_false, bne_self_eq_false, not_true_eq_false, not_false_eq_true, gt_iff_lt, ge_iff_le, Int.not_lt, Int.not_le, Bool.true_eq_false, Bool.false_eq_true] <;> omega)); conv => whnf)
          | (refine sel_no ?_ ?_; (first | assumption | (simp only [beq_iff_eq, bne_iff_ne, beq_eq_false_iff_ne, bne_eq_false_iff_eq, decide_eq_true_eq, decide_eq_false_iff_not, Bool.not_eq_true', Bool.not_eq_false', ne_eq, beq_true, beq_false, bne_self_eq_false, not_true_eq_false, not_false_eq_true, gt_iff_lt, ge_iff_le, Int.not_lt, Int.not_le, Bool.true_eq_false, Bool.false_eq_true] <;> omega)); conv => whnf)
          | (refine ⟨le_rfl' ?_, ?_⟩; rfl; conv => whnf)
          | (refine ⟨⟨?_, ?_⟩, ?_⟩; omega; omega; conv => whnf)
          | (refine ⟨⟨?_, ?_, ?_⟩, ?_⟩; rfl; omega; omega; conv => whnf)
          | (refine ⟨rfl, ?_, ?_⟩; decide; conv => whnf))
        try exact rfl
        rw [e]
      · have g2 : decide (s.f1 < 0) = false := decide_eq_false h2
        by_cases h3 : s.f1 ≥ (v.f3.length : Int)
        · have g3 : decide (s.f1 ≥ (v.f3.length : Int)) = true := decide_eq_true h3
          have e : idxF v.f3.length s = none := if_neg (by omega)
          repeat (first
            | (refine sel_yes ?_ ?_; (first | assumption | (simp only [beq_iff_eq, bne_iff_ne, beq_eq_false_iff_ne, bne_eq_false_iff_eq, decide_eq_true_eq, decide_eq_false_iff_not, Bool.not_eq_true', Bool.not_eq_false', ne_eq, beq_true, beq_false, bne_self_eq_false, not_true_eq_false, not_false_eq_true, gt_iff_lt, ge_iff_le, Int.not_lt, Int.not_le, Bool.true_eq_false, Bool.false_eq_true] <;> omega)); conv => whnf)
            | (refine sel_no ?_ ?_; (first | assumption | (simp only [beq_iff_eq, bne_iff_ne, beq_eq_false_iff_ne, bne_eq_false_iff_eq, decide_eq_true_eq, decide_eq_false_iff_not, Bool.not_eq_true', Bool.not_eq_false', ne_eq, beq_true, beq_false, bne_self_eq_false, not_true_eq_false, not_false_eq_true, gt_iff_lt, ge_iff_le, Int.not_lt, Int.not_le, Bool.true_eq_false, Bool.false_eq_true] <;> omega)); conv => whnf)
            | (refine ⟨le_rfl' ?_, ?_⟩; rfl; conv => whnf)
            | (refine ⟨⟨?_, ?_⟩, ?_⟩; omega; omega; conv => whnf)
            | (refine ⟨⟨?_, ?_, ?_⟩, ?_⟩; rfl; omega; omega; conv => whnf)
            | (refine ⟨rfl, ?_, ?_⟩; decide; conv => whnf))
          try exact rfl
          rw [e]
        · have g3 : decide (s.f1 ≥ (v.f3.length : Int)) = false := decide_eq_false h3
          have e : idxF v.f3.length s = some s.f1.toNat := if_pos (by omega)
          repeat (first
            | (refine sel_yes ?_ ?_; (first | assumption | (simp only [beq_iff_eq, bne_iff_ne, beq_eq_false_iff_ne, bne_eq_false_iff_eq, decide_eq_true_eq, decide_eq_false_iff_not, Bool.not_eq_true', Bool.not_eq_false', ne_eq, beq_true, beq_false, bne_self_eq_false, not_true_eq_false, not_false_eq_true, gt_iff_lt, ge_iff_le, Int.not_lt, Int.not_le, Bool.true_eq_false, Bool.false_eq_true] <;> omega)); conv => whnf)
            | (refine sel_no ?_ ?_; (first | assumption | (simp only [beq_iff_eq, bne_iff_ne, beq_eq_false_iff_ne, bne_eq_false_iff_eq, decide_eq_true_eq, decide_eq_false_iff_not, Bool.not_eq_true', Bool.not_eq_false', ne_eq, beq_true, beq_false, bne_self_eq_false, not_true_eq_false, not_false_eq_true, gt_iff_lt, ge_iff_le, Int.not_lt, Int.not_le, Bool.true_eq_false, Bool.false_eq_true] <;> omega)); conv => whnf)
            | (refine ⟨le_rfl' ?_, ?_⟩; rfl; conv => whnf)
            | (refine ⟨⟨?_, ?_⟩, ?_⟩; omega; omega; conv => whnf)
            | (refine ⟨⟨?_, ?_, ?_⟩, ?_⟩; rfl; omega; omega; conv => whnf)
            | (refine ⟨rfl, ?_, ?_⟩; decide; conv => whnf))
          try exact rfl
          rw [e]
          show V.tup [.int .i64 s.f1, .bool true] = V.tup [.int .i64 (s.f1.toNat : Int), .bool true]
          rw [Int.toNat_of_nonneg (by omega)]
    · have g1 : (s.f0 != 2) = true := by simp [h1]
      have e : idxF v.f3.length s = none := if_neg (by omega)
      repeat (first
        | (refine sel_yes ?_ ?_; (first | assumption | (simp only [beq_iff_eq, bne_iff_ne, beq_eq_false_iff_ne, bne_eq_false_iff_eq, decide_eq_true_eq, decide_eq_false_iff_not, Bool.not_eq_true', Bool.not_eq_false', ne_eq, beq_true, beq_false, bne_self_eq_false, not_true_eq_false, not_false_eq_true, gt_iff_lt, ge_iff_le, Int.not_lt, Int.not_le, Bool.true_eq_false, Bool.false_eq_true] <;> omega)); conv => whnf)
        | (refine sel_no ?_ ?_; (first | assumption | (simp only [beq_iff_eq, bne_iff_ne, beq_eq_false_iff_ne, bne_eq_false_iff_eq, decide_eq_true_eq, decide_eq_false_iff_not, Bool.not_eq_true', Bool.not_eq_false', ne_eq, beq_true, beq_false, bne_self_eq_false, not_true_eq_false, not_false_eq_true, gt_iff_lt, ge_iff_le, Int.not_lt, Int.not_le, Bool.true_eq_false, Bool.false_eq_true] <;> omega)); conv => whnf)
        | (refine ⟨le_rfl' ?_, ?_⟩; rfl; conv => whnf)
        | (refine ⟨⟨?_, ?_⟩, ?_⟩; omega; omega; conv => whnf)
        | (refine ⟨⟨?_, ?_, ?_⟩, ?_⟩; rfl; omega; omega; conv => whnf)
        | (refine ⟨rfl, ?_, ?_⟩; decide; conv => whnf))
      try exact rfl
      rw [e]
  obtain ⟨r, h, rfl⟩ := key
  exact h
end
end Go.Proofs.YtjfjagnnefmepaaDoor.AB
end

section
set_option linter.unusedVariables false
set_option linter.unusedSimpArgs false
open Go Go.Ab Go.Proofs Go.Vl
namespace Go.Proofs.YtjfjagnnefmepaaDoor.AB
set_option maxRecDepth 100000
set_option maxHeartbeats 8000000
set_option linter.unusedSimpArgs false
set_option linter.unusedVariables false
section
variable {ext : Exts}
/-- a value and whether there is one, as a function tells them -/
def optV (o : Option T) : V := match o with | some w => .tup [A w, .bool true] | none => .tup [A nilT, .bool false]
/-- what a walk over a value's row wants -/
structure Row (v : T) : Prop where
  wf : WfV v
  len : v.f3.length ≤ 1048576
  even : v.f0 = 6 → v.f3.length % 2 = 0
theorem Row.wfl {v : T} (h : Row v) : ∀ a ∈ v.f3, WfV a := by
  obtain ⟨k, n, t, l⟩ := v
  have := h.wf
  simp only [WfV] at this
  exact wfL_mem _ this.2.2.2.2
theorem ldAx {l : List T} {i : Nat} {X : Int} {Q : V → Prop} (he : X = (i : Int)) (h : i < l.length) (hq : Q (A l[i])) : X.toNat * 4 + 4 ≤ (encL l).length ∧ opt (one (some true) (sub (encL l) (X.toNat * 4) 4)) fun v => fv v Q := by
  subst he
  exact ldA (i := i) h hq
theorem tpart (hn : Non ext) (h26 : E26 ext) (v s : T) (hR : Row v) : (cfg ext).Ev 54 [A v, A s] (optV (partF v s)) := by
  have hC : ∀ a ∈ v.f3, (cfg ext).Ev 78 [A a, A s] (.int .i64 (cmpV a s)) := fun a ha => t15 hn h26 a (hR.wfl a ha) s
  have key : ∃ r, (cfg ext).Ev 54 [A v, A s] r ∧ r = optV (partF v s) := by
    refine Ev.ofE (hn 54 (by decide) (by decide)) Tryd.func54 rfl rfl ?_
    conv => whnf
    by_cases h6 : v.f0 = 6
    · have g1 : (v.f0 == 6) = true := by simp [h6]
      have hl := hR.len
      have h2 := hR.even h6
      repeat (first
        | (refine sel_yes ?_ ?_; (first | assumption | (simp only [beq_iff_eq, bne_iff_ne, beq_eq_false_iff_ne, bne_eq_false_iff_eq, decide_eq_true_eq, decide_eq_false_iff_not, Bool.not_eq_true', Bool.not_eq_false', ne_eq, beq_true, beq_false, bne_self_eq_false, not_true_eq_false, not_false_eq_true, gt_iff_lt, ge_iff_le, Int.not_lt, Int.not_le, Bool.true_eq_false, Bool.false_eq_true] <;> omega)); conv => whnf)
        | (refine sel_no ?_ ?_; (first | assumption | (simp only [beq_iff_eq, bne_iff_ne, beq_eq_false_iff_ne, bne_eq_false_iff_eq, decide_eq_true_eq, decide_eq_false_iff_not, Bool.not_eq_true', Bool.not_eq_false', ne_eq, beq_true, beq_false, bne_self_eq_false, not_true_eq_false, not_false_eq_true, gt_iff_lt, ge_iff_le, Int.not_lt, Int.not_le, Bool.true_eq_false, Bool.false_eq_true] <;> omega)); conv => whnf)
        | (refine ⟨_, tkey hn v s hl h2 hC, ?_⟩; conv => whnf)
        | (refine ⟨le_rfl' ?_, ?_⟩; rfl; conv => whnf)
        | (refine ⟨⟨?_, ?_⟩, ?_⟩; omega; omega; conv => whnf)
        | (refine ⟨⟨?_, ?_, ?_⟩, ?_⟩; rfl; omega; omega; conv => whnf)
        | (refine ⟨rfl, ?_, ?_⟩; decide; conv => whnf))
      try exact rfl
      cases hk : (keyF v.f3 s).2 with
      | false =>
        conv => whnf
        have e : partF v s = none := by unfold partF; rw [if_pos h6, hk]; rfl
        rw [e]; rfl
      | true =>
        have hb : (keyF v.f3 s).1 + 1 < v.f3.length := by
          exact keyF_lt v.f3 s hk
        have e : partF v s = some (v.f3[(keyF v.f3 s).1 + 1]) := by
          unfold partF; rw [if_pos h6, hk, if_pos rfl, List.getElem?_eq_getElem hb]
        have e1 : IntKind.i64.wrap ((((keyF v.f3 s).1 : Nat) : Int) + 1) = (((keyF v.f3 s).1 + 1 : Nat) : Int) := wrapN (by omega) (by omega)
        conv => whnf
        refine ⟨bnd e1 hb, ?_⟩
        conv => whnf
        refine ldAx e1 hb ?_
        conv => whnf
        exact congrArg optV e.symm
    · have g1 : (v.f0 == 6) = false := by simp [h6]
      by_cases h4 : v.f0 = 4
      · have g2 : (v.f0 == 4) = true := by simp [h4]
        have hi := tindex (ext := ext) hn v s
        have e0 : partF v s = match idxF v.f3.length s with | some i => v.f3[i]? | none => none := by unfold partF; rw [if_neg h6, if_pos h4]; rfl
        cases hx : idxF v.f3.length s with
        | none =>
          rw [hx] at hi e0
          repeat (first
            | (refine sel_yes ?_ ?_; (first | assumption | (simp only [beq_iff_eq, bne_iff_ne, beq_eq_false_iff_ne, bne_eq_false_iff_eq, decide_eq_true_eq, decide_eq_false_iff_not, Bool.not_eq_true', Bool.not_eq_false', ne_eq, beq_true, beq_false, bne_self_eq_false, not_true_eq_false, not_false_eq_true, gt_iff_lt, ge_iff_le, Int.not_lt, Int.not_le, Bool.true_eq_false, Bool.false_eq_true] <;> omega)); conv => whnf)
            | (refine sel_no ?_ ?_; (first | assumption | (simp only [beq_iff_eq, bne_iff_ne, beq_eq_false_iff_ne, bne_eq_false_iff_eq, decide_eq_true_eq, decide_eq_false_iff_not, Bool.not_eq_true', Bool.not_eq_false', ne_eq, beq_true, beq_false, bne_self_eq_false, not_true_eq_false, not_false_eq_true, gt_iff_lt, ge_iff_le, Int.not_lt, Int.not_le, Bool.true_eq_false, Bool.false_eq_true] <;> omega)); conv => whnf)
            | (refine ⟨_, hi, ?_⟩; conv => whnf)
            | (refine ⟨le_rfl' ?_, ?_⟩; rfl; conv => whnf)
            | (refine ⟨⟨?_, ?_⟩, ?_⟩; omega; omega; conv => whnf)
            | (refine ⟨⟨?_, ?_, ?_⟩, ?_⟩; rfl; omega; omega; conv => whnf)
            | (refine ⟨rfl, ?_, ?_⟩; decide; conv => whnf))
          try exact rfl
          exact congrArg optV e0.symm
        | some i =>
          rw [hx] at hi e0
          have hb : i < v.f3.length := by
            unfold idxF at hx
            split at hx <;> cases hx
            omega
          have e : partF v s = some v.f3[i] := e0.trans (List.getElem?_eq_getElem hb)
          repeat (first
            | (refine sel_yes ?_ ?_; (first | assumption | (simp only [beq_iff_eq, bne_iff_ne, beq_eq_false_iff_ne, bne_eq_false_iff_eq, decide_eq_true_eq, decide_eq_false_iff_not, Bool.not_eq_true', Bool.not_eq_false', ne_eq, beq_true, beq_false, bne_self_eq_false, not_true_eq_false, not_false_eq_true, gt_iff_lt, ge_iff_le, Int.not_lt, Int.not_le, Bool.true_eq_false, Bool.false_eq_true] <;> omega)); conv => whnf)
            | (refine sel_no ?_ ?_; (first | assumption | (simp only [beq_iff_eq, bne_iff_ne, beq_eq_false_iff_ne, bne_eq_false_iff_eq, decide_eq_true_eq, decide_eq_false_iff_not, Bool.not_eq_true', Bool.not_eq_false', ne_eq, beq_true, beq_false, bne_self_eq_false, not_true_eq_false, not_false_eq_true, gt_iff_lt, ge_iff_le, Int.not_lt, Int.not_le, Bool.true_eq_false, Bool.false_eq_true] <;> omega)); conv => whnf)
            | (refine ⟨_, hi, ?_⟩; conv => whnf)
            | (refine ⟨le_rfl' ?_, ?_⟩; rfl; conv => whnf)
            | (refine ⟨⟨?_, ?_⟩, ?_⟩; omega; omega; conv => whnf)
            | (refine ⟨⟨?_, ?_, ?_⟩, ?_⟩; rfl; omega; omega; conv => whnf)
            | (refine ⟨rfl, ?_, ?_⟩; decide; conv => whnf))
          try exact rfl
          refine ldAx rfl hb ?_
          conv => whnf
          exact congrArg optV e.symm
      · have g2 : (v.f0 == 4) = false := by simp [h4]
        by_cases h5 : v.f0 = 5
        · have g3 : (v.f0 == 5) = true := by simp [h5]
          have hc := tcont hn v.f3 s (fun x => decide (cmpV x s = 0)) hR.len (fun a ha => tpart1 hn a s (hC a ha))
          have e0 : partF v s = if (v.f3.any fun x => decide (cmpV x s = 0)) = true then some s else none := by unfold partF; rw [if_neg h6, if_neg h4, if_pos h5]
          cases hx : (v.f3.any fun x => decide (cmpV x s = 0)) with
          | false =>
            rw [hx] at hc e0
            repeat (first
              | (refine sel_yes ?_ ?_; (first | assumption | (simp only [beq_iff_eq, bne_iff_ne, beq_eq_false_iff_ne, bne_eq_false_iff_eq, decide_eq_true_eq, decide_eq_false_iff_not, Bool.not_eq_true', Bool.not_eq_false', ne_eq, beq_true, beq_false, bne_self_eq_false, not_true_eq_false, not_false_eq_true, gt_iff_lt, ge_iff_le, Int.not_lt, Int.not_le, Bool.true_eq_false, Bool.false_eq_true] <;> omega)); conv => whnf)
              | (refine sel_no ?_ ?_; (first | assumption | (simp only [beq_iff_eq, bne_iff_ne, beq_eq_false_iff_ne, bne_eq_false_iff_eq, decide_eq_true_eq, decide_eq_false_iff_not, Bool.not_eq_true', Bool.not_eq_false', ne_eq, beq_true, beq_false, bne_self_eq_false, not_true_eq_false, not_false_eq_true, gt_iff_lt, ge_iff_le, Int.not_lt, Int.not_le, Bool.true_eq_false, Bool.false_eq_true] <;> omega)); conv => whnf)
              | (refine ⟨_, enc_eq s ▸ hc, ?_⟩; conv => whnf)
              | (refine ⟨le_rfl' ?_, ?_⟩; rfl; conv => whnf)
              | (refine ⟨⟨?_, ?_⟩, ?_⟩; omega; omega; conv => whnf)
              | (refine ⟨⟨?_, ?_, ?_⟩, ?_⟩; rfl; omega; omega; conv => whnf)
              | (refine ⟨rfl, ?_, ?_⟩; decide; conv => whnf))
            try exact rfl
            exact congrArg optV e0.symm
          | true =>
            rw [hx] at hc e0
            repeat (first
              | (refine sel_yes ?_ ?_; (first | assumption | (simp only [beq_iff_eq, bne_iff_ne, beq_eq_false_iff_ne, bne_eq_false_iff_eq, decide_eq_true_eq, decide_eq_false_iff_not, Bool.not_eq_true', Bool.not_eq_false', ne_eq, beq_true, beq_false, bne_self_eq_false, not_true_eq_false, not_false_eq_true, gt_iff_lt, ge_iff_le, Int.not_lt, Int.not_le, Bool.true_eq_false, Bool.false_eq_true] <;> omega)); conv => whnf)
              | (refine sel_no ?_ ?_; (first | assumption | (simp only [beq_iff_eq, bne_iff_ne, beq_eq_false_iff_ne, bne_eq_false_iff_eq, decide_eq_true_eq, decide_eq_false_iff_not, Bool.not_eq_true', Bool.not_eq_false', ne_eq, beq_true, beq_false, bne_self_eq_false, not_true_eq_false, not_false_eq_true, gt_iff_lt, ge_iff_le, Int.not_lt, Int.not_le, Bool.true_eq_false, Bool.false_eq_true] <;> omega)); conv => whnf)
              | (refine ⟨_, enc_eq s ▸ hc, ?_⟩; conv => whnf)
              | (refine ⟨le_rfl' ?_, ?_⟩; rfl; conv => whnf)
              | (refine ⟨⟨?_, ?_⟩, ?_⟩; omega; omega; conv => whnf)
              | (refine ⟨⟨?_, ?_, ?_⟩, ?_⟩; rfl; omega; omega; conv => whnf)
              | (refine ⟨rfl, ?_, ?_⟩; decide; conv => whnf))
            try exact rfl
            exact congrArg optV e0.symm
        · have g3 : (v.f0 == 5) = false := by simp [h5]
          have e : partF v s = none := by unfold partF; rw [if_neg h6, if_neg h4, if_neg h5]
          repeat (first
            | (refine sel_yes ?_ ?_; (first | assumption | (simp only [beq_iff_eq, bne_iff_ne, beq_eq_false_iff_ne, bne_eq_false_iff_eq, decide_eq_true_eq, decide_eq_false_iff_not, Bool.not_eq_true', Bool.not_eq_false', ne_eq, beq_true, beq_false, bne_self_eq_false, not_true_eq_false, not_false_eq_true, gt_iff_lt, ge_iff_le, Int.not_lt, Int.not_le, Bool.true_eq_false, Bool.false_eq_true] <;> omega)); conv => whnf)
            | (refine sel_no ?_ ?_; (first | assumption | (simp only [beq_iff_eq, bne_iff_ne, beq_eq_false_iff_ne, bne_eq_false_iff_eq, decide_eq_true_eq, decide_eq_false_iff_not, Bool.not_eq_true', Bool.not_eq_false', ne_eq, beq_true, beq_false, bne_self_eq_false, not_true_eq_false, not_false_eq_true, gt_iff_lt, ge_iff_le, Int.not_lt, Int.not_le, Bool.true_eq_false, Bool.false_eq_true] <;> omega)); conv => whnf)
            | (refine ⟨le_rfl' ?_, ?_⟩; rfl; conv => whnf)
            | (refine ⟨⟨?_, ?_⟩, ?_⟩; omega; omega; conv => whnf)
            | (refine ⟨⟨?_, ?_, ?_⟩, ?_⟩; rfl; omega; omega; conv => whnf)
            | (refine ⟨rfl, ?_, ?_⟩; decide; conv => whnf))
          try exact rfl
          exact congrArg optV e.symm
  obtain ⟨r, h, rfl⟩ := key
  exact h
end
end Go.Proofs.YtjfjagnnefmepaaDoor.AB
end

section
set_option linter.unusedVariables false
set_option linter.unusedSimpArgs false
open Go Go.Ab Go.Proofs Go.Vl
namespace Go.Proofs.YtjfjagnnefmepaaDoor.AB
set_option maxRecDepth 100000
set_option maxHeartbeats 8000000
set_option linter.unusedSimpArgs false
set_option linter.unusedVariables false
section
variable {ext : Exts}
/-- a right value -/
structure Good (v : T) : Prop where
  wf : WfV v
  ok : okB v = true
theorem OK.row {v : T} (h : OK v) : v.f3.length ≤ 1024 ∧ (v.f0 = 6 → v.f3.length % 2 = 0) := by
  obtain ⟨h1, h2, h3⟩ := h
  rw [partsV_eq] at h3
  have := partsL_len v.f3
  refine ⟨by omega, fun h6 => ?_⟩
  rw [okV_eq] at h1
  have hf := h1.2.1
  unfold FormV at hf
  rw [h6] at hf
  simp at hf
  exact hf.1
theorem Good.row {v : T} (h : Good v) : Row v := ⟨h.wf, by have := (OK.row (okB_iff.1 h.ok)).1; omega, (OK.row (okB_iff.1 h.ok)).2⟩
theorem Good.item {v : T} (h : Good v) {x : T} (hx : x ∈ v.f3) : Good x := by
  refine ⟨h.row.wfl x hx, okB_iff.2 ?_⟩
  obtain ⟨k, n, t, l⟩ := v
  exact ok_item (okB_iff.1 h.ok) hx
theorem part_good {v s w : T} (hv : Good v) (hs : Good s) (h : partF v s = some w) : Good w := by
  unfold partF at h
  split at h
  · split at h
    · exact hv.item (List.mem_of_getElem? h)
    · cases h
  · split at h
    · split at h
      · exact hv.item (List.mem_of_getElem? h)
      · cases h
    · split at h
      · split at h
        · cases h; exact hs
        · cases h
      · cases h
theorem at_good : ∀ (p : List T) {v w : T}, Good v → (∀ s ∈ p, Good s) → atF v p = some w → Good w
  | [], v, w, hv, _, h => by cases h; exact hv
  | s :: p, v, w, hv, hp, h => by
    unfold atF at h
    cases hx : partF v s with
    | none => rw [hx] at h; cases h
    | some u =>
      rw [hx] at h
      exact at_good p (part_good hv (hp s (by simp)) hx) (fun s' hs' => hp s' (by simp [hs'])) h
def zC : List V := [.int .i64 0, .int .i64 0, .str ⟨#[]⟩, .sl true [] 0]
theorem A_cells (v : T) : (A v).cells = some (cellsV v) := rfl
/-- what stands at a path -/
theorem lat (hn : Non ext) (h26 : E26 ext) (p : List T) (hl : p.length ≤ 1048576) (hp : ∀ s ∈ p, Good s) (Q : Ex → St → Prop) (d : Nat) :
    ∀ (i : Nat) (v : T) (z : St), p.length - i = d → i ≤ p.length → Good v → Has z.t [(2, .ref 0 0), (4, .ref 1 0), (10, .sl false (encL p) p.length), (11, .int .i64 p.length), (12, .int .i64 i)] → z.hp.n = 6 → Has z.hp.h [(0, some (.cells (cellsV v) false)), (1, some (.cells zC false))] →
      (∀ z' : St, Has z'.t [(4, .ref 1 0), (5, .bool false)] → Has z'.hp.h [(1, some (.cells zC false))] → atF v (p.drop i) = none → Q .ret z') →
      (∀ (z' : St) (w : T), Has z'.t [(2, .ref 0 0), (4, .ref 1 0)] → z'.hp.n = z'.hp.n → Has z'.hp.h [(0, some (.cells (cellsV w) false)), (1, some (.cells zC false))] → atF v (p.drop i) = some w → Q (.exit 0) z') →
      Go.Ab.Loop (cfg ext) (lpOf Tryd.f36) 6 z Q := by
  induction d with
  | zero =>
    intro i v z hd hi hv ht hz hb hr hq
    have g : decide ((i : Int) < (p.length : Int)) = false := decide_eq_false (by omega)
    rw [St.knows _ _ ht hz _ hb]
    refine Loop.round ?_
    conv => whnf
    repeat (first
      | (refine sel_yes ?_ ?_; (first | assumption | (simp only [beq_iff_eq, bne_iff_ne, beq_eq_false_iff_ne, bne_eq_false_iff_eq, decide_eq_true_eq, decide_eq_false_iff_not, Bool.not_eq_true', Bool.not_eq_false', ne_eq, beq_true, beq_false, bne_self_eq_false, not_true_eq_false, not_false_eq_true, gt_iff_lt, ge_iff_le, Int.not_lt, Int.not_le, Bool.true_eq_false, Bool.false_eq_true] <;> omega)); conv => whnf)
      | (refine sel_no ?_ ?_; (first | assumption | (simp only [beq_iff_eq, bne_iff_ne, beq_eq_false_iff_ne, bne_eq_false_iff_eq, decide_eq_true_eq, decide_eq_false_iff_not, Bool.not_eq_true', Bool.not_eq_false', ne_eq, beq_true, beq_false, bne_self_eq_false, not_true_eq_false, not_false_eq_true, gt_iff_lt, ge_iff_le, Int.not_lt, Int.not_le, Bool.true_eq_false, Bool.false_eq_true] <;> omega)); conv => whnf)
      | (refine ⟨le_rfl' ?_, ?_⟩; rfl; conv => whnf)
      | (refine ⟨⟨?_, ?_⟩, ?_⟩; omega; omega; conv => whnf)
      | (refine ⟨⟨?_, ?_, ?_⟩, ?_⟩; rfl; omega; omega; conv => whnf)
      | (refine ⟨rfl, ?_, ?_⟩; decide; conv => whnf))
    try exact rfl
    exact hq _ v ⟨rfl, rfl, trivial⟩ rfl ⟨rfl, rfl, trivial⟩ (by rw [List.drop_eq_nil_of_le (by omega)]; rfl)
  | succ d ih =>
    intro i v z hd hi hv ht hz hb hr hq
    have hlt : i < p.length := by omega
    have g : decide ((i : Int) < (p.length : Int)) = true := decide_eq_true (by omega)
    have eD := List.drop_eq_getElem_cons hlt
    have e1 : IntKind.i64.wrap ((i : Int) + 1) = ((i + 1 : Nat) : Int) := wrapN (by omega) (by omega)
    have hE := tpart hn h26 v p[i] hv.row
    have e0 : atF v (p.drop i) = match partF v p[i] with | some w => atF w (p.drop (i + 1)) | none => none := by
      rw [eD]; rfl
    rw [St.knows _ _ ht hz _ hb]
    refine Loop.round ?_
    conv => whnf
    repeat (first
      | (refine sel_yes ?_ ?_; (first | assumption | (simp only [beq_iff_eq, bne_iff_ne, beq_eq_false_iff_ne, bne_eq_false_iff_eq, decide_eq_true_eq, decide_eq_false_iff_not, Bool.not_eq_true', Bool.not_eq_false', ne_eq, beq_true, beq_false, bne_self_eq_false, not_true_eq_false, not_false_eq_true, gt_iff_lt, ge_iff_le, Int.not_lt, Int.not_le, Bool.true_eq_false, Bool.false_eq_true] <;> omega)); conv => whnf)
      | (refine sel_no ?_ ?_; (first | assumption | (simp only [beq_iff_eq, bne_iff_ne, beq_eq_false_iff_ne, bne_eq_false_iff_eq, decide_eq_true_eq, decide_eq_false_iff_not, Bool.not_eq_true', Bool.not_eq_false', ne_eq, beq_true, beq_false, bne_self_eq_false, not_true_eq_false, not_false_eq_true, gt_iff_lt, ge_iff_le, Int.not_lt, Int.not_le, Bool.true_eq_false, Bool.false_eq_true] <;> omega)); conv => whnf)
      | (refine ⟨le_rfl' ?_, ?_⟩; rfl; conv => whnf)
      | (refine ⟨⟨?_, ?_⟩, ?_⟩; omega; omega; conv => whnf)
      | (refine ⟨⟨?_, ?_, ?_⟩, ?_⟩; rfl; omega; omega; conv => whnf)
      | (refine ⟨rfl, ?_, ?_⟩; decide; conv => whnf))
    try exact rfl
    refine ldA (i := i) hlt ?_
    conv => whnf
    refine ⟨_, hE, ?_⟩
    cases hx : partF v p[i] with
    | none =>
      rw [hx] at e0
      conv => whnf
      exact hr _ ⟨rfl, rfl, trivial⟩ ⟨rfl, trivial⟩ e0
    | some w =>
      rw [hx] at e0
      conv => whnf
      refine ih (i + 1) w _ (by omega) (by omega) (part_good hv (hp _ (List.getElem_mem hlt)) hx) ⟨rfl, rfl, rfl, rfl, ?_, trivial⟩ rfl ⟨rfl, rfl, trivial⟩ (fun z' a b c => hr z' a b (e0.trans c)) (fun z' w' a b c e => hq z' w' a b c (e0.trans e))
      conv => lhs; whnf
      exact vi e1
theorem tat (hn : Non ext) (h26 : E26 ext) (v : T) (hv : Good v) (p : List T) (hl : p.length ≤ 1048576) (hp : ∀ s ∈ p, Good s) : (cfg ext).Ev 36 [A v, .sl false (encL p) p.length] (optV (atF v p)) := by
  have key : ∃ r, (cfg ext).Ev 36 [A v, .sl false (encL p) p.length] r ∧ r = optV (atF v p) := by
    refine Ev.ofE (hn 36 (by decide) (by decide)) Tryd.func36 rfl rfl ?_
    conv => whnf
    refine lat hn h26 p hl hp _ p.length 0 v _ rfl (by omega) hv ⟨rfl, rfl, rfl, rfl, rfl, trivial⟩ rfl ⟨rfl, rfl, trivial⟩ (fun z a b c => ?_) (fun z w a b c e => ?_)
    · rw [St.knows (s := z) _ z.hp.n a rfl _ b]
      conv => whnf
      exact congrArg optV c.symm
    · rw [St.knows (s := z) _ z.hp.n a rfl _ c]
      conv => whnf
      exact congrArg optV e.symm
  obtain ⟨r, h, rfl⟩ := key
  exact h
end
end Go.Proofs.YtjfjagnnefmepaaDoor.AB
end

section
set_option linter.unusedVariables false
set_option linter.unusedSimpArgs false
open Go Go.Ab Go.Proofs Go.Vl
namespace Go.Proofs.YtjfjagnnefmepaaDoor.AB
set_option maxRecDepth 100000
set_option maxHeartbeats 1600000
set_option linter.unusedSimpArgs false
section
variable {ext : Exts}
noncomputable def eqT (a b : T) : Bool := @decide (a = b) (Classical.propDecidable _)
theorem eqT_iff {a b : T} : eqT a b = true ↔ a = b := by unfold eqT; exact @decide_eq_true_iff _ (Classical.propDecidable _)
theorem eqT_self (a : T) : eqT a a = true := eqT_iff.2 rfl
noncomputable def eqL (a b : List T) : Bool := @decide (a = b) (Classical.propDecidable _)
theorem eqL_iff {a b : List T} : eqL a b = true ↔ a = b := by unfold eqL; exact @decide_eq_true_iff _ (Classical.propDecidable _)
theorem eqL_self (a : List T) : eqL a a = true := eqL_iff.2 rfl
theorem eqL_cons {a b : T} {l m : List T} : eqL (a :: l) (b :: m) = (eqT a b && eqL l m) := by
  rw [Bool.eq_iff_iff, Bool.and_eq_true, eqL_iff, eqT_iff, eqL_iff]
  exact ⟨fun h => by injection h with h1 h2; exact ⟨h1, h2⟩, fun h => by rw [h.1, h.2]⟩
theorem eqL_drop {l m : List T} {i : Nat} (h1 : i < l.length) (h2 : i < m.length) : eqL (l.drop i) (m.drop i) = (eqT l[i] m[i] && eqL (l.drop (i + 1)) (m.drop (i + 1))) := by
  rw [List.drop_eq_getElem_cons h1, List.drop_eq_getElem_cons h2, eqL_cons]
theorem wrapN1 {i : Nat} (h : i + 1 ≤ 9223372036854775807) : V.int .i64 (IntKind.i64.wrap ((i : Int) + 1)) = V.int .i64 ((i + 1 : Nat) : Int) := by
  rw [IntKind.wrap_i64]; exact vi (by omega)
theorem lplain (k n : Int) (t : ByteArray) (l : List T) (k' n' : Int) (t' : ByteArray) (m : List T) (hm : l.length = m.length) (hl : l.length ≤ 9223372036854775807) (E : ∀ a ∈ l, ∀ b ∈ m, (cfg ext).Ev 11 [A a, A b] (.bool (eqT a b))) (Q : Ex → St → Prop) (d : Nat) :
    ∀ (i : Nat) (z : St), l.length - i = d → i ≤ l.length → Has z.t [(37, .int .i64 i), (36, .int .i64 l.length), (2, .ref 0 0), (3, .ref 1 0)] →
      Has z.hp.h [(0, some (.cells [.int .i64 k, .int .i64 n, .str t, .sl false (encL l) l.length] false)), (1, some (.cells [.int .i64 k', .int .i64 n', .str t', .sl false (encL m) m.length] false))] → z.hp.n = 35 →
      (∀ z', z'.t 4 = .bool false → eqL (l.drop i) (m.drop i) = false → Q .ret z') → (∀ z', eqL (l.drop i) (m.drop i) = true → Q (.exit 0) z') →
      Go.Ab.Loop (cfg ext) (lpOf Tryd.f11) 35 z Q := by
  induction d with
  | zero =>
    intro i z hd hi ht hh hn hr hq
    obtain rfl : i = l.length := by omega
    rw [St.knows _ _ ht hn _ hh]
    refine Loop.round ?_
    conv => whnf
    refine sel_no (by simp) ?_
    conv => whnf
    exact hq _ (by rw [List.drop_length, hm, List.drop_length]; exact eqL_self _)
  | succ d ih =>
    intro i z hd hi ht hh hn hr hq
    have h1 : i < l.length := by omega
    have h2 : i < m.length := by omega
    have hE := E _ (List.getElem_mem h1) _ (List.getElem_mem h2)
    have eD := eqL_drop h1 h2
    rw [St.knows _ _ ht hn _ hh]
    refine Loop.round ?_
    conv => whnf
    refine sel_yes (by simp; omega) ?_
    conv => whnf
    refine ⟨⟨by omega, by omega⟩, ?_⟩
    conv => whnf
    refine ldA (i := i) h1 ?_
    conv => whnf
    refine ⟨⟨by omega, by omega⟩, ?_⟩
    conv => whnf
    refine ldA (i := i) h2 ?_
    conv => whnf
    refine ⟨_, hE, ?_⟩
    cases he : eqT l[i] m[i] with
    | false =>
      conv => whnf
      exact hr _ rfl (by rw [eD, he]; rfl)
    | true =>
      conv => whnf
      refine ih (i + 1) _ (by omega) (by omega) ⟨?_, rfl, rfl, rfl, trivial⟩ ⟨rfl, rfl, trivial⟩ rfl (fun z' a b => hr z' a (by rw [eD, he]; exact b)) (fun z' a => hq z' (by rw [eD, he]; exact a))
      conv => lhs; whnf
      exact wrapN1 (by omega)
mutual
theorem tplain (hn : Non ext) : (a : T) → WfV a → (b : T) → (cfg ext).Ev 11 [A a, A b] (.bool (eqT a b))
  | ⟨k, n, t, l⟩, hw, ⟨k', n', t', m⟩ => by
    have E : ∀ a ∈ l, ∀ b ∈ m, (cfg ext).Ev 11 [A a, A b] (.bool (eqT a b)) := fun a ha b _ => tplainL hn l (by simp only [WfV] at hw; exact hw.2.2.2.2) a ha b
    have hl : l.length ≤ 9223372036854775807 := by simp only [WfV] at hw; exact hw.2.2.2.1
    have no (h : ¬ (k = k' ∧ n = n' ∧ t = t' ∧ l.length = m.length)) : eqT ⟨k, n, t, l⟩ ⟨k', n', t', m⟩ = false := by
      cases e : eqT ⟨k, n, t, l⟩ ⟨k', n', t', m⟩ with
      | false => rfl
      | true => have := eqT_iff.1 e; injection this with e1 e2 e3 e4; exact absurd ⟨e1, e2, e3, by rw [e4]⟩ h
    refine Ev.of (hn 11 (by decide) (by decide)) Tryd.func11 rfl rfl ?_
    conv => whnf
    by_cases h1 : k = k'
    · by_cases h2 : n = n'
      · by_cases h3 : t = t'
        · have h3' : (!(t.toList == t'.toList)) = false := by rw [h3]; simp
          by_cases h4 : l.length = m.length
          · have h4' : ((l.length : Int) != (m.length : Int)) = false := by rw [h4]; simp
            repeat (first
              | (refine sel_no ?_ ?_; (first | exact h3' | exact h4' | (simp only [bne_eq_false_iff_eq, beq_eq_false_iff_ne, beq_iff_eq, beq_false, Bool.not_eq_true']; omega) | (rw [h3']; rfl) | (rw [h4']; rfl)); conv => whnf)
              | (refine sel_yes ?_ ?_; (first | (simp only [bne_eq_false_iff_eq, beq_eq_false_iff_ne, beq_iff_eq, beq_false, Bool.not_eq_true']; omega) | (rw [h3']; rfl) | (rw [h4']; rfl)); conv => whnf))
            refine lplain k n t l k' n' t' m h4 hl E _ _ 0 _ rfl (by omega) ⟨rfl, rfl, rfl, rfl, trivial⟩ ⟨rfl, rfl, trivial⟩ rfl (fun z a b => ?_) (fun z a => ?_)
            · conv => whnf
              rw [a]
              refine congrArg V.bool ?_
              simp only [List.drop_zero] at b
              cases e : eqT ⟨k, n, t, l⟩ ⟨k', n', t', m⟩ with
              | false => rfl
              | true => have := eqT_iff.1 e; injection this with e1 e2 e3 e4; rw [e4, eqL_self] at b; cases b
            · conv => whnf
              refine congrArg V.bool ?_
              simp only [List.drop_zero] at a
              have := eqL_iff.1 a
              rw [h1, h2, h3, this, eqT_self]
          · rw [no (fun h => h4 h.2.2.2)]
            have h4' : ((l.length : Int) != (m.length : Int)) = true := by simp; omega
            repeat (first
              | (refine sel_no ?_ ?_; (first | exact h3' | (simp only [bne_eq_false_iff_eq, beq_eq_false_iff_ne, beq_iff_eq, beq_false, Bool.not_eq_true']; omega) | (rw [h3']; rfl)); conv => whnf)
              | (refine sel_yes ?_ ?_; (first | exact h4' | (simp only [bne_eq_false_iff_eq, beq_eq_false_iff_ne, beq_iff_eq, beq_false, Bool.not_eq_true']; omega) | (rw [h3']; rfl) | (rw [h4']; rfl)); conv => whnf))
        · rw [no (fun h => h3 h.2.2.1)]
          have h3' : (!(t.toList == t'.toList)) = true := by
            rw [Bool.not_eq_true', beq_eq_false_iff_ne]
            intro h
            exact h3 (Go.WideShapes.bytes_inj (by rw [ByteArray.toList_eq, ByteArray.toList_eq] at h; exact h))
          repeat (first
            | (refine sel_no ?_ ?_; (first | (simp only [bne_eq_false_iff_eq, beq_eq_false_iff_ne, beq_iff_eq, beq_false, Bool.not_eq_true']; omega) | (rw [h3']; rfl)); conv => whnf)
            | (refine sel_yes ?_ ?_; (first | exact h3' | (simp only [bne_eq_false_iff_eq, beq_eq_false_iff_ne, beq_iff_eq, beq_false, Bool.not_eq_true']; omega) | (rw [h3']; rfl)); conv => whnf))
      · rw [no (fun h => h2 h.2.1)]
        repeat (first
          | (refine sel_yes ?_ ?_; (first | assumption | (simp only [beq_iff_eq, bne_iff_ne, beq_eq_false_iff_ne, bne_eq_false_iff_eq, decide_eq_true_eq, decide_eq_false_iff_not, Bool.not_eq_true', Bool.not_eq_false', ne_eq, beq_true, beq_false, bne_self_eq_false, not_true_eq_false, not_false_eq_true, gt_iff_lt, ge_iff_le, Int.not_lt, Int.not_le, Bool.true_eq_false, Bool.false_eq_true] <;> omega)); conv => whnf)
          | (refine sel_no ?_ ?_; (first | assumption | (simp only [beq_iff_eq, bne_iff_ne, beq_eq_false_iff_ne, bne_eq_false_iff_eq, decide_eq_true_eq, decide_eq_false_iff_not, Bool.not_eq_true', Bool.not_eq_false', ne_eq, beq_true, beq_false, bne_self_eq_false, not_true_eq_false, not_false_eq_true, gt_iff_lt, ge_iff_le, Int.not_lt, Int.not_le, Bool.true_eq_false, Bool.false_eq_true] <;> omega)); conv => whnf)
          | (refine ⟨le_rfl' ?_, ?_⟩; rfl; conv => whnf)
          | (refine ⟨⟨?_, ?_⟩, ?_⟩; omega; omega; conv => whnf)
          | (refine ⟨⟨?_, ?_, ?_⟩, ?_⟩; rfl; omega; omega; conv => whnf)
          | (refine ⟨rfl, ?_, ?_⟩; decide; conv => whnf))
        try exact rfl
    · rw [no (fun h => h1 h.1)]
      repeat (first
        | (refine sel_yes ?_ ?_; (first | assumption | (simp only [beq_iff_eq, bne_iff_ne, beq_eq_false_iff_ne, bne_eq_false_iff_eq, decide_eq_true_eq, decide_eq_false_iff_not, Bool.not_eq_true', Bool.not_eq_false', ne_eq, beq_true, beq_false, bne_self_eq_false, not_true_eq_false, not_false_eq_true, gt_iff_lt, ge_iff_le, Int.not_lt, Int.not_le, Bool.true_eq_false, Bool.false_eq_true] <;> omega)); conv => whnf)
        | (refine sel_no ?_ ?_; (first | assumption | (simp only [beq_iff_eq, bne_iff_ne, beq_eq_false_iff_ne, bne_eq_false_iff_eq, decide_eq_true_eq, decide_eq_false_iff_not, Bool.not_eq_true', Bool.not_eq_false', ne_eq, beq_true, beq_false, bne_self_eq_false, not_true_eq_false, not_false_eq_true, gt_iff_lt, ge_iff_le, Int.not_lt, Int.not_le, Bool.true_eq_false, Bool.false_eq_true] <;> omega)); conv => whnf)
        | (refine ⟨le_rfl' ?_, ?_⟩; rfl; conv => whnf)
        | (refine ⟨⟨?_, ?_⟩, ?_⟩; omega; omega; conv => whnf)
        | (refine ⟨⟨?_, ?_, ?_⟩, ?_⟩; rfl; omega; omega; conv => whnf)
        | (refine ⟨rfl, ?_, ?_⟩; decide; conv => whnf))
      try exact rfl
theorem tplainL (hn : Non ext) : (l : List T) → WfL l → ∀ a ∈ l, ∀ b : T, (cfg ext).Ev 11 [A a, A b] (.bool (eqT a b))
  | [], _, a, ha, _ => by cases ha
  | v :: l, hw, a, ha, b => by
    simp only [WfL] at hw
    rcases List.mem_cons.1 ha with e | h
    · rw [e]; exact tplain hn v hw.1 b
    · exact tplainL hn l hw.2 a h b
end
end
end Go.Proofs.YtjfjagnnefmepaaDoor.AB
end

section
set_option linter.unusedVariables false
set_option linter.unusedSimpArgs false
open Go Go.Ab Go.Proofs Go.Vl
namespace Go.Proofs.YtjfjagnnefmepaaDoor.AB
set_option maxRecDepth 100000
set_option maxHeartbeats 1600000
set_option linter.unusedSimpArgs false
theorem St.knowsA {s : St} (L : List (Nat × V)) (n : Nat) (h : Has s.t L) (hn : s.hp.n = n) (B : List (Nat × Option Bx) := []) (hB : Has s.hp.h B := by trivial) (D : List (Nat × Option Arr) := []) (hD : Has s.hp.a D := by trivial) : s = ⟨updL s.t L, ⟨updL s.hp.h B, n, updL s.hp.a D, s.hp.m⟩⟩ := by
  rw [updL_has _ _ h, updL_has _ _ hB, updL_has _ _ hD, ← hn]
section
variable {ext : Exts}
theorem lvals (l m : List T) (hm : l.length = m.length) (hl : l.length ≤ 9223372036854775807) (E : ∀ a ∈ l, ∀ b ∈ m, (cfg ext).Ev 11 [A a, A b] (.bool (eqT a b))) (Q : Ex → St → Prop) (d : Nat) :
    ∀ (i : Nat) (z : St), l.length - i = d → i ≤ l.length → Has z.t [(13, .int .i64 i), (12, .int .i64 l.length), (0, .sl false (encL l) l.length), (1, .sl false (encL m) m.length)] → z.hp.n = 9 →
      (∀ z', z'.t 4 = .bool false → eqL (l.drop i) (m.drop i) = false → Q .ret z') → (∀ z', eqL (l.drop i) (m.drop i) = true → Q (.exit 0) z') →
      Go.Ab.Loop (cfg ext) (lpOf Tryd.f46) 9 z Q := by
  induction d with
  | zero =>
    intro i z hd hi ht hn hr hq
    obtain rfl : i = l.length := by omega
    rw [St.knows _ _ ht hn]
    refine Loop.round ?_
    conv => whnf
    refine sel_no (by simp) ?_
    conv => whnf
    exact hq _ (by rw [List.drop_length, hm, List.drop_length]; exact eqL_self _)
  | succ d ih =>
    intro i z hd hi ht hn hr hq
    have h1 : i < l.length := by omega
    have h2 : i < m.length := by omega
    have hE := E _ (List.getElem_mem h1) _ (List.getElem_mem h2)
    have eD := eqL_drop h1 h2
    rw [St.knows _ _ ht hn]
    refine Loop.round ?_
    conv => whnf
    refine sel_yes (by simp; omega) ?_
    conv => whnf
    refine ⟨⟨by omega, by omega⟩, ?_⟩
    conv => whnf
    refine ldA (i := i) h1 ?_
    conv => whnf
    refine ⟨⟨by omega, by omega⟩, ?_⟩
    conv => whnf
    refine ldA (i := i) h2 ?_
    conv => whnf
    refine ⟨_, hE, ?_⟩
    cases he : eqT l[i] m[i] with
    | false =>
      conv => whnf
      exact hr _ rfl (by rw [eD, he]; rfl)
    | true =>
      conv => whnf
      refine ih (i + 1) _ (by omega) (by omega) ⟨?_, rfl, rfl, rfl, trivial⟩ rfl (fun z' a b => hr z' a (by rw [eD, he]; exact b)) (fun z' a => hq z' (by rw [eD, he]; exact a))
      conv => lhs; whnf
      exact wrapN1 (by omega)
theorem tvals (hn : Non ext) (l m : List T) (hl : l.length ≤ 9223372036854775807) (hw : ∀ v ∈ l, WfV v) : (cfg ext).Ev 46 [.sl false (encL l) l.length, .sl false (encL m) m.length] (.bool (eqL l m)) := by
  refine Ev.of (hn 46 (by decide) (by decide)) Tryd.func46 rfl rfl ?_
  conv => whnf
  by_cases h : l.length = m.length
  · have h' : ((l.length : Int) != (m.length : Int)) = false := by rw [h]; simp
    refine sel_no h' ?_
    conv => whnf
    refine lvals l m h hl (fun a ha b _ => tplain hn a (hw a ha) b) _ _ 0 _ rfl (by omega) ⟨rfl, rfl, rfl, rfl, trivial⟩ rfl (fun z a b => ?_) (fun z a => ?_)
    · conv => whnf
      rw [a]
      simp only [List.drop_zero] at b
      rw [b]
      exact rfl
    · conv => whnf
      simp only [List.drop_zero] at a
      rw [a]
  · have h' : ((l.length : Int) != (m.length : Int)) = true := by simp; omega
    refine sel_yes h' ?_
    conv => whnf
    refine congrArg V.bool ?_
    cases e : eqL l m with
    | false => rfl
    | true => exact absurd (by rw [eqL_iff.1 e]) h
end
end Go.Proofs.YtjfjagnnefmepaaDoor.AB
end

section
set_option linter.unusedVariables false
set_option linter.unusedSimpArgs false
open Go Go.Ab Go.Proofs Go.Vl
namespace Go.Vl
theorem bytes_cmp : ∀ a b : List UInt8, (if Op.bytesLess a b = true then (-1 : Int) else if (!(Op.bytesLess a b || a == b)) = true then 1 else 0) = Lib.compareBytes a b
  | [], [] => by simp [Op.bytesLess, Lib.compareBytes]
  | [], _ :: _ => by simp [Op.bytesLess, Lib.compareBytes]
  | _ :: _, [] => by simp [Op.bytesLess, Lib.compareBytes]
  | a :: x, b :: y => by
    have ih := bytes_cmp x y
    simp only [Op.bytesLess, Lib.compareBytes]
    rcases u8_lt_or a b with h | rfl | h
    · simp [h]
    · simp only [u8_irr a, if_false] at ih ⊢
      simp only [decide_false, Bool.false_or, beq_self_eq_true, Bool.true_and, List.cons_beq_cons] at ih ⊢
      exact ih
    · have h1 := u8_asym h
      have hne : (a == b) = false := by
        rw [beq_eq_false_iff_ne]; rintro rfl; exact u8_irr a h
      simp [h1, h, hne]
end Go.Vl
namespace Go.Proofs.YtjfjagnnefmepaaDoor.AB
set_option maxRecDepth 100000
set_option maxHeartbeats 4000000
set_option linter.unusedSimpArgs false
section
variable {ext : Exts}
theorem rsign (hn : Non ext) (x y : Bool) : (cfg ext).Ev 118 [.bool x, .bool y] (.int .i64 (if x = true then -1 else if y = true then 1 else 0)) := by
  refine Ev.of (hn 118 (by decide) (by decide)) Tryd.func118 rfl rfl ?_
  cases x
  · cases y
    · conv => whnf
      try exact rfl
    · conv => whnf
      try exact rfl
  · conv => whnf
    try exact rfl
theorem rcoll (hn : Non ext) (k : Int) : (cfg ext).Ev 106 [.int .i64 k] (.bool (decide (k = 4 ∨ k = 5 ∨ k = 6))) := by
  by_cases h4 : k = 4
  · subst h4
    refine Ev.of (hn 106 (by decide) (by decide)) Tryd.func106 rfl rfl ?_
    conv => whnf
    try exact rfl
  · by_cases h5 : k = 5
    · subst h5
      refine Ev.of (hn 106 (by decide) (by decide)) Tryd.func106 rfl rfl ?_
      conv => whnf
      try exact rfl
    · by_cases h6 : k = 6
      · subst h6
        refine Ev.of (hn 106 (by decide) (by decide)) Tryd.func106 rfl rfl ?_
        conv => whnf
        try exact rfl
      · rw [show decide (k = 4 ∨ k = 5 ∨ k = 6) = false from decide_eq_false (by omega)]
        refine Ev.of (hn 106 (by decide) (by decide)) Tryd.func106 rfl rfl ?_
        conv => whnf
        repeat (first
          | (refine sel_yes ?_ ?_; (first | assumption | (simp only [beq_iff_eq, bne_iff_ne, beq_eq_false_iff_ne, bne_eq_false_iff_eq, decide_eq_true_eq, decide_eq_false_iff_not, Bool.not_eq_true', Bool.not_eq_false', ne_eq, beq_true, beq_false, bne_self_eq_false, not_true_eq_false, not_false_eq_true, gt_iff_lt, ge_iff_le, Int.not_lt, Int.not_le, Bool.true_eq_false, Bool.false_eq_true] <;> omega)); conv => whnf)
          | (refine sel_no ?_ ?_; (first | assumption | (simp only [beq_iff_eq, bne_iff_ne, beq_eq_false_iff_ne, bne_eq_false_iff_eq, decide_eq_true_eq, decide_eq_false_iff_not, Bool.not_eq_true', Bool.not_eq_false', ne_eq, beq_true, beq_false, bne_self_eq_false, not_true_eq_false, not_false_eq_true, gt_iff_lt, ge_iff_le, Int.not_lt, Int.not_le, Bool.true_eq_false, Bool.false_eq_true] <;> omega)); conv => whnf)
          | (refine ⟨le_rfl' ?_, ?_⟩; rfl; conv => whnf)
          | (refine ⟨⟨?_, ?_⟩, ?_⟩; omega; omega; conv => whnf)
          | (refine ⟨⟨?_, ?_, ?_⟩, ?_⟩; rfl; omega; omega; conv => whnf)
          | (refine ⟨rfl, ?_, ?_⟩; decide; conv => whnf))
        try exact rfl
        exact congrArg V.bool (by rw [beq_eq_false_iff_ne]; exact h6)
end
end Go.Proofs.YtjfjagnnefmepaaDoor.AB
end

section
set_option linter.unusedVariables false
set_option linter.unusedSimpArgs false
open Go Go.Ab Go.Proofs Go.Vl
namespace Go.Proofs.YtjfjagnnefmepaaDoor.AB
set_option maxRecDepth 100000
set_option maxHeartbeats 8000000
set_option linter.unusedSimpArgs false
section
variable {ext : Exts}
abbrev encX' (k n : Int) (t : ByteArray) (l : List T) : List V := [.int .i64 k, .int .i64 n, .str t, .sl false (encL l) l.length]
theorem lrcmp (k n : Int) (t : ByteArray) (l : List T) (k' n' : Int) (t' : ByteArray) (m : List T) (hl : l.length ≤ 9223372036854775807) (E : ∀ a ∈ l, ∀ b ∈ m, (cfg ext).Ev 107 [A a, A b] (.int .i64 (cmpV a b))) (N : Nat) (hN : N = 19 ∨ N = 21 ∨ N = 23) (Q : Ex → St → Prop) (d : Nat) :
    ∀ (i : Nat) (z : St), l.length - i = d → i ≤ l.length → i ≤ m.length → Has z.t [(5, .int .i64 i), (2, .ref 0 0), (3, .ref 1 0)] → Has z.hp.h [(0, some (.cells (encX' k n t l) false)), (1, some (.cells (encX' k' n' t' m) false))] → z.hp.n = N →
      (∀ (z' : St) (c : Int), z'.t 4 = .int .i64 c → c = cmpL (l.drop i) (m.drop i) → Q .ret z') →
      (∀ (z' : St), Has z'.t [(2, .ref 0 0), (3, .ref 1 0)] → Has z'.hp.h [(0, some (.cells (encX' k n t l) false)), (1, some (.cells (encX' k' n' t' m) false))] → cmpL (l.drop i) (m.drop i) = (if l.length < m.length then -1 else if l.length > m.length then 1 else 0) → Q (.exit 1) z') →
      Go.Ab.Loop (cfg ext) (lpOf Tryd.f107) N z Q := by
  induction d with
  | zero =>
    intro i z hd hi him ht hh hz hr hq
    obtain rfl : i = l.length := by omega
    have e : cmpL (l.drop l.length) (m.drop l.length) = (if l.length < m.length then -1 else if l.length > m.length then 1 else 0) := by
      rw [List.drop_length]
      by_cases h : l.length < m.length
      · rw [if_pos h, List.drop_eq_getElem_cons h, cmpL]
      · rw [if_neg h, if_neg (by omega), List.drop_eq_nil_of_le (by omega), cmpL]
    have g1 : decide ((l.length : Int) < (l.length : Int)) = false := decide_eq_false (by omega)
    rcases hN with rfl | rfl | rfl
    all_goals
      rw [St.knows _ _ ht hz _ hh]
      refine Loop.round ?_
      conv => whnf
      repeat (first
        | (refine sel_yes ?_ ?_; (first | assumption | (simp only [beq_iff_eq, bne_iff_ne, beq_eq_false_iff_ne, bne_eq_false_iff_eq, decide_eq_true_eq, decide_eq_false_iff_not, Bool.not_eq_true', Bool.not_eq_false', ne_eq, beq_true, beq_false, bne_self_eq_false, not_true_eq_false, not_false_eq_true, gt_iff_lt, ge_iff_le, Int.not_lt, Int.not_le, Bool.true_eq_false, Bool.false_eq_true] <;> omega)); conv => whnf)
        | (refine sel_no ?_ ?_; (first | assumption | (simp only [beq_iff_eq, bne_iff_ne, beq_eq_false_iff_ne, bne_eq_false_iff_eq, decide_eq_true_eq, decide_eq_false_iff_not, Bool.not_eq_true', Bool.not_eq_false', ne_eq, beq_true, beq_false, bne_self_eq_false, not_true_eq_false, not_false_eq_true, gt_iff_lt, ge_iff_le, Int.not_lt, Int.not_le, Bool.true_eq_false, Bool.false_eq_true] <;> omega)); conv => whnf)
        | (refine ⟨le_rfl' ?_, ?_⟩; rfl; conv => whnf)
        | (refine ⟨⟨?_, ?_⟩, ?_⟩; omega; omega; conv => whnf)
        | (refine ⟨⟨?_, ?_, ?_⟩, ?_⟩; rfl; omega; omega; conv => whnf)
        | (refine ⟨rfl, ?_, ?_⟩; decide; conv => whnf))
      try exact rfl
      exact hq _ ⟨rfl, rfl, trivial⟩ ⟨rfl, rfl, trivial⟩ e
  | succ d ih =>
    intro i z hd hi him ht hh hz hr hq
    have h1 : i < l.length := by omega
    by_cases h2 : i < m.length
    · have hE := E _ (List.getElem_mem h1) _ (List.getElem_mem h2)
      have eC : cmpL (l.drop i) (m.drop i) = if cmpV l[i] m[i] = 0 then cmpL (l.drop (i + 1)) (m.drop (i + 1)) else cmpV l[i] m[i] := cmpL_drop l m i h1 h2
      have g1 : decide ((i : Int) < (l.length : Int)) = true := decide_eq_true (by omega)
      have g2 : decide ((i : Int) < (m.length : Int)) = true := decide_eq_true (by omega)
      rcases hN with rfl | rfl | rfl
      all_goals
        rw [St.knows _ _ ht hz _ hh]
        refine Loop.round ?_
        conv => whnf
        repeat (first
          | (refine sel_yes ?_ ?_; (first | assumption | (simp only [beq_iff_eq, bne_iff_ne, beq_eq_false_iff_ne, bne_eq_false_iff_eq, decide_eq_true_eq, decide_eq_false_iff_not, Bool.not_eq_true', Bool.not_eq_false', ne_eq, beq_true, beq_false, bne_self_eq_false, not_true_eq_false, not_false_eq_true, gt_iff_lt, ge_iff_le, Int.not_lt, Int.not_le, Bool.true_eq_false, Bool.false_eq_true] <;> omega)); conv => whnf)
          | (refine sel_no ?_ ?_; (first | assumption | (simp only [beq_iff_eq, bne_iff_ne, beq_eq_false_iff_ne, bne_eq_false_iff_eq, decide_eq_true_eq, decide_eq_false_iff_not, Bool.not_eq_true', Bool.not_eq_false', ne_eq, beq_true, beq_false, bne_self_eq_false, not_true_eq_false, not_false_eq_true, gt_iff_lt, ge_iff_le, Int.not_lt, Int.not_le, Bool.true_eq_false, Bool.false_eq_true] <;> omega)); conv => whnf)
          | (refine ⟨le_rfl' ?_, ?_⟩; rfl; conv => whnf)
          | (refine ⟨⟨?_, ?_⟩, ?_⟩; omega; omega; conv => whnf)
          | (refine ⟨⟨?_, ?_, ?_⟩, ?_⟩; rfl; omega; omega; conv => whnf)
          | (refine ⟨rfl, ?_, ?_⟩; decide; conv => whnf))
        try exact rfl
        refine ldA (i := i) h1 ?_
        conv => whnf
        refine ⟨⟨by omega, by omega⟩, ?_⟩
        conv => whnf
        refine ldA (i := i) h2 ?_
        conv => whnf
        refine ⟨_, hE, ?_⟩
        conv => whnf
        refine sel_split (fun hc => ?_) (fun hc => ?_)
        · conv => whnf
          have hc' : cmpV l[i] m[i] ≠ 0 := by simpa using hc
          exact hr _ _ rfl (by rw [eC, if_neg hc'])
        · conv => whnf
          have hc' : cmpV l[i] m[i] = 0 := by simpa using hc
          rw [if_pos hc'] at eC
          refine ih (i + 1) _ (by omega) (by omega) (by omega) ⟨?_, rfl, rfl, trivial⟩ ⟨rfl, rfl, trivial⟩ rfl (fun z' c a b => hr z' c a (by rw [eC]; exact b)) (fun z' a b c => hq z' a b (by rw [eC]; exact c))
          conv => lhs; whnf
          exact wrapN1 (by omega)
    · have g1 : decide ((i : Int) < (l.length : Int)) = true := decide_eq_true (by omega)
      have g2 : decide ((i : Int) < (m.length : Int)) = false := decide_eq_false (by omega)
      have e : cmpL (l.drop i) (m.drop i) = (if l.length < m.length then -1 else if l.length > m.length then 1 else 0) := by
        rw [if_neg (by omega), if_pos (by omega), List.drop_eq_getElem_cons h1, List.drop_eq_nil_of_le (show m.length ≤ i by omega), cmpL]
      rcases hN with rfl | rfl | rfl
      all_goals
        rw [St.knows _ _ ht hz _ hh]
        refine Loop.round ?_
        conv => whnf
        repeat (first
          | (refine sel_yes ?_ ?_; (first | assumption | (simp only [beq_iff_eq, bne_iff_ne, beq_eq_false_iff_ne, bne_eq_false_iff_eq, decide_eq_true_eq, decide_eq_false_iff_not, Bool.not_eq_true', Bool.not_eq_false', ne_eq, beq_true, beq_false, bne_self_eq_false, not_true_eq_false, not_false_eq_true, gt_iff_lt, ge_iff_le, Int.not_lt, Int.not_le, Bool.true_eq_false, Bool.false_eq_true] <;> omega)); conv => whnf)
          | (refine sel_no ?_ ?_; (first | assumption | (simp only [beq_iff_eq, bne_iff_ne, beq_eq_false_iff_ne, bne_eq_false_iff_eq, decide_eq_true_eq, decide_eq_false_iff_not, Bool.not_eq_true', Bool.not_eq_false', ne_eq, beq_true, beq_false, bne_self_eq_false, not_true_eq_false, not_false_eq_true, gt_iff_lt, ge_iff_le, Int.not_lt, Int.not_le, Bool.true_eq_false, Bool.false_eq_true] <;> omega)); conv => whnf)
          | (refine ⟨le_rfl' ?_, ?_⟩; rfl; conv => whnf)
          | (refine ⟨⟨?_, ?_⟩, ?_⟩; omega; omega; conv => whnf)
          | (refine ⟨⟨?_, ?_, ?_⟩, ?_⟩; rfl; omega; omega; conv => whnf)
          | (refine ⟨rfl, ?_, ?_⟩; decide; conv => whnf))
        try exact rfl
        exact hq _ ⟨rfl, rfl, trivial⟩ ⟨rfl, rfl, trivial⟩ e
mutual
theorem rcmp (hn : Non ext) : (a : T) → WfV a → (b : T) → (cfg ext).Ev 107 [A a, A b] (.int .i64 (cmpV a b))
  | ⟨k, n, t, l⟩, hw, ⟨k', n', t', m⟩ => by
    simp only [WfV] at hw
    have E : ∀ a ∈ l, ∀ b ∈ m, (cfg ext).Ev 107 [A a, A b] (.int .i64 (cmpV a b)) := fun a ha b _ => rcmpL hn l hw.2.2.2.2 a ha b
    have eV : cmpV ⟨k, n, t, l⟩ ⟨k', n', t', m⟩ = if k = k' then (if k = 1 ∨ k = 2 then cmpI n n' else if k = 3 then Lib.compareBytes t.data.toList t'.data.toList else if k = 4 ∨ k = 5 ∨ k = 6 then cmpL l m else 0) else cmpI k k' := by rw [cmpV]
    by_cases hk : k = k'
    · rw [if_pos hk] at eV
      subst hk
      by_cases h12 : k = 1 ∨ k = 2
      · rw [if_pos h12] at eV
        have hs := rsign hn (decide (n < n')) (decide (n > n'))
        rw [show (if decide (n < n') = true then (-1 : Int) else if decide (n > n') = true then 1 else 0) = cmpI n n' from by unfold cmpI; simp] at hs
        rw [eV]
        rcases h12 with rfl | rfl
        all_goals
          refine Ev.of (hn 107 (by decide) (by decide)) Tryd.func107 rfl rfl ?_
          conv => whnf
          repeat (first
            | (refine sel_yes ?_ ?_; (first | assumption | (simp only [beq_iff_eq, bne_iff_ne, beq_eq_false_iff_ne, bne_eq_false_iff_eq, decide_eq_true_eq, decide_eq_false_iff_not, Bool.not_eq_true', Bool.not_eq_false', ne_eq, beq_true, beq_false, bne_self_eq_false, not_true_eq_false, not_false_eq_true, gt_iff_lt, ge_iff_le, Int.not_lt, Int.not_le, Bool.true_eq_false, Bool.false_eq_true] <;> omega)); conv => whnf)
            | (refine sel_no ?_ ?_; (first | assumption | (simp only [beq_iff_eq, bne_iff_ne, beq_eq_false_iff_ne, bne_eq_false_iff_eq, decide_eq_true_eq, decide_eq_false_iff_not, Bool.not_eq_true', Bool.not_eq_false', ne_eq, beq_true, beq_false, bne_self_eq_false, not_true_eq_false, not_false_eq_true, gt_iff_lt, ge_iff_le, Int.not_lt, Int.not_le, Bool.true_eq_false, Bool.false_eq_true] <;> omega)); conv => whnf)
            | (refine ⟨_, hs, ?_⟩; conv => whnf)
            | (refine ⟨le_rfl' ?_, ?_⟩; rfl; conv => whnf)
            | (refine ⟨⟨?_, ?_⟩, ?_⟩; omega; omega; conv => whnf)
            | (refine ⟨⟨?_, ?_, ?_⟩, ?_⟩; rfl; omega; omega; conv => whnf)
            | (refine ⟨rfl, ?_, ?_⟩; decide; conv => whnf))
          try exact rfl
      · rw [if_neg h12] at eV
        by_cases h3 : k = 3
        · rw [if_pos h3] at eV
          have hs := rsign hn (Op.bytesLess t.toList t'.toList) (!(Op.bytesLess t.toList t'.toList || t.toList == t'.toList))
          rw [bytes_cmp, show Lib.compareBytes t.toList t'.toList = Lib.compareBytes t.data.toList t'.data.toList from by rw [ByteArray.toList_eq, ByteArray.toList_eq]] at hs
          rw [eV]
          subst h3
          refine Ev.of (hn 107 (by decide) (by decide)) Tryd.func107 rfl rfl ?_
          conv => whnf
          refine ⟨_, hs, ?_⟩
          conv => whnf
          try exact rfl
        · rw [if_neg h3] at eV
          by_cases h4 : k = 4 ∨ k = 5 ∨ k = 6
          · rw [if_pos h4] at eV
            have hs := rsign hn (decide ((l.length : Int) < (m.length : Int))) (decide ((l.length : Int) > (m.length : Int)))
            rw [eV]
            rcases h4 with rfl | rfl | rfl
            all_goals
              refine Ev.of (hn 107 (by decide) (by decide)) Tryd.func107 rfl rfl ?_
              conv => whnf
              refine lrcmp _ n t l _ n' t' m hw.2.2.2.1 E _ (by first | exact .inl rfl | exact .inr (.inl rfl) | exact .inr (.inr rfl)) _ _ 0 _ rfl (Nat.zero_le _) (Nat.zero_le _) ⟨rfl, rfl, rfl, trivial⟩ ⟨rfl, rfl, trivial⟩ rfl (fun z c a b => ?_) (fun z a b c => ?_)
              · conv => whnf
                rw [a]
                simp only [List.drop_zero] at b
                rw [b]
                exact rfl
              · rw [St.knows _ z.hp.n a rfl _ b]
                conv => whnf
                refine ⟨_, hs, ?_⟩
                conv => whnf
                simp only [List.drop_zero] at c
                exact vi (by rw [c]; simp)
          · rw [if_neg h4] at eV
            rw [eV]
            refine Ev.of (hn 107 (by decide) (by decide)) Tryd.func107 rfl rfl ?_
            conv => whnf
            repeat (first
              | (refine sel_yes ?_ ?_; (first | assumption | (simp only [beq_iff_eq, bne_iff_ne, beq_eq_false_iff_ne, bne_eq_false_iff_eq, decide_eq_true_eq, decide_eq_false_iff_not, Bool.not_eq_true', Bool.not_eq_false', ne_eq, beq_true, beq_false, bne_self_eq_false, not_true_eq_false, not_false_eq_true, gt_iff_lt, ge_iff_le, Int.not_lt, Int.not_le, Bool.true_eq_false, Bool.false_eq_true] <;> omega)); conv => whnf)
              | (refine sel_no ?_ ?_; (first | assumption | (simp only [beq_iff_eq, bne_iff_ne, beq_eq_false_iff_ne, bne_eq_false_iff_eq, decide_eq_true_eq, decide_eq_false_iff_not, Bool.not_eq_true', Bool.not_eq_false', ne_eq, beq_true, beq_false, bne_self_eq_false, not_true_eq_false, not_false_eq_true, gt_iff_lt, ge_iff_le, Int.not_lt, Int.not_le, Bool.true_eq_false, Bool.false_eq_true] <;> omega)); conv => whnf)
              | (refine ⟨le_rfl' ?_, ?_⟩; rfl; conv => whnf)
              | (refine ⟨⟨?_, ?_⟩, ?_⟩; omega; omega; conv => whnf)
              | (refine ⟨⟨?_, ?_, ?_⟩, ?_⟩; rfl; omega; omega; conv => whnf)
              | (refine ⟨rfl, ?_, ?_⟩; decide; conv => whnf))
            try exact rfl
    · rw [if_neg hk] at eV
      have hs := rsign hn (decide (k < k')) true
      rw [show (if decide (k < k') = true then (-1 : Int) else if true = true then 1 else 0) = cmpI k k' from by unfold cmpI; by_cases h : k < k'; simp [h]; simp [h]; omega] at hs
      rw [eV]
      refine Ev.of (hn 107 (by decide) (by decide)) Tryd.func107 rfl rfl ?_
      conv => whnf
      repeat (first
        | (refine sel_yes ?_ ?_; (first | assumption | (simp only [beq_iff_eq, bne_iff_ne, beq_eq_false_iff_ne, bne_eq_false_iff_eq, decide_eq_true_eq, decide_eq_false_iff_not, Bool.not_eq_true', Bool.not_eq_false', ne_eq, beq_true, beq_false, bne_self_eq_false, not_true_eq_false, not_false_eq_true, gt_iff_lt, ge_iff_le, Int.not_lt, Int.not_le, Bool.true_eq_false, Bool.false_eq_true] <;> omega)); conv => whnf)
        | (refine sel_no ?_ ?_; (first | assumption | (simp only [beq_iff_eq, bne_iff_ne, beq_eq_false_iff_ne, bne_eq_false_iff_eq, decide_eq_true_eq, decide_eq_false_iff_not, Bool.not_eq_true', Bool.not_eq_false', ne_eq, beq_true, beq_false, bne_self_eq_false, not_true_eq_false, not_false_eq_true, gt_iff_lt, ge_iff_le, Int.not_lt, Int.not_le, Bool.true_eq_false, Bool.false_eq_true] <;> omega)); conv => whnf)
        | (refine ⟨_, hs, ?_⟩; conv => whnf)
        | (refine ⟨le_rfl' ?_, ?_⟩; rfl; conv => whnf)
        | (refine ⟨⟨?_, ?_⟩, ?_⟩; omega; omega; conv => whnf)
        | (refine ⟨⟨?_, ?_, ?_⟩, ?_⟩; rfl; omega; omega; conv => whnf)
        | (refine ⟨rfl, ?_, ?_⟩; decide; conv => whnf))
      try exact rfl
theorem rcmpL (hn : Non ext) : (l : List T) → WfL l → ∀ a ∈ l, ∀ b : T, (cfg ext).Ev 107 [A a, A b] (.int .i64 (cmpV a b))
  | [], _, a, ha, _ => by cases ha
  | v :: l, hw, a, ha, b => by
    simp only [WfL] at hw
    rcases List.mem_cons.1 ha with e | h
    · rw [e]; exact rcmp hn v hw.1 b
    · exact rcmpL hn l hw.2 a h b
end
end
end Go.Proofs.YtjfjagnnefmepaaDoor.AB
end
