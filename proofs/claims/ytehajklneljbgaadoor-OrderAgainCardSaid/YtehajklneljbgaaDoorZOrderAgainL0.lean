/- What OrderAgain is proved with: laws in plain Lean. -/
import Derived.Laws.Strings
import Derived.WideShapes
import Derived.Lib.DecodeN
import Derived.Lib.Bytealg
section
set_option linter.unusedVariables false
set_option linter.unusedSimpArgs false
namespace Go.Vl
/-- a value: kind, number, text, row -/
structure T where
  f0 : Int
  f1 : Int
  f2 : ByteArray
  f3 : List T

/-- A number that an int or an int64 holds. -/
def In64 (n : Int) : Prop := -9223372036854775808 ≤ n ∧ n ≤ 9223372036854775807

mutual
/-- A value whose numbers are ints', whose rows are no longer than a row can be. -/
def WfV : T → Prop
  | ⟨k, n, t, l⟩ => In64 k ∧ In64 n ∧ t.size ≤ 9223372036854775807 ∧ l.length ≤ 9223372036854775807 ∧ WfL l
def WfL : List T → Prop
  | [] => True
  | v :: l => WfV v ∧ WfL l
end
theorem wfL_of : ∀ l : List T, (∀ v ∈ l, WfV v) → WfL l
  | [], _ => by simp only [WfL]
  | v :: l, h => by
    simp only [WfL]
    exact ⟨h v List.mem_cons_self, wfL_of l (fun x hx => h x (List.mem_cons_of_mem _ hx))⟩
theorem wfL_mem : ∀ (l : List T), WfL l → ∀ v ∈ l, WfV v
  | [], _, v, hv => by cases hv
  | a :: l, h, v, hv => by
    simp only [WfL] at h
    rcases List.mem_cons.1 hv with rfl | hv
    · exact h.1
    · exact wfL_mem l h.2 v hv

def cmpI (x y : Int) : Int := if x < y then -1 else if x > y then 1 else 0
mutual
/-- The order of values. -/
def cmpV : T → T → Int
  | ⟨k, n, t, l⟩, b =>
    if k = b.f0 then (if k = 1 ∨ k = 2 then cmpI n b.f1 else if k = 3 then Lib.compareBytes t.data.toList b.f2.data.toList else if k = 4 ∨ k = 5 ∨ k = 6 then cmpL l b.f3 else 0) else cmpI k b.f0
def cmpL : List T → List T → Int
  | [], [] => 0
  | [], _ :: _ => -1
  | _ :: _, [] => 1
  | a :: l, b :: m => if cmpV a b = 0 then cmpL l m else cmpV a b
end
theorem cmpL_drop (l m : List T) (k : Nat) (h1 : k < l.length) (h2 : k < m.length) : cmpL (l.drop k) (m.drop k) = if cmpV l[k] m[k] = 0 then cmpL (l.drop (k + 1)) (m.drop (k + 1)) else cmpV l[k] m[k] := by
  rw [List.drop_eq_getElem_cons h1, List.drop_eq_getElem_cons h2, cmpL]
mutual
/-- a value whose fields are its kind's -/
def Shp : T → Prop
  | ⟨k, n, t, l⟩ => (k = 3 ∨ t = ⟨#[]⟩) ∧ (k = 1 ∨ k = 2 ∨ n = 0) ∧ (k = 4 ∨ k = 5 ∨ k = 6 ∨ l = []) ∧ ShpL l
def ShpL : List T → Prop
  | [] => True
  | v :: l => Shp v ∧ ShpL l
end
theorem right_shape {k n : Int} {t : ByteArray} {l : List T} (h : Shp ⟨k, n, t, l⟩) : (k = 3 ∨ t = ⟨#[]⟩) ∧ (k = 1 ∨ k = 2 ∨ n = 0) ∧ (k = 4 ∨ k = 5 ∨ k = 6 ∨ l = []) ∧ ShpL l := by
  simpa only [Shp] using h

theorem u8_lt_or (a b : UInt8) : a < b ∨ a = b ∨ b < a := by
  rcases Nat.lt_trichotomy a.toNat b.toNat with h | h | h
  · exact .inl (UInt8.lt_iff_toNat_lt.2 h)
  · exact .inr (.inl (UInt8.toNat_inj.1 h))
  · exact .inr (.inr (UInt8.lt_iff_toNat_lt.2 h))
theorem u8_irr (a : UInt8) : ¬ a < a := fun h => Nat.lt_irrefl _ (UInt8.lt_iff_toNat_lt.1 h)
theorem u8_asym {a b : UInt8} (h : a < b) : ¬ b < a := fun g => Nat.lt_asymm (UInt8.lt_iff_toNat_lt.1 h) (UInt8.lt_iff_toNat_lt.1 g)

theorem cmpI_turn (x y : Int) : cmpI y x = - cmpI x y := by
  unfold cmpI
  repeat' split
  all_goals omega
theorem cmpI_neg {x y : Int} : cmpI x y < 0 ↔ x < y := by
  unfold cmpI
  by_cases h : x < y
  · rw [if_pos h]; exact ⟨fun _ => h, fun _ => by decide⟩
  · rw [if_neg h]; split <;> exact ⟨fun h' => by omega, fun h' => by omega⟩
theorem cmpI_zero {x y : Int} : cmpI x y = 0 ↔ x = y := by
  unfold cmpI
  by_cases h : x < y
  · rw [if_pos h]; exact ⟨fun h' => by omega, fun h' => by omega⟩
  · rw [if_neg h]; split <;> exact ⟨fun h' => by omega, fun h' => by omega⟩
theorem cb_turn : ∀ a b : List UInt8, Lib.compareBytes b a = - Lib.compareBytes a b
  | [], [] => by simp [Lib.compareBytes]
  | [], _ :: _ => by simp [Lib.compareBytes]
  | _ :: _, [] => by simp [Lib.compareBytes]
  | a :: x, b :: y => by
    simp only [Lib.compareBytes]
    rcases u8_lt_or a b with h | rfl | h
    · rw [if_pos h, if_neg (u8_asym h), if_pos h]; rfl
    · simp only [if_neg (u8_irr a)]; exact cb_turn x y
    · rw [if_pos h, if_neg (u8_asym h), if_pos h]
theorem cb_zero : ∀ a b : List UInt8, Lib.compareBytes a b = 0 → a = b
  | [], [] => fun _ => rfl
  | [], _ :: _ => fun h => by simp [Lib.compareBytes] at h
  | _ :: _, [] => fun h => by simp [Lib.compareBytes] at h
  | a :: x, b :: y => by
    simp only [Lib.compareBytes]
    rcases u8_lt_or a b with h | rfl | h
    · rw [if_pos h]; intro h'; cases h'
    · simp only [if_neg (u8_irr a)]; intro h; rw [cb_zero x y h]
    · rw [if_neg (u8_asym h), if_pos h]; intro h'; cases h'
theorem cb_self : ∀ a : List UInt8, Lib.compareBytes a a = 0
  | [] => by simp [Lib.compareBytes]
  | a :: x => by simp only [Lib.compareBytes]; simp only [if_neg (u8_irr a)]; exact cb_self x
theorem cb_trans : ∀ a b c : List UInt8, Lib.compareBytes a b < 0 → Lib.compareBytes b c < 0 → Lib.compareBytes a c < 0
  | [], [], _ => fun h => by simp [Lib.compareBytes] at h
  | _ :: _, [], _ => fun h => by simp [Lib.compareBytes] at h
  | [], _ :: _, [] => fun _ h => by simp [Lib.compareBytes] at h
  | [], _ :: _, _ :: _ => fun _ _ => by simp [Lib.compareBytes]
  | _ :: _, _ :: _, [] => fun _ h => by simp [Lib.compareBytes] at h
  | a :: x, b :: y, c :: z => by
    simp only [Lib.compareBytes]
    rcases u8_lt_or a b with h | rfl | h
    · intro _
      rcases u8_lt_or b c with g | rfl | g
      · intro _
        have : a < c := UInt8.lt_iff_toNat_lt.2 (Nat.lt_trans (UInt8.lt_iff_toNat_lt.1 h) (UInt8.lt_iff_toNat_lt.1 g))
        rw [if_pos this]; decide
      · intro _; rw [if_pos h]; decide
      · rw [if_neg (u8_asym g), if_pos g]; intro h'; omega
    · simp only [if_neg (u8_irr a)]
      intro h1
      rcases u8_lt_or a c with g | rfl | g
      · intro _; rw [if_pos g]; decide
      · simp only [if_neg (u8_irr a)]; exact cb_trans x y z h1
      · rw [if_neg (u8_asym g), if_pos g]; intro h'; omega
    · rw [if_neg (u8_asym h), if_pos h]; intro h'; omega
theorem neg_zero_iff {x y : Int} (h : y = - x) : y = 0 ↔ x = 0 := by omega
mutual
theorem cmpV_turn : (a b : T) → cmpV b a = - cmpV a b
  | ⟨k, n, t, l⟩, ⟨k', n', t', l'⟩ => by
    have IH := cmpL_turn l l'
    simp only [cmpV]
    by_cases hk : k = k'
    · subst hk
      rw [if_pos rfl, if_pos rfl]
      by_cases h1 : k = 1 ∨ k = 2
      · rw [if_pos h1, if_pos h1]; exact cmpI_turn n n'
      · rw [if_neg h1, if_neg h1]
        by_cases h3 : k = 3
        · rw [if_pos h3, if_pos h3]; exact cb_turn _ _
        · rw [if_neg h3, if_neg h3]
          by_cases h4 : k = 4 ∨ k = 5 ∨ k = 6
          · rw [if_pos h4, if_pos h4]; exact IH
          · rw [if_neg h4, if_neg h4]; rfl
    · rw [if_neg hk, if_neg (fun h => hk h.symm)]; exact cmpI_turn k k'
theorem cmpL_turn : (l m : List T) → cmpL m l = - cmpL l m
  | [], [] => by simp only [cmpL]; rfl
  | [], _ :: _ => by simp only [cmpL]; rfl
  | _ :: _, [] => by simp only [cmpL]
  | a :: l, b :: m => by
    have h1 := cmpV_turn a b
    have h2 := cmpL_turn l m
    simp only [cmpL]
    by_cases h : cmpV a b = 0
    · rw [if_pos h, if_pos (by omega)]; exact h2
    · rw [if_neg h, if_neg (by omega)]; exact h1
end
mutual
theorem cmpV_zero : (a b : T) → Shp a → Shp b → cmpV a b = 0 → a = b
  | ⟨k, n, t, l⟩, ⟨k', n', t', l'⟩, ha, hb, h => by
    obtain ⟨a1, a2, a3, a4⟩ := right_shape ha
    obtain ⟨b1, b2, b3, b4⟩ := right_shape hb
    have IH := cmpL_zero l l' a4 b4
    simp only [cmpV] at h
    by_cases hk : k = k'
    · subst hk
      rw [if_pos rfl] at h
      by_cases h1 : k = 1 ∨ k = 2
      · rw [if_pos h1] at h
        have e1 := cmpI_zero.1 h
        have e2 : t = t' := by rw [a1.resolve_left (by omega), b1.resolve_left (by omega)]
        have e3 : l = l' := by rcases a3 with c | c | c | c <;> rcases b3 with d | d | d | d <;> first | omega | (rw [c, d])
        rw [e1, e2, e3]
      · rw [if_neg h1] at h
        have e1 : n = n' := by omega
        by_cases h3 : k = 3
        · rw [if_pos h3] at h
          have e2 : t = t' := Go.WideShapes.bytes_inj (cb_zero _ _ h)
          have e3 : l = l' := by rcases a3 with c | c | c | c <;> rcases b3 with d | d | d | d <;> first | omega | (rw [c, d])
          rw [e1, e2, e3]
        · rw [if_neg h3] at h
          have e2 : t = t' := by rw [a1.resolve_left h3, b1.resolve_left h3]
          by_cases h4 : k = 4 ∨ k = 5 ∨ k = 6
          · rw [if_pos h4] at h
            rw [e1, e2, IH h]
          · have e3 : l = l' := by rcases a3 with c | c | c | c <;> rcases b3 with d | d | d | d <;> first | omega | (rw [c, d])
            rw [e1, e2, e3]
    · rw [if_neg hk] at h; exact absurd (cmpI_zero.1 h) hk
theorem cmpL_zero : (l m : List T) → ShpL l → ShpL m → cmpL l m = 0 → l = m
  | [], [], _, _, _ => rfl
  | [], _ :: _, _, _, h => by simp only [cmpL] at h; cases h
  | _ :: _, [], _, _, h => by simp only [cmpL] at h; cases h
  | a :: l, b :: m, ha, hb, h => by
    simp only [ShpL] at ha hb
    simp only [cmpL] at h
    by_cases c : cmpV a b = 0
    · rw [if_pos c] at h
      rw [cmpV_zero a b ha.1 hb.1 c, cmpL_zero l m ha.2 hb.2 h]
    · rw [if_neg c] at h; exact absurd h c
end
mutual
theorem cmpV_self : (a : T) → cmpV a a = 0
  | ⟨k, n, t, l⟩ => by
    have IH := cmpL_self l
    simp only [cmpV, if_true]
    split
    · exact cmpI_zero.2 rfl
    · split
      · exact cb_self _
      · split
        · exact IH
        · rfl
theorem cmpL_self : (l : List T) → cmpL l l = 0
  | [] => by simp only [cmpL]
  | a :: l => by simp only [cmpL]; rw [if_pos (cmpV_self a)]; exact cmpL_self l
end
mutual
theorem cmpV_trans : (a b c : T) → Shp a → Shp b → Shp c → cmpV a b < 0 → cmpV b c < 0 → cmpV a c < 0
  | ⟨k, n, t, l⟩, ⟨k', n', t', l'⟩, ⟨k'', n'', t'', l''⟩, ha, hb, hc, h1, h2 => by
    have IH := cmpL_trans l l' l'' (right_shape ha).2.2.2 (right_shape hb).2.2.2 (right_shape hc).2.2.2
    simp only [cmpV] at h1 h2 ⊢
    by_cases e1 : k = k'
    · subst e1
      rw [if_pos rfl] at h1
      by_cases e2 : k = k''
      · subst e2
        rw [if_pos rfl] at h2 ⊢
        by_cases g : k = 1 ∨ k = 2
        · rw [if_pos g] at h1 h2 ⊢
          have := cmpI_neg.1 h1
          have := cmpI_neg.1 h2
          exact cmpI_neg.2 (by omega)
        · rw [if_neg g] at h1 h2 ⊢
          by_cases g3 : k = 3
          · rw [if_pos g3] at h1 h2 ⊢; exact cb_trans _ _ _ h1 h2
          · rw [if_neg g3] at h1 h2 ⊢
            by_cases g4 : k = 4 ∨ k = 5 ∨ k = 6
            · rw [if_pos g4] at h1 h2 ⊢; exact IH h1 h2
            · rw [if_neg g4] at h1; omega
      · rw [if_neg e2] at h2 ⊢; exact h2
    · rw [if_neg e1] at h1
      have l1 := cmpI_neg.1 h1
      by_cases e2 : k' = k''
      · subst e2
        rw [if_neg e1]; exact h1
      · rw [if_neg e2] at h2
        have l2 := cmpI_neg.1 h2
        rw [if_neg (by omega)]
        exact cmpI_neg.2 (by omega)
theorem cmpL_trans : (l m p : List T) → ShpL l → ShpL m → ShpL p → cmpL l m < 0 → cmpL m p < 0 → cmpL l p < 0
  | [], [], _, _, _, _, h, _ => by simp only [cmpL] at h; omega
  | _ :: _, [], _, _, _, _, h, _ => by simp only [cmpL] at h; omega
  | [], _ :: _, [], _, _, _, _, h => by simp only [cmpL] at h; omega
  | [], _ :: _, _ :: _, _, _, _, _, _ => by simp only [cmpL]; decide
  | _ :: _, _ :: _, [], _, _, _, _, h => by simp only [cmpL] at h; omega
  | a :: l, b :: m, c :: p, ha, hb, hc, h1, h2 => by
    simp only [ShpL] at ha hb hc
    have T := cmpV_trans a b c ha.1 hb.1 hc.1
    have IH := cmpL_trans l m p ha.2 hb.2 hc.2
    simp only [cmpL] at h1 h2 ⊢
    by_cases z1 : cmpV a b = 0
    · rw [if_pos z1] at h1
      have e := cmpV_zero a b ha.1 hb.1 z1
      subst e
      by_cases z2 : cmpV a c = 0
      · rw [if_pos z2] at h2 ⊢; exact IH h1 h2
      · rw [if_neg z2] at h2 ⊢; exact h2
    · rw [if_neg z1] at h1
      by_cases z2 : cmpV b c = 0
      · have e := cmpV_zero b c hb.1 hc.1 z2
        subst e
        rw [if_neg z1]; exact h1
      · rw [if_neg z2] at h2
        have := T h1 h2
        rw [if_neg (by omega)]; exact this
end


theorem get_extract (s : ByteArray) (p k : Nat) : (s.extract p s.size).get! k = s.get! (p + k) := by
  have hs : (s.extract p s.size).size = s.size - p := by simp [ByteArray.size_extract]
  have g : ∀ (t : ByteArray) (i : Nat), t.get! i = if h : i < t.size then t[i]'h else 0 := by
    intro t i
    obtain ⟨a⟩ := t
    show a[i]! = _
    split
    · next h => exact getElem!_pos a i h
    · next h => exact getElem!_neg a i h
  rw [g, g]
  by_cases h : p + k < s.size
  · rw [dif_pos (show k < (s.extract p s.size).size by omega), dif_pos h]
    simp [ByteArray.getElem_extract]
  · rw [dif_neg (show ¬ k < (s.extract p s.size).size by omega), dif_neg h]
theorem decode_extract (s : ByteArray) (p : Nat) : Utf8.decode (s.extract p s.size) 0 = Utf8.decode s p := by
  rw [Lib.decode_at, Lib.decode_at]
  simp only [get_extract, Nat.add_zero]
  rw [show (s.extract p s.size).size - 0 = s.size - p by simp [ByteArray.size_extract]]
def decGo (s : ByteArray) : Nat × Nat := if s.size = 0 then (65533, 0) else Utf8.decode s 0
theorem decGo_extract (s : ByteArray) (p : Nat) (hp : p < s.size) : decGo (s.extract p s.size) = Utf8.decode s p := by
  unfold decGo
  rw [if_neg (by simp [ByteArray.size_extract]; omega), decode_extract]
theorem dec_le (s : ByteArray) (p : Nat) : 1 ≤ (Utf8.decode s p).2 ∧ (Utf8.decode s p).2 ≤ 4 ∧ (Utf8.decode s p).1 ≤ 1114111 := by
  rw [Lib.decode_at]
  have := (s.get! p).toNat_lt
  unfold Lib.decodeN
  repeat' split
  all_goals (simp only; omega)
/-! what is right -/
def utfGo (s : ByteArray) : Nat → Nat → Bool
  | 0, _ => true
  | f + 1, p => if p < s.size then (if (Utf8.decode s p).1 = 65533 ∧ (Utf8.decode s p).2 = 1 then false else utfGo s f (p + (Utf8.decode s p).2)) else true
def utfB (s : ByteArray) : Bool := utfGo s s.size 0
def PlainV (k n : Int) (t : ByteArray) : Prop := (k = 3 ∨ t = ⟨#[]⟩) ∧ (k = 1 ∨ k = 2 ∨ n = 0) ∧ (if k = 1 then n = 0 ∨ n = 1 else if k = 3 then t.size ≤ 256 ∧ utfB t = true else 0 ≤ k ∧ k ≤ 6)
instance (k n : Int) (t : ByteArray) : Decidable (PlainV k n t) := by unfold PlainV; infer_instance

mutual
/-- How many parts a value has. -/
def partsV : T → Nat
  | ⟨_, _, _, l⟩ => 1 + partsL l
def partsL : List T → Nat
  | [] => 0
  | v :: l => partsV v + partsL l
end
mutual
/-- How deep a value is. -/
def deepV : T → Nat
  | ⟨_, _, _, l⟩ => deepL l
def deepL : List T → Nat
  | [] => 0
  | v :: l => max (1 + deepV v) (deepL l)
end
/-- A row that rises, each so many behind the one ahead. -/
def Rise (st : Nat) (l : List T) : Prop := ∀ i : Nat, i % st = 0 → ∀ (h : i + st < l.length), cmpV (l[i]'(by omega)) (l[i + st]) < 0
/-- A row is in its kind's form. -/
def FormV (k : Int) (l : List T) : Prop := if k = 4 then True else if k = 6 then l.length % 2 = 0 ∧ Rise 2 l else if k = 5 then Rise 1 l else l = []
mutual
/-- A value whose parts are all in their forms. -/
def OkV : T → Prop
  | ⟨k, n, t, l⟩ => PlainV k n t ∧ FormV k l ∧ OkL l
def OkL : List T → Prop
  | [] => True
  | v :: l => OkV v ∧ OkL l
end
/-- A right value. -/
def OK (v : T) : Prop := OkV v ∧ deepV v ≤ 16 ∧ partsV v ≤ 1024
theorem partsV_pos (v : T) : 1 ≤ partsV v := by cases v; simp only [partsV]; omega
theorem partsL_len : ∀ l : List T, l.length ≤ partsL l
  | [] => by simp [partsL]
  | v :: l => by have := partsL_len l; have := partsV_pos v; simp only [partsL, List.length_cons]; omega
theorem okL_mem : ∀ {l : List T}, OkL l → ∀ v ∈ l, OkV v
  | [], _, v, hv => by cases hv
  | a :: l, h, v, hv => by
    simp only [OkL] at h
    rcases List.mem_cons.1 hv with rfl | hv
    · exact h.1
    · exact okL_mem h.2 v hv
theorem okL_of : ∀ {l : List T}, (∀ v ∈ l, OkV v) → OkL l
  | [], _ => by simp only [OkL]
  | v :: l, h => by
    simp only [OkL]
    exact ⟨h v List.mem_cons_self, okL_of (fun x hx => h x (List.mem_cons_of_mem _ hx))⟩
theorem partsL_mem : ∀ {l : List T} {v : T}, v ∈ l → partsV v ≤ partsL l
  | a :: l, v, hv => by
    simp only [partsL]
    rcases List.mem_cons.1 hv with rfl | hv
    · omega
    · have := partsL_mem hv; omega
theorem deepL_mem : ∀ {l : List T} {v : T}, v ∈ l → 1 + deepV v ≤ deepL l
  | a :: l, v, hv => by
    simp only [deepL]
    rcases List.mem_cons.1 hv with rfl | hv
    · omega
    · have := deepL_mem hv; omega
theorem deepL_le : ∀ {l : List T} {d : Nat}, (∀ v ∈ l, 1 + deepV v ≤ d) → deepL l ≤ d
  | [], d, _ => by simp [deepL]
  | v :: l, d, h => by
    have h1 := h v List.mem_cons_self
    have h2 := deepL_le (l := l) (fun x hx => h x (List.mem_cons_of_mem _ hx))
    simp only [deepL]; omega
theorem partsL_append : ∀ (l m : List T), partsL (l ++ m) = partsL l + partsL m
  | [], m => by simp [partsL]
  | v :: l, m => by simp only [List.cons_append, partsL, partsL_append l m]; omega
theorem deepL_append : ∀ (l m : List T), deepL (l ++ m) = max (deepL l) (deepL m)
  | [], m => by simp [deepL]
  | v :: l, m => by simp only [List.cons_append, deepL, deepL_append l m]; omega
theorem okL_append : ∀ (l m : List T), OkL (l ++ m) ↔ OkL l ∧ OkL m
  | [], m => by simp [OkL]
  | v :: l, m => by simp only [List.cons_append, OkL, okL_append l m, and_assoc]
theorem ok_item {k n : Int} {t : ByteArray} {l : List T} (h : OK ⟨k, n, t, l⟩) {v : T} (hv : v ∈ l) : OK v := by
  obtain ⟨h1, h2, h3⟩ := h
  simp only [OkV, deepV, partsV] at h1 h2 h3
  have := partsL_mem hv
  have := deepL_mem hv
  exact ⟨okL_mem h1.2.2 v hv, by omega, by omega⟩

theorem ite_zero {P Q : Prop} {ip : Decidable P} {iq : Decidable Q} {a b : Int} (h : P ↔ Q) (e : P → a = b) : @ite Int P ip a 0 = @ite Int Q iq b 0 := by
  by_cases hp : P
  · rw [if_pos hp, if_pos (h.1 hp), e hp]
  · rw [if_neg hp, if_neg (fun hq => hp (h.2 hq))]
open Classical in
/-- What the count tells. -/
noncomputable def cntZ (v : T) (a1 a2 : Int) : Int := if OkV v ∧ (deepV v : Int) ≤ a1 ∧ (partsV v : Int) ≤ a2 then (partsV v : Int) else 0
open Classical in
noncomputable def cntL (k : Int) (l m : List T) (x7 a1 a2 : Int) : Int := if FormV k l ∧ OkL m ∧ (deepL m : Int) ≤ a1 ∧ x7 + (partsL m : Int) ≤ a2 then x7 + (partsL m : Int) else 0
theorem form_row {k : Int} {l : List T} (h : FormV k l) : k = 4 ∨ k = 5 ∨ k = 6 ∨ l = [] := by
  unfold FormV at h
  split at h
  · exact .inl ‹_›
  · split at h
    · exact .inr (.inr (.inl ‹_›))
    · split at h
      · exact .inr (.inl ‹_›)
      · exact .inr (.inr (.inr h))
mutual
theorem shp_of : (v : T) → OkV v → Shp v
  | ⟨k, n, t, l⟩, h => by
    simp only [OkV] at h
    simp only [Shp]
    exact ⟨h.1.1, h.1.2.1, form_row h.2.1, shpL_of l h.2.2⟩
theorem shpL_of : (l : List T) → OkL l → ShpL l
  | [], _ => by simp only [ShpL]
  | v :: l, h => by
    simp only [OkL] at h
    simp only [ShpL]
    exact ⟨shp_of v h.1, shpL_of l h.2⟩
end
end Go.Vl
end

section
set_option linter.unusedVariables false
set_option linter.unusedSimpArgs false
namespace Go.Vl
/-- a measure, and then natural -/
def lexC (m : T → Int) (a b : T) : Int := if cmpI (m a) (m b) = 0 then cmpV a b else cmpI (m a) (m b)
theorem lexC_turn (m : T → Int) (a b : T) : lexC m b a = - lexC m a b := by
  unfold lexC
  rw [cmpI_turn (m a) (m b), cmpV_turn a b]
  by_cases h : cmpI (m a) (m b) = 0
  · rw [if_pos h, if_pos (by omega)]
  · rw [if_neg h, if_neg (by omega)]
theorem cmpV_eq {a b : T} (ha : Shp a) (hb : Shp b) : cmpV a b = 0 ↔ a = b := ⟨cmpV_zero a b ha hb, fun h => by rw [h]; exact cmpV_self b⟩
theorem lexC_eq (m : T → Int) {a b : T} (ha : Shp a) (hb : Shp b) : lexC m a b = 0 ↔ a = b := by
  unfold lexC
  by_cases h : cmpI (m a) (m b) = 0
  · rw [if_pos h]; exact cmpV_eq ha hb
  · rw [if_neg h]
    exact ⟨fun h' => absurd h' h, fun e => absurd (by rw [e]; exact cmpI_zero.2 rfl) h⟩
theorem lexC_trans (m : T → Int) {a b c : T} (ha : Shp a) (hb : Shp b) (hc : Shp c) (h1 : lexC m a b ≤ 0) (h2 : lexC m b c ≤ 0) : lexC m a c ≤ 0 := by
  have i1 := @cmpI_zero (m a) (m b)
  have i2 := @cmpI_zero (m b) (m c)
  have i3 := @cmpI_zero (m a) (m c)
  have n1 := @cmpI_neg (m a) (m b)
  have n2 := @cmpI_neg (m b) (m c)
  have n3 := @cmpI_neg (m a) (m c)
  have vt : cmpV a b ≤ 0 → cmpV b c ≤ 0 → cmpV a c ≤ 0 := by
    intro g1 g2
    by_cases z1 : cmpV a b = 0
    · rw [(cmpV_eq ha hb).1 z1]; exact g2
    · by_cases z2 : cmpV b c = 0
      · rw [← (cmpV_eq hb hc).1 z2]; exact g1
      · have := cmpV_trans a b c ha hb hc (by omega) (by omega); omega
  unfold lexC at *
  by_cases e1 : cmpI (m a) (m b) = 0
  · rw [if_pos e1] at h1
    by_cases e2 : cmpI (m b) (m c) = 0
    · rw [if_pos e2] at h2
      rw [if_pos (i3.2 ((i1.1 e1).trans (i2.1 e2)))]
      exact vt h1 h2
    · rw [if_neg e2] at h2
      have : m a = m b := i1.1 e1
      rw [if_neg (by rw [this]; exact e2), this]
      exact h2
  · rw [if_neg e1] at h1
    have l1 : m a < m b := n1.1 (by omega)
    have l2 : m b ≤ m c := by
      by_cases e2 : cmpI (m b) (m c) = 0
      · have := i2.1 e2; omega
      · rw [if_neg e2] at h2; have := n2.1 (by omega); omega
    have : cmpI (m a) (m c) < 0 := n3.2 (by omega)
    rw [if_neg (by omega)]; omega
end Go.Vl
end

section
set_option linter.unusedVariables false
set_option linter.unusedSimpArgs false
set_option linter.unusedSimpArgs false
namespace Go.Vl
/-- two of one kind by a measure; others naturally -/
def kindC (q : Int) (m : T → Int) (a b : T) : Int := if a.f0 = q ∧ b.f0 = q then lexC m a b else cmpV a b
theorem kindC_turn (q : Int) (m : T → Int) (a b : T) : kindC q m b a = - kindC q m a b := by
  unfold kindC
  by_cases h : a.f0 = q ∧ b.f0 = q
  · rw [if_pos h, if_pos ⟨h.2, h.1⟩]; exact lexC_turn m a b
  · rw [if_neg h, if_neg (fun g => h ⟨g.2, g.1⟩)]; exact cmpV_turn a b
theorem kindC_eq (q : Int) (m : T → Int) {a b : T} (ha : Shp a) (hb : Shp b) : kindC q m a b = 0 ↔ a = b := by
  unfold kindC
  by_cases h : a.f0 = q ∧ b.f0 = q
  · rw [if_pos h]; exact lexC_eq m ha hb
  · rw [if_neg h]; exact cmpV_eq ha hb
theorem cmpV_kind {a b : T} (h : a.f0 ≠ b.f0) : cmpV a b = cmpI a.f0 b.f0 := by
  cases a with | mk k n t l => rw [cmpV, if_neg h]
theorem cmpV_le {a b c : T} (ha : Shp a) (hb : Shp b) (hc : Shp c) (g1 : cmpV a b ≤ 0) (g2 : cmpV b c ≤ 0) : cmpV a c ≤ 0 := by
  by_cases z1 : cmpV a b = 0
  · rw [(cmpV_eq ha hb).1 z1]; exact g2
  · by_cases z2 : cmpV b c = 0
    · rw [← (cmpV_eq hb hc).1 z2]; exact g1
    · have := cmpV_trans a b c ha hb hc (by omega) (by omega); omega
theorem cmpV_up {a b : T} (h : a.f0 ≠ b.f0) : cmpV a b ≤ 0 ↔ a.f0 < b.f0 := by
  rw [cmpV_kind h]
  have n := @cmpI_neg a.f0 b.f0
  have z := @cmpI_zero a.f0 b.f0
  constructor
  · intro g
    by_cases e : cmpI a.f0 b.f0 = 0
    · exact absurd (z.1 e) h
    · exact n.1 (by omega)
  · intro g; have := n.2 g; omega
theorem kindC_trans (q : Int) (m : T → Int) {a b c : T} (ha : Shp a) (hb : Shp b) (hc : Shp c) (h1 : kindC q m a b ≤ 0) (h2 : kindC q m b c ≤ 0) : kindC q m a c ≤ 0 := by
  unfold kindC at *
  by_cases qa : a.f0 = q <;> by_cases qb : b.f0 = q <;> by_cases qc : c.f0 = q <;> simp only [qa, qb, qc, and_self, and_true, and_false, if_true, if_false] at h1 h2 ⊢
  · exact lexC_trans m ha hb hc h1 h2
  · have := (cmpV_up (a := b) (b := c) (by omega)).1 h2
    exact (cmpV_up (by omega)).2 (by omega)
  · have := (cmpV_up (a := a) (b := b) (by omega)).1 h1
    have := (cmpV_up (a := b) (b := c) (by omega)).1 h2
    omega
  · exact cmpV_le ha hb hc h1 h2
  · have := (cmpV_up (a := a) (b := b) (by omega)).1 h1
    exact (cmpV_up (by omega)).2 (by omega)
  all_goals exact cmpV_le ha hb hc h1 h2
end Go.Vl
end

section
set_option linter.unusedVariables false
set_option linter.unusedSimpArgs false
namespace Go.Vl
def One (x : Int) : Prop := -1 ≤ x ∧ x ≤ 1
theorem cmpI_one (x y : Int) : One (cmpI x y) := by unfold cmpI One; split; omega; split <;> omega
theorem cb_one : ∀ a b : List UInt8, One (Lib.compareBytes a b)
  | [], [] => by simp [Lib.compareBytes, One]
  | [], _ :: _ => by simp [Lib.compareBytes, One]
  | _ :: _, [] => by simp [Lib.compareBytes, One]
  | a :: x, b :: y => by
    simp only [Lib.compareBytes]
    have := cb_one x y
    split
    · simp [One]
    · split
      · simp [One]
      · exact this
mutual
theorem cmpV_one : (a b : T) → One (cmpV a b)
  | ⟨k, n, t, l⟩, ⟨k', n', t', l'⟩ => by
    have IH := cmpL_one l l'
    simp only [cmpV]
    split
    · split
      · exact cmpI_one _ _
      · split
        · exact cb_one _ _
        · split
          · exact IH
          · simp [One]
    · exact cmpI_one _ _
theorem cmpL_one : (l m : List T) → One (cmpL l m)
  | [], [] => by simp [cmpL, One]
  | [], _ :: _ => by simp [cmpL, One]
  | _ :: _, [] => by simp [cmpL, One]
  | a :: l, b :: m => by
    have h1 := cmpV_one a b
    have h2 := cmpL_one l m
    simp only [cmpL]
    split
    · exact h2
    · exact h1
end
theorem lexC_one (m : T → Int) (a b : T) : One (lexC m a b) := by
  unfold lexC; split; exact cmpV_one a b; exact cmpI_one _ _
theorem kindC_one (q : Int) (m : T → Int) (a b : T) : One (kindC q m a b) := by
  unfold kindC; split; exact lexC_one m a b; exact cmpV_one a b
end Go.Vl
end
