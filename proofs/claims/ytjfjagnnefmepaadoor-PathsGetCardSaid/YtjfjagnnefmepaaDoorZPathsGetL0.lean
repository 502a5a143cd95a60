/- What PathsGet is proved with: laws in plain Lean. -/
import Derived.Laws.Strings
import Derived.WideShapes
import Derived.Lib.DecodeN
import Derived.Lib.Bytealg
section
set_option linter.unusedVariables false
set_option linter.unusedSimpArgs false
namespace Go.Vl
/-- a value: kind, number, text, row -/
structure T where
  f0 : Int
  f1 : Int
  f2 : ByteArray
  f3 : List T

/-- A number that an int or an int64 holds. -/
def In64 (n : Int) : Prop := -9223372036854775808 ≤ n ∧ n ≤ 9223372036854775807

mutual
/-- A value whose numbers are ints', whose rows are no longer than a row can be. -/
def WfV : T → Prop
  | ⟨k, n, t, l⟩ => In64 k ∧ In64 n ∧ t.size ≤ 9223372036854775807 ∧ l.length ≤ 9223372036854775807 ∧ WfL l
def WfL : List T → Prop
  | [] => True
  | v :: l => WfV v ∧ WfL l
end
theorem wfL_of : ∀ l : List T, (∀ v ∈ l, WfV v) → WfL l
  | [], _ => by simp only [WfL]
  | v :: l, h => by
    simp only [WfL]
    exact ⟨h v List.mem_cons_self, wfL_of l (fun x hx => h x (List.mem_cons_of_mem _ hx))⟩
theorem wfL_mem : ∀ (l : List T), WfL l → ∀ v ∈ l, WfV v
  | [], _, v, hv => by cases hv
  | a :: l, h, v, hv => by
    simp only [WfL] at h
    rcases List.mem_cons.1 hv with rfl | hv
    · exact h.1
    · exact wfL_mem l h.2 v hv

def cmpI (x y : Int) : Int := if x < y then -1 else if x > y then 1 else 0
mutual
/-- The order of values. -/
def cmpV : T → T → Int
  | ⟨k, n, t, l⟩, b =>
    if k = b.f0 then (if k = 1 ∨ k = 2 then cmpI n b.f1 else if k = 3 then Lib.compareBytes t.data.toList b.f2.data.toList else if k = 4 ∨ k = 5 ∨ k = 6 then cmpL l b.f3 else 0) else cmpI k b.f0
def cmpL : List T → List T → Int
  | [], [] => 0
  | [], _ :: _ => -1
  | _ :: _, [] => 1
  | a :: l, b :: m => if cmpV a b = 0 then cmpL l m else cmpV a b
end
theorem cmpL_drop (l m : List T) (k : Nat) (h1 : k < l.length) (h2 : k < m.length) : cmpL (l.drop k) (m.drop k) = if cmpV l[k] m[k] = 0 then cmpL (l.drop (k + 1)) (m.drop (k + 1)) else cmpV l[k] m[k] := by
  rw [List.drop_eq_getElem_cons h1, List.drop_eq_getElem_cons h2, cmpL]
mutual
/-- a value whose fields are its kind's -/
def Shp : T → Prop
  | ⟨k, n, t, l⟩ => (k = 3 ∨ t = ⟨#[]⟩) ∧ (k = 1 ∨ k = 2 ∨ n = 0) ∧ (k = 4 ∨ k = 5 ∨ k = 6 ∨ l = []) ∧ ShpL l
def ShpL : List T → Prop
  | [] => True
  | v :: l => Shp v ∧ ShpL l
end
theorem right_shape {k n : Int} {t : ByteArray} {l : List T} (h : Shp ⟨k, n, t, l⟩) : (k = 3 ∨ t = ⟨#[]⟩) ∧ (k = 1 ∨ k = 2 ∨ n = 0) ∧ (k = 4 ∨ k = 5 ∨ k = 6 ∨ l = []) ∧ ShpL l := by
  simpa only [Shp] using h

theorem u8_lt_or (a b : UInt8) : a < b ∨ a = b ∨ b < a := by
  rcases Nat.lt_trichotomy a.toNat b.toNat with h | h | h
  · exact .inl (UInt8.lt_iff_toNat_lt.2 h)
  · exact .inr (.inl (UInt8.toNat_inj.1 h))
  · exact .inr (.inr (UInt8.lt_iff_toNat_lt.2 h))
theorem u8_irr (a : UInt8) : ¬ a < a := fun h => Nat.lt_irrefl _ (UInt8.lt_iff_toNat_lt.1 h)
theorem u8_asym {a b : UInt8} (h : a < b) : ¬ b < a := fun g => Nat.lt_asymm (UInt8.lt_iff_toNat_lt.1 h) (UInt8.lt_iff_toNat_lt.1 g)

theorem cmpI_turn (x y : Int) : cmpI y x = - cmpI x y := by
  unfold cmpI
  repeat' split
  all_goals omega
theorem cmpI_neg {x y : Int} : cmpI x y < 0 ↔ x < y := by
  unfold cmpI
  by_cases h : x < y
  · rw [if_pos h]; exact ⟨fun _ => h, fun _ => by decide⟩
  · rw [if_neg h]; split <;> exact ⟨fun h' => by omega, fun h' => by omega⟩
theorem cmpI_zero {x y : Int} : cmpI x y = 0 ↔ x = y := by
  unfold cmpI
  by_cases h : x < y
  · rw [if_pos h]; exact ⟨fun h' => by omega, fun h' => by omega⟩
  · rw [if_neg h]; split <;> exact ⟨fun h' => by omega, fun h' => by omega⟩
theorem cb_turn : ∀ a b : List UInt8, Lib.compareBytes b a = - Lib.compareBytes a b
  | [], [] => by simp [Lib.compareBytes]
  | [], _ :: _ => by simp [Lib.compareBytes]
  | _ :: _, [] => by simp [Lib.compareBytes]
  | a :: x, b :: y => by
    simp only [Lib.compareBytes]
    rcases u8_lt_or a b with h | rfl | h
    · rw [if_pos h, if_neg (u8_asym h), if_pos h]; rfl
    · simp only [if_neg (u8_irr a)]; exact cb_turn x y
    · rw [if_pos h, if_neg (u8_asym h), if_pos h]
theorem cb_zero : ∀ a b : List UInt8, Lib.compareBytes a b = 0 → a = b
  | [], [] => fun _ => rfl
  | [], _ :: _ => fun h => by simp [Lib.compareBytes] at h
  | _ :: _, [] => fun h => by simp [Lib.compareBytes] at h
  | a :: x, b :: y => by
    simp only [Lib.compareBytes]
    rcases u8_lt_or a b with h | rfl | h
    · rw [if_pos h]; intro h'; cases h'
    · simp only [if_neg (u8_irr a)]; intro h; rw [cb_zero x y h]
    · rw [if_neg (u8_asym h), if_pos h]; intro h'; cases h'
theorem cb_self : ∀ a : List UInt8, Lib.compareBytes a a = 0
  | [] => by simp [Lib.compareBytes]
  | a :: x => by simp only [Lib.compareBytes]; simp only [if_neg (u8_irr a)]; exact cb_self x
theorem cb_trans : ∀ a b c : List UInt8, Lib.compareBytes a b < 0 → Lib.compareBytes b c < 0 → Lib.compareBytes a c < 0
  | [], [], _ => fun h => by simp [Lib.compareBytes] at h
  | _ :: _, [], _ => fun h => by simp [Lib.compareBytes] at h
  | [], _ :: _, [] => fun _ h => by simp [Lib.compareBytes] at h
  | [], _ :: _, _ :: _ => fun _ _ => by simp [Lib.compareBytes]
  | _ :: _, _ :: _, [] => fun _ h => by simp [Lib.compareBytes] at h
  | a :: x, b :: y, c :: z => by
    simp only [Lib.compareBytes]
    rcases u8_lt_or a b with h | rfl | h
    · intro _
      rcases u8_lt_or b c with g | rfl | g
      · intro _
        have : a < c := UInt8.lt_iff_toNat_lt.2 (Nat.lt_trans (UInt8.lt_iff_toNat_lt.1 h) (UInt8.lt_iff_toNat_lt.1 g))
        rw [if_pos this]; decide
      · intro _; rw [if_pos h]; decide
      · rw [if_neg (u8_asym g), if_pos g]; intro h'; omega
    · simp only [if_neg (u8_irr a)]
      intro h1
      rcases u8_lt_or a c with g | rfl | g
      · intro _; rw [if_pos g]; decide
      · simp only [if_neg (u8_irr a)]; exact cb_trans x y z h1
      · rw [if_neg (u8_asym g), if_pos g]; intro h'; omega
    · rw [if_neg (u8_asym h), if_pos h]; intro h'; omega
theorem neg_zero_iff {x y : Int} (h : y = - x) : y = 0 ↔ x = 0 := by omega
mutual
theorem cmpV_turn : (a b : T) → cmpV b a = - cmpV a b
  | ⟨k, n, t, l⟩, ⟨k', n', t', l'⟩ => by
    have IH := cmpL_turn l l'
    simp only [cmpV]
    by_cases hk : k = k'
    · subst hk
      rw [if_pos rfl, if_pos rfl]
      by_cases h1 : k = 1 ∨ k = 2
      · rw [if_pos h1, if_pos h1]; exact cmpI_turn n n'
      · rw [if_neg h1, if_neg h1]
        by_cases h3 : k = 3
        · rw [if_pos h3, if_pos h3]; exact cb_turn _ _
        · rw [if_neg h3, if_neg h3]
          by_cases h4 : k = 4 ∨ k = 5 ∨ k = 6
          · rw [if_pos h4, if_pos h4]; exact IH
          · rw [if_neg h4, if_neg h4]; rfl
    · rw [if_neg hk, if_neg (fun h => hk h.symm)]; exact cmpI_turn k k'
theorem cmpL_turn : (l m : List T) → cmpL m l = - cmpL l m
  | [], [] => by simp only [cmpL]; rfl
  | [], _ :: _ => by simp only [cmpL]; rfl
  | _ :: _, [] => by simp only [cmpL]
  | a :: l, b :: m => by
    have h1 := cmpV_turn a b
    have h2 := cmpL_turn l m
    simp only [cmpL]
    by_cases h : cmpV a b = 0
    · rw [if_pos h, if_pos (by omega)]; exact h2
    · rw [if_neg h, if_neg (by omega)]; exact h1
end
mutual
theorem cmpV_zero : (a b : T) → Shp a → Shp b → cmpV a b = 0 → a = b
  | ⟨k, n, t, l⟩, ⟨k', n', t', l'⟩, ha, hb, h => by
    obtain ⟨a1, a2, a3, a4⟩ := right_shape ha
    obtain ⟨b1, b2, b3, b4⟩ := right_shape hb
    have IH := cmpL_zero l l' a4 b4
    simp only [cmpV] at h
    by_cases hk : k = k'
    · subst hk
      rw [if_pos rfl] at h
      by_cases h1 : k = 1 ∨ k = 2
      · rw [if_pos h1] at h
        have e1 := cmpI_zero.1 h
        have e2 : t = t' := by rw [a1.resolve_left (by omega), b1.resolve_left (by omega)]
        have e3 : l = l' := by rcases a3 with c | c | c | c <;> rcases b3 with d | d | d | d <;> first | omega | (rw [c, d])
        rw [e1, e2, e3]
      · rw [if_neg h1] at h
        have e1 : n = n' := by omega
        by_cases h3 : k = 3
        · rw [if_pos h3] at h
          have e2 : t = t' := Go.WideShapes.bytes_inj (cb_zero _ _ h)
          have e3 : l = l' := by rcases a3 with c | c | c | c <;> rcases b3 with d | d | d | d <;> first | omega | (rw [c, d])
          rw [e1, e2, e3]
        · rw [if_neg h3] at h
          have e2 : t = t' := by rw [a1.resolve_left h3, b1.resolve_left h3]
          by_cases h4 : k = 4 ∨ k = 5 ∨ k = 6
          · rw [if_pos h4] at h
            rw [e1, e2, IH h]
          · have e3 : l = l' := by rcases a3 with c | c | c | c <;> rcases b3 with d | d | d | d <;> first | omega | (rw [c, d])
            rw [e1, e2, e3]
    · rw [if_neg hk] at h; exact absurd (cmpI_zero.1 h) hk
theorem cmpL_zero : (l m : List T) → ShpL l → ShpL m → cmpL l m = 0 → l = m
  | [], [], _, _, _ => rfl
  | [], _ :: _, _, _, h => by simp only [cmpL] at h; cases h
  | _ :: _, [], _, _, h => by simp only [cmpL] at h; cases h
  | a :: l, b :: m, ha, hb, h => by
    simp only [ShpL] at ha hb
    simp only [cmpL] at h
    by_cases c : cmpV a b = 0
    · rw [if_pos c] at h
      rw [cmpV_zero a b ha.1 hb.1 c, cmpL_zero l m ha.2 hb.2 h]
    · rw [if_neg c] at h; exact absurd h c
end
mutual
theorem cmpV_self : (a : T) → cmpV a a = 0
  | ⟨k, n, t, l⟩ => by
    have IH := cmpL_self l
    simp only [cmpV, if_true]
    split
    · exact cmpI_zero.2 rfl
    · split
      · exact cb_self _
      · split
        · exact IH
        · rfl
theorem cmpL_self : (l : List T) → cmpL l l = 0
  | [] => by simp only [cmpL]
  | a :: l => by simp only [cmpL]; rw [if_pos (cmpV_self a)]; exact cmpL_self l
end
mutual
theorem cmpV_trans : (a b c : T) → Shp a → Shp b → Shp c → cmpV a b < 0 → cmpV b c < 0 → cmpV a c < 0
  | ⟨k, n, t, l⟩, ⟨k', n', t', l'⟩, ⟨k'', n'', t'', l''⟩, ha, hb, hc, h1, h2 => by
    have IH := cmpL_trans l l' l'' (right_shape ha).2.2.2 (right_shape hb).2.2.2 (right_shape hc).2.2.2
    simp only [cmpV] at h1 h2 ⊢
    by_cases e1 : k = k'
    · subst e1
      rw [if_pos rfl] at h1
      by_cases e2 : k = k''
      · subst e2
        rw [if_pos rfl] at h2 ⊢
        by_cases g : k = 1 ∨ k = 2
        · rw [if_pos g] at h1 h2 ⊢
          have := cmpI_neg.1 h1
          have := cmpI_neg.1 h2
          exact cmpI_neg.2 (by omega)
        · rw [if_neg g] at h1 h2 ⊢
          by_cases g3 : k = 3
          · rw [if_pos g3] at h1 h2 ⊢; exact cb_trans _ _ _ h1 h2
          · rw [if_neg g3] at h1 h2 ⊢
            by_cases g4 : k = 4 ∨ k = 5 ∨ k = 6
            · rw [if_pos g4] at h1 h2 ⊢; exact IH h1 h2
            · rw [if_neg g4] at h1; omega
      · rw [if_neg e2] at h2 ⊢; exact h2
    · rw [if_neg e1] at h1
      have l1 := cmpI_neg.1 h1
      by_cases e2 : k' = k''
      · subst e2
        rw [if_neg e1]; exact h1
      · rw [if_neg e2] at h2
        have l2 := cmpI_neg.1 h2
        rw [if_neg (by omega)]
        exact cmpI_neg.2 (by omega)
theorem cmpL_trans : (l m p : List T) → ShpL l → ShpL m → ShpL p → cmpL l m < 0 → cmpL m p < 0 → cmpL l p < 0
  | [], [], _, _, _, _, h, _ => by simp only [cmpL] at h; omega
  | _ :: _, [], _, _, _, _, h, _ => by simp only [cmpL] at h; omega
  | [], _ :: _, [], _, _, _, _, h => by simp only [cmpL] at h; omega
  | [], _ :: _, _ :: _, _, _, _, _, _ => by simp only [cmpL]; decide
  | _ :: _, _ :: _, [], _, _, _, _, h => by simp only [cmpL] at h; omega
  | a :: l, b :: m, c :: p, ha, hb, hc, h1, h2 => by
    simp only [ShpL] at ha hb hc
    have T := cmpV_trans a b c ha.1 hb.1 hc.1
    have IH := cmpL_trans l m p ha.2 hb.2 hc.2
    simp only [cmpL] at h1 h2 ⊢
    by_cases z1 : cmpV a b = 0
    · rw [if_pos z1] at h1
      have e := cmpV_zero a b ha.1 hb.1 z1
      subst e
      by_cases z2 : cmpV a c = 0
      · rw [if_pos z2] at h2 ⊢; exact IH h1 h2
      · rw [if_neg z2] at h2 ⊢; exact h2
    · rw [if_neg z1] at h1
      by_cases z2 : cmpV b c = 0
      · have e := cmpV_zero b c hb.1 hc.1 z2
        subst e
        rw [if_neg z1]; exact h1
      · rw [if_neg z2] at h2
        have := T h1 h2
        rw [if_neg (by omega)]; exact this
end


theorem get_extract (s : ByteArray) (p k : Nat) : (s.extract p s.size).get! k = s.get! (p + k) := by
  have hs : (s.extract p s.size).size = s.size - p := by simp [ByteArray.size_extract]
  have g : ∀ (t : ByteArray) (i : Nat), t.get! i = if h : i < t.size then t[i]'h else 0 := by
    intro t i
    obtain ⟨a⟩ := t
    show a[i]! = _
    split
    · next h => exact getElem!_pos a i h
    · next h => exact getElem!_neg a i h
  rw [g, g]
  by_cases h : p + k < s.size
  · rw [dif_pos (show k < (s.extract p s.size).size by omega), dif_pos h]
    simp [ByteArray.getElem_extract]
  · rw [dif_neg (show ¬ k < (s.extract p s.size).size by omega), dif_neg h]
theorem decode_extract (s : ByteArray) (p : Nat) : Utf8.decode (s.extract p s.size) 0 = Utf8.decode s p := by
  rw [Lib.decode_at, Lib.decode_at]
  simp only [get_extract, Nat.add_zero]
  rw [show (s.extract p s.size).size - 0 = s.size - p by simp [ByteArray.size_extract]]
def decGo (s : ByteArray) : Nat × Nat := if s.size = 0 then (65533, 0) else Utf8.decode s 0
theorem decGo_extract (s : ByteArray) (p : Nat) (hp : p < s.size) : decGo (s.extract p s.size) = Utf8.decode s p := by
  unfold decGo
  rw [if_neg (by simp [ByteArray.size_extract]; omega), decode_extract]
theorem dec_le (s : ByteArray) (p : Nat) : 1 ≤ (Utf8.decode s p).2 ∧ (Utf8.decode s p).2 ≤ 4 ∧ (Utf8.decode s p).1 ≤ 1114111 := by
  rw [Lib.decode_at]
  have := (s.get! p).toNat_lt
  unfold Lib.decodeN
  repeat' split
  all_goals (simp only; omega)
/-! what is right -/
def utfGo (s : ByteArray) : Nat → Nat → Bool
  | 0, _ => true
  | f + 1, p => if p < s.size then (if (Utf8.decode s p).1 = 65533 ∧ (Utf8.decode s p).2 = 1 then false else utfGo s f (p + (Utf8.decode s p).2)) else true
def utfB (s : ByteArray) : Bool := utfGo s s.size 0
def PlainV (k n : Int) (t : ByteArray) : Prop := (k = 3 ∨ t = ⟨#[]⟩) ∧ (k = 1 ∨ k = 2 ∨ n = 0) ∧ (if k = 1 then n = 0 ∨ n = 1 else if k = 3 then t.size ≤ 256 ∧ utfB t = true else 0 ≤ k ∧ k ≤ 6)
instance (k n : Int) (t : ByteArray) : Decidable (PlainV k n t) := by unfold PlainV; infer_instance

mutual
/-- How many parts a value has. -/
def partsV : T → Nat
  | ⟨_, _, _, l⟩ => 1 + partsL l
def partsL : List T → Nat
  | [] => 0
  | v :: l => partsV v + partsL l
end
mutual
/-- How deep a value is. -/
def deepV : T → Nat
  | ⟨_, _, _, l⟩ => deepL l
def deepL : List T → Nat
  | [] => 0
  | v :: l => max (1 + deepV v) (deepL l)
end
/-- A row that rises, each so many behind the one ahead. -/
def Rise (st : Nat) (l : List T) : Prop := ∀ i : Nat, i % st = 0 → ∀ (h : i + st < l.length), cmpV (l[i]'(by omega)) (l[i + st]) < 0
/-- A row is in its kind's form. -/
def FormV (k : Int) (l : List T) : Prop := if k = 4 then True else if k = 6 then l.length % 2 = 0 ∧ Rise 2 l else if k = 5 then Rise 1 l else l = []
mutual
/-- A value whose parts are all in their forms. -/
def OkV : T → Prop
  | ⟨k, n, t, l⟩ => PlainV k n t ∧ FormV k l ∧ OkL l
def OkL : List T → Prop
  | [] => True
  | v :: l => OkV v ∧ OkL l
end
/-- A right value. -/
def OK (v : T) : Prop := OkV v ∧ deepV v ≤ 16 ∧ partsV v ≤ 1024
theorem partsV_pos (v : T) : 1 ≤ partsV v := by cases v; simp only [partsV]; omega
theorem partsL_len : ∀ l : List T, l.length ≤ partsL l
  | [] => by simp [partsL]
  | v :: l => by have := partsL_len l; have := partsV_pos v; simp only [partsL, List.length_cons]; omega
theorem okL_mem : ∀ {l : List T}, OkL l → ∀ v ∈ l, OkV v
  | [], _, v, hv => by cases hv
  | a :: l, h, v, hv => by
    simp only [OkL] at h
    rcases List.mem_cons.1 hv with rfl | hv
    · exact h.1
    · exact okL_mem h.2 v hv
theorem okL_of : ∀ {l : List T}, (∀ v ∈ l, OkV v) → OkL l
  | [], _ => by simp only [OkL]
  | v :: l, h => by
    simp only [OkL]
    exact ⟨h v List.mem_cons_self, okL_of (fun x hx => h x (List.mem_cons_of_mem _ hx))⟩
theorem partsL_mem : ∀ {l : List T} {v : T}, v ∈ l → partsV v ≤ partsL l
  | a :: l, v, hv => by
    simp only [partsL]
    rcases List.mem_cons.1 hv with rfl | hv
    · omega
    · have := partsL_mem hv; omega
theorem deepL_mem : ∀ {l : List T} {v : T}, v ∈ l → 1 + deepV v ≤ deepL l
  | a :: l, v, hv => by
    simp only [deepL]
    rcases List.mem_cons.1 hv with rfl | hv
    · omega
    · have := deepL_mem hv; omega
theorem deepL_le : ∀ {l : List T} {d : Nat}, (∀ v ∈ l, 1 + deepV v ≤ d) → deepL l ≤ d
  | [], d, _ => by simp [deepL]
  | v :: l, d, h => by
    have h1 := h v List.mem_cons_self
    have h2 := deepL_le (l := l) (fun x hx => h x (List.mem_cons_of_mem _ hx))
    simp only [deepL]; omega
theorem partsL_append : ∀ (l m : List T), partsL (l ++ m) = partsL l + partsL m
  | [], m => by simp [partsL]
  | v :: l, m => by simp only [List.cons_append, partsL, partsL_append l m]; omega
theorem deepL_append : ∀ (l m : List T), deepL (l ++ m) = max (deepL l) (deepL m)
  | [], m => by simp [deepL]
  | v :: l, m => by simp only [List.cons_append, deepL, deepL_append l m]; omega
theorem okL_append : ∀ (l m : List T), OkL (l ++ m) ↔ OkL l ∧ OkL m
  | [], m => by simp [OkL]
  | v :: l, m => by simp only [List.cons_append, OkL, okL_append l m, and_assoc]
theorem ok_item {k n : Int} {t : ByteArray} {l : List T} (h : OK ⟨k, n, t, l⟩) {v : T} (hv : v ∈ l) : OK v := by
  obtain ⟨h1, h2, h3⟩ := h
  simp only [OkV, deepV, partsV] at h1 h2 h3
  have := partsL_mem hv
  have := deepL_mem hv
  exact ⟨okL_mem h1.2.2 v hv, by omega, by omega⟩

theorem ite_zero {P Q : Prop} {ip : Decidable P} {iq : Decidable Q} {a b : Int} (h : P ↔ Q) (e : P → a = b) : @ite Int P ip a 0 = @ite Int Q iq b 0 := by
  by_cases hp : P
  · rw [if_pos hp, if_pos (h.1 hp), e hp]
  · rw [if_neg hp, if_neg (fun hq => hp (h.2 hq))]
open Classical in
/-- What the count tells. -/
noncomputable def cntZ (v : T) (a1 a2 : Int) : Int := if OkV v ∧ (deepV v : Int) ≤ a1 ∧ (partsV v : Int) ≤ a2 then (partsV v : Int) else 0
open Classical in
noncomputable def cntL (k : Int) (l m : List T) (x7 a1 a2 : Int) : Int := if FormV k l ∧ OkL m ∧ (deepL m : Int) ≤ a1 ∧ x7 + (partsL m : Int) ≤ a2 then x7 + (partsL m : Int) else 0
theorem form_row {k : Int} {l : List T} (h : FormV k l) : k = 4 ∨ k = 5 ∨ k = 6 ∨ l = [] := by
  unfold FormV at h
  split at h
  · exact .inl ‹_›
  · split at h
    · exact .inr (.inr (.inl ‹_›))
    · split at h
      · exact .inr (.inl ‹_›)
      · exact .inr (.inr (.inr h))
mutual
theorem shp_of : (v : T) → OkV v → Shp v
  | ⟨k, n, t, l⟩, h => by
    simp only [OkV] at h
    simp only [Shp]
    exact ⟨h.1.1, h.1.2.1, form_row h.2.1, shpL_of l h.2.2⟩
theorem shpL_of : (l : List T) → OkL l → ShpL l
  | [], _ => by simp only [ShpL]
  | v :: l, h => by
    simp only [OkL] at h
    simp only [ShpL]
    exact ⟨shp_of v h.1, shpL_of l h.2⟩
end
end Go.Vl
end

section
set_option linter.unusedVariables false
set_option linter.unusedSimpArgs false
namespace Go.Vl
/-- a measure, and then natural -/
def lexC (m : T → Int) (a b : T) : Int := if cmpI (m a) (m b) = 0 then cmpV a b else cmpI (m a) (m b)
theorem lexC_turn (m : T → Int) (a b : T) : lexC m b a = - lexC m a b := by
  unfold lexC
  rw [cmpI_turn (m a) (m b), cmpV_turn a b]
  by_cases h : cmpI (m a) (m b) = 0
  · rw [if_pos h, if_pos (by omega)]
  · rw [if_neg h, if_neg (by omega)]
theorem cmpV_eq {a b : T} (ha : Shp a) (hb : Shp b) : cmpV a b = 0 ↔ a = b := ⟨cmpV_zero a b ha hb, fun h => by rw [h]; exact cmpV_self b⟩
theorem lexC_eq (m : T → Int) {a b : T} (ha : Shp a) (hb : Shp b) : lexC m a b = 0 ↔ a = b := by
  unfold lexC
  by_cases h : cmpI (m a) (m b) = 0
  · rw [if_pos h]; exact cmpV_eq ha hb
  · rw [if_neg h]
    exact ⟨fun h' => absurd h' h, fun e => absurd (by rw [e]; exact cmpI_zero.2 rfl) h⟩
theorem lexC_trans (m : T → Int) {a b c : T} (ha : Shp a) (hb : Shp b) (hc : Shp c) (h1 : lexC m a b ≤ 0) (h2 : lexC m b c ≤ 0) : lexC m a c ≤ 0 := by
  have i1 := @cmpI_zero (m a) (m b)
  have i2 := @cmpI_zero (m b) (m c)
  have i3 := @cmpI_zero (m a) (m c)
  have n1 := @cmpI_neg (m a) (m b)
  have n2 := @cmpI_neg (m b) (m c)
  have n3 := @cmpI_neg (m a) (m c)
  have vt : cmpV a b ≤ 0 → cmpV b c ≤ 0 → cmpV a c ≤ 0 := by
    intro g1 g2
    by_cases z1 : cmpV a b = 0
    · rw [(cmpV_eq ha hb).1 z1]; exact g2
    · by_cases z2 : cmpV b c = 0
      · rw [← (cmpV_eq hb hc).1 z2]; exact g1
      · have := cmpV_trans a b c ha hb hc (by omega) (by omega); omega
  unfold lexC at *
  by_cases e1 : cmpI (m a) (m b) = 0
  · rw [if_pos e1] at h1
    by_cases e2 : cmpI (m b) (m c) = 0
    · rw [if_pos e2] at h2
      rw [if_pos (i3.2 ((i1.1 e1).trans (i2.1 e2)))]
      exact vt h1 h2
    · rw [if_neg e2] at h2
      have : m a = m b := i1.1 e1
      rw [if_neg (by rw [this]; exact e2), this]
      exact h2
  · rw [if_neg e1] at h1
    have l1 : m a < m b := n1.1 (by omega)
    have l2 : m b ≤ m c := by
      by_cases e2 : cmpI (m b) (m c) = 0
      · have := i2.1 e2; omega
      · rw [if_neg e2] at h2; have := n2.1 (by omega); omega
    have : cmpI (m a) (m c) < 0 := n3.2 (by omega)
    rw [if_neg (by omega)]; omega
end Go.Vl
end

section
set_option linter.unusedVariables false
set_option linter.unusedSimpArgs false
set_option linter.unusedSimpArgs false
namespace Go.Vl
/-- two of one kind by a measure; others naturally -/
def kindC (q : Int) (m : T → Int) (a b : T) : Int := if a.f0 = q ∧ b.f0 = q then lexC m a b else cmpV a b
theorem kindC_turn (q : Int) (m : T → Int) (a b : T) : kindC q m b a = - kindC q m a b := by
  unfold kindC
  by_cases h : a.f0 = q ∧ b.f0 = q
  · rw [if_pos h, if_pos ⟨h.2, h.1⟩]; exact lexC_turn m a b
  · rw [if_neg h, if_neg (fun g => h ⟨g.2, g.1⟩)]; exact cmpV_turn a b
theorem kindC_eq (q : Int) (m : T → Int) {a b : T} (ha : Shp a) (hb : Shp b) : kindC q m a b = 0 ↔ a = b := by
  unfold kindC
  by_cases h : a.f0 = q ∧ b.f0 = q
  · rw [if_pos h]; exact lexC_eq m ha hb
  · rw [if_neg h]; exact cmpV_eq ha hb
theorem cmpV_kind {a b : T} (h : a.f0 ≠ b.f0) : cmpV a b = cmpI a.f0 b.f0 := by
  cases a with | mk k n t l => rw [cmpV, if_neg h]
theorem cmpV_le {a b c : T} (ha : Shp a) (hb : Shp b) (hc : Shp c) (g1 : cmpV a b ≤ 0) (g2 : cmpV b c ≤ 0) : cmpV a c ≤ 0 := by
  by_cases z1 : cmpV a b = 0
  · rw [(cmpV_eq ha hb).1 z1]; exact g2
  · by_cases z2 : cmpV b c = 0
    · rw [← (cmpV_eq hb hc).1 z2]; exact g1
    · have := cmpV_trans a b c ha hb hc (by omega) (by omega); omega
theorem cmpV_up {a b : T} (h : a.f0 ≠ b.f0) : cmpV a b ≤ 0 ↔ a.f0 < b.f0 := by
  rw [cmpV_kind h]
  have n := @cmpI_neg a.f0 b.f0
  have z := @cmpI_zero a.f0 b.f0
  constructor
  · intro g
    by_cases e : cmpI a.f0 b.f0 = 0
    · exact absurd (z.1 e) h
    · exact n.1 (by omega)
  · intro g; have := n.2 g; omega
theorem kindC_trans (q : Int) (m : T → Int) {a b c : T} (ha : Shp a) (hb : Shp b) (hc : Shp c) (h1 : kindC q m a b ≤ 0) (h2 : kindC q m b c ≤ 0) : kindC q m a c ≤ 0 := by
  unfold kindC at *
  by_cases qa : a.f0 = q <;> by_cases qb : b.f0 = q <;> by_cases qc : c.f0 = q <;> simp only [qa, qb, qc, and_self, and_true, and_false, if_true, if_false] at h1 h2 ⊢
  · exact lexC_trans m ha hb hc h1 h2
  · have := (cmpV_up (a := b) (b := c) (by omega)).1 h2
    exact (cmpV_up (by omega)).2 (by omega)
  · have := (cmpV_up (a := a) (b := b) (by omega)).1 h1
    have := (cmpV_up (a := b) (b := c) (by omega)).1 h2
    omega
  · exact cmpV_le ha hb hc h1 h2
  · have := (cmpV_up (a := a) (b := b) (by omega)).1 h1
    exact (cmpV_up (by omega)).2 (by omega)
  all_goals exact cmpV_le ha hb hc h1 h2
end Go.Vl
end

section
set_option linter.unusedVariables false
set_option linter.unusedSimpArgs false
namespace Go.Vl
def One (x : Int) : Prop := -1 ≤ x ∧ x ≤ 1
theorem cmpI_one (x y : Int) : One (cmpI x y) := by unfold cmpI One; split; omega; split <;> omega
theorem cb_one : ∀ a b : List UInt8, One (Lib.compareBytes a b)
  | [], [] => by simp [Lib.compareBytes, One]
  | [], _ :: _ => by simp [Lib.compareBytes, One]
  | _ :: _, [] => by simp [Lib.compareBytes, One]
  | a :: x, b :: y => by
    simp only [Lib.compareBytes]
    have := cb_one x y
    split
    · simp [One]
    · split
      · simp [One]
      · exact this
mutual
theorem cmpV_one : (a b : T) → One (cmpV a b)
  | ⟨k, n, t, l⟩, ⟨k', n', t', l'⟩ => by
    have IH := cmpL_one l l'
    simp only [cmpV]
    split
    · split
      · exact cmpI_one _ _
      · split
        · exact cb_one _ _
        · split
          · exact IH
          · simp [One]
    · exact cmpI_one _ _
theorem cmpL_one : (l m : List T) → One (cmpL l m)
  | [], [] => by simp [cmpL, One]
  | [], _ :: _ => by simp [cmpL, One]
  | _ :: _, [] => by simp [cmpL, One]
  | a :: l, b :: m => by
    have h1 := cmpV_one a b
    have h2 := cmpL_one l m
    simp only [cmpL]
    split
    · exact h2
    · exact h1
end
theorem lexC_one (m : T → Int) (a b : T) : One (lexC m a b) := by
  unfold lexC; split; exact cmpV_one a b; exact cmpI_one _ _
theorem kindC_one (q : Int) (m : T → Int) (a b : T) : One (kindC q m a b) := by
  unfold kindC; split; exact lexC_one m a b; exact cmpV_one a b
end Go.Vl
end

section
set_option linter.unusedVariables false
set_option linter.unusedSimpArgs false
set_option linter.unusedSimpArgs false
set_option linter.unusedVariables false
namespace Go.Vl
/-- a pairing heap: its first item, and the heaps below it -/
inductive H where
  | mk (x : T) (kids : List H)
def H.x : H → T | .mk x _ => x
def H.kids : H → List H | .mk _ k => k
mutual
def sizeH : H → Nat
  | .mk _ k => 1 + sizeK k
def sizeK : List H → Nat
  | [] => 0
  | h :: t => sizeH h + sizeK t
end
def sizeO : Option H → Nat
  | none => 0
  | some h => sizeH h
/-- two heaps as one -/
def meldH (c : T → T → Int) : Option H → Option H → Option H
  | none, b => b
  | some a, none => some a
  | some a, some b => if c b.x a.x < 0 then some (.mk b.x (a :: b.kids)) else some (.mk a.x (b :: a.kids))
/-- two by two -/
def twoH (c : T → T → Int) : List H → List (Option H)
  | [] => []
  | [h] => [some h]
  | h :: g :: t => meldH c (some h) (some g) :: twoH c t
def foldH (c : T → T → Int) : List (Option H) → Option H
  | [] => none
  | h :: t => meldH c h (foldH c t)
def pairedH (c : T → T → Int) (l : List H) : Option H := foldH c (twoH c l)
theorem meld_size (c : T → T → Int) (a b : Option H) : sizeO (meldH c a b) = sizeO a + sizeO b := by
  cases a with
  | none => simp [meldH, sizeO]
  | some a =>
    cases b with
    | none => simp [meldH, sizeO]
    | some b =>
      obtain ⟨x, k⟩ := a
      obtain ⟨y, l⟩ := b
      simp only [meldH]
      split <;> simp only [sizeO, sizeH, sizeK, H.x, H.kids] <;> omega
def sumO : List (Option H) → Nat
  | [] => 0
  | h :: t => sizeO h + sumO t
theorem two_size (c : T → T → Int) : ∀ l : List H, sumO (twoH c l) = sizeK l
  | [] => rfl
  | [h] => by simp [twoH, sumO, sizeO, sizeK]
  | h :: g :: t => by
    have h1 := meld_size c (some h) (some g)
    simp only [twoH, sumO, two_size c t, sizeK, h1]
    simp only [sizeO]; omega
theorem fold_size (c : T → T → Int) : ∀ l : List (Option H), sizeO (foldH c l) = sumO l
  | [] => rfl
  | h :: t => by
    have h1 := meld_size c h (foldH c t)
    simp only [foldH, h1, fold_size c t, sumO]
theorem paired_size (c : T → T → Int) (l : List H) : sizeO (pairedH c l) = sizeK l := by unfold pairedH; rw [fold_size, two_size]
/-- the items, taken one by one -/
def sortedH (c : T → T → Int) : Nat → Option H → List T
  | 0, _ => []
  | _ + 1, none => []
  | n + 1, some h => h.x :: sortedH c n (pairedH c h.kids)
mutual
def AllH (p : T → Prop) : H → Prop
  | .mk x k => p x ∧ AllK p k
def AllK (p : T → Prop) : List H → Prop
  | [] => True
  | h :: t => AllH p h ∧ AllK p t
end
def AllO (p : T → Prop) : Option H → Prop
  | none => True
  | some h => AllH p h
theorem meld_all (c : T → T → Int) {p : T → Prop} {a b : Option H} (ha : AllO p a) (hb : AllO p b) : AllO p (meldH c a b) := by
  cases a with
  | none => exact hb
  | some a =>
    cases b with
    | none => exact ha
    | some b =>
      obtain ⟨x, k⟩ := a
      obtain ⟨y, l⟩ := b
      simp only [AllO, AllH] at ha hb
      simp only [meldH]
      split <;> simp only [AllO, AllH, AllK, H.x, H.kids] <;> simp [ha, hb]
def AllS (p : T → Prop) : List (Option H) → Prop
  | [] => True
  | h :: t => AllO p h ∧ AllS p t
theorem two_all (c : T → T → Int) {p : T → Prop} : ∀ l : List H, AllK p l → AllS p (twoH c l)
  | [], _ => trivial
  | [h], hl => by simp only [AllK] at hl; exact ⟨hl.1, trivial⟩
  | h :: g :: t, hl => by
    simp only [AllK] at hl
    exact ⟨meld_all c (a := some h) (b := some g) hl.1 hl.2.1, two_all c t hl.2.2⟩
theorem fold_all (c : T → T → Int) {p : T → Prop} : ∀ l : List (Option H), AllS p l → AllO p (foldH c l)
  | [], _ => trivial
  | h :: t, hl => meld_all c hl.1 (fold_all c t hl.2)
theorem paired_all (c : T → T → Int) {p : T → Prop} {l : List H} (h : AllK p l) : AllO p (pairedH c l) := fold_all c _ (two_all c l h)
/-- a queue of a list -/
def pushH (c : T → T → Int) (q : Option H) (x : T) : Option H := meldH c q (some (.mk x []))
def ofH (c : T → T → Int) (l : List T) : Option H := l.foldl (pushH c) none
end Go.Vl
end

section
set_option linter.unusedVariables false
set_option linter.unusedSimpArgs false
set_option linter.unusedSimpArgs false
set_option linter.unusedVariables false
namespace Go.Vl
/-- an order that is one line -/
structure LineV (f : T → T → Int) : Prop where
  turn : ∀ a b, f b a = - f a b
  eq : ∀ a b, Shp a → Shp b → (f a b = 0 ↔ a = b)
  trans : ∀ a b c, Shp a → Shp b → Shp c → f a b ≤ 0 → f b c ≤ 0 → f a c ≤ 0
def SortedL (f : T → T → Int) (l : List T) : Prop := l.Pairwise fun x y => f x y ≤ 0
theorem sorted_perm_eq {f : T → T → Int} (hf : LineV f) : ∀ {l m : List T}, (∀ x ∈ l, Shp x) → SortedL f l → SortedL f m → l.Perm m → l = m
  | [], m, _, _, _, h => (List.Perm.nil_eq h)
  | a :: l, m, hsh, h1, h2, h => by
    cases m with
    | nil => exact absurd h.length_eq (by simp)
    | cons b m =>
      have h1' := List.pairwise_cons.1 h1
      have h2' := List.pairwise_cons.1 h2
      have hsm : ∀ x ∈ b :: m, Shp x := fun x hx => hsh x (h.mem_iff.2 hx)
      have hab : a = b := by
        by_cases e : a = b
        · exact e
        · have ha : a ∈ m := by rcases List.mem_cons.1 (h.mem_iff.1 List.mem_cons_self) with h' | h'; exact absurd h' e; exact h'
          have hb : b ∈ l := by rcases List.mem_cons.1 (h.mem_iff.2 List.mem_cons_self) with h' | h'; exact absurd h'.symm e; exact h'
          have q1 := h1'.1 b hb
          have q2 := h2'.1 a ha
          have q3 := hf.turn a b
          exact (hf.eq a b (hsh _ List.mem_cons_self) (hsm _ List.mem_cons_self)).1 (by omega)
      subst hab
      rw [sorted_perm_eq hf (fun x hx => hsh x (List.mem_cons_of_mem _ hx)) h1'.2 h2'.2 (List.Perm.cons_inv h)]
/-- an item put into a sorted list -/
theorem put_sorted {f : T → T → Int} (hf : LineV f) {U W : List T} {c : T} (hsh : ∀ x ∈ U ++ c :: W, Shp x) (hs : SortedL f (U ++ W)) (hu : ∀ x ∈ U, f x c ≤ 0) (hw : ∀ y, W.head? = some y → f c y ≤ 0) : SortedL f (U ++ c :: W) := by
  have hs' := List.pairwise_append.1 hs
  have hcw : ∀ w ∈ W, f c w ≤ 0 := by
    cases W with
    | nil => intro w hw'; cases hw'
    | cons y W =>
      have h1 := hw y rfl
      intro w hw'
      rcases List.mem_cons.1 hw' with rfl | hw'
      · exact h1
      · exact hf.trans c y w (hsh _ (by simp)) (hsh _ (by simp)) (hsh _ (by simp [hw'])) h1 ((List.pairwise_cons.1 hs'.2.1).1 w hw')
  refine List.pairwise_append.2 ⟨hs'.1, List.pairwise_cons.2 ⟨hcw, hs'.2.1⟩, ?_⟩
  intro x hx y hy
  rcases List.mem_cons.1 hy with rfl | hy
  · exact hu x hx
  · exact hs'.2.2 x hx y hy
mutual
def itH : H → List T
  | .mk x k => x :: itK k
def itK : List H → List T
  | [] => []
  | h :: t => itH h ++ itK t
end
def itO : Option H → List T
  | none => []
  | some h => itH h
mutual
/-- no item stands ahead of the one above it -/
def hoH (f : T → T → Int) : H → Prop
  | .mk x k => hoK f x k
def hoK (f : T → T → Int) (x : T) : List H → Prop
  | [] => True
  | h :: t => f x h.x ≤ 0 ∧ hoH f h ∧ hoK f x t
end
def hoO (f : T → T → Int) : Option H → Prop
  | none => True
  | some h => hoH f h
theorem itH_eq (h : H) : itH h = h.x :: itK h.kids := by cases h; simp only [itH, H.x, H.kids]
theorem hoH_eq (f : T → T → Int) (h : H) : hoH f h = hoK f h.x h.kids := by cases h; simp only [hoH, H.x, H.kids]
mutual
theorem allH_it {p : T → Prop} : ∀ h : H, AllH p h → ∀ y ∈ itH h, p y
  | .mk x k, h, y, hy => by
    simp only [AllH] at h
    simp only [itH] at hy
    rcases List.mem_cons.1 hy with rfl | hy
    · exact h.1
    · exact allK_it k h.2 y hy
theorem allK_it {p : T → Prop} : ∀ l : List H, AllK p l → ∀ y ∈ itK l, p y
  | [], _, y, hy => by simp only [itK] at hy; cases hy
  | h :: t, hl, y, hy => by
    simp only [AllK] at hl
    simp only [itK] at hy
    rcases List.mem_append.1 hy with hy | hy
    · exact allH_it h hl.1 y hy
    · exact allK_it t hl.2 y hy
end
theorem allO_it {p : T → Prop} {o : Option H} (h : AllO p o) : ∀ y ∈ itO o, p y := by
  cases o with
  | none => intro y hy; cases hy
  | some h' => exact allH_it h' h
section
variable {c f : T → T → Int} {P : T → Prop}
theorem meld_it (a b : Option H) : (itO (meldH c a b)).Perm (itO a ++ itO b) := by
  cases a with
  | none => simp [meldH, itO]
  | some a =>
    cases b with
    | none => simp [meldH, itO]
    | some b =>
      simp only [meldH]
      split
      · simp only [itO, itH, itK, itH_eq a, itH_eq b]
        simp only [List.cons_append]
        refine (List.Perm.swap _ _ _).trans (List.Perm.cons _ ?_)
        exact (List.perm_middle).symm
      · simp only [itO, itH, itK, itH_eq a, itH_eq b]
        simp only [List.cons_append]
        refine List.Perm.cons _ ?_
        rw [show b.x :: (itK b.kids ++ itK a.kids) = (b.x :: itK b.kids) ++ itK a.kids by simp]
        exact List.perm_append_comm
theorem meld_ho (hf : LineV f) (hc : ∀ x y, P x → P y → c x y = f x y) {a b : Option H} (pa : AllO P a) (pb : AllO P b) (ha : hoO f a) (hb : hoO f b) : hoO f (meldH c a b) := by
  cases a with
  | none => exact hb
  | some a =>
    cases b with
    | none => exact ha
    | some b =>
      have px : P a.x := allH_it a pa _ (by rw [itH_eq]; simp)
      have py : P b.x := allH_it b pb _ (by rw [itH_eq]; simp)
      have e := hc b.x a.x py px
      have t := hf.turn a.x b.x
      simp only [meldH]
      split
      · rename_i h
        simp only [hoO, hoH, hoK]
        exact ⟨by omega, ha, (hoH_eq f b) ▸ hb⟩
      · rename_i h
        simp only [hoO, hoH, hoK]
        exact ⟨by omega, hb, (hoH_eq f a) ▸ ha⟩
def itS : List (Option H) → List T
  | [] => []
  | h :: t => itO h ++ itS t
def hoS (f : T → T → Int) : List (Option H) → Prop
  | [] => True
  | h :: t => hoO f h ∧ hoS f t
theorem two_it : ∀ l : List H, (itS (twoH c l)).Perm (itK l)
  | [] => by simp [twoH, itS, itK]
  | [h] => by simp [twoH, itS, itK, itO]
  | h :: g :: t => by
    simp only [twoH, itS, itK]
    rw [← List.append_assoc]
    exact List.Perm.append (meld_it (some h) (some g)) (two_it t)
theorem fold_it : ∀ l : List (Option H), (itO (foldH c l)).Perm (itS l)
  | [] => by simp [foldH, itS, itO]
  | h :: t => by
    simp only [foldH, itS]
    exact (meld_it h _).trans (List.Perm.append_left _ (fold_it t))
theorem paired_it (l : List H) : (itO (pairedH c l)).Perm (itK l) := (fold_it _).trans (two_it l)
theorem hoK_all (x : T) : ∀ l : List H, hoK f x l → ∀ h ∈ l, f x h.x ≤ 0 ∧ hoH f h
  | [], _, h, hh => by cases hh
  | g :: t, hl, h, hh => by
    simp only [hoK] at hl
    rcases List.mem_cons.1 hh with rfl | hh
    · exact ⟨hl.1, hl.2.1⟩
    · exact hoK_all x t hl.2.2 h hh
theorem two_ho (hf : LineV f) (hc : ∀ x y, P x → P y → c x y = f x y) (x : T) : ∀ l : List H, AllK P l → hoK f x l → hoS f (twoH c l)
  | [], _, _ => trivial
  | [h], _, hl => by simp only [hoK] at hl; exact ⟨hl.2.1, trivial⟩
  | h :: g :: t, pl, hl => by
    simp only [hoK] at hl
    simp only [AllK] at pl
    exact ⟨meld_ho hf hc (a := some h) (b := some g) pl.1 pl.2.1 hl.2.1 hl.2.2.2.1, two_ho hf hc x t pl.2.2 hl.2.2.2.2⟩
theorem fold_ho (hf : LineV f) (hc : ∀ x y, P x → P y → c x y = f x y) : ∀ l : List (Option H), AllS P l → hoS f l → hoO f (foldH c l)
  | [], _, _ => trivial
  | h :: t, pl, hl => meld_ho hf hc pl.1 (fold_all c t pl.2) hl.1 (fold_ho hf hc t pl.2 hl.2)
theorem paired_ho (hf : LineV f) (hc : ∀ x y, P x → P y → c x y = f x y) (x : T) {l : List H} (pl : AllK P l) (hl : hoK f x l) : hoO f (pairedH c l) := fold_ho hf hc _ (two_all c l pl) (two_ho hf hc x l pl hl)
mutual
theorem ho_min (hf : LineV f) (hP : ∀ x, P x → Shp x) : ∀ h : H, AllH P h → hoH f h → ∀ y ∈ itH h, f h.x y ≤ 0
  | .mk x k, ph, hh, y, hy => by
    simp only [AllH] at ph
    simp only [hoH] at hh
    simp only [itH] at hy
    rcases List.mem_cons.1 hy with rfl | hy
    · have := (hf.eq y y (hP _ ph.1) (hP _ ph.1)).2 rfl
      show f y y ≤ 0
      omega
    · exact ho_minK hf hP x ph.1 k ph.2 hh y hy
theorem ho_minK (hf : LineV f) (hP : ∀ x, P x → Shp x) (x : T) (px : P x) : ∀ l : List H, AllK P l → hoK f x l → ∀ y ∈ itK l, f x y ≤ 0
  | [], _, _, y, hy => by simp only [itK] at hy; cases hy
  | h :: t, pl, hl, y, hy => by
    simp only [AllK] at pl
    simp only [hoK] at hl
    simp only [itK] at hy
    rcases List.mem_append.1 hy with hy | hy
    · have h1 := ho_min hf hP h pl.1 hl.2.1 y hy
      have ph : P h.x := allH_it h pl.1 _ (by rw [itH_eq]; simp)
      exact hf.trans x h.x y (hP _ px) (hP _ ph) (hP _ (allH_it h pl.1 y hy)) hl.1 h1
    · exact ho_minK hf hP x px t pl.2 hl.2.2 y hy
end
theorem sorted_it : ∀ (n : Nat) (h : Option H), sizeO h = n → (sortedH c n h).Perm (itO h)
  | 0, none, _ => by simp [sortedH, itO]
  | 0, some (.mk x k), hs => by simp [sizeO, sizeH] at hs
  | n + 1, none, hs => by simp [sizeO] at hs
  | n + 1, some h, hs => by
    have h1 : sizeO (pairedH c h.kids) = n := by rw [paired_size]; cases h; simp only [sizeO, sizeH] at hs; simp only [H.kids]; omega
    simp only [sortedH, itO, itH_eq]
    exact List.Perm.cons _ ((sorted_it n _ h1).trans (paired_it _))
theorem sorted_ho (hf : LineV f) (hP : ∀ x, P x → Shp x) (hc : ∀ x y, P x → P y → c x y = f x y) : ∀ (n : Nat) (h : Option H), sizeO h = n → AllO P h → hoO f h → SortedL f (sortedH c n h)
  | 0, _, _, _, _ => List.Pairwise.nil
  | n + 1, none, _, _, _ => List.Pairwise.nil
  | n + 1, some h, hs, ph, hh => by
    have h1 : sizeO (pairedH c h.kids) = n := by rw [paired_size]; cases h; simp only [sizeO, sizeH] at hs; simp only [H.kids]; omega
    have pk : AllK P h.kids := by cases h; simp only [AllO, AllH] at ph; exact ph.2
    have hk : hoK f h.x h.kids := (hoH_eq f h) ▸ hh
    have px : P h.x := by cases h; simp only [AllO, AllH] at ph; exact ph.1
    simp only [sortedH]
    refine List.pairwise_cons.2 ⟨fun y hy => ?_, sorted_ho hf hP hc n _ h1 (paired_all c pk) (paired_ho hf hc h.x pk hk)⟩
    have := (sorted_it n _ h1).mem_iff.1 hy
    have := (paired_it h.kids).mem_iff.1 this
    exact ho_minK hf hP h.x px h.kids pk hk y this
/-- a heap and a sorted list of the same items -/
structure SameQ (f : T → T → Int) (P : T → Prop) (h : Option H) (L : List T) : Prop where
  all : AllO P h
  ho : hoO f h
  perm : (itO h).Perm L
  srt : SortedL f L
theorem SameQ.allL {h : Option H} {L : List T} (s : SameQ f P h L) : ∀ x ∈ L, P x := fun x hx => allO_it s.all x (s.perm.mem_iff.2 hx)
theorem SameQ.size {h : Option H} {L : List T} (s : SameQ f P h L) : sizeO h = L.length := by
  rw [← s.perm.length_eq, ← (sorted_it (c := f) _ h rfl).length_eq]
  have : ∀ (n : Nat) (h : Option H), sizeO h = n → (sortedH f n h).length = n := by
    intro n
    induction n with
    | zero => intro h _; rfl
    | succ n ih =>
      intro h hs
      cases h with
      | none => simp [sizeO] at hs
      | some h =>
        simp only [sortedH, List.length_cons]
        rw [ih _ (by rw [paired_size]; cases h; simp only [sizeO, sizeH] at hs; simp only [H.kids]; omega)]
  exact (this _ h rfl).symm
theorem SameQ.empty : SameQ f P none [] := ⟨trivial, trivial, List.Perm.refl _, List.Pairwise.nil⟩
theorem SameQ.none_iff {h : Option H} {L : List T} (s : SameQ f P h L) : h = none ↔ L = [] := by
  cases h with
  | none => exact ⟨fun _ => (List.Perm.nil_eq s.perm).symm, fun _ => rfl⟩
  | some h =>
    refine ⟨fun e => (by cases e), fun e => ?_⟩
    have := s.perm.length_eq
    rw [e] at this
    simp only [itO, itH_eq] at this
    simp at this
/-- taking the first item -/
theorem SameQ.pop (hf : LineV f) (hP : ∀ x, P x → Shp x) (hc : ∀ x y, P x → P y → c x y = f x y) {h : H} {L : List T} (s : SameQ f P (some h) L) : ∃ L', L = h.x :: L' ∧ SameQ f P (pairedH c h.kids) L' := by
  have pk : AllK P h.kids := by have := s.all; cases h; simp only [AllO, AllH] at this; exact this.2
  have px : P h.x := by have := s.all; cases h; simp only [AllO, AllH] at this; exact this.1
  have hk : hoK f h.x h.kids := (hoH_eq f h) ▸ s.ho
  have hp := s.perm
  simp only [itO, itH_eq] at hp
  have hL := s.allL
  have hs := s.srt
  cases L with
  | nil => exact absurd hp.length_eq (by simp)
  | cons y L' =>
    have hs' := List.pairwise_cons.1 hs
    have hxy : h.x = y := by
      have py := hL y (by simp)
      have h1 : f h.x y ≤ 0 := ho_min hf hP h s.all s.ho y (by rw [itH_eq]; exact hp.mem_iff.2 (by simp))
      have h2 : f y h.x ≤ 0 := by
        rcases List.mem_cons.1 (hp.mem_iff.1 (List.mem_cons_self)) with e | e
        · rw [e]; have := (hf.eq y y (hP _ py) (hP _ py)).2 rfl; omega
        · exact hs'.1 _ e
      have t := hf.turn h.x y
      exact (hf.eq h.x y (hP _ px) (hP _ py)).1 (by omega)
    subst hxy
    refine ⟨L', rfl, ⟨paired_all c pk, paired_ho hf hc h.x pk hk, (paired_it h.kids).trans (List.Perm.cons_inv hp), hs'.2⟩⟩
/-- an item more -/
theorem SameQ.push (hf : LineV f) (hP : ∀ x, P x → Shp x) (hc : ∀ x y, P x → P y → c x y = f x y) {h : Option H} {U W : List T} {x : T} (s : SameQ f P h (U ++ W)) (px : P x) (hu : ∀ y ∈ U, f y x ≤ 0) (hw : ∀ y, W.head? = some y → f x y ≤ 0) : SameQ f P (pushH c h x) (U ++ x :: W) := by
  have pX : AllO P (some (H.mk x [])) := by simp only [AllO, AllH, AllK]; exact ⟨px, trivial⟩
  refine ⟨meld_all c s.all pX, meld_ho hf hc s.all pX s.ho (by simp only [hoO, hoH, hoK]), ?_, put_sorted hf (fun z hz => ?_) s.srt hu hw⟩
  · refine (meld_it h (some (.mk x []))).trans ?_
    simp only [itO, itH, itK]
    refine (List.perm_append_comm).trans ?_
    simp only [List.singleton_append]
    exact (List.Perm.cons _ s.perm).trans (List.perm_middle).symm
  · rcases List.mem_append.1 hz with h | h
    · exact hP _ (s.allL z (by simp [h]))
    · rcases List.mem_cons.1 h with rfl | h
      · exact hP _ px
      · exact hP _ (s.allL z (by simp [h]))
end
end Go.Vl
end

section
set_option linter.unusedVariables false
set_option linter.unusedSimpArgs false
namespace Go.Vl
open Go
/-- the place of a key in a map's row, and whether it is there -/
def keyF : List T → T → Nat × Bool
  | k :: x :: l, s => if 0 ≤ cmpV k s then (0, decide (cmpV k s = 0)) else ((keyF l s).1 + 2, (keyF l s).2)
  | [_], _ => (1, false)
  | [], _ => (0, false)
theorem keyF_lt : ∀ (l : List T) (s : T), (keyF l s).2 = true → (keyF l s).1 + 1 < l.length
  | k :: x :: l, s, h => by
    unfold keyF at h ⊢
    by_cases hc : 0 ≤ cmpV k s
    · rw [if_pos hc] at h ⊢; simp
    · rw [if_neg hc] at h ⊢
      have := keyF_lt l s h
      simp only [List.length_cons]; omega
  | [_], _, h => by cases h
  | [], _, h => by cases h
/-- the first place at which a question is true, from a place on; -1: none -/
def fstF (p : T → Bool) : List T → Nat → Int
  | [], _ => -1
  | a :: l, i => if p a = true then (i : Int) else fstF p l (i + 1)
theorem fstF_any (p : T → Bool) : ∀ (l : List T) (i : Nat), decide (fstF p l i ≥ 0) = l.any p
  | [], i => rfl
  | a :: l, i => by
    unfold fstF
    by_cases h : p a = true
    · rw [if_pos h]; simp [h]
    · rw [if_neg h, fstF_any p l (i + 1)]; simp [h]
/-- a step's place in a list -/
def idxF (n : Nat) (s : T) : Option Nat := if s.f0 = 2 ∧ 0 ≤ s.f1 ∧ s.f1 < (n : Int) then some s.f1.toNat else none
/-- the part of a value at a step -/
def partF (v s : T) : Option T :=
  if v.f0 = 6 then (if (keyF v.f3 s).2 = true then v.f3[(keyF v.f3 s).1 + 1]? else none)
  else if v.f0 = 4 then (match idxF v.f3.length s with | some i => v.f3[i]? | none => none)
  else if v.f0 = 5 then (if (v.f3.any fun x => decide (cmpV x s = 0)) = true then some s else none)
  else none
def nilT : T := ⟨0, 0, ⟨#[]⟩, []⟩
/-- what stands at a path -/
def atF : T → List T → Option T
  | v, [] => some v
  | v, s :: p => match partF v s with
    | some w => atF w p
    | none => none
end Go.Vl
namespace Go.Vl
open Go
/-- a map's row with something under a key -/
def insF (l : List T) (s w : T) : List T := if (keyF l s).2 = true then l.set ((keyF l s).1 + 1) w else l.take (keyF l s).1 ++ [s, w] ++ l.drop (keyF l s).1
theorem keyF_le : ∀ (l : List T) (s : T), (keyF l s).1 ≤ l.length
  | k :: x :: l, s => by
    unfold keyF
    by_cases hc : 0 ≤ cmpV k s
    · rw [if_pos hc]; simp
    · rw [if_neg hc]
      have := keyF_le l s
      simp only [List.length_cons]; omega
  | [_], _ => by unfold keyF; simp
  | [], _ => by unfold keyF; simp
/-- a value with another one at a path; none: the path does not lead there -/
def putF : T → List T → T → Option T
  | _, [], x => some x
  | v, s :: p, x =>
    if v.f0 = 4 then (match idxF v.f3.length s with
      | some i => (putF ((partF v s).getD nilT) p x).map fun w => ⟨4, 0, ⟨#[]⟩, v.f3.set i w⟩
      | none => if s.f0 = 2 ∧ s.f1 = (v.f3.length : Int) then (putF ((partF v s).getD nilT) p x).map fun w => ⟨4, 0, ⟨#[]⟩, v.f3 ++ [w]⟩ else none)
    else if v.f0 = 0 ∨ v.f0 = 6 then (putF ((partF v s).getD nilT) p x).map fun w => ⟨6, 0, ⟨#[]⟩, insF v.f3 s w⟩
    else none
end Go.Vl
namespace Go.Vl
open Go
theorem insF_nil (s w : T) : insF [] s w = [s, w] := rfl
theorem insF_cons (k x : T) (l : List T) (s w : T) : insF (k :: x :: l) s w = if 0 ≤ cmpV k s then (if cmpV k s = 0 then k :: w :: l else s :: w :: k :: x :: l) else k :: x :: insF l s w := by
  unfold insF
  by_cases h : 0 ≤ cmpV k s
  · have e : keyF (k :: x :: l) s = (0, decide (cmpV k s = 0)) := by conv => lhs; unfold keyF; rw [if_pos h]
    rw [e, if_pos h]
    by_cases h0 : cmpV k s = 0
    · simp [h0]
    · simp [h0]
  · have e : keyF (k :: x :: l) s = ((keyF l s).1 + 2, (keyF l s).2) := by conv => lhs; unfold keyF; rw [if_neg h]
    rw [e, if_neg h]
    by_cases h2 : (keyF l s).2 = true
    · simp [h2]
    · simp [h2]
theorem ins_all : ∀ (l : List T) (s w u : T), l.length % 2 = 0 → keyF (insF l s w) s = ((keyF l s).1, true) ∧ insF (insF l s w) s u = insF l s u ∧ (insF l s w)[(keyF l s).1 + 1]? = some w
  | [], s, w, u, _ => by
    have hs := cmpV_self s
    rw [insF_nil, insF_cons, insF_nil]
    have e : keyF [s, w] s = (0, true) := by unfold keyF; rw [hs]; rfl
    have e0 : keyF [] s = (0, false) := rfl
    rw [e, e0, hs]
    exact ⟨rfl, rfl, rfl⟩
  | [x], s, w, u, h => by simp at h
  | k :: x :: l, s, w, u, h => by
    have hs := cmpV_self s
    rw [insF_cons k x l s w, insF_cons k x l s u]
    by_cases hc : 0 ≤ cmpV k s
    · have e : keyF (k :: x :: l) s = (0, decide (cmpV k s = 0)) := by conv => lhs; unfold keyF; rw [if_pos hc]
      rw [if_pos hc, if_pos hc, e]
      by_cases h0 : cmpV k s = 0
      · rw [if_pos h0, if_pos h0, insF_cons, if_pos hc, if_pos h0]
        have e2 : keyF (k :: w :: l) s = (0, true) := by unfold keyF; rw [if_pos hc]; simp [h0]
        exact ⟨e2, rfl, rfl⟩
      · rw [if_neg h0, if_neg h0, insF_cons, hs]
        have e2 : keyF (s :: w :: k :: x :: l) s = (0, true) := by unfold keyF; rw [hs]; rfl
        exact ⟨e2, rfl, rfl⟩
    · have e : keyF (k :: x :: l) s = ((keyF l s).1 + 2, (keyF l s).2) := by conv => lhs; unfold keyF; rw [if_neg hc]
      rw [if_neg hc, if_neg hc, e]
      obtain ⟨i1, i2, i3⟩ := ins_all l s w u (by simp only [List.length_cons] at h; omega)
      refine ⟨?_, ?_, ?_⟩
      · conv => lhs; unfold keyF
        rw [if_neg hc, i1]
      · rw [insF_cons, if_neg hc, i2]
      · simp only [List.getElem?_cons_succ, Nat.add_right_comm _ 2 1]
        exact i3
end Go.Vl
end

section
set_option linter.unusedVariables false
set_option linter.unusedSimpArgs false
set_option linter.unusedSimpArgs false
namespace Go.Vl
/-- The reference's look at a letter, with the bytes as numbers. -/
def chkN (m b1 b2 b3 n lo hi : Nat) : Nat := if m < n then 0 else if b1 < lo ∨ hi < b1 then 0 else if n ≥ 3 ∧ ¬ (128 ≤ b2 ∧ b2 ≤ 191) then 0 else if n ≥ 4 ∧ ¬ (128 ≤ b3 ∧ b3 ≤ 191) then 0 else n
def utfR (m b0 b1 b2 b3 : Nat) : Nat :=
  if b0 < 128 then 1
  else if 194 ≤ b0 ∧ b0 ≤ 223 then chkN m b1 b2 b3 2 128 191
  else if b0 = 224 then chkN m b1 b2 b3 3 160 191
  else if b0 = 237 then chkN m b1 b2 b3 3 128 159
  else if 224 ≤ b0 ∧ b0 ≤ 239 then chkN m b1 b2 b3 3 128 191
  else if b0 = 240 then chkN m b1 b2 b3 4 144 191
  else if b0 = 244 then chkN m b1 b2 b3 4 128 143
  else if 240 ≤ b0 ∧ b0 ≤ 244 then chkN m b1 b2 b3 4 128 191
  else 0
/-- Is this no letter? -/
def badD (d : Nat × Nat) : Prop := d.1 = 65533 ∧ d.2 = 1
set_option maxHeartbeats 4000000 in
theorem utfR_dec (m b0 b1 b2 b3 : Nat) (h0 : b0 < 256) (h1 : b1 < 256) (h2 : b2 < 256) (h3 : b3 < 256) :
    (utfR m b0 b1 b2 b3 = 0 ∧ badD (Lib.decodeN m b0 b1 b2 b3)) ∨ (utfR m b0 b1 b2 b3 = (Lib.decodeN m b0 b1 b2 b3).2 ∧ 0 < utfR m b0 b1 b2 b3 ∧ ¬ badD (Lib.decodeN m b0 b1 b2 b3)) := by
  unfold utfR Lib.decodeN badD
  by_cases c0 : b0 < 128
  · rw [if_pos c0, if_pos c0]; exact .inr ⟨rfl, by omega, fun h => by have : b0 = 65533 := h.1; omega⟩
  simp only [if_neg c0]
  by_cases c1 : b0 / 32 = 6
  · rw [if_neg (show ¬ b0 = 224 by omega), if_neg (show ¬ b0 = 237 by omega), if_neg (show ¬ (224 ≤ b0 ∧ b0 ≤ 239) by omega), if_neg (show ¬ b0 = 240 by omega), if_neg (show ¬ b0 = 244 by omega), if_neg (show ¬ (240 ≤ b0 ∧ b0 ≤ 244) by omega)]
    rw [if_neg (show ¬ (b0 / 16 = 14 ∧ (1 < m ∧ b1 / 64 = 2) ∧ (2 < m ∧ b2 / 64 = 2)) by omega), if_neg (show ¬ (b0 / 8 = 30 ∧ (1 < m ∧ b1 / 64 = 2) ∧ (2 < m ∧ b2 / 64 = 2) ∧ (3 < m ∧ b3 / 64 = 2)) by omega)]
    unfold chkN
    repeat' split
    all_goals (dsimp only at *; omega)
  rw [if_neg (show ¬ (194 ≤ b0 ∧ b0 ≤ 223) by omega), if_neg (show ¬ (b0 / 32 = 6 ∧ (1 < m ∧ b1 / 64 = 2)) by omega)]
  by_cases c2 : b0 / 16 = 14
  · rw [if_neg (show ¬ b0 = 240 by omega), if_neg (show ¬ b0 = 244 by omega), if_neg (show ¬ (240 ≤ b0 ∧ b0 ≤ 244) by omega)]
    rw [if_neg (show ¬ (b0 / 8 = 30 ∧ (1 < m ∧ b1 / 64 = 2) ∧ (2 < m ∧ b2 / 64 = 2) ∧ (3 < m ∧ b3 / 64 = 2)) by omega), if_pos (show 224 ≤ b0 ∧ b0 ≤ 239 by omega)]
    unfold chkN
    by_cases k1 : b0 = 224
    · subst k1
      repeat' split
      all_goals (dsimp only at *; omega)
    rw [if_neg k1]
    by_cases k2 : b0 = 237
    · subst k2
      repeat' split
      all_goals (dsimp only at *; omega)
    rw [if_neg k2]
    repeat' split
    all_goals (dsimp only at *; omega)
  rw [if_neg (show ¬ b0 = 224 by omega), if_neg (show ¬ b0 = 237 by omega), if_neg (show ¬ (224 ≤ b0 ∧ b0 ≤ 239) by omega), if_neg (show ¬ (b0 / 16 = 14 ∧ (1 < m ∧ b1 / 64 = 2) ∧ (2 < m ∧ b2 / 64 = 2)) by omega)]
  by_cases c3 : b0 / 8 = 30
  · unfold chkN
    by_cases k1 : b0 = 240
    · subst k1
      repeat' split
      all_goals (dsimp only at *; omega)
    rw [if_neg k1]
    by_cases k2 : b0 = 244
    · subst k2
      repeat' split
      all_goals (dsimp only at *; omega)
    rw [if_neg k2]
    repeat' split
    all_goals (dsimp only at *; omega)
  · rw [if_neg (show ¬ b0 = 240 by omega), if_neg (show ¬ b0 = 244 by omega), if_neg (show ¬ (240 ≤ b0 ∧ b0 ≤ 244) by omega), if_neg (show ¬ (b0 / 8 = 30 ∧ (1 < m ∧ b1 / 64 = 2) ∧ (2 < m ∧ b2 / 64 = 2) ∧ (3 < m ∧ b3 / 64 = 2)) by omega)]
    left; exact ⟨rfl, rfl, rfl⟩
/-- a byte, as a number -/
def by_ (s : ByteArray) (p : Nat) : Nat := (s.get! p).toNat
theorem by_lt (s : ByteArray) (p : Nat) : by_ s p < 256 := (s.get! p).toNat_lt
/-- how many bytes the letter at a place has; 0: it is none -/
def utfN (s : ByteArray) (p : Nat) : Nat := utfR (s.size - p) (by_ s p) (by_ s (p + 1)) (by_ s (p + 2)) (by_ s (p + 3))
theorem utfN_dec (s : ByteArray) (p : Nat) : (utfN s p = 0 ∧ badD (Utf8.decode s p)) ∨ (utfN s p = (Utf8.decode s p).2 ∧ 0 < utfN s p ∧ ¬ badD (Utf8.decode s p)) := by
  rw [Lib.decode_at]
  exact utfR_dec _ _ _ _ _ (by_lt ..) (by_lt ..) (by_lt ..) (by_lt ..)
theorem getD_by (s : ByteArray) (p : Nat) (h : p < s.size) : (s.data.toList.getD p 0).toNat = by_ s p := by
  unfold by_
  obtain ⟨a⟩ := s
  show _ = (a[p]!).toNat
  have h' : p < a.size := h
  rw [getElem!_pos a p h', List.getD_eq_getElem?_getD]
  simp [h']
end Go.Vl
end

section
set_option linter.unusedVariables false
set_option linter.unusedSimpArgs false
namespace Go.Vl
open Go
/-- a map's row as pairs, and back -/
def flatK : List (T × T) → List T
  | [] => []
  | p :: l => p.1 :: p.2 :: flatK l
def prsK : List T → List (T × T)
  | k :: x :: l => (k, x) :: prsK l
  | _ => []
theorem flat_prs : ∀ l : List T, l.length % 2 = 0 → flatK (prsK l) = l
  | [], _ => rfl
  | [_], h => by simp at h
  | k :: x :: l, h => by
    simp only [prsK, flatK]
    rw [flat_prs l (by simp only [List.length_cons] at h; omega)]
theorem flat_app : ∀ l m : List (T × T), flatK (l ++ m) = flatK l ++ flatK m
  | [], m => rfl
  | p :: l, m => by simp only [List.cons_append, flatK, flat_app l m]
theorem flat_len : ∀ l : List (T × T), (flatK l).length = 2 * l.length
  | [] => rfl
  | p :: l => by simp only [flatK, List.length_cons, flat_len l]; omega
theorem flat_take : ∀ (l : List (T × T)) (n : Nat), (flatK l).take (2 * n) = flatK (l.take n)
  | [], n => by simp [flatK]
  | p :: l, 0 => by simp [flatK]
  | p :: l, n + 1 => by
    rw [show 2 * (n + 1) = 2 * n + 1 + 1 by omega]
    simp only [flatK, List.take_succ_cons, flat_take l n]
theorem flat_drop : ∀ (l : List (T × T)) (n : Nat), (flatK l).drop (2 * n) = flatK (l.drop n)
  | [], n => by simp [flatK]
  | p :: l, 0 => by simp [flatK]
  | p :: l, n + 1 => by
    rw [show 2 * (n + 1) = 2 * n + 1 + 1 by omega]
    simp only [flatK, List.drop_succ_cons, flat_drop l n]
theorem flat_mem : ∀ (l : List (T × T)) (a : T), a ∈ flatK l → ∃ p ∈ l, a = p.1 ∨ a = p.2
  | [], a, h => by cases h
  | p :: l, a, h => by
    simp only [flatK, List.mem_cons] at h
    rcases h with h | h | h
    · exact ⟨p, by simp, .inl h⟩
    · exact ⟨p, by simp, .inr h⟩
    · obtain ⟨q, hq, e⟩ := flat_mem l a h
      exact ⟨q, by simp [hq], e⟩
theorem mem_flat : ∀ (l : List (T × T)) (p : T × T), p ∈ l → p.1 ∈ flatK l ∧ p.2 ∈ flatK l
  | [], p, h => by cases h
  | q :: l, p, h => by
    simp only [flatK, List.mem_cons]
    rcases List.mem_cons.1 h with rfl | h
    · exact ⟨.inl rfl, .inr (.inl rfl)⟩
    · have := mem_flat l p h
      exact ⟨.inr (.inr this.1), .inr (.inr this.2)⟩
/-- two rows of pairs whose keys rise, put together: the second one counts -/
def mrgK : List (T × T) → List (T × T) → List (T × T)
  | [], b => b
  | p :: a, [] => p :: a
  | p :: a, q :: b => if cmpV p.1 q.1 < 0 then p :: mrgK a (q :: b) else if cmpV p.1 q.1 = 0 then q :: mrgK a b else q :: mrgK (p :: a) b
termination_by a b => a.length + b.length
theorem mrgK_nil (a : List (T × T)) : mrgK a [] = a := by cases a <;> simp [mrgK]
def keyedK : Nat → List (T × T) → List (T × T)
  | 0, l => l
  | n + 1, l => if l.length < 2 then l else mrgK (keyedK n (l.take (l.length / 2))) (keyedK n (l.drop (l.length / 2)))
/-- the keys rise -/
def IncK (l : List (T × T)) : Prop := l.Pairwise fun p q => cmpV p.1 q.1 < 0
def insK : List (T × T) → T → T → List (T × T)
  | [], s, w => [(s, w)]
  | p :: l, s, w => if cmpV p.1 s < 0 then p :: insK l s w else if cmpV p.1 s = 0 then (s, w) :: l else (s, w) :: p :: l
theorem mrg_app : ∀ a b : List (T × T), (∀ p ∈ a, ∀ q ∈ b, cmpV p.1 q.1 < 0) → mrgK a b = a ++ b
  | [], b, _ => by simp [mrgK]
  | p :: a, [], _ => by simp [mrgK]
  | p :: a, q :: b, h => by
    rw [mrgK, if_pos (h p (by simp) q (by simp)), mrg_app a (q :: b) (fun p hp => h p (by simp [hp]))]
    rfl
theorem keyed_inc : ∀ (n : Nat) (l : List (T × T)), IncK l → keyedK n l = l
  | 0, l, _ => rfl
  | n + 1, l, h => by
    unfold keyedK
    split
    · rfl
    · have h' : IncK (l.take (l.length / 2) ++ l.drop (l.length / 2)) := by rw [List.take_append_drop]; exact h
      have h2 := List.pairwise_append.1 h'
      rw [keyed_inc n _ h2.1, keyed_inc n _ h2.2.1, mrg_app _ _ h2.2.2, List.take_append_drop]
theorem ins_head (b : List (T × T)) (s w : T) : ∃ q r, insK b s w = q :: r ∧ (q = (s, w) ∨ ∃ b', b = q :: b') := by
  cases b with
  | nil => exact ⟨_, _, rfl, .inl rfl⟩
  | cons p b =>
    unfold insK
    split
    · exact ⟨_, _, rfl, .inr ⟨_, rfl⟩⟩
    · split
      · exact ⟨_, _, rfl, .inl rfl⟩
      · exact ⟨_, _, rfl, .inl rfl⟩
theorem mrg_ins (s w : T) (hs : Shp s) : ∀ a b : List (T × T), IncK (a ++ b) → (∀ p ∈ a ++ b, Shp p.1) → mrgK a (insK b s w) = insK (a ++ b) s w
  | [], b, _, _ => by simp [mrgK]
  | p :: a, b, h, hS => by
    have h' := List.pairwise_cons.1 (show ((p :: (a ++ b)).Pairwise fun p q => cmpV p.1 q.1 < 0) from h)
    have ih := mrg_ins s w hs a b h'.2 (fun q hq => hS q (by simp only [List.cons_append, List.mem_cons]; exact .inr hq))
    have hp : Shp p.1 := hS p (by simp)
    have hab : ∀ q ∈ b, cmpV p.1 q.1 < 0 := fun q hq => h'.1 q (by simp [hq])
    have happ : mrgK a b = a ++ b := mrg_app a b (fun q hq r hr => (List.pairwise_append.1 h'.2).2.2 q hq r hr)
    by_cases hc : cmpV p.1 s < 0
    · obtain ⟨q, r, e, hq⟩ := ins_head b s w
      have hpq : cmpV p.1 q.1 < 0 := by
        rcases hq with rfl | ⟨b', rfl⟩
        · exact hc
        · exact hab q (by simp)
      rw [show p :: a ++ b = p :: (a ++ b) from rfl]
      conv => rhs; unfold insK
      rw [if_pos hc, ← ih, e, mrgK, if_pos hpq]
    · have eb : insK b s w = (s, w) :: b := by
        cases b with
        | nil => rfl
        | cons q b =>
          have hq : Shp q.1 := hS q (by simp)
          have h1 := hab q (by simp)
          have h2 : ¬ cmpV q.1 s < 0 := fun g => hc (cmpV_trans _ _ _ hp hq hs h1 g)
          have h3 : ¬ cmpV q.1 s = 0 := fun g => by
            have := cmpV_zero _ _ hq hs g
            rw [this] at h1; exact hc h1
          unfold insK
          rw [if_neg h2, if_neg h3]
      rw [show p :: a ++ b = p :: (a ++ b) from rfl]
      conv => rhs; unfold insK
      rw [if_neg hc, eb, mrgK, if_neg (show ¬ cmpV p.1 (s, w).1 < 0 from hc)]
      by_cases h0 : cmpV p.1 s = 0
      · rw [if_pos (show cmpV p.1 (s, w).1 = 0 from h0), if_pos h0, happ]
      · rw [if_neg (show ¬ cmpV p.1 (s, w).1 = 0 from h0), if_neg h0, mrg_app (p :: a) b (fun q hq r hr => (List.pairwise_append.1 (show IncK ((p :: a) ++ b) from h)).2.2 q hq r hr)]
        rfl
/-- what the reference's sorting makes of a map's pairs and one more -/
theorem keyed_ins (s w : T) (hs : Shp s) : ∀ (n : Nat) (l : List (T × T)), l.length < n → IncK l → (∀ p ∈ l, Shp p.1) → keyedK n (l ++ [(s, w)]) = insK l s w
  | 0, l, h, _, _ => by omega
  | n + 1, l, h, hI, hS => by
    unfold keyedK
    by_cases h2 : (l ++ [(s, w)]).length < 2
    · rw [if_pos h2]
      have : l = [] := List.eq_nil_of_length_eq_zero (by simp at h2; omega)
      subst this; rfl
    · rw [if_neg h2]
      have hl : (l ++ [(s, w)]).length = l.length + 1 := by simp
      have hm : (l ++ [(s, w)]).length / 2 ≤ l.length := by rw [hl] at h2 ⊢; omega
      have h1 : 1 ≤ (l ++ [(s, w)]).length / 2 := by omega
      generalize (l ++ [(s, w)]).length / 2 = m at hm h1
      rw [List.take_append_of_le_length hm, List.drop_append_of_le_length hm]
      have h' : IncK (l.take m ++ l.drop m) := by rw [List.take_append_drop]; exact hI
      have hp := List.pairwise_append.1 h'
      rw [keyed_inc n _ hp.1, keyed_ins s w hs n (l.drop m) (by rw [List.length_drop]; omega) hp.2.1 (fun p hp => hS p (List.mem_of_mem_drop hp)), mrg_ins s w hs _ _ h' (by rw [List.take_append_drop]; exact hS), List.take_append_drop]
theorem ins_flat (s w : T) (hs : Shp s) : ∀ l : List (T × T), (∀ p ∈ l, Shp p.1) → insF (flatK l) s w = flatK (insK l s w)
  | [], _ => by rw [flatK, insF_nil]; rfl
  | p :: l, h => by
    have ih := ins_flat s w hs l (fun q hq => h q (by simp [hq]))
    rw [flatK, insF_cons]
    unfold insK
    by_cases hc : cmpV p.1 s < 0
    · rw [if_neg (by omega), if_pos hc, ih]; rfl
    · rw [if_pos (by omega), if_neg hc]
      by_cases h0 : cmpV p.1 s = 0
      · rw [if_pos h0, if_pos h0, cmpV_zero _ _ (h p (by simp)) hs h0]; rfl
      · rw [if_neg h0, if_neg h0]; rfl
/-- a right map's keys rise -/
theorem rise_inc : ∀ l : List T, (∀ a ∈ l, Shp a) → Rise 2 l → IncK (prsK l)
  | [], _, _ => List.Pairwise.nil
  | [_], _, _ => List.Pairwise.nil
  | k :: x :: l, hS, hR => by
    have hR' : Rise 2 l := fun i hi h => hR (i + 2) (by omega) (by simp only [List.length_cons]; omega)
    have ih := rise_inc l (fun a ha => hS a (by simp [ha])) hR'
    refine List.pairwise_cons.2 ⟨?_, ih⟩
    match l, hS, hR, ih with
    | [], _, _, _ => intro p hp; cases hp
    | [_], _, _, _ => intro p hp; cases hp
    | k' :: x' :: l', hS, hR, ih =>
      have h0 : cmpV k k' < 0 := hR 0 rfl (by simp)
      intro p hp
      rcases List.mem_cons.1 hp with rfl | hp
      · exact h0
      · refine cmpV_trans k k' p.1 (hS k (by simp)) (hS k' (by simp)) (hS p.1 ?_) h0 ((List.pairwise_cons.1 ih).1 p hp)
        have key : ∀ (m : List T) (q : T × T), q ∈ prsK m → q.1 ∈ m := by
          intro m
          induction m using prsK.induct with
          | case1 a b m ih => intro q hq; simp only [prsK, List.mem_cons] at hq; rcases hq with rfl | hq; simp; have := ih q hq; simp [this]
          | case2 m hm => intro q hq; unfold prsK at hq; split at hq; exact absurd rfl (hm _ _ _); cases hq
        have := key l' p hp
        simp [this]
theorem prs_mem (l : List T) (h2 : l.length % 2 = 0) (p : T × T) (h : p ∈ prsK l) : p.1 ∈ l ∧ p.2 ∈ l := by
  have := mem_flat (prsK l) p h
  rw [flat_prs l h2] at this
  exact this
/-- what the reference puts under a key is what the program does -/
theorem keyed_map (l : List T) (s w : T) (h2 : l.length % 2 = 0) (hS : ∀ a ∈ l, Shp a) (hs : Shp s) (hR : Rise 2 l) (n : Nat) (hn : l.length < n) : flatK (keyedK n (prsK l ++ [(s, w)])) = insF l s w := by
  have hlen := flat_len (prsK l)
  rw [flat_prs l h2] at hlen
  have hS' : ∀ p ∈ prsK l, Shp p.1 := fun p hp => hS _ (prs_mem l h2 p hp).1
  rw [keyed_ins s w hs n (prsK l) (by omega) (rise_inc l hS hR) hS', ← ins_flat s w hs _ hS', flat_prs l h2]
end Go.Vl
namespace Go.Vl
open Go
/-- the reference's search for a key -/
def linK : List T → T → Nat → Option Nat
  | k :: _ :: l, s, i => if cmpV k s = 0 then some i else linK l s (i + 2)
  | _, _, _ => none
/-- and for a member -/
def linM : List T → T → Nat → Option Nat
  | k :: l, s, i => if cmpV k s = 0 then some i else linM l s (i + 1)
  | [], _, _ => none
theorem linK_none (s : T) : ∀ (l : List T) (i : Nat), (∀ p ∈ prsK l, 0 < cmpV p.1 s) → linK l s i = none
  | [], _, _ => rfl
  | [_], _, _ => rfl
  | k :: x :: l, i, h => by
    unfold linK
    rw [if_neg (by have := h (k, x) (by simp [prsK]); simp only at this; omega)]
    exact linK_none s l (i + 2) (fun p hp => h p (by simp [prsK, hp]))
theorem linK_key (s : T) (hs : Shp s) : ∀ (l : List T) (i : Nat), (∀ a ∈ l, Shp a) → l.length % 2 = 0 → IncK (prsK l) → linK l s i = if (keyF l s).2 = true then some (i + (keyF l s).1) else none
  | [], i, _, _, _ => rfl
  | [_], i, _, h, _ => by simp at h
  | k :: x :: l, i, hS, h2, hI => by
    have hI' := List.pairwise_cons.1 (show ((k, x) :: prsK l).Pairwise fun p q => cmpV p.1 q.1 < 0 from hI)
    have h2' : l.length % 2 = 0 := by simp only [List.length_cons] at h2; omega
    have ih := linK_key s hs l (i + 2) (fun a ha => hS a (by simp [ha])) h2' hI'.2
    have hk : Shp k := hS k (by simp)
    unfold linK keyF
    by_cases hc : 0 ≤ cmpV k s
    · rw [if_pos hc]
      by_cases h0 : cmpV k s = 0
      · rw [if_pos h0]; simp [h0]
      · rw [if_neg h0, linK_none s l _ (fun p hp => ?_)]
        · simp [h0]
        · have h1 := hI'.1 p hp
          have hp' : Shp p.1 := hS _ (by have := (prs_mem l h2' p hp).1; simp [this])
          have h3 : cmpV s k < 0 := by have := cmpV_turn k s; omega
          have h4 := cmpV_trans s k p.1 hs hk hp' h3 h1
          have := cmpV_turn s p.1
          omega
    · rw [if_neg (show ¬ cmpV k s = 0 by omega), if_neg hc, ih]
      by_cases hb : (keyF l s).2 = true
      · rw [if_pos hb, if_pos hb]; congr 1; omega
      · rw [if_neg hb, if_neg hb]
theorem linM_some (s : T) : ∀ (l : List T) (i j : Nat), linM l s i = some j → i ≤ j ∧ ∃ x, l[j - i]? = some x ∧ cmpV x s = 0
  | [], i, j, h => by cases h
  | k :: l, i, j, h => by
    unfold linM at h
    split at h
    · rename_i h0; cases h; exact ⟨Nat.le_refl _, k, by simp, h0⟩
    · obtain ⟨h1, x, h2, h3⟩ := linM_some s l (i + 1) j h
      refine ⟨by omega, x, ?_, h3⟩
      rw [show j - i = j - (i + 1) + 1 by omega, List.getElem?_cons_succ]
      exact h2
theorem linM_any (s : T) : ∀ (l : List T) (i : Nat), (linM l s i).isSome = l.any fun x => decide (cmpV x s = 0)
  | [], _ => rfl
  | k :: l, i => by
    unfold linM
    by_cases h : cmpV k s = 0
    · simp [h]
    · rw [if_neg h, linM_any s l (i + 1)]; simp [h]
end Go.Vl
end

section
set_option linter.unusedVariables false
set_option linter.unusedSimpArgs false
namespace Go.Vl
open Go
/-- a set's members rise -/
theorem rise1_inc : ∀ l : List T, (∀ a ∈ l, Shp a) → Rise 1 l → l.Pairwise fun a b => cmpV a b < 0
  | [], _, _ => List.Pairwise.nil
  | k :: l, hS, hR => by
    have hR' : Rise 1 l := fun i hi h => hR (i + 1) (by omega) (by simp only [List.length_cons]; omega)
    have ih := rise1_inc l (fun a ha => hS a (by simp [ha])) hR'
    refine List.pairwise_cons.2 ⟨?_, ih⟩
    match l, hS, hR, ih with
    | [], _, _, _ => intro p hp; cases hp
    | k' :: l', hS, hR, ih =>
      have h0 : cmpV k k' < 0 := hR 0 rfl (by simp)
      intro p hp
      rcases List.mem_cons.1 hp with rfl | hp
      · exact h0
      · exact cmpV_trans k k' p (hS k (by simp)) (hS k' (by simp)) (hS p (by simp [hp])) h0 ((List.pairwise_cons.1 ih).1 p hp)
theorem fstF_lin (s : T) : ∀ (l : List T) (i : Nat), fstF (fun x => decide (cmpV x s = 0)) l i = match linM l s i with | some j => (j : Int) | none => -1
  | [], i => rfl
  | k :: l, i => by
    unfold fstF linM
    by_cases h : cmpV k s = 0
    · simp [h]
    · simp [h, fstF_lin s l (i + 1)]
/-- behind a member no other one is the same -/
theorem rest_other (s : T) (hs : Shp s) (l : List T) (hS : ∀ a ∈ l, Shp a) (hR : Rise 1 l) (j : Nat) (h : linM l s 0 = some j) : (l.drop (j + 1)).filter (fun x => !decide (cmpV x s = 0)) = l.drop (j + 1) := by
  obtain ⟨_, x, hx, h0⟩ := linM_some s l 0 j h
  rw [Nat.sub_zero] at hx
  have hj : j < l.length := (List.getElem?_eq_some_iff.1 hx).1
  have ex : l[j] = x := (List.getElem?_eq_some_iff.1 hx).2
  have es : x = s := cmpV_zero _ _ (hS x (List.mem_of_getElem? hx)) hs h0
  have hP := (rise1_inc l hS hR)
  have hP2 : (l.drop j).Pairwise fun a b => cmpV a b < 0 := hP.sublist (List.drop_sublist _ _)
  rw [List.drop_eq_getElem_cons hj, ex, es] at hP2
  refine List.filter_eq_self.2 (fun y hy => ?_)
  have h1 := (List.pairwise_cons.1 hP2).1 y hy
  have h2 := cmpV_turn s y
  simp; omega
/-- a value's row without what stands at a step -/
def remF (v s : T) : List T :=
  if v.f0 = 6 then v.f3.take (keyF v.f3 s).1 ++ v.f3.drop ((keyF v.f3 s).1 + 2)
  else if v.f0 = 4 then (match idxF v.f3.length s with | some i => v.f3.take i ++ v.f3.drop (i + 1) | none => v.f3)
  else (match linM v.f3 s 0 with | some j => v.f3.take j ++ v.f3.drop (j + 1) | none => v.f3)
theorem rem_mem {v s a : T} (h : a ∈ remF v s) : a ∈ v.f3 := by
  have key : ∀ (l : List T) (i j : Nat), a ∈ l.take i ++ l.drop j → a ∈ l := fun l i j h => by
    rcases List.mem_append.1 h with h | h
    · exact List.mem_of_mem_take h
    · exact List.mem_of_mem_drop h
  unfold remF at h
  split at h
  · exact key _ _ _ h
  · split at h
    · split at h
      · exact key _ _ _ h
      · exact h
    · split at h
      · exact key _ _ _ h
      · exact h
theorem rem_len (v s : T) : (remF v s).length ≤ v.f3.length := by
  have key : ∀ (l : List T) (i j : Nat), i ≤ j → (l.take i ++ l.drop j).length ≤ l.length := fun l i j h => by
    rw [List.length_append, List.length_take, List.length_drop]; omega
  unfold remF
  split
  · exact key _ _ _ (by omega)
  · split
    · split
      · exact key _ _ _ (by omega)
      · exact Nat.le_refl _
    · split
      · exact key _ _ _ (by omega)
      · exact Nat.le_refl _
/-- a value without what stands at a path that leads there; none: it leads through a set -/
def withoutF : T → List T → Option T
  | _, [] => none
  | v, s :: p => if p = [] then some ⟨v.f0, 0, ⟨#[]⟩, remF v s⟩ else if v.f0 = 5 then none
    else match withoutF ((partF v s).getD nilT) p with
      | some w => putF v [s] w
      | none => none
end Go.Vl
end
