-- cut down by bundle.py (the session's own program) from the text YtmebfblabccblaaDoorPl0, to what this claim names
import Derived.Test.YtmebfblabccblaaDoorZHashMoreXH0
import Derived.Test.YtmebfblabccblaaDoorZHashMoreRk
import Derived.Test.YtmebfblabccblaaDoorZHashMoreXH12
import Derived.Laws.BitsLemmas
namespace Go.Proofs.YtmebfblabccblaaDoor.XH
open Go.RowKit Go.Proofs.YtmebfblabccblaaDoorW.PrintWords Go.Proofs.YtmebfblabccblaaDoorW.PrintLast Go.Proofs.YtmebfblabccblaaDoorW.PrintMore
attribute [local go_sem] max2_int min2_int max_two min_two max_three min_three max_four min_four   -- for this text's walks alone
set_option linter.unusedVariables false
set_option linter.unusedSimpArgs false

theorem bits_u32 (op : BinOp) (x y : Int) : 0 ≤ Go.bits op .u32 x y ∧ Go.bits op .u32 x y < 4294967296 := by
  unfold bits; rw [IntKind.wrap_u32]; omega
theorem w64_ {x : Int} (h0 : -9223372036854775808 ≤ x) (h1 : x ≤ 9223372036854775807) : wrap64 x = x := by unfold wrap64; omega
theorem rot15 (x : Int) : ∃ r, bits_RotateLeft32.f x 15 = some r := by
  unfold bits_RotateLeft32.f
  rw [if_pos (by decide +kernel), if_pos (by decide +kernel)]
  exact ⟨_, rfl⟩
theorem rot13 (x : Int) : ∃ r, bits_RotateLeft32.f x 13 = some r := by
  unfold bits_RotateLeft32.f
  rw [if_pos (by decide +kernel), if_pos (by decide +kernel)]
  exact ⟨_, rfl⟩
theorem mixK_some (a : Int) : ∃ r, murmur_MixK.f a = some r := by
  unfold murmur_MixK.f
  obtain ⟨r, h⟩ := rot15 (a * 3432918353 % 4294967296)
  rw [h]; exact ⟨_, rfl⟩
theorem mixH_some (a b : Int) : ∃ r, murmur_MixH.f a b = some r := by
  unfold murmur_MixH.f
  obtain ⟨r, h⟩ := rot13 (Go.bits .xor .u32 a b)
  rw [h]; exact ⟨_, rfl⟩
def U32 (r : Int) : Prop := 0 ≤ r ∧ r < 4294967296
theorem fin_some (a n : Int) : ∃ r, murmur_Fin.f a n = some r ∧ U32 r := ⟨_, rfl, bits_u32 ..⟩
theorem coll_some (a n : Int) : ∃ r, murmur_Coll.f a n = some r ∧ U32 r := by
  unfold murmur_Coll.f
  obtain ⟨p, hp⟩ := mixK_some a
  obtain ⟨q, hq⟩ := mixH_some 0 p
  obtain ⟨r, hr, h⟩ := fin_some q (n % 4294967296)
  exact ⟨r, by rw [hp, Option.bind_some, hq, Option.bind_some, hr, Option.bind_some], h⟩
theorem int_some (a : Int) : ∃ r, murmur_Int.f a = some r ∧ U32 r := by
  unfold murmur_Int.f
  by_cases h : a = 0
  · exact ⟨0, by rw [if_pos h], by unfold U32; omega⟩
  · rw [if_neg h]
    obtain ⟨p, hp⟩ := mixK_some (a % 4294967296)
    obtain ⟨q, hq⟩ := mixH_some 0 p
    obtain ⟨r, hr, h⟩ := fin_some q 4
    exact ⟨r, by rw [hp, Option.bind_some, hq, Option.bind_some, hr, Option.bind_some], h⟩
theorem long_some (a : Int) : ∃ r, murmur_Long.f a = some r ∧ U32 r := by
  unfold murmur_Long.f
  by_cases h : a = 0
  · exact ⟨0, by rw [if_pos h], by unfold U32; omega⟩
  · rw [if_neg h]
    obtain ⟨p, hp⟩ := mixK_some (a % 4294967296)
    obtain ⟨q, hq⟩ := mixH_some 0 p
    obtain ⟨p', hp'⟩ := mixK_some (IntKind.u64.wrap a / 4294967296 % 4294967296)
    obtain ⟨q', hq'⟩ := mixH_some q p'
    obtain ⟨r, hr, h⟩ := fin_some q' 8
    exact ⟨r, by rw [hp, Option.bind_some, hq, Option.bind_some, hp', Option.bind_some, hq', Option.bind_some, hr, Option.bind_some], h⟩
theorem up1 (i n : Nat) (hn : n ≤ 140737488355327) (h : i < n) : wrap64 ((i : Int) + 1) = ((i + 1 : Nat) : Int) := by rw [w64_ (by omega) (by omega)]; omega
theorem un_ev (x0 l : List Int) (hl : l.length ≤ 140737488355327) (d : Nat) : ∀ (i : Nat) (h : Int), i + d = l.length → 
    ∃ r, Ev (fun k => murmur_Unordered.l0 k x0 h l (l.length : Int) (i : Int)) r ∧ U32 r := by
  induction d with
  | zero =>
    intro i h hd
    obtain ⟨r, hr, hu⟩ := coll_some h (x0.length : Int)
    refine ⟨r, Ev.step (f := fun _ => some r) (fun k => ?_) (Ev.now r), hu⟩
    simp only [murmur_Unordered.l0]
    rw [if_neg (by omega), hr]; rfl
  | succ d ih =>
    intro i h hd
    obtain ⟨r, hr, hu⟩ := ih (i + 1) ((h + rd l (i : Int)) % 4294967296) (by omega)
    refine ⟨r, Ev.step (f := fun k => murmur_Unordered.l0 k x0 ((h + rd l (i : Int)) % 4294967296) l (l.length : Int) ((i + 1 : Nat) : Int)) (fun k => ?_) hr, hu⟩
    simp only [murmur_Unordered.l0]
    rw [if_pos (by omega), if_pos (by omega), if_pos (by omega), up1 i l.length hl (by omega)]
theorem or_ev (x0 l : List Int) (hl : l.length ≤ 140737488355327) (d : Nat) : ∀ (i : Nat) (h : Int), i + d = l.length → 
    ∃ r, Ev (fun k => murmur_Ordered.l0 k x0 h l (l.length : Int) (i : Int)) r ∧ U32 r := by
  induction d with
  | zero =>
    intro i h hd
    obtain ⟨r, hr, hu⟩ := coll_some h (x0.length : Int)
    refine ⟨r, Ev.step (f := fun _ => some r) (fun k => ?_) (Ev.now r), hu⟩
    simp only [murmur_Ordered.l0]
    rw [if_neg (by omega), hr]; rfl
  | succ d ih =>
    intro i h hd
    obtain ⟨r, hr, hu⟩ := ih (i + 1) (((31 * h) % 4294967296 + rd l (i : Int)) % 4294967296) (by omega)
    refine ⟨r, Ev.step (f := fun k => murmur_Ordered.l0 k x0 (((31 * h) % 4294967296 + rd l (i : Int)) % 4294967296) l (l.length : Int) ((i + 1 : Nat) : Int)) (fun k => ?_) hr, hu⟩
    simp only [murmur_Ordered.l0]
    rw [if_pos (by omega), if_pos (by omega), if_pos (by omega), up1 i l.length hl (by omega)]
theorem java_ev (l : List Int) (hl : l.length ≤ 140737488355327) (d : Nat) : ∀ (i : Nat) (h : Int), i + d = l.length → 
    ∃ r, Ev (fun k => murmur_Java.l0 k h l (l.length : Int) (i : Int)) r := by
  induction d with
  | zero =>
    intro i h hd
    refine ⟨h, Ev.step (f := fun _ => some h) (fun k => ?_) (Ev.now h)⟩
    simp only [murmur_Java.l0]
    rw [if_neg (by omega)]
  | succ d ih =>
    intro i h hd
    obtain ⟨r, hr⟩ := ih (i + 1) (wrap32 (wrap32 (31 * h) + wrap32 (rd l (i : Int)))) (by omega)
    refine ⟨r, Ev.step (f := fun k => murmur_Java.l0 k (wrap32 (wrap32 (31 * h) + wrap32 (rd l (i : Int)))) l (l.length : Int) ((i + 1 : Nat) : Int)) (fun k => ?_) hr⟩
    simp only [murmur_Java.l0]
    rw [if_pos (by omega), if_pos (by omega), if_pos (by omega), up1 i l.length hl (by omega)]
theorem unordered_ev (l : List Int) (hl : l.length ≤ 140737488355327) : ∃ r, Ev (fun k => murmur_Unordered.f k l) r ∧ U32 r := un_ev l l hl l.length 0 0 (by omega)
theorem ordered_ev (l : List Int) (hl : l.length ≤ 140737488355327) : ∃ r, Ev (fun k => murmur_Ordered.f k l) r ∧ U32 r := or_ev l l hl l.length 0 1 (by omega)
theorem javaw_ev (l : List Int) (hl : l.length ≤ 140737488355327) : ∃ r, Ev (fun k => murmur_Java.f k l) r := java_ev l hl l.length 0 0 (by omega)
theorem entry_ev (a b : Int) : ∃ r, Ev (fun k => hash_Entry.f k a b) r ∧ U32 r := by
  obtain ⟨r, hr, hu⟩ := ordered_ev [a, b] (by simp)
  exact ⟨r, hr.bind (f := fun _ t => some t) (Ev.now r), hu⟩
theorem speaks_ev : Ev spinneylaw04_speaks.f true := by
  refine Ev.of (fun k => spinneylaw04_speaks.mono k) (k := 40) ?_
  decide +kernel
theorem wraps_u32 (n : Int) (h₀ : 0 ≤ n) (h₁ : n < 2 ^ 32) : IntKind.u32.wrap n = n := by rw [IntKind.wrap_u32]; omega
theorem u64w (n : Int) (h₀ : 0 ≤ n) (h₁ : n < 18446744073709551616) : IntKind.u64.wrap n = n := by
  have e : IntKind.u64.wrap n = n % 18446744073709551616 := by simp [IntKind.wrap, IntKind.bits, IntKind.signed]
  rw [e]; omega
end Go.Proofs.YtmebfblabccblaaDoor.XH
