-- cut down by bundle.py (the session's own program) from the text YtmebfblabccblaaDoorPl7, to what this claim names
import Derived.Test.YtmebfblabccblaaDoorZHashMoreXH0
import Derived.Test.YtmebfblabccblaaDoorZHashMorePl6
namespace Go.Proofs.YtmebfblabccblaaDoor.XH
open Go.RowKit Go.Proofs.YtmebfblabccblaaDoorW.PrintWords Go.Proofs.YtmebfblabccblaaDoorW.PrintLast Go.Proofs.YtmebfblabccblaaDoorW.PrintMore
attribute [local go_sem] max2_int min2_int max_two min_two max_three min_three max_four min_four   -- for this text's walks alone
set_option linter.unusedVariables false
set_option linter.unusedSimpArgs false

theorem pairs_ev (n : Nat) : ∀ l : List Int, l.length = 2 * n → ∃ y : List Int, Ev (fun i => pairsH i l) y ∧ y.length = n := by
  induction n with
  | zero =>
    intro l hl
    obtain rfl := List.eq_nil_of_length_eq_zero (by omega : l.length = 0)
    exact ⟨[], Ev.congr (f := fun _ => some []) (fun i => by simp only [pairsH]) (Ev.now _), rfl⟩
  | succ n ih =>
    intro l hl
    match l, hl with
    | a :: b :: l, hl =>
      obtain ⟨y, hy, hn⟩ := ih l (by simp only [List.length_cons] at hl; omega)
      obtain ⟨r, hr, _⟩ := entry_ev a b
      refine ⟨r :: y, Ev.congr (f := fun i => (hash_Entry.f i a b).bind fun x => (pairsH i l).map (x :: ·)) (fun i => by simp only [pairsH]) ?_, by simp only [List.length_cons, hn]⟩
      refine hr.bind (f := fun i x => (pairsH i l).map (x :: ·)) ?_
      obtain ⟨K, hK⟩ := hy
      exact ⟨K, fun i hi => by show (pairsH i l).map (r :: ·) = _; rw [show pairsH i l = some y from hK i hi]; rfl⟩
def HashEv (a : S24) : Prop := ∃ r, U32 r ∧ Ev (fun i => hashV (fun _ => hash_units.f) i a) r ∧ Ev (fun i => hashV spinneyref04_units.f i a) r
def HashEvL (l : List S24) : Prop := ∃ x : List Int, x.length = l.length ∧ Ev (fun i => hashL (fun _ => hash_units.f) i l) x ∧ Ev (fun i => hashL spinneyref04_units.f i l) x
theorem hash_one (k n : Int) (t : ByteArray) (l : List S24) (hr : RightV ⟨k, n, t, l⟩) (E : HashEvL l) : HashEv ⟨k, n, t, l⟩ := by
  simp only [RightV] at hr
  obtain ⟨hp, hlen, hsh, hsix, _⟩ := hr
  obtain ⟨x, hx, hl1, hl2⟩ := E
  unfold HashEv
  simp only [hashV]
  by_cases k1 : k = 1
  · simp only [if_pos k1]
    exact ⟨if n = 1 then 1231 else 1237, by unfold U32; split <;> omega, Ev.now _, Ev.now _⟩
  simp only [if_neg k1]
  by_cases k2 : k = 2
  · simp only [if_pos k2]
    obtain ⟨r, h, hu⟩ := long_some n
    exact ⟨r, hu, Ev.congr (fun _ => h) (Ev.now _), Ev.congr (fun _ => h) (Ev.now _)⟩
  simp only [if_neg k2]
  by_cases k3 : k = 3
  · simp only [if_pos k3]
    obtain ⟨hz, hu⟩ := hp.2.2.2 k3
    have hul : ∀ b p, (unitsFrom t b p).length ≤ 2 * b := by
      intro b
      induction b with
      | zero => intro p; simp only [unitsFrom, List.length_nil]; omega
      | succ b ih =>
        intro p
        simp only [unitsFrom]
        split
        · have := ih (p + (Utf8.decode t p).2)
          rw [List.length_append]
          split <;> simp only [List.length_cons, List.length_nil] <;> omega
        · simp only [List.length_nil]; omega
    obtain ⟨j, hj⟩ := javaw_ev (unitsFrom t t.size 0) (by have := hul t.size 0; omega)
    obtain ⟨r, h, hr⟩ := int_some j
    refine ⟨r, hr, ?_, ?_⟩
    · refine Ev.bind (g := fun _ => hash_units.f t) (a := unitsFrom t t.size 0) (f := fun i x => (murmur_Java.f i x).bind fun j => murmur_Int.f j) (Ev.congr (f := fun _ => some _) (fun _ => by unfold hash_units.f; rw [if_pos (by omega)]) (Ev.now _)) ?_
      exact hj.bind (f := fun _ j => murmur_Int.f j) (Ev.congr (fun _ => h) (Ev.now _))
    · refine Ev.bind (g := fun i => spinneyref04_units.f i t) (a := unitsFrom t t.size 0) (f := fun i x => (murmur_Java.f i x).bind fun j => murmur_Int.f j) (unitsw_ev t (by omega) hu) ?_
      exact hj.bind (f := fun _ j => murmur_Int.f j) (Ev.congr (fun _ => h) (Ev.now _))
  simp only [if_neg k3]
  by_cases k4 : k = 4
  · simp only [if_pos k4]
    obtain ⟨r, h, hr⟩ := ordered_ev x (by omega)
    exact ⟨r, hr, hl1.bind (f := fun i x => murmur_Ordered.f i x) h, hl2.bind (f := fun i x => murmur_Ordered.f i x) h⟩
  simp only [if_neg k4]
  by_cases k5 : k = 5
  · simp only [if_pos k5]
    obtain ⟨r, h, hr⟩ := unordered_ev x (by omega)
    exact ⟨r, hr, hl1.bind (f := fun i x => murmur_Unordered.f i x) h, hl2.bind (f := fun i x => murmur_Unordered.f i x) h⟩
  simp only [if_neg k5]
  by_cases k6 : k = 6
  · simp only [if_pos k6]
    obtain ⟨y, hy, hyl⟩ := pairs_ev (x.length / 2) x (by have := hsix k6; omega)
    obtain ⟨r, h, hr⟩ := unordered_ev y (by omega)
    exact ⟨r, hr, hl1.bind (f := fun i x => (pairsH i x).bind fun y => murmur_Unordered.f i y) (hy.bind (f := fun i y => murmur_Unordered.f i y) h), hl2.bind (f := fun i x => (pairsH i x).bind fun y => murmur_Unordered.f i y) (hy.bind (f := fun i y => murmur_Unordered.f i y) h)⟩
  · simp only [if_neg k6]
    exact ⟨0, by unfold U32; omega, Ev.now _, Ev.now _⟩
theorem hash_cons (a : S24) (l : List S24) (hl : l.length ≤ 1048576) (ha : HashEv a) (h : HashEvL l) : HashEvL (a :: l) := by
  obtain ⟨r, _, h1, h2⟩ := ha
  obtain ⟨x, hx, g1, g2⟩ := h
  have key : ∀ u : Nat → ByteArray → Option (List Int), Ev (fun i => hashV u i a) r → Ev (fun i => hashL u i l) x → Ev (fun i => hashL u i (a :: l)) (r :: x) := by
    intro u p q
    refine Ev.congr (f := fun i => (hashV u i a).bind fun x => (hashL u i l).map (x :: ·)) (fun i => by simp only [hashL]; rw [if_pos hl]) ?_
    refine p.bind (f := fun i x => (hashL u i l).map (x :: ·)) ?_
    obtain ⟨K, hK⟩ := q
    exact ⟨K, fun i hi => by show (hashL u i l).map (r :: ·) = _; rw [show hashL u i l = some x from hK i hi]; rfl⟩
  exact ⟨r :: x, by simp only [List.length_cons, hx], key _ h1 g1, key _ h2 g2⟩
mutual
theorem hash_ev : (a : S24) → RightV a → HashEv a
  | ⟨k, n, t, l⟩, h => hash_one k n t l h (hash_evL l (by simp only [RightV] at h; exact h.2.1) (by simp only [RightV] at h; exact h.2.2.2.2))
theorem hash_evL : (l : List S24) → l.length ≤ 1024 → RightL l → HashEvL l
  | [], _, _ => ⟨[], rfl, Ev.congr (f := fun _ => some []) (fun _ => by simp only [hashL]) (Ev.now _), Ev.congr (f := fun _ => some []) (fun _ => by simp only [hashL]) (Ev.now _)⟩
  | x :: l, hl, h => hash_cons x l (by simp only [List.length_cons] at hl; omega) (hash_ev x (by simp only [RightL] at h; exact h.1)) (hash_evL l (by simp only [List.length_cons] at hl; omega) (by simp only [RightL] at h; exact h.2))
end
theorem full_ev (k n : Int) (t : ByteArray) (l : List S24) (h : WfV ⟨k, n, t, l⟩) :
    (∃ r, U32 r ∧ RightV ⟨k, n, t, l⟩ ∧ Ev (fun i => spinneyref01_Right.f i k n t l) true ∧ Ev (fun i => hash_Full.f i k n t l) (r, 0) ∧ Ev (fun i => spinneyref04_Full.f i k n t l) (r, 0) ∧ Ev (fun i => spinneyref04_Whole.f i k n t l) r) ∨
    (Ev (fun i => spinneyref01_Right.f i k n t l) false ∧ Ev (fun i => hash_Full.f i k n t l) (0, 3) ∧ Ev (fun i => spinneyref04_Full.f i k n t l) (0, 3)) := by
  obtain ⟨b, hR, hR', hC, hb⟩ := right_ev k n t l h
  cases b with
  | true =>
    obtain ⟨r, hu, h1, h2⟩ := hash_ev _ (hb rfl)
    have h1 : Ev (fun i => hash_full.f i k n t l) r := h1
    have h2 : Ev (fun i => spinneyref04_Whole.f i k n t l) r := h2
    refine .inl ⟨r, hu, hb rfl, hR', ?_, ?_, h2⟩
    · refine hC.bind (f := fun i x => if x = 0 then (hash_full.f i k n t l).bind fun y => some (y, 0) else some (0, x)) ?_
      exact Ev.congr (f := fun i => (hash_full.f i k n t l).bind fun y => some (y, 0)) (fun i => rfl) (h1.bind (f := fun _ y => some (y, 0)) (Ev.now _))
    · refine hR'.bind (f := fun i x => if x = true then (spinneyref04_Whole.f i k n t l).bind fun y => some (y, 0) else some (0, 3)) ?_
      exact Ev.congr (f := fun i => (spinneyref04_Whole.f i k n t l).bind fun y => some (y, 0)) (fun i => rfl) (h2.bind (f := fun _ y => some (y, 0)) (Ev.now _))
  | false =>
    refine .inr ⟨hR', ?_, ?_⟩
    · exact hC.bind (f := fun i x => if x = 0 then (hash_full.f i k n t l).bind fun y => some (y, 0) else some (0, x)) (Ev.now _)
    · exact hR'.bind (f := fun i x => if x = true then (spinneyref04_Whole.f i k n t l).bind fun y => some (y, 0) else some (0, 3)) (Ev.now _)
end Go.Proofs.YtmebfblabccblaaDoor.XH
