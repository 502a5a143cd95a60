-- cut down by bundle.py (the session's own program) from the text YtmebfblabccblaaDoorPl4, to what this claim names
import Derived.Test.YtmebfblabccblaaDoorZHashMoreXH0
import Derived.Test.YtmebfblabccblaaDoorZHashMorePl3
import Derived.Test.YtmebfblabccblaaDoorZHashMorePl2
import Derived.Test.YtmebfblabccblaaDoorZHashMoreXH9
import Derived.Test.YtmebfblabccblaaDoorZHashMoreXH3
namespace Go.Proofs.YtmebfblabccblaaDoor.XH
open Go.RowKit Go.Proofs.YtmebfblabccblaaDoorW.PrintWords Go.Proofs.YtmebfblabccblaaDoorW.PrintLast Go.Proofs.YtmebfblabccblaaDoorW.PrintMore
attribute [local go_sem] max2_int min2_int max_two min_two max_three min_three max_four min_four   -- for this text's walks alone
set_option linter.unusedVariables false
set_option linter.unusedSimpArgs false

theorem vcmp_is (a b : S24) : value_Compare.f a.f0 a.f1 a.f2 a.f3 b.f0 b.f1 b.f2 b.f3 = some (cmpV a b) := by
  cases a; cases b; rfl
theorem sorted_ev (l : List S24) (hw : WfL l) (hl : l.length ≤ 4611686018427387904) (st : Nat) (hs : st = 1 ∨ st = 2) (x0 x1 : Int) (x2 : ByteArray) (d : Nat) :
    ∀ i : Nat, l.length - i ≤ d → st ≤ i → i ≤ l.length + 2 → ∃ b, Ev (fun k => value_form.l0 k (st : Int) (i : Int) x0 x1 x2 l) b ∧ Ev (fun k => spinneyref01_own.l0 k (st : Int) (i : Int) x0 x1 x2 l) b := by
  have stop : ∀ i : Nat, l.length ≤ i → ∃ b, Ev (fun k => value_form.l0 k (st : Int) (i : Int) x0 x1 x2 l) b ∧ Ev (fun k => spinneyref01_own.l0 k (st : Int) (i : Int) x0 x1 x2 l) b := by
    intro i h
    refine ⟨true, Ev.step (f := fun _ => some true) (fun k => ?_) (Ev.now _), Ev.step (f := fun _ => some true) (fun k => ?_) (Ev.now _)⟩
    · simp only [value_form.l0]
      rw [if_neg (by omega)]
    · simp only [spinneyref01_own.l0]
      rw [if_neg (by omega)]
  induction d with
  | zero => intro i h1 h2 h3; exact stop i (by omega)
  | succ d ih =>
    intro i h1 h2 h3
    by_cases hi : i < l.length
    · have e1 : wrap64 ((i : Int) - (st : Int)) = ((i - st : Nat) : Int) := by unfold wrap64; omega
      have e2 : wrap64 ((i : Int) + (st : Int)) = ((i + st : Nat) : Int) := by unfold wrap64; omega
      have hj : i - st < l.length := by omega
      have hc := cmp_evL l hw _ (List.getElem_mem hj) (l[i])
      obtain ⟨b, hb1, hb2⟩ := ih (i + st) (by omega) (by omega) (by omega)
      have s1 : ∀ k, value_form.l0 (k + 1) (st : Int) (i : Int) x0 x1 x2 l = if cmpV l[i - st] l[i] ≥ 0 then some false else value_form.l0 k (st : Int) ((i + st : Nat) : Int) x0 x1 x2 l := by
        intro k
        simp only [value_form.l0]
        rw [e1, e2, if_pos (by omega), if_pos (by omega), if_pos (by omega), if_pos (by omega), rd_at l _ hj, rd_at l i hi, vcmp_is, Option.bind_some]
      have s2 : ∀ k, spinneyref01_own.l0 (k + 1) (st : Int) (i : Int) x0 x1 x2 l = (spinneyref01_Compare.f k (l[i - st]).f0 (l[i - st]).f1 (l[i - st]).f2 (l[i - st]).f3 (l[i]).f0 (l[i]).f1 (l[i]).f2 (l[i]).f3).bind fun t => if t ≥ 0 then some false else spinneyref01_own.l0 k (st : Int) ((i + st : Nat) : Int) x0 x1 x2 l := by
        intro k
        simp only [spinneyref01_own.l0]
        rw [e1, e2, if_pos (by omega), if_pos (by omega), if_pos (by omega), if_pos (by omega), rd_at l _ hj, rd_at l i hi]
      by_cases hz : cmpV l[i - st] l[i] ≥ 0
      · refine ⟨false, Ev.step (f := fun _ => some false) (fun k => by rw [s1, if_pos hz]) (Ev.now _), Ev.step s2 ?_⟩
        exact Ev.bind (f := fun k t => if t ≥ 0 then some false else spinneyref01_own.l0 k (st : Int) ((i + st : Nat) : Int) x0 x1 x2 l) hc (Ev.congr (f := fun _ => some false) (fun k => if_pos hz) (Ev.now _))
      · refine ⟨b, Ev.step (f := fun k => value_form.l0 k (st : Int) ((i + st : Nat) : Int) x0 x1 x2 l) (fun k => by rw [s1, if_neg hz]) hb1, Ev.step s2 ?_⟩
        exact Ev.bind (f := fun k t => if t ≥ 0 then some false else spinneyref01_own.l0 k (st : Int) ((i + st : Nat) : Int) x0 x1 x2 l) hc (Ev.congr (f := fun k => spinneyref01_own.l0 k (st : Int) ((i + st : Nat) : Int) x0 x1 x2 l) (fun k => if_neg hz) hb2)
    · exact stop i (by omega)
def PlainV (k n : Int) (t : ByteArray) : Prop := (0 ≤ k ∧ k ≤ 6) ∧ (k = 3 ∨ t.toList = []) ∧ (k = 2 ∨ n = 0 ∨ (k = 1 ∧ n = 1)) ∧ (k = 3 → t.size ≤ 256 ∧ utfOk t = true)
theorem plain_ev (k n : Int) (t : ByteArray) (l : List S24) : ∃ p, Ev (fun i => value_plain.f i k n t l) p ∧ (p = true ↔ PlainV k n t) := by
  have j0t : Ev (fun i => value_plain.j0 i true k n t l) false := Ev.step (f := fun _ => some false) (fun i => by simp only [value_plain.j0, if_true]) (Ev.now _)
  have j0f : ∀ p, (if k = 1 then (if n = 0 then some true else some (n == 1)) else if k = 3 then (if (t.size : Int) ≤ 256 then (value_utf.f t).bind fun x => some x else some false) else if k ≥ 0 then some (decide (k ≤ 6)) else some false) = some p → Ev (fun i => value_plain.j0 i false k n t l) p := by
    intro p hp
    refine Ev.step (f := fun _ => some p) (fun i => ?_) (Ev.now _)
    simp only [value_plain.j0]
    rw [if_neg (by decide)]; exact hp
  have body : ∀ c : Bool, (c = true ↔ (k ≠ 2 ∧ k ≠ 1 ∧ n ≠ 0)) → (k = 3 ∨ t.toList = []) → ∃ p, Ev (fun i => value_plain.j0 i c k n t l) p ∧ (p = true ↔ PlainV k n t) := by
    intro c hc ht
    cases c with
    | true =>
      have := hc.1 rfl
      refine ⟨false, j0t, ?_⟩
      unfold PlainV
      constructor
      · intro h; cases h
      · intro h; omega
    | false =>
      have hn : ¬ (k ≠ 2 ∧ k ≠ 1 ∧ n ≠ 0) := fun h => by have := hc.2 h; cases this
      by_cases k1 : k = 1
      · subst k1
        by_cases n0 : n = 0
        · exact ⟨true, j0f _ (by rw [if_pos rfl, if_pos n0]), by simp only [true_iff]; exact ⟨by omega, ht, .inr (.inl n0), by omega⟩⟩
        · refine ⟨n == 1, j0f _ (by rw [if_pos rfl, if_neg n0]), ?_⟩
          rw [beq_iff_eq]
          constructor
          · intro h; exact ⟨by omega, ht, .inr (.inr ⟨rfl, h⟩), by omega⟩
          · rintro ⟨_, _, h, _⟩; omega
      · by_cases k3 : k = 3
        · subst k3
          by_cases hz : (t.size : Int) ≤ 256
          · refine ⟨utfOk t, j0f _ (by rw [if_neg (by decide), if_pos rfl, if_pos hz]; rfl), ?_⟩
            constructor
            · intro h; exact ⟨by omega, ht, by omega, fun _ => ⟨by omega, h⟩⟩
            · rintro ⟨_, _, _, h⟩; exact (h rfl).2
          · refine ⟨false, j0f _ (by rw [if_neg (by decide), if_pos rfl, if_neg hz]), ?_⟩
            constructor
            · intro h; cases h
            · rintro ⟨_, _, _, h⟩; have := (h rfl).1; omega
        · by_cases k0 : k ≥ 0
          · refine ⟨decide (k ≤ 6), j0f _ (by rw [if_neg k1, if_neg k3, if_pos k0]), ?_⟩
            rw [decide_eq_true_eq]
            constructor
            · intro h; exact ⟨by omega, ht, by omega, by omega⟩
            · rintro ⟨h, _⟩; omega
          · refine ⟨false, j0f _ (by rw [if_neg k1, if_neg k3, if_neg k0]), ?_⟩
            constructor
            · intro h; cases h
            · rintro ⟨h, _⟩; omega
  have tail : (k = 3 ∨ t.toList = []) → ∃ p, Ev (fun i => if k = 2 then value_plain.j0 i false k n t l else if k = 1 then value_plain.j0 i false k n t l else value_plain.j0 i (n != 0) k n t l) p ∧ (p = true ↔ PlainV k n t) := by
    intro ht
    by_cases k2 : k = 2
    · obtain ⟨p, h1, h2⟩ := body false (by constructor; (intro h; cases h); (intro h; omega)) ht
      exact ⟨p, Ev.congr (fun i => if_pos k2) h1, h2⟩
    · by_cases k1 : k = 1
      · obtain ⟨p, h1, h2⟩ := body false (by constructor; (intro h; cases h); (intro h; omega)) ht
        exact ⟨p, Ev.congr (fun i => by rw [if_neg k2, if_pos k1]) h1, h2⟩
      · obtain ⟨p, h1, h2⟩ := body (n != 0) (by rw [bne_iff_ne]; exact ⟨fun h => ⟨k2, k1, h⟩, fun h => h.2.2⟩) ht
        exact ⟨p, Ev.congr (fun i => by rw [if_neg k2, if_neg k1]) h1, h2⟩
  by_cases k3 : k = 3
  · obtain ⟨p, h1, h2⟩ := tail (.inl k3)
    exact ⟨p, Ev.congr (fun i => by unfold value_plain.f; rw [if_pos k3]) h1, h2⟩
  · by_cases ht : t.toList = []
    · obtain ⟨p, h1, h2⟩ := tail (.inr ht)
      exact ⟨p, Ev.congr (fun i => by unfold value_plain.f; rw [if_neg k3, if_pos ht]) h1, h2⟩
    · refine ⟨false, Ev.congr (fun i => by unfold value_plain.f; rw [if_neg k3, if_neg ht]) j0t, ?_⟩
      constructor
      · intro h; cases h
      · rintro ⟨_, h, _⟩; rcases h with h | h <;> contradiction
theorem form_ev (k n : Int) (t : ByteArray) (l : List S24) (hw : WfL l) (hl : l.length ≤ 4611686018427387904) :
    ∃ b, Ev (fun i => value_form.f i k n t l) b ∧ (k ≠ 4 → k ≠ 5 → k ≠ 6 → b = (l.length == 0)) ∧ (k = 6 → b = true → l.length % 2 = 0) ∧ (k ≠ 3 → Ev (fun i => spinneyref01_own.j2 i (decide (¬ (k = 4 ∨ k = 5 ∨ k = 6) ∧ l.length > 0)) k n t l) b) := by
  have J2 : ∀ b, Ev (fun i => spinneyref01_own.j3 i (if k = 6 then 2 else 1) k n t l) b → Ev (fun i => spinneyref01_own.j2 i false k n t l) b := by
    intro b h
    refine Ev.step (f := fun i => spinneyref01_own.j3 i (if k = 6 then 2 else 1) k n t l) (fun i => ?_) h
    simp only [spinneyref01_own.j2]
    rw [if_neg (by decide)]
    by_cases c : k = 6
    · rw [if_pos c, if_pos c]
    · rw [if_neg c, if_neg c]
  by_cases k4 : k = 4
  · refine ⟨true, Ev.congr (f := fun _ => some true) (fun i => by unfold value_form.f; rw [if_pos k4]) (Ev.now _), by omega, by omega, fun _ => ?_⟩
    rw [show decide (¬ (k = 4 ∨ k = 5 ∨ k = 6) ∧ l.length > 0) = false from decide_eq_false (by omega)]
    refine J2 _ ?_
    rw [if_neg (by omega)]
    refine Ev.step (f := fun _ => some true) (fun i => ?_) (Ev.now _)
    simp only [spinneyref01_own.j3]
    rw [if_neg (by decide), if_pos (by omega), if_pos k4]
  by_cases k6 : k = 6
  · by_cases hm : (l.length : Int) % 2 = 1
    · refine ⟨false, Ev.congr (f := fun _ => some false) (fun i => by unfold value_form.f; rw [if_neg k4, if_pos k6, if_pos hm]) (Ev.now _), by omega, by simp, fun _ => ?_⟩
      rw [show decide (¬ (k = 4 ∨ k = 5 ∨ k = 6) ∧ l.length > 0) = false from decide_eq_false (by omega)]
      refine J2 _ ?_
      rw [if_pos k6]
      refine Ev.step (f := fun _ => some false) (fun i => ?_) (Ev.now _)
      simp only [spinneyref01_own.j3]
      rw [if_neg (by decide), if_neg (by omega)]
    · obtain ⟨b, h1, h2⟩ := sorted_ev l hw hl 2 (.inr rfl) k n t l.length 2 (by omega) (by omega) (by omega)
      refine ⟨b, Ev.congr (f := fun i => value_form.j0 i 2 k n t l) (fun i => by unfold value_form.f; rw [if_neg k4, if_pos k6, if_neg hm]) (Ev.step (fun i => rfl) h1), by omega, by omega, fun _ => ?_⟩
      rw [show decide (¬ (k = 4 ∨ k = 5 ∨ k = 6) ∧ l.length > 0) = false from decide_eq_false (by omega)]
      refine J2 _ ?_
      rw [if_pos k6]
      refine Ev.step (f := fun i => spinneyref01_own.l0 i 2 2 k n t l) (fun i => ?_) h2
      simp only [spinneyref01_own.j3]
      rw [if_neg (by decide), if_pos (by omega), if_neg k4]
  obtain ⟨b, h1, h2⟩ := sorted_ev l hw hl 1 (.inl rfl) k n t l.length 1 (by omega) (by omega) (by omega)
  have O3 : Ev (fun i => spinneyref01_own.j3 i (if k = 6 then 2 else 1) k n t l) b := by
    rw [if_neg k6]
    refine Ev.step (f := fun i => spinneyref01_own.l0 i 1 1 k n t l) (fun i => ?_) h2
    simp only [spinneyref01_own.j3]
    rw [if_neg (by decide), if_pos (by omega), if_neg k4]
  by_cases k5 : k = 5
  · refine ⟨b, Ev.congr (f := fun i => value_form.j0 i 1 k n t l) (fun i => by unfold value_form.f; rw [if_neg k4, if_neg k6, if_pos k5]) (Ev.step (fun i => rfl) h1), by omega, by omega, fun _ => ?_⟩
    rw [show decide (¬ (k = 4 ∨ k = 5 ∨ k = 6) ∧ l.length > 0) = false from decide_eq_false (by omega)]
    exact J2 _ O3
  · refine ⟨l.length == 0, Ev.congr (f := fun _ => some (l.length == 0)) (fun i => ?_) (Ev.now _), fun _ _ _ => rfl, by omega, fun _ => ?_⟩
    · unfold value_form.f
      rw [if_neg k4, if_neg k6, if_neg k5]
      congr 1
      by_cases c : l.length = 0
      · rw [beq_iff_eq.2 c, beq_iff_eq.2 (show (l.length : Int) = 0 by omega)]
      · rw [beq_eq_false_iff_ne.2 c, beq_eq_false_iff_ne.2 (show (l.length : Int) ≠ 0 by omega)]
    · by_cases c : l.length > 0
      · rw [show decide (¬ (k = 4 ∨ k = 5 ∨ k = 6) ∧ l.length > 0) = true from decide_eq_true (by omega), beq_eq_false_iff_ne.2 (show l.length ≠ 0 by omega)]
        exact Ev.step (f := fun _ => some false) (fun i => by simp only [spinneyref01_own.j2, if_true]) (Ev.now _)
      · rw [show decide (¬ (k = 4 ∨ k = 5 ∨ k = 6) ∧ l.length > 0) = false from decide_eq_false (by omega), beq_iff_eq.2 (show l.length = 0 by omega)]
        refine J2 _ ?_
        rw [if_neg k6]
        refine Ev.step (f := fun i => spinneyref01_own.l0 i 1 1 k n t l) (fun i => ?_) (Ev.step (f := fun _ => some true) (fun i => ?_) (Ev.now _))
        · simp only [spinneyref01_own.j3]
          rw [if_neg (by decide), if_pos (by omega), if_neg k4]
        · simp only [spinneyref01_own.l0]
          rw [if_neg (by omega)]
theorem own_ev (k n : Int) (t : ByteArray) (l : List S24) (hw : WfL l) (hl : l.length ≤ 4611686018427387904) :
    ∃ b, Ev (fun i => value_form.f i k n t l) b ∧ (PlainV k n t → b = true → (k = 4 ∨ k = 5 ∨ k = 6 ∨ l = []) ∧ (k = 6 → l.length % 2 = 0)) ∧ ∃ o, Ev (fun i => spinneyref01_own.f i k n t l) o ∧ (o = true ↔ PlainV k n t ∧ b = true) := by
  obtain ⟨b, hb, hb0, hsix, hj2⟩ := form_ev k n t l hw hl
  refine ⟨b, hb, fun hp h => ⟨?_, fun h6 => hsix h6 h⟩, ?_⟩
  · by_cases h4 : k = 4 ∨ k = 5 ∨ k = 6
    · omega
    · have e := hb0 (by omega) (by omega) (by omega)
      rw [h] at e
      exact .inr (.inr (.inr (List.eq_nil_of_length_eq_zero (beq_iff_eq.1 e.symm))))
  have no : ¬ PlainV k n t → ∀ g : Nat → Option Bool, Ev g false → ∃ o, Ev g o ∧ (o = true ↔ PlainV k n t ∧ b = true) := fun h g hg => ⟨false, hg, by constructor; (intro h'; cases h'); (intro h'; exact absurd h'.1 h)⟩
  have J0t : Ev (fun i => spinneyref01_own.j0 i true k n t l) false := Ev.step (f := fun _ => some false) (fun i => by simp only [spinneyref01_own.j0, if_true]) (Ev.now _)
  by_cases k0 : k < 0
  · exact no (by unfold PlainV; omega) _ (Ev.congr (fun i => by unfold spinneyref01_own.f; rw [if_pos k0]) J0t)
  by_cases k7 : k > 6
  · exact no (by unfold PlainV; omega) _ (Ev.congr (fun i => by unfold spinneyref01_own.f; rw [if_neg k0, show decide (k > 6) = true from decide_eq_true k7]) J0t)
  have J1t : Ev (fun i => spinneyref01_own.j1 i true k n t l) false := Ev.step (f := fun _ => some false) (fun i => by simp only [spinneyref01_own.j1, if_true]) (Ev.now _)
  have start : ∀ o (c : Bool), Ev (fun i => spinneyref01_own.j1 i c k n t l) o → (c = true ↔ ¬ (k = 2 ∨ n = 0 ∨ (k = 1 ∧ n = 1))) → Ev (fun i => spinneyref01_own.f i k n t l) o := by
    intro o c h hc
    refine Ev.congr (f := fun i => spinneyref01_own.j0 i false k n t l) (fun i => by unfold spinneyref01_own.f; rw [if_neg k0, show decide (k > 6) = false from decide_eq_false k7]) ?_
    refine Ev.step (f := fun i => spinneyref01_own.j1 i c k n t l) (fun i => ?_) h
    simp only [spinneyref01_own.j0]
    rw [if_neg (by decide)]
    by_cases a1 : k = 2
    · rw [if_pos a1, show c = false by cases c; rfl; exact absurd (hc.1 rfl) (by omega)]
    rw [if_neg a1]
    by_cases a2 : n = 0
    · rw [if_pos a2, show c = false by cases c; rfl; exact absurd (hc.1 rfl) (by omega)]
    rw [if_neg a2]
    by_cases a3 : k = 1
    · rw [if_pos a3]
      by_cases a4 : n = 1
      · rw [beq_iff_eq.2 a4, show c = false by cases c; rfl; exact absurd (hc.1 rfl) (by omega)]; rfl
      · rw [beq_eq_false_iff_ne.2 a4, hc.2 (by omega)]; rfl
    · rw [if_neg a3, hc.2 (by omega)]; rfl
  by_cases hn : k = 2 ∨ n = 0 ∨ (k = 1 ∧ n = 1)
  case neg => exact no (fun h => hn h.2.2.1) _ (start _ true J1t ⟨fun _ => hn, fun _ => rfl⟩)
  have start := fun o h => start o false h ⟨fun h => (by cases h), fun h => absurd hn h⟩
  by_cases k3 : k = 3
  · by_cases hz : (t.size : Int) ≤ 256
    · obtain ⟨r, hr, hi⟩ := lettersw_ev t (by omega)
      have e : ∀ i, spinneyref01_own.j1 (i + 1) false k n t l = (spinneyref01_Letters.f i t).bind fun x => if x ≥ 0 then some ((l.length : Int) == 0) else some false := by
        intro i
        simp only [spinneyref01_own.j1]
        rw [if_neg (by decide), if_pos k3, if_pos hz]
      by_cases hu : utfOk t = true
      · refine ⟨b, start _ (Ev.step e ?_), ?_⟩
        · refine hr.bind (f := fun _ x => if x ≥ 0 then some ((l.length : Int) == 0) else some false) (Ev.congr (f := fun _ => some b) (fun i => ?_) (Ev.now _))
          rw [if_pos (hi.2 hu), hb0 (by omega) (by omega) (by omega)]
          congr 1
          by_cases c : l.length = 0
          · rw [beq_iff_eq.2 c, beq_iff_eq.2 (show (l.length : Int) = 0 by omega)]
          · rw [beq_eq_false_iff_ne.2 c, beq_eq_false_iff_ne.2 (show (l.length : Int) ≠ 0 by omega)]
        · exact ⟨fun h => ⟨⟨by omega, .inl k3, hn, fun _ => ⟨by omega, hu⟩⟩, h⟩, fun h => h.2⟩
      · refine no (fun h => hu (h.2.2.2 k3).2) _ (start _ (Ev.step e ?_))
        exact hr.bind (f := fun _ x => if x ≥ 0 then some ((l.length : Int) == 0) else some false) (Ev.congr (f := fun _ => some false) (fun i => if_neg (fun h => hu (hi.1 h))) (Ev.now _))
    · refine no (fun h => by have := (h.2.2.2 k3).1; omega) _ (start _ (Ev.step (f := fun _ => some false) (fun i => ?_) (Ev.now _)))
      simp only [spinneyref01_own.j1]
      rw [if_neg (by decide), if_pos k3, if_neg hz]
  · by_cases ht : t.toList = []
    · refine ⟨b, start _ (Ev.step (f := fun i => spinneyref01_own.j2 i (decide (¬ (k = 4 ∨ k = 5 ∨ k = 6) ∧ l.length > 0)) k n t l) (fun i => ?_) (hj2 k3)), ?_⟩
      · simp only [spinneyref01_own.j1]
        rw [if_neg (by decide), if_neg k3, if_pos ht]
        unfold spinneyref01_coll.f
        by_cases c4 : k = 4
        · rw [if_pos c4, Option.bind_some, if_pos rfl, show decide (¬ (k = 4 ∨ k = 5 ∨ k = 6) ∧ l.length > 0) = false from decide_eq_false (by omega)]
        rw [if_neg c4]
        by_cases c5 : k = 5
        · rw [if_pos c5, Option.bind_some, if_pos rfl, show decide (¬ (k = 4 ∨ k = 5 ∨ k = 6) ∧ l.length > 0) = false from decide_eq_false (by omega)]
        rw [if_neg c5, Option.bind_some]
        by_cases c6 : k = 6
        · rw [beq_iff_eq.2 c6, if_pos rfl, show decide (¬ (k = 4 ∨ k = 5 ∨ k = 6) ∧ l.length > 0) = false from decide_eq_false (by omega)]
        · rw [beq_eq_false_iff_ne.2 c6, if_neg (by decide)]
          by_cases c : l.length > 0
          · rw [show decide (¬ (k = 4 ∨ k = 5 ∨ k = 6) ∧ l.length > 0) = true from decide_eq_true (by omega), show decide ((l.length : Int) > 0) = true from decide_eq_true (by omega)]
          · rw [show decide (¬ (k = 4 ∨ k = 5 ∨ k = 6) ∧ l.length > 0) = false from decide_eq_false (by omega), show decide ((l.length : Int) > 0) = false from decide_eq_false (by omega)]
      · exact ⟨fun h => ⟨⟨by omega, .inr ht, hn, fun h => absurd h k3⟩, h⟩, fun h => h.2⟩
    · refine no (fun h => by rcases h.2.1 with h | h <;> contradiction) _ (start _ (Ev.step (f := fun i => spinneyref01_own.j2 i true k n t l) (fun i => ?_) ?_))
      · simp only [spinneyref01_own.j1]
        rw [if_neg (by decide), if_neg k3, if_neg ht]
      · exact Ev.step (f := fun _ => some false) (fun i => by simp only [spinneyref01_own.j2, if_true]) (Ev.now _)
end Go.Proofs.YtmebfblabccblaaDoor.XH
