-- cut down by bundle.py (the session's own program) from the text YtmebfblabccblaaDoorPl5, to what this claim names
import Derived.Test.YtmebfblabccblaaDoorZHashMoreXH0
import Derived.Test.YtmebfblabccblaaDoorZHashMorePl4
import Derived.Test.YtmebfblabccblaaDoorZHashMoreXH10
import Derived.Test.YtmebfblabccblaaDoorZHashMoreXH4
namespace Go.Proofs.YtmebfblabccblaaDoor.XH
open Go.RowKit Go.Proofs.YtmebfblabccblaaDoorW.PrintWords Go.Proofs.YtmebfblabccblaaDoorW.PrintLast Go.Proofs.YtmebfblabccblaaDoorW.PrintMore
attribute [local go_sem] max2_int min2_int max_two min_two max_three min_three max_four min_four   -- for this text's walks alone
set_option linter.unusedVariables false
set_option linter.unusedSimpArgs false

mutual
def RightV : S24 → Prop
  | ⟨k, n, t, l⟩ => PlainV k n t ∧ l.length ≤ 1024 ∧ (k = 4 ∨ k = 5 ∨ k = 6 ∨ l = []) ∧ (k = 6 → l.length % 2 = 0) ∧ RightL l
def RightL : List S24 → Prop
  | [] => True
  | v :: l => RightV v ∧ RightL l
end
theorem rightL_of : ∀ l : List S24, (∀ v ∈ l, RightV v) → RightL l
  | [], _ => by simp only [RightL]
  | v :: l, h => by
    simp only [RightL]
    exact ⟨h v List.mem_cons_self, rightL_of l (fun x hx => h x (List.mem_cons_of_mem _ hx))⟩
def FitEv (a : S24) : Prop := ∀ a1 a2 : Int, 0 ≤ a1 → a1 ≤ 16 → -1024 ≤ a2 → a2 ≤ 1024 → ∃ r : Int, Ev (fun k => value_count.f k a.f0 a.f1 a.f2 a.f3 a1 a2) r ∧ Ev (fun k => spinneyref01_fits.f k a.f0 a.f1 a.f2 a.f3 a1 a2) (if r = 0 then -1 else r) ∧ (r = 0 ∨ (1 ≤ r ∧ r ≤ a2 ∧ RightV a))
theorem fit_loop (l : List S24) (E : ∀ a ∈ l, FitEv a) (a1 a2 : Int) (h1 : l ≠ [] → 1 ≤ a1) (h2 : a1 ≤ 16) (h3 : a2 ≤ 1024) (hl : l.length ≤ 1024) (x0 x1 : Int) (x2 : ByteArray) (b : Bool) (hb : Ev (fun k => value_form.f k x0 x1 x2 l) b) (o : Bool) (ho : Ev (fun k => spinneyref01_own.f k x0 x1 x2 l) o) (P : Prop) (hob : o = true ↔ P ∧ b = true) (d : Nat) :
    ∀ (i : Nat) (x7 : Int), l.length - i = d → i ≤ l.length → 1 + (i : Int) ≤ x7 → x7 ≤ a2 →
      ∃ r : Int, Ev (fun k => value_count.l0 k a1 a2 x7 l (l.length : Int) (i : Int) x0 x1 x2 l) r ∧ (r = 0 ∨ (1 + (l.length : Int) ≤ r ∧ r ≤ a2 ∧ (∀ a ∈ l.drop i, RightV a) ∧ b = true)) ∧
        ∃ q : Int, Ev (fun k => spinneyref01_fits.l0 k a1 a2 x7 l (l.length : Int) (i : Int) x0 x1 x2 l) q ∧ (P → q = if r = 0 then -1 else r) ∧ (¬ P → q = -1) := by
  induction d with
  | zero =>
    intro i x7 hd hi hx hxa
    obtain rfl : i = l.length := by omega
    have s1 : ∀ k, value_count.l0 (k + 1) a1 a2 x7 l (l.length : Int) (l.length : Int) x0 x1 x2 l = (value_form.f k x0 x1 x2 l).bind fun t => if t = true then some x7 else some 0 := by
      intro k
      simp only [value_count.l0]
      rw [if_neg (by omega)]
    have s2 : ∀ k, spinneyref01_fits.l0 (k + 1) a1 a2 x7 l (l.length : Int) (l.length : Int) x0 x1 x2 l = (spinneyref01_own.f k x0 x1 x2 l).bind fun t => if t = true then some x7 else some (-1) := by
      intro k
      simp only [spinneyref01_fits.l0]
      rw [if_neg (by omega)]
    refine ⟨if b = true then x7 else 0, Ev.step s1 (hb.bind (f := fun _ t => if t = true then some x7 else some 0) (Ev.congr (f := fun _ => some (if b = true then x7 else 0)) (fun k => by cases b <;> rfl) (Ev.now _))), ?_,
      if o = true then x7 else -1, Ev.step s2 (ho.bind (f := fun _ t => if t = true then some x7 else some (-1)) (Ev.congr (f := fun _ => some (if o = true then x7 else -1)) (fun k => by cases o <;> rfl) (Ev.now _))), ?_, ?_⟩
    · cases b with
      | false => exact .inl (by rw [if_neg (by decide)])
      | true => exact .inr (by rw [if_pos rfl]; exact ⟨by omega, by omega, fun a ha => (by rw [List.drop_length] at ha; cases ha), rfl⟩)
    · intro hP
      cases b with
      | false => rw [if_neg (fun h => by have := (hob.1 h).2; cases this)]; rfl
      | true => rw [if_pos (hob.2 ⟨hP, rfl⟩), if_pos rfl, if_neg (by omega)]
    · intro hP
      rw [if_neg (fun h => hP (hob.1 h).1)]
  | succ d ih =>
    intro i x7 hd hi hx hxa
    have hlt : i < l.length := by omega
    have ha1 := h1 (fun e => by rw [e] at hlt; simp at hlt)
    have e1 : wrap64 (a1 - 1) = a1 - 1 := by unfold wrap64; omega
    have e2 : wrap64 (a2 - x7) = a2 - x7 := by unfold wrap64; omega
    have e3 : wrap64 ((i : Int) + 1) = ((i + 1 : Nat) : Int) := by unfold wrap64; omega
    have s1 : ∀ k, value_count.l0 (k + 1) a1 a2 x7 l (l.length : Int) (i : Int) x0 x1 x2 l = (value_count.f k (l[i]).f0 (l[i]).f1 (l[i]).f2 (l[i]).f3 (a1 - 1) (a2 - x7)).bind fun t => if t = 0 then some 0 else value_count.l0 k a1 a2 (wrap64 (x7 + t)) l (l.length : Int) ((i + 1 : Nat) : Int) x0 x1 x2 l := by
      intro k
      simp only [value_count.l0]
      rw [if_pos (by omega), if_pos (by omega), if_pos (by omega), rd_at l i hlt, e1, e2, e3]
    have s2 : ∀ k, spinneyref01_fits.l0 (k + 1) a1 a2 x7 l (l.length : Int) (i : Int) x0 x1 x2 l = (spinneyref01_fits.f k (l[i]).f0 (l[i]).f1 (l[i]).f2 (l[i]).f3 (a1 - 1) (a2 - x7)).bind fun t => if t < 0 then some (-1) else spinneyref01_fits.l0 k a1 a2 (wrap64 (x7 + t)) l (l.length : Int) ((i + 1 : Nat) : Int) x0 x1 x2 l := by
      intro k
      simp only [spinneyref01_fits.l0]
      rw [if_pos (by omega), if_pos (by omega), if_pos (by omega), rd_at l i hlt, e1, e2, e3]
    obtain ⟨r, hr, hq, hrr⟩ := E _ (List.getElem_mem hlt) (a1 - 1) (a2 - x7) (by omega) (by omega) (by omega) (by omega)
    by_cases hz : r = 0
    · rw [if_pos hz] at hq
      refine ⟨0, Ev.step s1 (hr.bind (f := fun k t => if t = 0 then some 0 else value_count.l0 k a1 a2 (wrap64 (x7 + t)) l (l.length : Int) ((i + 1 : Nat) : Int) x0 x1 x2 l) (Ev.congr (f := fun _ => some 0) (fun k => if_pos hz) (Ev.now _))), .inl rfl,
        -1, Ev.step s2 (hq.bind (f := fun k t => if t < 0 then some (-1) else spinneyref01_fits.l0 k a1 a2 (wrap64 (x7 + t)) l (l.length : Int) ((i + 1 : Nat) : Int) x0 x1 x2 l) (Ev.congr (f := fun _ => some (-1)) (fun k => if_pos (by decide)) (Ev.now _))), fun _ => by rw [if_pos rfl], fun _ => rfl⟩
    · rw [if_neg hz] at hq
      have hrr := hrr.resolve_left hz
      have e4 : wrap64 (x7 + r) = x7 + r := by unfold wrap64; omega
      obtain ⟨r2, hr2, hrr2, q2, hq2, hP, hN⟩ := ih (i + 1) (x7 + r) (by omega) (by omega) (by omega) (by omega)
      refine ⟨r2, Ev.step s1 (hr.bind (f := fun k t => if t = 0 then some 0 else value_count.l0 k a1 a2 (wrap64 (x7 + t)) l (l.length : Int) ((i + 1 : Nat) : Int) x0 x1 x2 l) (Ev.congr (f := fun k => value_count.l0 k a1 a2 (x7 + r) l (l.length : Int) ((i + 1 : Nat) : Int) x0 x1 x2 l) (fun k => by rw [if_neg hz, e4]) hr2)), ?_,
        q2, Ev.step s2 (hq.bind (f := fun k t => if t < 0 then some (-1) else spinneyref01_fits.l0 k a1 a2 (wrap64 (x7 + t)) l (l.length : Int) ((i + 1 : Nat) : Int) x0 x1 x2 l) (Ev.congr (f := fun k => spinneyref01_fits.l0 k a1 a2 (x7 + r) l (l.length : Int) ((i + 1 : Nat) : Int) x0 x1 x2 l) (fun k => by rw [if_neg (show ¬ r < 0 by omega), e4]) hq2)), hP, hN⟩
      rcases hrr2 with h | ⟨g1, g2, g3, g4⟩
      · exact .inl h
      · refine .inr ⟨g1, g2, fun a ha => ?_, g4⟩
        rw [List.drop_eq_getElem_cons hlt] at ha
        rcases List.mem_cons.1 ha with rfl | ha
        · exact hrr.2.2
        · exact g3 a ha
theorem fit_one (k n : Int) (t : ByteArray) (l : List S24) (hw : WfL l) (E : ∀ a ∈ l, FitEv a) : FitEv ⟨k, n, t, l⟩ := by
  intro a1 a2 h0 h1 h2 h3
  show ∃ r : Int, Ev (fun i => value_count.f i k n t l a1 a2) r ∧ Ev (fun i => spinneyref01_fits.f i k n t l a1 a2) (if r = 0 then -1 else r) ∧ (r = 0 ∨ (1 ≤ r ∧ r ≤ a2 ∧ RightV ⟨k, n, t, l⟩))
  have C : Ev (fun i => value_count.j0 i a1 a2 true k n t l) 0 := Ev.step (f := fun _ => some 0) (fun i => by simp only [value_count.j0, if_true]) (Ev.now _)
  have F : Ev (fun i => spinneyref01_fits.j0 i a1 a2 true k n t l) (-1) := Ev.step (f := fun _ => some (-1)) (fun i => by simp only [spinneyref01_fits.j0, if_true]) (Ev.now _)
  by_cases c1 : a2 < 1
  · exact ⟨0, Ev.step (f := fun i => value_count.j0 i a1 a2 true k n t l) (fun i => by simp only [value_count.f]; rw [if_pos c1]) C, Ev.step (f := fun i => spinneyref01_fits.j0 i a1 a2 true k n t l) (fun i => by simp only [spinneyref01_fits.f]; rw [if_pos c1]) F, .inl rfl⟩
  by_cases c2 : (l.length : Int) > 0 ∧ a1 = 0
  · refine ⟨0, Ev.step (f := fun i => value_count.j0 i a1 a2 true k n t l) (fun i => ?_) C, Ev.step (f := fun i => spinneyref01_fits.j0 i a1 a2 true k n t l) (fun i => ?_) F, .inl rfl⟩
    · simp only [value_count.f]
      rw [if_neg c1]
      by_cases c3 : (l.length : Int) ≥ a2
      · rw [if_pos c3]
      · rw [if_neg c3, if_pos c2.1, if_pos c2.2]
    · simp only [spinneyref01_fits.f]
      rw [if_neg c1, if_pos c2.1, if_pos c2.2]
  have sf : ∀ i, spinneyref01_fits.f (i + 1) k n t l a1 a2 = spinneyref01_fits.j0 i a1 a2 (decide ((l.length : Int) > a2)) k n t l := by
    intro i
    simp only [spinneyref01_fits.f]
    rw [if_neg c1]
    by_cases c3 : (l.length : Int) > 0
    · rw [if_pos c3, if_neg (fun h => c2 ⟨c3, h⟩)]
    · rw [if_neg c3]
  by_cases c4 : (l.length : Int) > a2
  · refine ⟨0, Ev.step (f := fun i => value_count.j0 i a1 a2 true k n t l) (fun i => ?_) C, Ev.step sf (by rw [show decide ((l.length : Int) > a2) = true from decide_eq_true c4]; exact F), .inl rfl⟩
    simp only [value_count.f]
    rw [if_neg c1, if_pos (by omega)]
  have sf' : ∀ i, spinneyref01_fits.f (i + 1 + 1) k n t l a1 a2 = spinneyref01_fits.l0 i a1 a2 1 l (l.length : Int) ((0 : Nat) : Int) k n t l := by
    intro i
    rw [sf, show decide ((l.length : Int) > a2) = false from decide_eq_false c4]
    simp only [spinneyref01_fits.j0]
    rw [if_neg (by decide)]; rfl
  obtain ⟨b, hb, hsh, o, ho, hob⟩ := own_ev k n t l hw (by omega)
  obtain ⟨r, hr, hrr, q, hq, hP, hN⟩ := fit_loop l E a1 a2 (fun h => by have : l.length ≠ 0 := fun e => h (List.eq_nil_of_length_eq_zero e); omega) h1 h3 (by omega) k n t b hb o ho (PlainV k n t) hob l.length 0 1 (by omega) (by omega) (by omega) (by omega)
  have hq2 : Ev (fun i => spinneyref01_fits.f i k n t l a1 a2) q := Ev.step (f := fun i => spinneyref01_fits.f (i + 1) k n t l a1 a2) (fun i => rfl) (Ev.congr (f := fun i => spinneyref01_fits.f (i + 1) k n t l a1 a2) (fun i => rfl) (Ev.step sf' hq))
  by_cases c5 : (l.length : Int) ≥ a2
  · have hr0 : r = 0 := by rcases hrr with h | h; exact h; omega
    have hqq : q = -1 := by
      by_cases hp : PlainV k n t
      · rw [hP hp, if_pos hr0]
      · exact hN hp
    refine ⟨0, Ev.step (f := fun i => value_count.j0 i a1 a2 true k n t l) (fun i => ?_) C, by rw [if_pos rfl, ← hqq]; exact hq2, .inl rfl⟩
    simp only [value_count.f]
    rw [if_neg c1, if_pos c5]
  obtain ⟨p, hp, hpp⟩ := plain_ev k n t l
  have sc : ∀ i, value_count.f (i + 1) k n t l a1 a2 = (value_plain.f i k n t l).bind fun x => value_count.j0 i a1 a2 (!x) k n t l := by
    intro i
    simp only [value_count.f]
    rw [if_neg c1, if_neg c5]
    by_cases c3 : (l.length : Int) > 0
    · rw [if_pos c3, if_neg (fun h => c2 ⟨c3, h⟩)]
    · rw [if_neg c3]
  cases p with
  | false =>
    have hnp : ¬ PlainV k n t := fun h => by have := hpp.2 h; cases this
    refine ⟨0, Ev.step sc (hp.bind (f := fun i x => value_count.j0 i a1 a2 (!x) k n t l) C), by rw [if_pos rfl, ← hN hnp]; exact hq2, .inl rfl⟩
  | true =>
    have hpl := hpp.1 rfl
    refine ⟨r, Ev.step sc (hp.bind (f := fun i x => value_count.j0 i a1 a2 (!x) k n t l) (Ev.step (f := fun i => value_count.l0 i a1 a2 1 l (l.length : Int) ((0 : Nat) : Int) k n t l) (fun i => ?_) hr)), by rw [← hP hpl]; exact hq2, ?_⟩
    · simp only [value_count.j0]
      rw [if_neg (by decide)]; rfl
    · rcases hrr with h | ⟨g1, g2, g3, g4⟩
      · exact .inl h
      · refine .inr ⟨by omega, g2, ?_⟩
        simp only [RightV]
        exact ⟨hpl, by omega, (hsh hpl g4).1, (hsh hpl g4).2, rightL_of l (fun v hv => g3 v (by rw [List.drop_zero]; exact hv))⟩
mutual
theorem fit_ev : (a : S24) → WfV a → FitEv a
  | ⟨k, n, t, l⟩, h => fit_one k n t l (by simp only [WfV] at h; exact h.2.2.2.2) (fit_evL l (by simp only [WfV] at h; exact h.2.2.2.2))
theorem fit_evL : (l : List S24) → WfL l → ∀ a ∈ l, FitEv a
  | [], _, a, ha => by cases ha
  | x :: l, h, a, ha => by
    rcases List.mem_cons.1 ha with e | ha
    · rw [e]; exact fit_ev x (by simp only [WfL] at h; exact h.1)
    · exact fit_evL l (by simp only [WfL] at h; exact h.2) a ha
end
theorem right_ev (k n : Int) (t : ByteArray) (l : List S24) (h : WfV ⟨k, n, t, l⟩) :
    ∃ b : Bool, Ev (fun i => value_right.f i k n t l) b ∧ Ev (fun i => spinneyref01_Right.f i k n t l) b ∧ Ev (fun i => value_Check.f i k n t l) (if b = true then 0 else 3) ∧ (b = true → RightV ⟨k, n, t, l⟩) := by
  obtain ⟨r, h1, h2, h3⟩ := fit_ev _ h 16 1024 (by omega) (by omega) (by omega) (by omega)
  have h1 : Ev (fun i => value_count.f i k n t l 16 1024) r := h1
  have h2 : Ev (fun i => spinneyref01_fits.f i k n t l 16 1024) (if r = 0 then -1 else r) := h2
  have R1 : Ev (fun i => value_right.f i k n t l) (decide (r > 0)) := h1.bind (f := fun _ x => some (decide (x > 0))) (Ev.now _)
  refine ⟨decide (r > 0), R1, ?_, ?_, fun hb => ?_⟩
  · have : decide (r > 0) = decide ((if r = 0 then -1 else r) ≥ 0) := by
      by_cases hz : r = 0
      · rw [if_pos hz]; subst hz; decide
      · rw [if_neg hz]; by_cases hp : r > 0
        · rw [decide_eq_true hp, decide_eq_true (by omega)]
        · rw [decide_eq_false hp, decide_eq_false (by omega)]
    rw [this]
    exact h2.bind (f := fun _ x => some (decide (x ≥ 0))) (Ev.now _)
  · refine R1.bind (f := fun _ x => if x = true then some 0 else some 3) (Ev.congr (f := fun _ => some (if decide (r > 0) = true then 0 else 3)) (fun i => ?_) (Ev.now _))
    cases decide (r > 0) <;> rfl
  · have := of_decide_eq_true hb
    exact (h3.resolve_left (by omega)).2.2
end Go.Proofs.YtmebfblabccblaaDoor.XH
