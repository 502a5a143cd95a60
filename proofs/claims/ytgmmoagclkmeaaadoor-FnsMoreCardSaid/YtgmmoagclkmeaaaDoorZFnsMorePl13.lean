-- cut down by bundle.py (the session's own program) from the texts YtgmmoagclkmeaaaDoorPl13, YtgmmoagclkmeaaaDoorPl14, YtgmmoagclkmeaaaDoorPl15, YtgmmoagclkmeaaaDoorPl16, YtgmmoagclkmeaaaDoorPureFnsMore, YtgmmoagclkmeaaaDoorRk2, to what this claim names
import Derived.Test.YtgmmoagclkmeaaaDoorZFnsMoreXH0
import Derived.Test.YtgmmoagclkmeaaaDoorZFnsMoreXH23
import Derived.Lib.MapLaws
import Derived.Lib.DecodeN
import Derived.OpenShut
import Derived.ShutString
import Derived.Deep.Slices
import Derived.ProofKit
import Derived.Lib.LaidU8T
import Derived.Lib.LaidIn
section
namespace Go.Proofs.YtgmmoagclkmeaaaDoor.XH
open Go.RowKit Go.Proofs.YtgmmoagclkmeaaaDoorW.PrintWords Go.Proofs.YtgmmoagclkmeaaaDoorW.PrintLast Go.Proofs.YtgmmoagclkmeaaaDoorW.PrintMore
attribute [local go_sem] max2_int min2_int max_two min_two max_three min_three max_four min_four   -- for this text's walks alone
set_option linter.unusedVariables false
set_option linter.unusedSimpArgs false

theorem dec_fits (s : ByteArray) (p : Nat) (hp : p < s.size) (hb : ¬ badD (Utf8.decode s p)) : p + (Utf8.decode s p).2 ≤ s.size := by
  rw [Lib.decode_at] at hb ⊢
  have := (s.get! p).toNat_lt
  unfold Lib.decodeN badD at *
  revert hb
  repeat' split
  all_goals (intro hb; dsimp only at *; omega)
theorem get_take (s : ByteArray) (n k : Nat) (hn : n ≤ s.size) (hk : k < n) : (s.extract 0 n).get! k = s.get! k := by
  have hs : (s.extract 0 n).size = n := by simp [ByteArray.size_extract]; omega
  have g : ∀ (t : ByteArray) (i : Nat), t.get! i = if h : i < t.size then t[i]'h else 0 := by
    intro t i
    obtain ⟨a⟩ := t
    show a[i]! = _
    split
    · next h => exact getElem!_pos a i h
    · next h => exact getElem!_neg a i h
  rw [g, g, dif_pos (show k < (s.extract 0 n).size by omega), dif_pos (show k < s.size by omega)]
  simp [ByteArray.getElem_extract]
theorem dec_take (s : ByteArray) (h : 0 < s.size) (hb : ¬ badD (Utf8.decode s 0)) : Utf8.decode (s.extract 0 (Utf8.decode s 0).2) 0 = Utf8.decode s 0 := by
  have hf := dec_fits s 0 h hb
  rw [Nat.zero_add] at hf
  generalize hn : (Utf8.decode s 0).2 = n at hf
  have hs : (s.extract 0 n).size = n := by simp [ByteArray.size_extract]; omega
  rw [Lib.decode_at] at hn hb
  rw [Lib.decode_at, Lib.decode_at, hs, Nat.sub_zero]
  simp only [Nat.zero_add, Nat.sub_zero] at hn hb ⊢
  have k0 := (s.get! 0).toNat_lt
  unfold badD at hb
  rcases Lib.decodeN_shape s.size (s.get! 0).toNat (s.get! 1).toNat (s.get! 2).toNat (s.get! 3).toNat with ⟨c, e⟩ | ⟨c1, c2, c3, cv, e⟩ | ⟨c1, c2, c3, c4, cv, cs, e⟩ | ⟨c1, c2, c3, c4, c5, cv, cw, e⟩ | e
  · rw [e] at hn ⊢
    simp only at hn
    subst hn
    rw [get_take s 1 0 hf (by omega)]
    unfold Lib.decodeN
    rw [if_pos c]
  · rw [e] at hn ⊢
    simp only at hn
    subst hn
    rw [get_take s 2 0 hf (by omega), get_take s 2 1 hf (by omega)]
    unfold Lib.decodeN
    rw [if_neg (by omega), if_pos ⟨c1, by omega, c3⟩, if_pos (by omega)]
  · rw [e] at hn ⊢
    simp only at hn
    subst hn
    rw [get_take s 3 0 hf (by omega), get_take s 3 1 hf (by omega), get_take s 3 2 hf (by omega)]
    unfold Lib.decodeN
    rw [if_neg (by omega), if_neg (fun g => by have := g.1; omega), if_pos ⟨c1, ⟨by omega, c3⟩, by omega, c4⟩, if_pos (by omega)]
  · rw [e] at hn ⊢
    simp only at hn
    subst hn
    rw [get_take s 4 0 hf (by omega), get_take s 4 1 hf (by omega), get_take s 4 2 hf (by omega), get_take s 4 3 hf (by omega)]
    unfold Lib.decodeN
    rw [if_neg (by omega), if_neg (fun g => by have := g.1; omega), if_neg (fun g => by have := g.1; omega), if_pos ⟨c1, ⟨by omega, c3⟩, ⟨by omega, c4⟩, by omega, c5⟩, if_pos (by omega)]
  · rw [e] at hb
    exact absurd ⟨rfl, rfl⟩ hb
theorem first_utf (s : ByteArray) (h : 0 < s.size) (hb : ¬ badD (Utf8.decode s 0)) : utfOk (s.extract 0 (Utf8.decode s 0).2) = true := by
  have hf := dec_fits s 0 h hb
  have hd := dec_le s 0
  rw [Nat.zero_add] at hf
  have hs : (s.extract 0 (Utf8.decode s 0).2).size = (Utf8.decode s 0).2 := by simp [ByteArray.size_extract]; omega
  have ht := dec_take s h hb
  unfold utfOk
  obtain ⟨b, hbb⟩ : ∃ b, (s.extract 0 (Utf8.decode s 0).2).size = b + 1 := ⟨(s.extract 0 (Utf8.decode s 0).2).size - 1, by omega⟩
  rw [hbb, utfFrom, if_pos (by omega), if_neg]
  · rw [ht, utfFrom_end _ _ _ (by omega)]
  · rintro ⟨g1, g2⟩
    rw [decodeGo_extract _ 0 (by omega)] at g2
    rw [ht] at g1 g2
    exact hb ⟨g1, g2⟩
def tup (r : S24) : Int × Int × ByteArray × List S24 := (r.f0, r.f1, r.f2, r.f3)
def Good (v : S24) : Prop := OK v ∧ WfV v
theorem good_int {n : Int} (h : In64 n) : Good ⟨2, n, ⟨#[]⟩, []⟩ := ⟨ok_int n, wf_int h⟩
theorem good_nil : Good ⟨0, 0, ⟨#[]⟩, []⟩ := ⟨ok_nil, wf_nil⟩
theorem good_item {k n : Int} {t : ByteArray} {l : List S24} (h : Good ⟨k, n, t, l⟩) {v : S24} (hv : v ∈ l) : Good v :=
  ⟨ok_item h.1 hv, by have := h.2; simp only [WfV] at this; exact wfL_mem l this.2.2.2.2 v hv⟩
theorem wf_list {l : List S24} (h : l.length ≤ 1048576) (hl : ∀ v ∈ l, WfV v) : WfV ⟨4, 0, ⟨#[]⟩, l⟩ := by
  simp only [WfV]
  exact ⟨⟨by decide, by decide⟩, ⟨by decide, by decide⟩, Nat.zero_le _, by omega, wfL_of l hl⟩
open Classical in
theorem pick_ev (w o : S24) : Ev (fun k => fns_right.f k w.f0 w.f1 w.f2 w.f3 o.f0 o.f1 o.f2 o.f3) (tup (if OK w then w else o)) := by
  refine (vcheck_ev w).bind (f := fun _ t => if t = 0 then some (w.f0, w.f1, w.f2, w.f3) else some (o.f0, o.f1, o.f2, o.f3)) (Ev.congr (f := fun _ => some (tup (if OK w then w else o))) (fun _ => ?_) (Ev.now _))
  by_cases h : OK w
  · rw [if_pos h, if_pos h, if_pos rfl]; rfl
  · rw [if_neg h, if_neg h, if_neg (by decide)]; rfl
open Classical in
theorem rpick_ev (w o : S24) (hw : WfV w) : Ev (fun k => (spinneyref01_Right.f k w.f0 w.f1 w.f2 w.f3).bind fun t => if t = true then some (w.f0, w.f1, w.f2, w.f3) else some (o.f0, o.f1, o.f2, o.f3)) (tup (if OK w then w else o)) := by
  refine (rright_ev w hw).bind (f := fun _ t => if t = true then some (w.f0, w.f1, w.f2, w.f3) else some (o.f0, o.f1, o.f2, o.f3)) (Ev.congr (f := fun _ => some (tup (if OK w then w else o))) (fun _ => ?_) (Ev.now _))
  by_cases h : OK w
  · rw [if_pos h, if_pos (by rw [decide_eq_true h])]; rfl
  · rw [if_neg h, if_neg (by rw [decide_eq_false h]; decide)]; rfl
theorem int_shape {v : S24} (h : OK v) (h2 : v.f0 = 2) : v = ⟨2, v.f1, ⟨#[]⟩, []⟩ := by
  obtain ⟨k, n, t, l⟩ := v
  obtain rfl : k = 2 := h2
  obtain ⟨_, ht, _, hl, _⟩ := ok_shape h
  have h1 : t = ⟨#[]⟩ := ht.resolve_left (by decide)
  have h3 : l = [] := by
    rcases hl with h | h | h | h
    · cases h
    · cases h
    · cases h
    · exact h
  subst h1 h3
  rfl
def intDo (q n : Int) : Int := if q = 1 then wrap64 (n + 1) else if q = 2 then wrap64 (-n) else Int.tdiv n 2
theorem tdiv_in {n : Int} (h : In64 n) : In64 (Int.tdiv n 2) ∧ wrap64 (Int.tdiv n 2) = Int.tdiv n 2 := by
  have h2 : In64 (Int.tdiv n 2) := by
    unfold In64 at *
    rcases Int.le_total 0 n with h0 | h0
    · rw [Int.tdiv_eq_ediv_of_nonneg h0]; omega
    · have : Int.tdiv n 2 = - Int.tdiv (-n) 2 := by rw [Int.neg_tdiv, Int.neg_neg]
      rw [this, Int.tdiv_eq_ediv_of_nonneg (by omega)]; omega
  exact ⟨h2, by unfold In64 at h2; exact w64 h2.1 h2.2⟩
theorem intDo_in {q n : Int} (h : In64 n) : In64 (intDo q n) := by
  unfold intDo
  split
  · exact in64_wrap _
  · split
    · exact in64_wrap _
    · exact (tdiv_in h).1
def DoSame (q : Int) (v : S24) : Prop := ∃ r : S24, Good r ∧ Ev (fun k => fns_do.f k q v.f0 v.f1 v.f2 v.f3) (tup r) ∧ Ev (fun k => spinneyref05_Done.f k q v.f0 v.f1 v.f2 v.f3) (tup r)
theorem done_rest (q : Int) (h1 : q ≠ 1) (h2 : q ≠ 2) (k' n : Int) (t : ByteArray) (l : List S24) {r : Int × Int × ByteArray × List S24} (h : Ev (fun k => spinneyref05_Done.j1 k q (k' == 2) false k' n t l) r) : Ev (fun k => spinneyref05_Done.f k q k' n t l) r := by
  refine Ev.step (f := fun k => spinneyref05_Done.j1 k q (k' == 2) false k' n t l) (fun k => ?_) h
  unfold spinneyref05_Done.f
  rw [if_neg h1]
  simp only [spinneyref05_Done.j0]
  rw [if_neg (by decide), if_neg h2]
theorem do_num (q : Int) (hq : q = 1 ∨ q = 2 ∨ q = 7) (v : S24) (hv : Good v) : DoSame q v := by
  have hin : In64 v.f1 := by have := hv.2; cases v; simp only [WfV] at this; exact this.2.1
  by_cases h2 : v.f0 = 2
  · have hs := int_shape hv.1 h2
    have ht := tdiv_in hin
    refine ⟨⟨2, intDo q v.f1, ⟨#[]⟩, []⟩, good_int (intDo_in hin), ?_, ?_⟩
    · rw [hs]
      refine Ev.congr (f := fun _ => some (tup ⟨2, intDo q v.f1, ⟨#[]⟩, []⟩)) (fun k => ?_) (Ev.now _)
      unfold fns_do.f intDo tup
      rcases hq with rfl | rfl | rfl <;> simp [ht.2]
    · rw [hs]
      rcases hq with rfl | rfl | rfl
      · refine Ev.step (f := fun _ => some (tup ⟨2, intDo 1 v.f1, ⟨#[]⟩, []⟩)) (fun k => ?_) (Ev.now _)
        unfold spinneyref05_Done.f
        simp [spinneyref05_Done.j0, spinneyref05_Int.f, intDo, tup]
      · refine Ev.step (f := fun k => spinneyref05_Done.j1 k 2 true true 2 v.f1 ⟨#[]⟩ []) (fun k => ?_) (Ev.step (f := fun _ => some (tup ⟨2, intDo 2 v.f1, ⟨#[]⟩, []⟩)) (fun k => ?_) (Ev.now _))
        · unfold spinneyref05_Done.f
          simp [spinneyref05_Done.j0]
        · simp [spinneyref05_Done.j1, spinneyref05_Int.f, intDo, tup]
      · refine done_rest 7 (by decide) (by decide) _ _ _ _ (Ev.step (f := fun _ => some (tup ⟨2, intDo 7 v.f1, ⟨#[]⟩, []⟩)) (fun k => ?_) (Ev.now _))
        simp [spinneyref05_Done.j1, spinneyref05_Int.f, intDo, tup, ht.2]
  · have hb : (v.f0 == 2) = false := beq_eq_false_iff_ne.2 h2
    refine ⟨v, hv, ?_, ?_⟩
    · refine Ev.congr (f := fun _ => some (tup v)) (fun k => ?_) (Ev.now _)
      unfold fns_do.f tup
      rcases hq with rfl | rfl | rfl <;> simp [h2]
    · refine Ev.step (f := fun k => spinneyref05_Done.j1 k q false false v.f0 v.f1 v.f2 v.f3) (fun k => ?_) (Ev.step (f := fun _ => some (tup v)) (fun k => ?_) (Ev.now _))
      · unfold spinneyref05_Done.f
        rcases hq with rfl | rfl | rfl <;> simp [spinneyref05_Done.j0, hb]
      · rcases hq with rfl | rfl | rfl <;> simp [spinneyref05_Done.j1, tup]
theorem do_zero (v : S24) (hv : Good v) : DoSame 0 v := by
  refine ⟨v, hv, Ev.congr (f := fun _ => some (tup v)) (fun k => ?_) (Ev.now _), done_rest 0 (by decide) (by decide) _ _ _ _ (Ev.step (f := fun _ => some (tup v)) (fun k => ?_) (Ev.now _))⟩
  · unfold fns_do.f tup; simp
  · simp [spinneyref05_Done.j1, tup]
theorem do_kind (v : S24) (hv : Good v) : DoSame 6 v := by
  have hin : In64 v.f0 := by have := hv.2; cases v; simp only [WfV] at this; exact this.1
  refine ⟨⟨2, v.f0, ⟨#[]⟩, []⟩, good_int hin, Ev.congr (f := fun _ => some (tup ⟨2, v.f0, ⟨#[]⟩, []⟩)) (fun k => ?_) (Ev.now _), done_rest 6 (by decide) (by decide) _ _ _ _ (Ev.step (f := fun _ => some (tup ⟨2, v.f0, ⟨#[]⟩, []⟩)) (fun k => ?_) (Ev.now _))⟩
  · unfold fns_do.f tup; simp [fns_ones_5.f, fns_integer.f]
  · simp [spinneyref05_Done.j1, tup, spinneyref05_Int.f]
open Classical in
theorem do_wrap (v : S24) (hv : Good v) : DoSame 5 v := by
  have hw : WfV ⟨4, 0, ⟨#[]⟩, [v]⟩ := wf_list (by simp) (fun x hx => by rw [List.mem_singleton.1 hx]; exact hv.2)
  have h1 := pick_ev ⟨4, 0, ⟨#[]⟩, [v]⟩ ⟨0, 0, ⟨#[]⟩, []⟩
  have h2 := rpick_ev ⟨4, 0, ⟨#[]⟩, [v]⟩ ⟨0, 0, ⟨#[]⟩, []⟩ hw
  refine ⟨if OK ⟨4, 0, ⟨#[]⟩, [v]⟩ then ⟨4, 0, ⟨#[]⟩, [v]⟩ else ⟨0, 0, ⟨#[]⟩, []⟩, ?_, ?_, done_rest 5 (by decide) (by decide) _ _ _ _ (Ev.step (f := fun k => (spinneyref01_Right.f k 4 0 ⟨#[]⟩ [v]).bind fun t => if t = true then some (4, 0, ⟨#[]⟩, [v]) else some (0, 0, ⟨#[]⟩, [])) (fun k => ?_) h2)⟩
  · split
    · rename_i h; exact ⟨h, hw⟩
    · exact good_nil
  · refine Ev.congr (f := fun k => (fns_right.f k 4 0 ⟨#[]⟩ [v] 0 0 ⟨#[]⟩ []).bind fun b => some (b.1, b.2.1, b.2.2.1, b.2.2.2)) (fun k => ?_) (h1.bind (f := fun _ b => some (b.1, b.2.1, b.2.2.1, b.2.2.2)) (Ev.now _))
    unfold fns_do.f fns_ones_4.f
    simp
    cases v
    rfl
  · simp [spinneyref05_Done.j1]
    cases v
    rfl
theorem do_size (v : S24) (hv : Good v) : DoSame 3 v := by
  obtain ⟨k', n, t, l⟩ := v
  obtain ⟨hk, ht, _, hl, h6, hlen, h3⟩ := ok_shape hv.1
  have R : ∀ z : Int, In64 z → szDo k' t l = some z → Ev (fun k => spinneyref05_size.f k k' n t l) z → DoSame 3 ⟨k', n, t, l⟩ := by
    intro z hz h1 h2
    refine ⟨⟨2, z, ⟨#[]⟩, []⟩, good_int hz, Ev.congr (f := fun _ => some (tup ⟨2, z, ⟨#[]⟩, []⟩)) (fun k => ?_) (Ev.now _), done_rest 3 (by decide) (by decide) _ _ _ _ (Ev.step (f := fun k => (spinneyref05_size.f k k' n t l).bind fun (x : Int) => some ((2 : Int), x, (⟨#[]⟩ : ByteArray), ([] : List S24))) (fun k => ?_) (h2.bind (f := fun _ (x : Int) => some ((2 : Int), x, (⟨#[]⟩ : ByteArray), ([] : List S24))) (Ev.now _)))⟩
    · unfold fns_do.f tup; simp [h1]
    · simp [spinneyref05_Done.j1, spinneyref05_Int.f]
  by_cases c3 : k' = 3
  · have hz : t.size ≤ 1048576 := by have := (h3 c3).1; omega
    have hcl : ∀ (b p : Nat), cntFrom t b p ≤ b := by
      intro b
      induction b with
      | zero => intro p; simp [cntFrom]
      | succ b ih => intro p; simp only [cntFrom]; split; · have := ih (p + (Utf8.decode t p).2); omega
                     · omega
    have := hcl t.size 0
    refine R ((cntFrom t t.size 0 : Nat) : Int) (by unfold In64; omega) (by unfold szDo; rw [if_pos c3, if_pos hz]) ?_
    refine Ev.congr (f := fun k => (spinneyref01_Letters.f k t).bind fun x => some x) (fun k => ?_) ((letters_is t (by omega) (h3 c3).2).bind (f := fun _ x => some x) (Ev.now _))
    unfold spinneyref05_size.f
    rw [if_pos c3]
  by_cases c6 : k' = 6
  · have e1 : Int.tdiv (l.length : Int) 2 = (l.length : Int) / 2 := Int.tdiv_eq_ediv_of_nonneg (by omega)
    refine R ((l.length : Int) / 2) (by unfold In64; omega) (by unfold szDo; rw [if_neg c3, if_pos c6, if_pos (by omega), e1]) ?_
    subst c6
    refine Ev.step (f := fun _ => some ((l.length : Int) / 2)) (fun k => ?_) (Ev.now _)
    unfold spinneyref05_size.f
    simp [spinneyref05_size.j0]
    unfold wrap64; omega
  · refine R (l.length : Int) (by unfold In64; omega) (by unfold szDo; rw [if_neg c3, if_neg c6]) ?_
    by_cases c45 : k' = 4 ∨ k' = 5
    · refine Ev.step (f := fun _ => some (l.length : Int)) (fun k => ?_) (Ev.now _)
      unfold spinneyref05_size.f
      rcases c45 with rfl | rfl <;> simp [spinneyref05_size.j0]
    · have hl0 : l = [] := by
        rcases hl with h | h | h | h
        · exact absurd (.inl h) c45
        · exact absurd (.inr h) c45
        · exact absurd h c6
        · exact h
      subst hl0
      refine Ev.step (f := fun _ => some 0) (fun k => ?_) (Ev.now _)
      unfold spinneyref05_size.f
      rw [if_neg c3, if_neg (by omega)]
      simp only [spinneyref05_size.j0]
      rw [if_neg (by simp; omega), if_neg c6]
theorem do_first (v : S24) (hv : Good v) : DoSame 4 v := by
  obtain ⟨k', n, t, l⟩ := v
  obtain ⟨hk, ht, _, hl, h6, hlen, h3⟩ := ok_shape hv.1
  have R : ∀ r : S24, Good r → fns_first.f k' n t l = some (tup r) → Ev (fun k => spinneyref05_first.f k k' n t l) (tup r) → DoSame 4 ⟨k', n, t, l⟩ := by
    intro r hr h1 h2
    refine ⟨r, hr, Ev.congr (f := fun _ => some (tup r)) (fun k => ?_) (Ev.now _), done_rest 4 (by decide) (by decide) _ _ _ _ (Ev.step (f := fun k => (spinneyref05_first.f k k' n t l).bind fun b => some (b.1, b.2.1, b.2.2.1, b.2.2.2)) (fun k => ?_) (h2.bind (f := fun _ b => some (b.1, b.2.1, b.2.2.1, b.2.2.2)) (Ev.now _)))⟩
    · unfold fns_do.f; simp [h1]
    · simp [spinneyref05_Done.j1]
  have now : ∀ {r : Int × Int × ByteArray × List S24}, (∀ k, spinneyref05_first.f k k' n t l = some r) → Ev (fun k => spinneyref05_first.f k k' n t l) r := fun h => Ev.congr (f := fun _ => some _) h (Ev.now _)
  by_cases c3 : k' = 3
  · have hl0 : l = [] := by
      rcases hl with h | h | h | h
      · omega
      · omega
      · omega
      · exact h
    subst c3 hl0
    obtain ⟨hsz, hu⟩ := h3 rfl
    by_cases hz : t.toList = []
    · have hs0 : ¬ 0 < t.size := by
        have := bytes_nil hz
        subst this
        decide
      refine R ⟨0, 0, ⟨#[]⟩, []⟩ good_nil ?_ (now (fun k => ?_))
      · unfold fns_first.f tup; simp [hs0]
      · unfold spinneyref05_first.f tup; simp [hz]
    · have hs0 := size_pos_of hz
      have hb := utf_notbad t hs0 hu
      have hd := dec_le t 0
      have hf := dec_fits t 0 hs0 hb
      rw [Nat.zero_add] at hf
      have hsz2 : (t.extract 0 (Utf8.decode t 0).2).size = (Utf8.decode t 0).2 := by simp [ByteArray.size_extract]; omega
      have hg : Good ⟨3, 0, t.extract 0 (Utf8.decode t 0).2, []⟩ := by
        refine ⟨⟨?_, by simp [deepV, deepL], by simp [partsV, partsL]⟩, ?_⟩
        · simp only [OkV, OkL, and_true]
          exact ⟨⟨by omega, .inl rfl, .inr (.inl rfl), fun _ => ⟨by omega, first_utf t hs0 hb⟩⟩, by unfold FormV; rw [if_neg (by decide), if_neg (by decide), if_neg (by decide)]⟩
        · simp only [WfV, WfL, and_true]
          exact ⟨⟨by decide, by decide⟩, ⟨by decide, by decide⟩, by omega, Nat.zero_le _⟩
      refine R _ hg ?_ ?_
      · unfold fns_first.f tup
        rw [if_pos rfl, if_pos hs0, enc_first t hs0 hb]
      · have hu2 := utf_ev t 0 hs0 (by omega)
        have hn : utfN t 0 = (Utf8.decode t 0).2 := by
          rcases utfN_dec t 0 hs0 with ⟨_, h⟩ | ⟨h, _⟩
          · exact absurd h hb
          · exact h
        rw [hn] at hu2
        have hF : Ev (fun k => spinneyref01_First.f k t) ((Utf8.decode t 0).2 : Int) := hu2.bind (f := fun _ x => some x) (Ev.now _)
        refine Ev.congr (f := fun k => (spinneyref01_First.f k t).bind fun n => if 0 ≤ n ∧ n ≤ t.size then some (3, 0, t.extract 0 n.toNat, []) else none) (fun k => by unfold spinneyref05_first.f; rw [if_pos ⟨rfl, hz⟩]) (hF.bind (f := fun _ (n : Int) => if 0 ≤ n ∧ n ≤ t.size then some ((3 : Int), (0 : Int), t.extract 0 n.toNat, ([] : List S24)) else none) (Ev.congr (f := fun _ => some (tup ⟨3, 0, t.extract 0 (Utf8.decode t 0).2, []⟩)) (fun _ => ?_) (Ev.now _)))
        rw [if_pos ⟨by omega, by omega⟩]
        rfl
  have e3 : ¬ (k' = 3 ∧ t.toList ≠ []) := fun h => c3 h.1
  by_cases hn : l.length = 0
  · refine R ⟨0, 0, ⟨#[]⟩, []⟩ good_nil ?_ (now (fun k => ?_))
    · unfold fns_first.f; rw [if_neg c3, if_pos hn]; rfl
    · unfold spinneyref05_first.f; rw [if_neg e3, if_pos hn]; rfl
  by_cases c6 : k' = 6
  · have h2 : 2 ≤ l.length := by have := h6 c6; omega
    obtain ⟨a, b, m, rfl⟩ : ∃ a b m, l = a :: b :: m := by
      match l, h2 with
      | a :: b :: m, _ => exact ⟨a, b, m, rfl⟩
    have ga := good_item hv (v := a) (by simp)
    have gb := good_item hv (v := b) (by simp)
    have hg : Good ⟨4, 0, ⟨#[]⟩, [a, b]⟩ := by
      refine ⟨⟨?_, ?_, ?_⟩, wf_list (by simp) (fun x hx => by rcases List.mem_cons.1 hx with rfl | hx; exact ga.2; rw [List.mem_singleton.1 hx]; exact gb.2)⟩
      · simp only [OkV, OkL, and_true]
        exact ⟨⟨by omega, .inr nil_toList, .inr (.inl rfl), fun h => absurd h (by decide)⟩, by unfold FormV; rw [if_pos rfl]; trivial, ga.1.1, gb.1.1⟩
      · have := hv.1.2.1
        simp only [deepV, deepL] at this ⊢
        omega
      · have := hv.1.2.2
        simp only [partsV, partsL] at this ⊢
        omega
    refine R _ hg ?_ (now (fun k => ?_))
    · unfold fns_first.f; rw [if_neg c3, if_neg hn, if_pos c6, if_pos h2]; rfl
    · unfold spinneyref05_first.f; rw [if_neg e3, if_neg hn, if_pos c6, if_pos h2]; rfl
  · have hne : l ≠ [] := fun e => hn (by rw [e]; rfl)
    obtain ⟨a, m, rfl⟩ := List.exists_cons_of_ne_nil hne
    have ga := good_item hv (v := a) (by simp)
    have hk45 : 4 ≤ k' ∧ k' ≤ 5 := by
      rcases hl with h | h | h | h
      · omega
      · omega
      · omega
      · cases h
    refine R a ga ?_ (now (fun k => ?_))
    · unfold fns_first.f; rw [if_neg c3, if_neg hn, if_neg c6, if_pos hk45]; rfl
    · unfold spinneyref05_first.f; rw [if_neg e3, if_neg hn, if_neg c6, if_pos c3]; rfl
theorem do_same (q : Int) (h0 : 0 ≤ q) (h7 : q ≤ 7) (v : S24) (hv : Good v) : DoSame q v := by
  have : q = 0 ∨ (q = 1 ∨ q = 2 ∨ q = 7) ∨ q = 3 ∨ q = 4 ∨ q = 5 ∨ q = 6 := by omega
  rcases this with rfl | h | rfl | rfl | rfl | rfl
  · exact do_zero v hv
  · exact do_num q h v hv
  · exact do_size v hv
  · exact do_first v hv
  · exact do_wrap v hv
  · exact do_kind v hv
end Go.Proofs.YtgmmoagclkmeaaaDoor.XH
end
section
namespace Go.Proofs.YtgmmoagclkmeaaaDoor.XH
open Go.RowKit Go.Proofs.YtgmmoagclkmeaaaDoorW.PrintWords Go.Proofs.YtgmmoagclkmeaaaDoorW.PrintLast Go.Proofs.YtgmmoagclkmeaaaDoorW.PrintMore
attribute [local go_sem] max2_int min2_int max_two min_two max_three min_three max_four min_four   -- for this text's walks alone
set_option linter.unusedVariables false
set_option linter.unusedSimpArgs false

def tup5 (r : S24) (e : Int) : Int × Int × ByteArray × List S24 × Int := (r.f0, r.f1, r.f2, r.f3, e)
theorem kind5_is (q : Int) : spinneyref05_Kind.f q = some (decide (0 ≤ q ∧ q ≤ 7)) := by
 unfold spinneyref05_Kind.f
 by_cases h0 : q ≥ 0
 ·rw [if_pos h0]
  by_cases h7 : q ≤ 7
  ·rw [decide_eq_true h7, decide_eq_true (show 0 ≤ q ∧ q ≤ 7 from ⟨h0, h7⟩)]
  ·rw [decide_eq_false h7, decide_eq_false (fun h => h7 h.2)]
 ·rw [if_neg h0, decide_eq_false (fun h => h0 h.1)]
end Go.Proofs.YtgmmoagclkmeaaaDoor.XH
end
section
namespace Go.Proofs.YtgmmoagclkmeaaaDoor.XH
open Go.RowKit Go.Proofs.YtgmmoagclkmeaaaDoorW.PrintWords Go.Proofs.YtgmmoagclkmeaaaDoorW.PrintLast Go.Proofs.YtgmmoagclkmeaaaDoorW.PrintMore
attribute [local go_sem] max2_int min2_int max_two min_two max_three min_three max_four min_four   -- for this text's walks alone
set_option linter.unusedVariables false
set_option linter.unusedSimpArgs false

theorem speaks5_ev : Ev spinneylaw05_speaks.f true := Ev.of spinneylaw05_speaks.mono (k := 8) (by decide +kernel)
end Go.Proofs.YtgmmoagclkmeaaaDoor.XH
end
section
namespace Go.Proofs.YtgmmoagclkmeaaaDoor.XH
open Go.RowKit Go.Proofs.YtgmmoagclkmeaaaDoorW.PrintWords Go.Proofs.YtgmmoagclkmeaaaDoorW.PrintLast Go.Proofs.YtgmmoagclkmeaaaDoorW.PrintMore
attribute [local go_sem] max2_int min2_int max_two min_two max_three min_three max_four min_four   -- for this text's walks alone
set_option linter.unusedVariables false
set_option linter.unusedSimpArgs false

theorem times_add (q : Int) (k n m : Nat) : ∀ (a0 a1 : Int) (a2 : ByteArray) (l : List S24), times_l k q (n + m) a0 a1 a2 l = (times_l k q n a0 a1 a2 l).bind fun s => times_l k q m s.1 s.2.1 s.2.2.1 s.2.2.2 := by
 induction n with
 | zero => intro a0 a1 a2 l; simp [times_l]
 | succ n ih =>
  intro a0 a1 a2 l
  rw [show n + 1 + m = (n + m) + 1 by omega]
  simp only [times_l]
  cases h : fns_do.f k q a0 a1 a2 l with
  | none => rfl
  | some s => simp only [Option.bind_some]; exact ih _ _ _ _
theorem times_same (q : Int) (h0 : 0 ≤ q) (h7 : q ≤ 7) (n : Nat) (hn : n ≤ 65536) (d : Nat) : ∀ (i : Nat), i + d = n → ∀ v : S24, Good v → ∃ r : S24, Good r ∧ Ev (fun k => times_l k q d v.f0 v.f1 v.f2 v.f3) (tup r) ∧ Ev (fun k => spinneyref05_Times.l0 k q (n : Int) (i : Int) v.f0 v.f1 v.f2 v.f3) (tup5 r 0) := by
 induction d with
 | zero =>
  intro i hi v hv
  refine ⟨v, hv, Ev.congr (f := fun _ => some (tup v)) (fun _ => rfl) (Ev.now _), Ev.step (f := fun _ => some (tup5 v 0)) (fun k => ?_) (Ev.now _)⟩
  simp only [spinneyref05_Times.l0]
  rw [if_neg (by omega)]
  rfl
 | succ d ih =>
  intro i hi v hv
  obtain ⟨r, hr, h1, h2⟩ := do_same q h0 h7 v hv
  obtain ⟨s, hs, h3, h4⟩ := ih (i + 1) (by omega) r hr
  refine ⟨s, hs, ?_, ?_⟩
  ·simp only [times_l]
   exact h1.bind (f := fun k x => times_l k q d x.1 x.2.1 x.2.2.1 x.2.2.2) h3
  ·have e3 : wrap64 ((i : Int) + 1) = ((i + 1 : Nat) : Int) := by unfold wrap64; omega
   refine Ev.step (f := fun k => (spinneyref05_Done.f k q v.f0 v.f1 v.f2 v.f3).bind fun x => spinneyref05_Times.l0 k q (n : Int) ((i + 1 : Nat) : Int) x.1 x.2.1 x.2.2.1 x.2.2.2) (fun k => ?_) (h2.bind (f := fun k x => spinneyref05_Times.l0 k q (n : Int) ((i + 1 : Nat) : Int) x.1 x.2.1 x.2.2.1 x.2.2.2) h4)
   simp only [spinneyref05_Times.l0]
   rw [if_pos (by omega), e3]
theorem known_is5 (q : Int) : fns_known.f q = some (decide (0 ≤ q ∧ q ≤ 7)) := kind5_is q
theorem Times_ok (q : Int) (h0 : 0 ≤ q) (h7 : q ≤ 7) (n : Nat) (hn : n ≤ 65536) (v r : S24) (hv : OK v) (hr : OK r) (h : Ev (fun k => times_l k q n v.f0 v.f1 v.f2 v.f3) (tup r)) : Ev (fun k => fns_Times.f k q (n : Int) v.f0 v.f1 v.f2 v.f3) (tup5 r 0) := by
 have hv' := vcheck_ev v
 rw [if_pos hv] at hv'
 refine Ev.congr (f := fun k => (value_Check.f k v.f0 v.f1 v.f2 v.f3).bind fun e => if e = 0 then (times_l k q n v.f0 v.f1 v.f2 v.f3).bind fun s => (own_Value.f s.1 s.2.1 s.2.2.1 s.2.2.2).bind fun r => some (r.1, r.2.1, r.2.2.1, r.2.2.2, 0) else some (0, 0, ⟨#[]⟩, [], e)) (fun k => ?_) (hv'.bind (f := fun k e => if e = 0 then (times_l k q n v.f0 v.f1 v.f2 v.f3).bind fun s => (own_Value.f s.1 s.2.1 s.2.2.1 s.2.2.2).bind fun r => some (r.1, r.2.1, r.2.2.1, r.2.2.2, 0) else some (0, 0, ⟨#[]⟩, [], e)) (Ev.congr (f := fun k => (times_l k q n v.f0 v.f1 v.f2 v.f3).bind fun s => (own_Value.f s.1 s.2.1 s.2.2.1 s.2.2.2).bind fun r => some (r.1, r.2.1, r.2.2.1, r.2.2.2, 0)) (fun _ => if_pos rfl) (h.bind (f := fun _ s => (own_Value.f s.1 s.2.1 s.2.2.1 s.2.2.2).bind fun r => some (r.1, r.2.1, r.2.2.1, r.2.2.2, 0)) (Ev.congr (f := fun _ => some (tup5 r 0)) (fun _ => ?_) (Ev.now _)))))
 ·unfold fns_Times.f
  rw [known_is5, decide_eq_true (show 0 ≤ q ∧ q ≤ 7 from ⟨h0, h7⟩), Option.bind_some, if_pos rfl, if_neg (by omega), if_neg (by omega), Int.toNat_natCast]
 ·show (own_Value.f r.f0 r.f1 r.f2 r.f3).bind _ = _
  rw [own_ok_ev hr]
  rfl
theorem Times_no (q n : Int) (v : S24) (h : ¬ (0 ≤ q ∧ q ≤ 7) ∨ n < 0 ∨ 65536 < n ∨ ¬ OK v) : ∃ e : Int, e ≠ 0 ∧ (e = if ¬ (0 ≤ q ∧ q ≤ 7) then 4 else if n < 0 ∨ 65536 < n then 1 else 3) ∧ Ev (fun k => fns_Times.f k q n v.f0 v.f1 v.f2 v.f3) (tup5 ⟨0, 0, ⟨#[]⟩, []⟩ e) := by
 by_cases c : 0 ≤ q ∧ q ≤ 7
 ·by_cases cn : n < 0 ∨ 65536 < n
  ·refine ⟨1, by decide, by rw [if_neg (fun g => g c), if_pos cn], Ev.congr (f := fun _ => some (tup5 ⟨0, 0, ⟨#[]⟩, []⟩ 1)) (fun k => ?_) (Ev.now _)⟩
   unfold fns_Times.f
   rw [known_is5, decide_eq_true c, Option.bind_some, if_pos rfl]
   by_cases c1 : n < 0
   ·rw [if_pos c1]; rfl
   ·rw [if_neg c1, if_pos (cn.resolve_left c1)]; rfl
  ·have ho : ¬ OK v := by
    rcases h with h | h | h | h
    ·exact absurd c h
    ·exact absurd (.inl h) cn
    ·exact absurd (.inr h) cn
    ·exact h
   have hv' := vcheck_ev v
   rw [if_neg ho] at hv'
   refine ⟨3, by decide, by rw [if_neg (fun g => g c), if_neg cn], Ev.congr (f := fun k => (value_Check.f k v.f0 v.f1 v.f2 v.f3).bind fun e => if e = 0 then (times_l k q n.toNat v.f0 v.f1 v.f2 v.f3).bind fun s => (own_Value.f s.1 s.2.1 s.2.2.1 s.2.2.2).bind fun r => some (r.1, r.2.1, r.2.2.1, r.2.2.2, 0) else some (0, 0, ⟨#[]⟩, [], e)) (fun k => ?_) (hv'.bind (f := fun k e => if e = 0 then (times_l k q n.toNat v.f0 v.f1 v.f2 v.f3).bind fun s => (own_Value.f s.1 s.2.1 s.2.2.1 s.2.2.2).bind fun r => some (r.1, r.2.1, r.2.2.1, r.2.2.2, 0) else some (0, 0, ⟨#[]⟩, [], e)) (Ev.congr (f := fun _ => some (tup5 ⟨0, 0, ⟨#[]⟩, []⟩ 3)) (fun _ => if_neg (by decide)) (Ev.now _)))⟩
   unfold fns_Times.f
   rw [known_is5, decide_eq_true c, Option.bind_some, if_pos rfl, if_neg (fun g => cn (.inl g)), if_neg (fun g => cn (.inr g))]
 ·refine ⟨4, by decide, by rw [if_pos c], Ev.congr (f := fun _ => some (tup5 ⟨0, 0, ⟨#[]⟩, []⟩ 4)) (fun k => ?_) (Ev.now _)⟩
  unfold fns_Times.f
  rw [known_is5, decide_eq_false c]; rfl
end Go.Proofs.YtgmmoagclkmeaaaDoor.XH
end
section
namespace Go.Proofs.YtgmmoagclkmeaaaDoor.XH
open Go.RowKit Go.Proofs.YtgmmoagclkmeaaaDoorW.PrintWords Go.Proofs.YtgmmoagclkmeaaaDoorW.PrintLast Go.Proofs.YtgmmoagclkmeaaaDoorW.PrintMore
attribute [local go_sem] max2_int min2_int max_two min_two max_three min_three max_four min_four   -- for this text's walks alone
set_option linter.unusedVariables false
set_option linter.unusedSimpArgs false

theorem FnsMore_pure (q n m : Int) (_ : In64 q ∧ In64 n ∧ In64 m) (k0 n0 : Int) (t : ByteArray) (l : List S24) (hw : WfV ⟨k0, n0, t, l⟩) : ∃ i, spinneylaw05_FnsMore.f i q n m k0 n0 t l = some true := by
 have hS : Ev (fun k => (spinneylaw05_speaks.f k).bind fun t => some t) true := speaks5_ev.bind (f := fun _ t => some t) (Ev.now _)
 have J : ∀ b : Bool, Ev (fun k => spinneylaw05_FnsMore.j0 k q n m b k0 n0 t l) true → b = decide (n < 0 ∨ m < 0 ∨ n > 2000 ∨ m > 2000) → ∃ i, spinneylaw05_FnsMore.f i q n m k0 n0 t l = some true := by
  intro b hb hbb
  refine Ev.rounds (Ev.congr (g := fun i => spinneylaw05_FnsMore.f i q n m k0 n0 t l) (f := fun k => spinneylaw05_FnsMore.j0 k q n m b k0 n0 t l) (fun k => ?_) hb)
  unfold spinneylaw05_FnsMore.f
  rw [hbb]
  by_cases c1 : n < 0
  ·rw [if_pos c1, decide_eq_true (.inl c1)]
  rw [if_neg c1]
  by_cases c2 : m < 0
  ·rw [if_pos c2, decide_eq_true (.inr (.inl c2))]
  rw [if_neg c2]
  by_cases c3 : n > 2000
  ·rw [if_pos c3, decide_eq_true (.inr (.inr (.inl c3)))]
  rw [if_neg c3]
  congr 1
  simp [c1, c2, c3]
 by_cases hb : n < 0 ∨ m < 0 ∨ n > 2000 ∨ m > 2000
 ·refine J true (Ev.step (f := fun k => (spinneylaw05_speaks.f k).bind fun t => some t) (fun k => ?_) hS) (by rw [decide_eq_true hb])
  simp [spinneylaw05_FnsMore.j0]
 obtain ⟨N, rfl⟩ : ∃ N : Nat, n = N := ⟨n.toNat, by omega⟩
 obtain ⟨M, rfl⟩ : ∃ M : Nat, m = M := ⟨m.toNat, by omega⟩
 have e1 : wrap64 ((N : Int) + (M : Int)) = ((N + M : Nat) : Int) := by unfold wrap64; omega
 have S1 : ∀ (T1 T2 : Int × Int × ByteArray × List S24 × Int), Ev (fun k => fns_Times.f k q (N : Int) k0 n0 t l) T1 → Ev (fun k => fns_Times.f k q ((N + M : Nat) : Int) k0 n0 t l) T2 → Ev (fun k => if T1.2.2.2.2 = 0 then spinneylaw05_FnsMore.j1 k q M T1.2.2.2.2 T2.2.2.2.2 (T2.2.2.2.2 != 0) T1.1 T1.2.1 T1.2.2.1 T1.2.2.2.1 T2.1 T2.2.1 T2.2.2.1 T2.2.2.2.1 else spinneylaw05_FnsMore.j1 k q M T1.2.2.2.2 T2.2.2.2.2 true T1.1 T1.2.1 T1.2.2.1 T1.2.2.2.1 T2.1 T2.2.1 T2.2.2.1 T2.2.2.2.1) true → Ev (fun k => spinneylaw05_FnsMore.j0 k q N M false k0 n0 t l) true := by
  intro T1 T2 h1 h2 h3
  refine Ev.step (f := fun k => (fns_Times.f k q (N : Int) k0 n0 t l).bind fun T1 => (fns_Times.f k q ((N + M : Nat) : Int) k0 n0 t l).bind fun T2 => if T1.2.2.2.2 = 0 then spinneylaw05_FnsMore.j1 k q M T1.2.2.2.2 T2.2.2.2.2 (T2.2.2.2.2 != 0) T1.1 T1.2.1 T1.2.2.1 T1.2.2.2.1 T2.1 T2.2.1 T2.2.2.1 T2.2.2.2.1 else spinneylaw05_FnsMore.j1 k q M T1.2.2.2.2 T2.2.2.2.2 true T1.1 T1.2.1 T1.2.2.1 T1.2.2.2.1 T2.1 T2.2.1 T2.2.2.1 T2.2.2.2.1) (fun k => ?_) (h1.bind (f := fun k T1 => (fns_Times.f k q ((N + M : Nat) : Int) k0 n0 t l).bind fun T2 => if T1.2.2.2.2 = 0 then spinneylaw05_FnsMore.j1 k q M T1.2.2.2.2 T2.2.2.2.2 (T2.2.2.2.2 != 0) T1.1 T1.2.1 T1.2.2.1 T1.2.2.2.1 T2.1 T2.2.1 T2.2.2.1 T2.2.2.2.1 else spinneylaw05_FnsMore.j1 k q M T1.2.2.2.2 T2.2.2.2.2 true T1.1 T1.2.1 T1.2.2.1 T1.2.2.2.1 T2.1 T2.2.1 T2.2.2.1 T2.2.2.2.1) (h2.bind (f := fun k T2 => if T1.2.2.2.2 = 0 then spinneylaw05_FnsMore.j1 k q M T1.2.2.2.2 T2.2.2.2.2 (T2.2.2.2.2 != 0) T1.1 T1.2.1 T1.2.2.1 T1.2.2.2.1 T2.1 T2.2.1 T2.2.2.1 T2.2.2.2.1 else spinneylaw05_FnsMore.j1 k q M T1.2.2.2.2 T2.2.2.2.2 true T1.1 T1.2.1 T1.2.2.1 T1.2.2.2.1 T2.1 T2.2.1 T2.2.2.1 T2.2.2.2.1) h3))
  simp only [spinneylaw05_FnsMore.j0]
  rw [if_neg (by decide), e1]
 refine J false ?_ (by rw [decide_eq_false hb])
 by_cases hok : (0 ≤ q ∧ q ≤ 7) ∧ OK ⟨k0, n0, t, l⟩
 ·obtain ⟨r, hr, h1, _⟩ := times_same q hok.1.1 hok.1.2 N (by omega) N 0 (by omega) ⟨k0, n0, t, l⟩ ⟨hok.2, hw⟩
  obtain ⟨s, hs, h2, _⟩ := times_same q hok.1.1 hok.1.2 M (by omega) M 0 (by omega) r hr
  have h3 : Ev (fun k => times_l k q (N + M) k0 n0 t l) (tup s) := by
   simp only [times_add]
   exact h1.bind (f := fun k s => times_l k q M s.1 s.2.1 s.2.2.1 s.2.2.2) h2
  have T1 := Times_ok q hok.1.1 hok.1.2 N (by omega) ⟨k0, n0, t, l⟩ r hok.2 hr.1 h1
  have T2 := Times_ok q hok.1.1 hok.1.2 (N + M) (by omega) ⟨k0, n0, t, l⟩ s hok.2 hs.1 h3
  have T3 := Times_ok q hok.1.1 hok.1.2 M (by omega) r s hr.1 hs.1 h2
  refine S1 _ _ T1 T2 ?_
  refine Ev.congr (f := fun k => spinneylaw05_FnsMore.j1 k q M 0 0 false r.f0 r.f1 r.f2 r.f3 s.f0 s.f1 s.f2 s.f3) (fun k => if_pos rfl) ?_
  refine Ev.step (f := fun k => (fns_Times.f k q (M : Int) r.f0 r.f1 r.f2 r.f3).bind fun x => if x.2.2.2.2 = 0 then (spinneyplain_Value.f k s.f0 s.f1 s.f2 s.f3 x.1 x.2.1 x.2.2.1 x.2.2.2.1).bind fun y => if y = true then (spinneylaw05_speaks.f k).bind fun t => some t else none else none) (fun k => ?_) ?_
  ·simp only [spinneylaw05_FnsMore.j1]
   rw [if_neg (by decide)]
  refine T3.bind (f := fun k x => if x.2.2.2.2 = 0 then (spinneyplain_Value.f k s.f0 s.f1 s.f2 s.f3 x.1 x.2.1 x.2.2.1 x.2.2.2.1).bind fun y => if y = true then (spinneylaw05_speaks.f k).bind fun t => some t else none else none) ?_
  refine Ev.congr (f := fun k => (spinneyplain_Value.f k s.f0 s.f1 s.f2 s.f3 s.f0 s.f1 s.f2 s.f3).bind fun y => if y = true then (spinneylaw05_speaks.f k).bind fun t => some t else none) (fun k => if_pos rfl) ?_
  exact (same_ev s hs.2).bind (f := fun k y => if y = true then (spinneylaw05_speaks.f k).bind fun t => some t else none) (Ev.congr (f := fun k => (spinneylaw05_speaks.f k).bind fun t => some t) (fun _ => if_pos rfl) hS)
 ·have hn1 : ¬ (0 ≤ q ∧ q ≤ 7) ∨ (N : Int) < 0 ∨ 65536 < (N : Int) ∨ ¬ OK ⟨k0, n0, t, l⟩ := by
   by_cases c : 0 ≤ q ∧ q ≤ 7
   ·exact .inr (.inr (.inr (fun g => hok ⟨c, g⟩)))
   ·exact .inl c
  have hn2 : ¬ (0 ≤ q ∧ q ≤ 7) ∨ ((N + M : Nat) : Int) < 0 ∨ 65536 < ((N + M : Nat) : Int) ∨ ¬ OK ⟨k0, n0, t, l⟩ := by
   rcases hn1 with h | h | h | h
   ·exact .inl h
   ·omega
   ·omega
   ·exact .inr (.inr (.inr h))
  obtain ⟨e, he0, he, T1⟩ := Times_no q N ⟨k0, n0, t, l⟩ hn1
  obtain ⟨f, hf0, hf, T2⟩ := Times_no q ((N + M : Nat) : Int) ⟨k0, n0, t, l⟩ hn2
  have hef : e = f := by
   rw [he, hf]
   rw [if_neg (show ¬ ((N : Int) < 0 ∨ 65536 < (N : Int)) by omega), if_neg (show ¬ (((N + M : Nat) : Int) < 0 ∨ 65536 < ((N + M : Nat) : Int)) by omega)]
  subst hef
  refine S1 _ _ T1 T2 ?_
  refine Ev.congr (f := fun k => spinneylaw05_FnsMore.j1 k q M e e true 0 0 ⟨#[]⟩ [] 0 0 ⟨#[]⟩ []) (fun k => if_neg he0) ?_
  refine Ev.step (f := fun k => (spinneylaw05_speaks.f k).bind fun t => some t) (fun k => ?_) hS
  simp [spinneylaw05_FnsMore.j1]
end Go.Proofs.YtgmmoagclkmeaaaDoor.XH
end
section
namespace Go.Proofs.YtgmmoagclkmeaaaDoor.XH
open Go.RowKit Go.Proofs.YtgmmoagclkmeaaaDoorW.PrintWords Go.Proofs.YtgmmoagclkmeaaaDoorW.PrintLast Go.Proofs.YtgmmoagclkmeaaaDoorW.PrintMore
attribute [local go_sem] max2_int min2_int max_two min_two max_three min_three max_four min_four   -- for this text's walks alone
set_option linter.unusedVariables false
set_option linter.unusedSimpArgs false

open Go.ChangeShapes Go.WideShapes Go.ChangeAt
theorem list3 {α : Type} {l : List α} (h : l.length = 3) : ∃ a0 a1 a2, l = [a0, a1, a2] := by
 match l, h with
 | [a0, a1, a2], _ => exact ⟨a0, a1, a2, rfl⟩
section
variable {H : Type} {enc : TypeId × Value → H} {W : World} {base : Nat} {spare : Nat → Bool} {held : Bool}
set_option maxRecDepth 100000 in
theorem open_twice {r : Reach} {b0 : Nat} {v : Value} {d : DataW H} {ps : List MemPlace} (hval : Value.okWide Tryd.prog W r b0 47 v) (h : DataW.Trod enc Tryd.prog W base spare held 47 v d ps) :
  ∃ (a0 a1 a2 : Int), v = .agg #[.int .i64 a0, .int .i64 a1, .int .i64 a2] ∧ In64 a0 ∧ In64 a1 ∧ In64 a2 := by
 obtain ⟨cs, ecs, _⟩ := okWide_struct Tryd.underlying47 hval
 subst ecs
 obtain ⟨fuel, hf⟩ := h
 obtain ⟨xs, n, rfl, _, hl, hlen, hf⟩ := DataW.trod_struct Tryd.underlying47 hf
 have c3 : Tryd.prog.cellsOf 47 = 3 := by kernel_rfl
 have ci : Tryd.prog.cellsOf 3 = 1 := by kernel_rfl
 rw [c3] at hl
 obtain ⟨l⟩ := cs
 obtain ⟨b0, b1, b2, rfl⟩ := list3 hl
 obtain ⟨y0, y1, y2, rfl⟩ := list3 (show xs.length = 3 from hlen)
 have h0 : DataW.trod enc Tryd.prog W base spare held n 3 (([b0, b1, b2].drop 0).take (Tryd.prog.cellsOf 3)) = some y0 := hf 0 _ rfl
 rw [ci] at h0
 have h0 : DataW.trod enc Tryd.prog W base spare held n 3 [b0] = some y0 := h0
 have h1 : DataW.trod enc Tryd.prog W base spare held n 3 (([b0, b1, b2].drop 1).take (Tryd.prog.cellsOf 3)) = some y1 := hf 1 _ rfl
 rw [ci] at h1
 have h1 : DataW.trod enc Tryd.prog W base spare held n 3 [b1] = some y1 := h1
 have h2 : DataW.trod enc Tryd.prog W base spare held n 3 (([b0, b1, b2].drop 2).take (Tryd.prog.cellsOf 3)) = some y2 := hf 2 _ rfl
 rw [ci] at h2
 have h2 : DataW.trod enc Tryd.prog W base spare held n 3 [b2] = some y2 := h2
 obtain ⟨m0, e0, _, w0⟩ := DataW.trod_int Tryd.underlying3 h0
 obtain ⟨m1, e1, _, w1⟩ := DataW.trod_int Tryd.underlying3 h1
 obtain ⟨m2, e2, _, w2⟩ := DataW.trod_int Tryd.underlying3 h2
 simp only [List.cons.injEq, and_true] at e0 e1 e2
 subst e0 e1 e2
 exact ⟨m0, m1, m2, rfl, in64_of_wf w0, in64_of_wf w1, in64_of_wf w2⟩
end
end Go.Proofs.YtgmmoagclkmeaaaDoor.XH
end
