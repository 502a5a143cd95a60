/- What PathsGet is proved with: what the program's functions make of their arguments, by the evaluator. -/
import Derived.Test.YtjfjagnnefmepaaDoorZPathsGetV1
import Derived.Test.YtjfjagnnefmepaaDoorZPathsGetV0
import Derived.Test.YtjfjagnnefmepaaDoorZPathsGetA2
import Derived.Recover
section
set_option linter.unusedVariables false
set_option linter.unusedSimpArgs false
open Go Go.Ab Go.Proofs Go.Vl
namespace Go.Proofs.YtjfjagnnefmepaaDoor.AB
set_option maxRecDepth 100000
set_option maxHeartbeats 8000000
set_option linter.unusedSimpArgs false
set_option linter.unusedVariables false
section
variable {ext : Exts}
/-- put: into a list, in place -/
theorem tputL (hn : Non ext) (h26 : E26 ext) (v s x w : T) (p : List T) (hv : Good v) (h4 : v.f0 = 4) {i : Nat} (hi : idxF v.f3.length s = some i)
    (hE : (cfg ext).Ev 29 [A ((partF v s).getD nilT), .sl false (encL p) p.length, A x] (A w)) :
    (cfg ext).Ev 29 [A v, .sl false (encL (s :: p)) (s :: p).length, A x] (A ⟨4, 0, ⟨#[]⟩, v.f3.set i w⟩) := by
  have key : ∃ r, (cfg ext).Ev 29 [A v, .sl false (encL (s :: p)) (s :: p).length, A x] r ∧ r = A ⟨4, 0, ⟨#[]⟩, v.f3.set i w⟩ := by
    have hb : i < v.f3.length := by
      unfold idxF at hi
      split at hi <;> cases hi
      omega
    have hx : partF v s = some v.f3[i] := by
      unfold partF; rw [if_neg (by omega), if_pos h4, hi]; exact List.getElem?_eq_getElem hb
    have hP := tpart hn h26 v s hv.row
    have hI := tindex (ext := ext) hn v s
    rw [hx] at hP hE
    rw [hi] at hI
    have hlen := (OK.row (okB_iff.1 hv.ok)).1
    have g1 : (v.f0 == 4) = true := by simp [h4]
    refine Ev.ofF (hn 29 (by decide) (by decide)) Tryd.func29 rfl rfl ?_
    conv => whnf
    refine ⟨bnd0, ?_⟩
    conv => whnf
    refine ld0 ?_
    conv => whnf
    refine ⟨_, slTail tsV szV, ?_⟩
    conv => whnf
    repeat (first
      | (refine sel_yes ?_ ?_; (first | assumption | (simp only [beq_iff_eq, bne_iff_ne, beq_eq_false_iff_ne, bne_eq_false_iff_eq, decide_eq_true_eq, decide_eq_false_iff_not, Bool.not_eq_true', Bool.not_eq_false', ne_eq, beq_true, beq_false, bne_self_eq_false, not_true_eq_false, not_false_eq_true, gt_iff_lt, ge_iff_le, Int.not_lt, Int.not_le, Bool.true_eq_false, Bool.false_eq_true] <;> omega)); conv => whnf)
      | (refine sel_no ?_ ?_; (first | assumption | (simp only [beq_iff_eq, bne_iff_ne, beq_eq_false_iff_ne, bne_eq_false_iff_eq, decide_eq_true_eq, decide_eq_false_iff_not, Bool.not_eq_true', Bool.not_eq_false', ne_eq, beq_true, beq_false, bne_self_eq_false, not_true_eq_false, not_false_eq_true, gt_iff_lt, ge_iff_le, Int.not_lt, Int.not_le, Bool.true_eq_false, Bool.false_eq_true] <;> omega)); conv => whnf)
      | (refine ⟨_, hP, ?_⟩; conv => whnf)
      | (refine ⟨_, hI, ?_⟩; conv => whnf)
      | (refine ⟨le_rfl' ?_, ?_⟩; rfl; conv => whnf)
      | (refine ⟨⟨?_, ?_⟩, ?_⟩; omega; omega; conv => whnf)
      | (refine ⟨⟨?_, ?_, ?_⟩, ?_⟩; rfl; omega; omega; conv => whnf)
      | (refine ⟨rfl, ?_, ?_⟩; decide; conv => whnf))
    try exact rfl
    refine clone_use (l := v.f3) (by omega) (fun h => by rw [h] at hb; simp at hb) (fun _ a' ha => ?_)
    conv => whnf
    refine ⟨_, hE, ?_⟩
    conv => whnf
    refine ⟨bnd rfl hb, ?_⟩
    conv => whnf
    refine stR (x := w) (l := v.f3) (k := i) ha rfl hb (fun a2 ha2 => ?_)
    conv => whnf
    exact Fin.row (k1 := .i64) (k2 := .i64) rfl ha2 (by rw [encL_len, List.length_set]) (encC _) (by show V.agg _ = V.agg _; rw [List.length_set])
  obtain ⟨r, h, rfl⟩ := key
  exact h
theorem app1 {P : Program} {t e : Nat} {hp : Hp} {ida b v n b2 c2 : Nat} {cs val : List V} {cap2 : Option Nat} {Q : V × Hp → Prop} (ht : tslice P t = some e) {z : List V} (hz : tzero P e = some z) (hl : z.length = tsize P e ∧ tsize P e ≠ 0) (h4 : tsize P e = 4) (hb : tbytes P e = 56) (hA : hp.a b = some ⟨v, 4, cs, none, 0⟩) (hB : hp.a b2 = some ⟨0, 4, val, cap2, c2⟩) (hc : cs.length = n * 4) (hv : val.length = 4) (hn : n ≤ 1000000)
    (q : ∀ a', a' b = some ⟨v + 1, 4, cs ++ val, none, 0⟩ → Q (.rsl false b (v + 1) 0 (n + 1), ⟨hp.h, hp.n, a', hp.m⟩)) :
    t = t ∧ opt (tslice P t) fun e => opt (tzero P e) fun z => (z.length = tsize P e ∧ tsize P e ≠ 0) ∧ opt (appendV (tsize P e) (tbytes P e) hp ida (.rsl false b v 0 n) (.rsl false b2 0 0 1)) Q :=
  appX ht hz hl h4 hb (appRoom hA hB rfl rfl rfl hc rfl rfl (by rw [hv]) (by decide) (by unfold maxRoom; omega) (by unfold maxRoom; omega)) (q _ (upd_self0 _ _ _))
theorem app0 {P : Program} {t e : Nat} {hp : Hp} {ida b2 c2 : Nat} {val : List V} {cap2 : Option Nat} {Q : V × Hp → Prop} (ht : tslice P t = some e) {z : List V} (hz : tzero P e = some z) (hl : z.length = tsize P e ∧ tsize P e ≠ 0) (h4 : tsize P e = 4) (hb : tbytes P e = 56) (hB : hp.a b2 = some ⟨0, 4, val, cap2, c2⟩) (hv : val.length = 4)
    (q : ∀ a', a' ida = some ⟨0, 4, val, none, 0⟩ → Q (.rsl false ida 0 0 1, ⟨hp.h, hp.n, a', hp.m⟩)) :
    t = t ∧ opt (tslice P t) fun e => opt (tzero P e) fun z => (z.length = tsize P e ∧ tsize P e ≠ 0) ∧ opt (appendV (tsize P e) (tbytes P e) hp ida (.sl true [] 0) (.rsl false b2 0 0 1)) Q :=
  appX ht hz hl h4 hb (appNew (m := 1) hB rfl rfl (by rw [hv]) (by decide) (by decide) (by decide)) (q _ (upd_self0 _ _ _))
theorem fill_end {l : List T} {z : List V} (x : T) (hz : z.length = 4) {k : Nat} (hk : k = l.length) : fillL (encL l ++ z) (k * 4) (enc x) = encL (l ++ [x]) := by
  subst hk
  have := fill_mid (x := encL l) (y := z) (z := []) (u := enc x) (by rw [hz, enc_eq]; rfl)
  rw [encL_len, List.append_nil, List.append_nil] at this
  rw [this, encL_app]
  simp only [encL, List.append_nil]
theorem stE {hp : Hp} {b v : Nat} {l : List T} {z : List V} {cap : Option Nat} {e : Int} {k : Nat} {x : T} {Q : V × Hp → Prop} (h : hp.a b = some ⟨v, 4, encL l ++ z, cap, 0⟩) (hz : z.length = 4) (he : e = (k : Int)) (hk : k = l.length)
    (q : ∀ a', a' b = some ⟨v, 4, encL (l ++ [x]), cap, 0⟩ → Q (.tup [], ⟨hp.h, hp.n, a', hp.m⟩)) :
    opt ((storeV hp (.aref b v (0 + e.toNat * 4)) [.int .i64 x.f0, .int .i64 x.f1, .str x.f2, .sl false (encL x.f3) x.f3.length]).bind fun hp' => some (.tup [], hp')) Q := by
  subst he
  refine opt_store h (Nat.zero_le _) (by rw [List.length_append, encL_len, hz]; simp; omega) (fun a' h1 _ => q a' ?_)
  rw [h1, show 0 + (k : Int).toNat * 4 = k * 4 by simp, ← enc_eq, fill_end x hz hk]
theorem stE0 {hp : Hp} {b v : Nat} {z : List V} {cap : Option Nat} {e : Int} {x : T} {Q : V × Hp → Prop} (h : hp.a b = some ⟨v, 4, z, cap, 0⟩) (hz : z.length = 4) (he : e = ((0 : Nat) : Int))
    (q : ∀ a', a' b = some ⟨v, 4, encL [x], cap, 0⟩ → Q (.tup [], ⟨hp.h, hp.n, a', hp.m⟩)) :
    opt ((storeV hp (.aref b v (0 + e.toNat * 4)) [.int .i64 x.f0, .int .i64 x.f1, .str x.f2, .sl false (encL x.f3) x.f3.length]).bind fun hp' => some (.tup [], hp')) Q :=
  stE (l := []) (x := x) h hz he rfl q
/-- put: behind a list -/
theorem tputE (hn : Non ext) (h26 : E26 ext) (v s x w : T) (p : List T) (hv : Good v) (h4 : v.f0 = 4) (h2 : s.f0 = 2) (h1 : s.f1 = (v.f3.length : Int))
    (hE : (cfg ext).Ev 29 [A ((partF v s).getD nilT), .sl false (encL p) p.length, A x] (A w)) :
    (cfg ext).Ev 29 [A v, .sl false (encL (s :: p)) (s :: p).length, A x] (A ⟨4, 0, ⟨#[]⟩, v.f3 ++ [w]⟩) := by
  have key : ∃ r, (cfg ext).Ev 29 [A v, .sl false (encL (s :: p)) (s :: p).length, A x] r ∧ r = A ⟨4, 0, ⟨#[]⟩, v.f3 ++ [w]⟩ := by
    have hi : idxF v.f3.length s = none := if_neg (by omega)
    have hx : partF v s = none := by
      unfold partF; rw [if_neg (by omega), if_pos h4, hi]
    have hP := tpart hn h26 v s hv.row
    have hI := tindex (ext := ext) hn v s
    rw [hx] at hP hE
    rw [hi] at hI
    have hlen := (OK.row (okB_iff.1 hv.ok)).1
    have g1 : (v.f0 == 4) = true := by simp [h4]
    have g2 : (s.f0 != 2) = false := by simp [h2]
    have g3 : (s.f1 != (v.f3.length : Int)) = false := by simp [h1]
    have eN : A nilT = V.agg [.int .i64 0, .int .i64 0, .str ⟨#[]⟩, .sl false [] 0] := rfl
    refine Ev.ofF (hn 29 (by decide) (by decide)) Tryd.func29 rfl rfl ?_
    conv => whnf
    refine ⟨bnd0, ?_⟩
    conv => whnf
    refine ld0 ?_
    conv => whnf
    refine ⟨_, slTail tsV szV, ?_⟩
    conv => whnf
    repeat (first
      | (refine sel_yes ?_ ?_; (first | assumption | (simp only [beq_iff_eq, bne_iff_ne, beq_eq_false_iff_ne, bne_eq_false_iff_eq, decide_eq_true_eq, decide_eq_false_iff_not, Bool.not_eq_true', Bool.not_eq_false', ne_eq, beq_true, beq_false, bne_self_eq_false, not_true_eq_false, not_false_eq_true, gt_iff_lt, ge_iff_le, Int.not_lt, Int.not_le, Bool.true_eq_false, Bool.false_eq_true] <;> omega)); conv => whnf)
      | (refine sel_no ?_ ?_; (first | assumption | (simp only [beq_iff_eq, bne_iff_ne, beq_eq_false_iff_ne, bne_eq_false_iff_eq, decide_eq_true_eq, decide_eq_false_iff_not, Bool.not_eq_true', Bool.not_eq_false', ne_eq, beq_true, beq_false, bne_self_eq_false, not_true_eq_false, not_false_eq_true, gt_iff_lt, ge_iff_le, Int.not_lt, Int.not_le, Bool.true_eq_false, Bool.false_eq_true] <;> omega)); conv => whnf)
      | (refine ⟨_, hP, ?_⟩; conv => whnf)
      | (refine ⟨_, hI, ?_⟩; conv => whnf)
      | (refine ⟨le_rfl' ?_, ?_⟩; rfl; conv => whnf)
      | (refine ⟨⟨?_, ?_⟩, ?_⟩; omega; omega; conv => whnf)
      | (refine ⟨⟨?_, ?_, ?_⟩, ?_⟩; rfl; omega; omega; conv => whnf)
      | (refine ⟨rfl, ?_, ?_⟩; decide; conv => whnf))
    try exact rfl
    refine clone_use (l := v.f3) (by omega) (fun hnil => ?_) (fun hpos a' ha => ?_)
    · have hl0 : v.f3.length = 0 := by rw [hnil]; rfl
      conv => whnf
      refine app0 ts22 tz24 tl24 sz24 tb24 rfl rfl (fun a2 ha2 => ?_)
      conv => whnf
      refine ⟨_, hE, ?_⟩
      conv => whnf
      refine ⟨⟨by decide, by decide⟩, ?_⟩
      conv => whnf
      refine stE0 (x := w) ha2 ?_ rfl (fun a3 ha3 => ?_)
      · rfl
      conv => whnf
      exact Fin.row (k1 := .i64) (k2 := .i64) rfl ha3 (by rw [encL_len]; rfl) (encC _) (by rw [hnil]; rfl)
    · conv => whnf
      refine app1 ts22 tz24 tl24 sz24 tb24 ha rfl (encL_len _) rfl (by omega) (fun a2 ha2 => ?_)
      conv => whnf
      refine ⟨_, hE, ?_⟩
      conv => whnf
      refine ⟨bnd rfl (Nat.lt_succ_self _), ?_⟩
      conv => whnf
      refine stE (x := w) (l := v.f3) ha2 ?_ rfl rfl (fun a3 ha3 => ?_)
      · rfl
      conv => whnf
      exact Fin.row (k1 := .i64) (k2 := .i64) rfl ha3 (by rw [encL_len, List.length_append]; rfl) (encC _) (by show V.agg _ = V.agg _; rw [List.length_append]; rfl)
  obtain ⟨r, h, rfl⟩ := key
  exact h
end
end Go.Proofs.YtjfjagnnefmepaaDoor.AB
end

section
set_option linter.unusedVariables false
set_option linter.unusedSimpArgs false
open Go Go.Ab Go.Proofs Go.Vl
namespace Go.Proofs.YtjfjagnnefmepaaDoor.AB
set_option maxRecDepth 100000
set_option maxHeartbeats 8000000
set_option linter.unusedSimpArgs false
set_option linter.unusedVariables false
theorem fzPL_cons {g : V → Option V} {v v' : V} {vs us : List V} (h1 : g v = some v') (h2 : fzPL g vs = some us) : fzPL g (v :: vs) = some (v' :: us) := by simp only [fzPL, h1, h2]
theorem fzL_cons {g : Hp → V → Option (V × Hp)} {hp hp1 hp2 : Hp} {v v' : V} {vs us : List V} (h1 : g hp v = some (v', hp1)) (h2 : fzL g hp1 vs = some (us, hp2)) : fzL g hp (v :: vs) = some (v' :: us, hp2) := by simp only [fzL, h1, h2]
theorem fzP_enc (d : Nat) : ∀ l : List T, fzPL (fzP (d + 1)) (encL l) = some (encL l)
  | [] => rfl
  | v :: l => by
    simp only [encL, enc_eq, List.cons_append, List.nil_append]
    exact fzPL_cons rfl (fzPL_cons rfl (fzPL_cons rfl (fzPL_cons rfl (fzP_enc d l))))
theorem insR_use {hp : Hp} {b v i b2 ro : Nat} {cap : Option Nat} {l : List T} {x y : T} (hA : hp.a b = some ⟨v, 4, encL l, none, 0⟩) (hB : hp.a b2 = some ⟨0, 4, [.int .i64 x.f0, .int .i64 x.f1, .str x.f2, .sl false (encL x.f3) x.f3.length, .int .i64 y.f0, .int .i64 y.f1, .str y.f2, .sl false (encL y.f3) y.f3.length], cap, ro⟩) (hi : i ≤ l.length) (hne : Nat.beq b b2 = false) (hb : b < hp.m) (hb2 : b2 < hp.m) (hl : l.length ≤ 1000000) :
    insR 4 56 [.rsl false b v 0 l.length, .int .i64 i, .rsl false b2 0 0 2] hp = some (.sl false (encL (l.take i ++ [x, y] ++ l.drop i)) (l.length + 2), ⟨hp.h, hp.n + 200, fun j => if j = b then none else if hp.m ≤ j then none else hp.a j, hp.m + 200⟩) := by
  have hm : maxRoom = 140737488355328 := rfl
  have e : (encL l).take (i * 4) ++ [V.int .i64 x.f0, .int .i64 x.f1, .str x.f2, .sl false (encL x.f3) x.f3.length, .int .i64 y.f0, .int .i64 y.f1, .str y.f2, .sl false (encL y.f3) y.f3.length] ++ (encL l).drop (i * 4) = encL (l.take i ++ [x, y] ++ l.drop i) := by
    rw [encL_take, encL_drop, encL_app, encL_app]
    simp only [encL, enc_eq, List.append_nil, List.cons_append, List.nil_append]
  unfold insR
  simp only [hA, hB]
  rw [if_pos ⟨⟨by omega, by omega⟩, by decide, hne, hb, hb2, trivial, trivial, trivial, trivial, encL_len _, trivial, trivial, rfl, by omega, by omega⟩, Int.toNat_natCast, e, fzP_enc 4]
theorem insR_nil {hp : Hp} {b2 ro : Nat} {cap : Option Nat} {x y : T} (hB : hp.a b2 = some ⟨0, 4, [.int .i64 x.f0, .int .i64 x.f1, .str x.f2, .sl false (encL x.f3) x.f3.length, .int .i64 y.f0, .int .i64 y.f1, .str y.f2, .sl false (encL y.f3) y.f3.length], cap, ro⟩) :
    insR 4 56 [.sl true [] 0, .int .i64 0, .rsl false b2 0 0 2] hp = some (.sl false (encL [x, y]) 2, ⟨hp.h, hp.n + 200, fun j => if hp.m ≤ j then none else hp.a j, hp.m + 200⟩) := by
  have e : [V.int .i64 x.f0, .int .i64 x.f1, .str x.f2, .sl false (encL x.f3) x.f3.length, .int .i64 y.f0, .int .i64 y.f1, .str y.f2, .sl false (encL y.f3) y.f3.length] = encL [x, y] := by
    simp only [encL, enc_eq, List.append_nil, List.cons_append, List.nil_append]
  unfold insR
  simp only [hB]
  rw [if_pos ⟨trivial, by decide, trivial, trivial, rfl, by decide, by decide⟩, e, fzP_enc 4]
theorem asRow {d : Bool} {hp : Hp} {xs : List V} {m n : Nat} {S c : V} {cs : List V} {a b : Int} {t : ByteArray} {Q : List V × Hp → Prop} (h : Gro 4 hp.a m S cs n) (hd : d = false) (hc : ∀ hp, fz 6 hp c = some (c, hp)) (hx : xs = [.agg [.int .i64 a, .int .i64 b, .str t, S], c]) (hq : ∀ hp', Q ([.agg [.int .i64 a, .int .i64 b, .str t, .sl false cs n], c], hp')) : opt (asData d hp xs) Q := by
  subst hd hx
  obtain ⟨hp', e⟩ := h.fz (d := 3)
  have e1 : fz 6 hp (.agg [.int .i64 a, .int .i64 b, .str t, S]) = some (.agg [.int .i64 a, .int .i64 b, .str t, .sl false cs n], hp') := by
    have e2 : fzL (fz 5) hp [.int .i64 a, .int .i64 b, .str t, S] = some ([.int .i64 a, .int .i64 b, .str t, .sl false cs n], hp') :=
      fzL_cons rfl (fzL_cons rfl (fzL_cons rfl (fzL_cons e rfl)))
    show (match fzL (fz 5) hp [.int .i64 a, .int .i64 b, .str t, S] with | some (cs', hp') => some (V.agg cs', hp') | none => none) = _
    rw [e2]
  have : asData false hp [.agg [.int .i64 a, .int .i64 b, .str t, S], c] = some ([.agg [.int .i64 a, .int .i64 b, .str t, .sl false cs n], c], hp') := fzL_cons e1 (fzL_cons (hc hp') rfl)
  rw [this]
  exact hq hp'
theorem fzA (v : T) (hp : Hp) : fz 6 hp (A v) = some (A v, hp) := rfl
section
variable {ext : Exts}
/-- put: into a map, under a key that is there -/
theorem tputK (hn : Non ext) (h26 : E26 ext) (v s x w : T) (p : List T) (hv : Good v) (h6 : v.f0 = 6) (hk : (keyF v.f3 s).2 = true)
    (hE : (cfg ext).Ev 29 [A ((partF v s).getD nilT), .sl false (encL p) p.length, A x] (A w)) :
    (cfg ext).Ev 29 [A v, .sl false (encL (s :: p)) (s :: p).length, A x] (A ⟨6, 0, ⟨#[]⟩, insF v.f3 s w⟩) := by
  have key : ∃ r, (cfg ext).Ev 29 [A v, .sl false (encL (s :: p)) (s :: p).length, A x] r ∧ r = A ⟨6, 0, ⟨#[]⟩, insF v.f3 s w⟩ := by
    have hb := keyF_lt v.f3 s hk
    have eF : insF v.f3 s w = v.f3.set ((keyF v.f3 s).1 + 1) w := if_pos hk
    have hx : partF v s = some v.f3[(keyF v.f3 s).1 + 1] := by
      unfold partF; rw [if_pos h6, if_pos hk, List.getElem?_eq_getElem hb]
    have hlen := (OK.row (okB_iff.1 hv.ok)).1
    have hP := tpart hn h26 v s hv.row
    have hK := tkey (ext := ext) hn ⟨6, 0, ⟨#[]⟩, v.f3⟩ s (by show v.f3.length ≤ _; omega) ((OK.row (okB_iff.1 hv.ok)).2 h6) (fun a ha => t15 hn h26 a (hv.row.wfl a ha) s)
    have hK2 : (cfg ext).Ev 57 [.agg [.int .i64 6, .int .i64 0, .str ⟨#[]⟩, .sl false (encL v.f3) v.f3.length], A s] (.tup [.int .i64 (((keyF v.f3 s).1 : Nat) : Int), .bool true]) := by
      have := hK
      simp only [hk] at this
      exact this
    rw [hx] at hP hE
    have g1 : (v.f0 == 4) = false := by simp [h6]
    have g2 : (v.f0 == 0) = false := by simp [h6]
    have g3 : (v.f0 == 6) = true := by simp [h6]
    have e1 : IntKind.i64.wrap ((((keyF v.f3 s).1 : Nat) : Int) + 1) = (((keyF v.f3 s).1 + 1 : Nat) : Int) := wrapN (by omega) (by omega)
    refine Ev.ofF (hn 29 (by decide) (by decide)) Tryd.func29 rfl rfl ?_
    conv => whnf
    refine ⟨bnd0, ?_⟩
    conv => whnf
    refine ld0 ?_
    conv => whnf
    refine ⟨_, slTail tsV szV, ?_⟩
    conv => whnf
    repeat (first
      | (refine sel_yes ?_ ?_; (first | assumption | (simp only [beq_iff_eq, bne_iff_ne, beq_eq_false_iff_ne, bne_eq_false_iff_eq, decide_eq_true_eq, decide_eq_false_iff_not, Bool.not_eq_true', Bool.not_eq_false', ne_eq, beq_true, beq_false, bne_self_eq_false, not_true_eq_false, not_false_eq_true, gt_iff_lt, ge_iff_le, Int.not_lt, Int.not_le, Bool.true_eq_false, Bool.false_eq_true] <;> omega)); conv => whnf)
      | (refine sel_no ?_ ?_; (first | assumption | (simp only [beq_iff_eq, bne_iff_ne, beq_eq_false_iff_ne, bne_eq_false_iff_eq, decide_eq_true_eq, decide_eq_false_iff_not, Bool.not_eq_true', Bool.not_eq_false', ne_eq, beq_true, beq_false, bne_self_eq_false, not_true_eq_false, not_false_eq_true, gt_iff_lt, ge_iff_le, Int.not_lt, Int.not_le, Bool.true_eq_false, Bool.false_eq_true] <;> omega)); conv => whnf)
      | (refine ⟨_, hP, ?_⟩; conv => whnf)
      | (refine ⟨le_rfl' ?_, ?_⟩; rfl; conv => whnf)
      | (refine ⟨⟨?_, ?_⟩, ?_⟩; omega; omega; conv => whnf)
      | (refine ⟨⟨?_, ?_, ?_⟩, ?_⟩; rfl; omega; omega; conv => whnf)
      | (refine ⟨rfl, ?_, ?_⟩; decide; conv => whnf))
    try exact rfl
    refine clone_use (l := v.f3) (by omega) (fun h => by rw [h] at hb; simp at hb) (fun _ a' ha => ?_)
    conv => whnf
    refine ⟨_, hE, ?_⟩
    conv => whnf
    refine asRow (cs := encL v.f3) (n := v.f3.length) ⟨encL_len _, encC _, .inr ⟨_, _, Nat.lt_succ_self _, rfl, ha⟩⟩ rfl (fzA s) rfl (fun hp' => ?_)
    refine ⟨_, hK2, ?_⟩
    conv => whnf
    refine ⟨bnd e1 hb, ?_⟩
    conv => whnf
    refine stR (x := w) (l := v.f3) (k := (keyF v.f3 s).1 + 1) ha e1 hb (fun a2 ha2 => ?_)
    conv => whnf
    exact Fin.row (k1 := .i64) (k2 := .i64) rfl ha2 (by rw [encL_len, List.length_set]) (encC _) (by rw [eF]; show V.agg _ = V.agg _; rw [List.length_set])
  obtain ⟨r, h, rfl⟩ := key
  exact h
end
end Go.Proofs.YtjfjagnnefmepaaDoor.AB
end

section
set_option linter.unusedVariables false
set_option linter.unusedSimpArgs false
open Go Go.Ab Go.Proofs Go.Vl
namespace Go.Proofs.YtjfjagnnefmepaaDoor.AB
set_option maxRecDepth 100000
set_option maxHeartbeats 8000000
set_option linter.unusedSimpArgs false
set_option linter.unusedVariables false
theorem FinAgg {P : Program} {fn : Func} {s : St} {R : V → Prop} {k1 k2 : IntKind} {a b : Int} {t : ByteArray} {c : Bool} {cs : List V} {n : Nat} (h : resOf P fn s = some (.agg [.int k1 a, .int k2 b, .str t, .sl c cs n])) (hR : R (.agg [.int k1 a, .int k2 b, .str t, .sl false cs n])) : Fin P fn s R := ⟨by rw [h]; exact hR⟩
section
variable {ext : Exts}
/-- put: into a map, under a new key -/
theorem tputI (hn : Non ext) (h26 : E26 ext) (v s x w : T) (p : List T) (hv : Good v) (h6 : v.f0 = 0 ∨ v.f0 = 6) (hk : (keyF v.f3 s).2 = false) (old : T) (ho : A ((partF v s).getD nilT) = A old) (hP : (cfg ext).Ev 54 [A v, A s] (.tup [A old, .bool false]))
    (hE : (cfg ext).Ev 29 [A old, .sl false (encL p) p.length, A x] (A w)) (hev : v.f3.length % 2 = 0) :
    (cfg ext).Ev 29 [A v, .sl false (encL (s :: p)) (s :: p).length, A x] (A ⟨6, 0, ⟨#[]⟩, insF v.f3 s w⟩) := by
  have key : ∃ r, (cfg ext).Ev 29 [A v, .sl false (encL (s :: p)) (s :: p).length, A x] r ∧ r = A ⟨6, 0, ⟨#[]⟩, insF v.f3 s w⟩ := by
    have hb := keyF_le v.f3 s
    have eF : insF v.f3 s w = v.f3.take (keyF v.f3 s).1 ++ [s, w] ++ v.f3.drop (keyF v.f3 s).1 := if_neg (by rw [hk]; simp)
    have eL : (insF v.f3 s w).length = v.f3.length + 2 := by rw [eF]; simp; omega
    have hlen := (OK.row (okB_iff.1 hv.ok)).1
    have hK := tkey (ext := ext) hn ⟨6, 0, ⟨#[]⟩, v.f3⟩ s (by show v.f3.length ≤ _; omega) hev (fun a ha => t15 hn h26 a (hv.row.wfl a ha) s)
    have hK2 : (cfg ext).Ev 57 [.agg [.int .i64 6, .int .i64 0, .str ⟨#[]⟩, .sl false (encL v.f3) v.f3.length], A s] (.tup [.int .i64 (((keyF v.f3 s).1 : Nat) : Int), .bool false]) := by
      have := hK
      simp only [hk] at this
      exact this
    have hR : V.agg [.int .i64 6, .int .i64 0, .str ⟨#[]⟩, .sl false (encL (insF v.f3 s w)) (v.f3.length + 2)] = A ⟨6, 0, ⟨#[]⟩, insF v.f3 s w⟩ := by rw [← eL]; rfl
    have g1 : (v.f0 == 4) = false := by rcases h6 with h6 | h6 <;> simp [h6]
    have body : ∀ (Q : Prop), Q → Q := fun Q h => h
    refine Ev.ofF (hn 29 (by decide) (by decide)) Tryd.func29 rfl rfl ?_
    conv => whnf
    refine ⟨bnd0, ?_⟩
    conv => whnf
    refine ld0 ?_
    conv => whnf
    refine ⟨_, slTail tsV szV, ?_⟩
    conv => whnf
    by_cases h0 : v.f0 = 0
    · have g2 : (v.f0 == 0) = true := by simp [h0]
      repeat (first
        | (refine sel_yes ?_ ?_; (first | assumption | (simp only [beq_iff_eq, bne_iff_ne, beq_eq_false_iff_ne, bne_eq_false_iff_eq, decide_eq_true_eq, decide_eq_false_iff_not, Bool.not_eq_true', Bool.not_eq_false', ne_eq, beq_true, beq_false, bne_self_eq_false, not_true_eq_false, not_false_eq_true, gt_iff_lt, ge_iff_le, Int.not_lt, Int.not_le, Bool.true_eq_false, Bool.false_eq_true] <;> omega)); conv => whnf)
        | (refine sel_no ?_ ?_; (first | assumption | (simp only [beq_iff_eq, bne_iff_ne, beq_eq_false_iff_ne, bne_eq_false_iff_eq, decide_eq_true_eq, decide_eq_false_iff_not, Bool.not_eq_true', Bool.not_eq_false', ne_eq, beq_true, beq_false, bne_self_eq_false, not_true_eq_false, not_false_eq_true, gt_iff_lt, ge_iff_le, Int.not_lt, Int.not_le, Bool.true_eq_false, Bool.false_eq_true] <;> omega)); conv => whnf)
        | (refine ⟨_, hP, ?_⟩; conv => whnf)
        | (refine ⟨le_rfl' ?_, ?_⟩; rfl; conv => whnf)
        | (refine ⟨⟨?_, ?_⟩, ?_⟩; omega; omega; conv => whnf)
        | (refine ⟨⟨?_, ?_, ?_⟩, ?_⟩; rfl; omega; omega; conv => whnf)
        | (refine ⟨rfl, ?_, ?_⟩; decide; conv => whnf))
      try exact rfl
      refine clone_use (l := v.f3) (by omega) (fun hnil => ?_) (fun _ a' ha => ?_)
      · have hk0 : (keyF v.f3 s).1 = 0 := by rw [hnil]; rfl
        conv => whnf
        refine ⟨_, hE, ?_⟩
        conv => whnf
        have hK3 : (cfg ext).Ev 57 [.agg [.int .i64 6, .int .i64 0, .str ⟨#[]⟩, .sl false [] 0], A s] (.tup [.int .i64 0, .bool false]) := by
          have := hK2
          rw [hnil] at this
          exact this
        refine ⟨_, hK3, ?_⟩
        conv => whnf
        refine ⟨_, _, EvR.extR (g := insR 4 56) rfl rfl (insR_nil (x := s) (y := w) (cap := some 2) (ro := 0) ?_), ?_⟩
        · rfl
        conv => whnf
        exact FinAgg (k1 := .i64) (k2 := .i64) rfl (by rw [← hR, eF, hk0, hnil]; rfl)
      · conv => whnf
        refine ⟨_, hE, ?_⟩
        conv => whnf
        refine asRow (cs := encL v.f3) (n := v.f3.length) ⟨encL_len _, encC _, .inr ⟨_, _, Nat.lt_succ_self _, rfl, ha⟩⟩ rfl (fzA s) rfl (fun hp' => ?_)
        refine ⟨_, hK2, ?_⟩
        conv => whnf
        refine ⟨_, _, EvR.extR (g := insR 4 56) rfl rfl (insR_use (l := v.f3) (x := s) (y := w) (cap := some 2) (ro := 0) ha ?_ hb ?_ ?_ ?_ (by omega)), ?_⟩
        · rfl
        · rfl
        · exact Nat.le_of_ble_eq_true rfl
        · exact Nat.le_of_ble_eq_true rfl
        conv => whnf
        exact FinAgg (k1 := .i64) (k2 := .i64) rfl (by rw [← hR, eF])
    · have h6' : v.f0 = 6 := by omega
      have g2 : (v.f0 == 0) = false := by simp [h6']
      have g3 : (v.f0 == 6) = true := by simp [h6']
      repeat (first
        | (refine sel_yes ?_ ?_; (first | assumption | (simp only [beq_iff_eq, bne_iff_ne, beq_eq_false_iff_ne, bne_eq_false_iff_eq, decide_eq_true_eq, decide_eq_false_iff_not, Bool.not_eq_true', Bool.not_eq_false', ne_eq, beq_true, beq_false, bne_self_eq_false, not_true_eq_false, not_false_eq_true, gt_iff_lt, ge_iff_le, Int.not_lt, Int.not_le, Bool.true_eq_false, Bool.false_eq_true] <;> omega)); conv => whnf)
        | (refine sel_no ?_ ?_; (first | assumption | (simp only [beq_iff_eq, bne_iff_ne, beq_eq_false_iff_ne, bne_eq_false_iff_eq, decide_eq_true_eq, decide_eq_false_iff_not, Bool.not_eq_true', Bool.not_eq_false', ne_eq, beq_true, beq_false, bne_self_eq_false, not_true_eq_false, not_false_eq_true, gt_iff_lt, ge_iff_le, Int.not_lt, Int.not_le, Bool.true_eq_false, Bool.false_eq_true] <;> omega)); conv => whnf)
        | (refine ⟨_, hP, ?_⟩; conv => whnf)
        | (refine ⟨le_rfl' ?_, ?_⟩; rfl; conv => whnf)
        | (refine ⟨⟨?_, ?_⟩, ?_⟩; omega; omega; conv => whnf)
        | (refine ⟨⟨?_, ?_, ?_⟩, ?_⟩; rfl; omega; omega; conv => whnf)
        | (refine ⟨rfl, ?_, ?_⟩; decide; conv => whnf))
      try exact rfl
      refine clone_use (l := v.f3) (by omega) (fun hnil => ?_) (fun _ a' ha => ?_)
      · have hk0 : (keyF v.f3 s).1 = 0 := by rw [hnil]; rfl
        conv => whnf
        refine ⟨_, hE, ?_⟩
        conv => whnf
        have hK3 : (cfg ext).Ev 57 [.agg [.int .i64 6, .int .i64 0, .str ⟨#[]⟩, .sl false [] 0], A s] (.tup [.int .i64 0, .bool false]) := by
          have := hK2
          rw [hnil] at this
          exact this
        refine ⟨_, hK3, ?_⟩
        conv => whnf
        refine ⟨_, _, EvR.extR (g := insR 4 56) rfl rfl (insR_nil (x := s) (y := w) (cap := some 2) (ro := 0) ?_), ?_⟩
        · rfl
        conv => whnf
        exact FinAgg (k1 := .i64) (k2 := .i64) rfl (by rw [← hR, eF, hk0, hnil]; rfl)
      · conv => whnf
        refine ⟨_, hE, ?_⟩
        conv => whnf
        refine asRow (cs := encL v.f3) (n := v.f3.length) ⟨encL_len _, encC _, .inr ⟨_, _, Nat.lt_succ_self _, rfl, ha⟩⟩ rfl (fzA s) rfl (fun hp' => ?_)
        refine ⟨_, hK2, ?_⟩
        conv => whnf
        refine ⟨_, _, EvR.extR (g := insR 4 56) rfl rfl (insR_use (l := v.f3) (x := s) (y := w) (cap := some 2) (ro := 0) ha ?_ hb ?_ ?_ ?_ (by omega)), ?_⟩
        · rfl
        · rfl
        · exact Nat.le_of_ble_eq_true rfl
        · exact Nat.le_of_ble_eq_true rfl
        conv => whnf
        exact FinAgg (k1 := .i64) (k2 := .i64) rfl (by rw [← hR, eF])
  obtain ⟨r, h, rfl⟩ := key
  exact h
end
end Go.Proofs.YtjfjagnnefmepaaDoor.AB
end

section
set_option linter.unusedVariables false
set_option linter.unusedSimpArgs false
open Go Go.Ab Go.Proofs Go.Vl
namespace Go.Proofs.YtjfjagnnefmepaaDoor.AB
set_option maxRecDepth 100000
set_option maxHeartbeats 8000000
set_option linter.unusedSimpArgs false
set_option linter.unusedVariables false
theorem Good.nil {v : T} (h : Good v) (h0 : v.f0 = 0) : v.f3 = [] := by
  have h1 := (okB_iff.1 h.ok).1
  rw [okV_eq] at h1
  have hf := h1.2.1
  unfold FormV at hf
  rw [h0] at hf
  simpa using hf
theorem old_good {v s : T} (hv : Good v) (hs : Good s) : Good ((partF v s).getD nilT) := by
  cases h : partF v s with
  | none => exact nil_good
  | some w => exact part_good hv hs h
section
variable {ext : Exts}
/-- paths.put, where the path leads there -/
theorem tput (hn : Non ext) (h26 : E26 ext) (x : T) : ∀ (p : List T) (v w : T), Good v → (∀ s ∈ p, Good s) → putF v p x = some w → (cfg ext).Ev 29 [A v, .sl false (encL p) p.length, A x] (A w)
  | [], v, w, hv, hp, h => by
    cases h
    exact tput0 hn v x
  | s :: p, v, w, hv, hp, h => by
    have hs : Good s := hp s (by simp)
    have hp' : ∀ s' ∈ p, Good s' := fun s' h => hp s' (by simp [h])
    have ih := tput hn h26 x p ((partF v s).getD nilT)
    have hog := old_good hv hs
    unfold putF at h
    by_cases h4 : v.f0 = 4
    · rw [if_pos h4] at h
      cases hi : idxF v.f3.length s with
      | some i =>
        rw [hi] at h
        simp only [Option.map_eq_some_iff] at h
        obtain ⟨u, hu, rfl⟩ := h
        exact tputL hn h26 v s x u p hv h4 hi (ih u hog hp' hu)
      | none =>
        rw [hi] at h
        simp only at h
        split at h
        · rename_i hc
          simp only [Option.map_eq_some_iff] at h
          obtain ⟨u, hu, rfl⟩ := h
          exact tputE hn h26 v s x u p hv h4 hc.1 hc.2 (ih u hog hp' hu)
        · cases h
    · rw [if_neg h4] at h
      split at h
      · rename_i h06
        simp only [Option.map_eq_some_iff] at h
        obtain ⟨u, hu, rfl⟩ := h
        have hE := ih u hog hp' hu
        have hP := tpart hn h26 v s hv.row
        rcases h06 with h0 | h6
        · have hnil := hv.nil h0
          have hx : partF v s = none := by unfold partF; rw [if_neg (by omega), if_neg h4, if_neg (by omega)]
          rw [hx] at hE hP
          exact tputI hn h26 v s x u p hv (.inl h0) (by rw [hnil]; rfl) nilT (by rw [hx]; rfl) hP hE (by rw [hnil]; rfl)
        · cases hk : (keyF v.f3 s).2 with
          | true => exact tputK hn h26 v s x u p hv h6 hk hE
          | false =>
            have hx : partF v s = none := by unfold partF; rw [if_pos h6, hk]; rfl
            rw [hx] at hE hP
            exact tputI hn h26 v s x u p hv (.inr h6) hk nilT (by rw [hx]; rfl) hP hE ((OK.row (okB_iff.1 hv.ok)).2 h6)
      · cases h
def refusal : Value := .iface 75 (.agg #[.int .i64 260])
/-- paths.put, where there is no part to put anything under -/
theorem tpan0 {L : World → Prop} (hS : Sound (cfg ext) L) (hn : Non ext) (v s x old : T) (pb : Bool) (p : List T) (h4 : v.f0 ≠ 4) (h0 : v.f0 ≠ 0) (h6 : v.f0 ≠ 6) (hP : (cfg ext).Ev 54 [A v, A s] (.tup [A old, .bool pb])) :
    PanC Tryd.prog L 29 [A v, .sl false (encL (s :: p)) (s :: p).length, A x] refusal := by
  have g1 : (v.f0 == 4) = false := by simp [h4]
  have g2 : (v.f0 == 0) = false := by simp [h0]
  have g3 : (v.f0 == 6) = false := by simp [h6]
  refine PanC.of_SW (C := cfg ext) (fn := Tryd.f29) hS Tryd.func29 rfl ?_
  refine SW.seq (SW.of_x hS (by kernel_rfl) ?_)
  conv => whnf
  refine SW.seq (SW.of_x hS (by kernel_rfl) ?_)
  conv => whnf
  refine SW.seq (SW.of_x hS (by kernel_rfl) ?_)
  conv => whnf
  refine ⟨bnd0, ?_⟩
  conv => whnf
  refine ld0 ?_
  conv => whnf
  refine ⟨_, slTail tsV szV, ?_⟩
  conv => whnf
  refine SW.seq (SW.of_x hS (by kernel_rfl) ?_)
  conv => whnf
  refine ⟨_, hP, ?_⟩
  conv => whnf
  refine SW.seq (SW.of_x hS (by kernel_rfl) ?_)
  conv => whnf
  refine sel_no (by (first | assumption | (simp only [beq_iff_eq, bne_iff_ne, beq_eq_false_iff_ne, bne_eq_false_iff_eq, decide_eq_true_eq, decide_eq_false_iff_not, Bool.not_eq_true', Bool.not_eq_false', ne_eq, beq_true, beq_false, bne_self_eq_false, not_true_eq_false, not_false_eq_true, gt_iff_lt, ge_iff_le, Int.not_lt, Int.not_le, Bool.true_eq_false, Bool.false_eq_true] <;> omega))) ?_
  conv => whnf
  refine SW.seq (SW.of_x hS (by kernel_rfl) ?_)
  conv => whnf
  refine sel_no (by (first | assumption | (simp only [beq_iff_eq, bne_iff_ne, beq_eq_false_iff_ne, bne_eq_false_iff_eq, decide_eq_true_eq, decide_eq_false_iff_not, Bool.not_eq_true', Bool.not_eq_false', ne_eq, beq_true, beq_false, bne_self_eq_false, not_true_eq_false, not_false_eq_true, gt_iff_lt, ge_iff_le, Int.not_lt, Int.not_le, Bool.true_eq_false, Bool.false_eq_true] <;> omega))) ?_
  conv => whnf
  refine sel_no (by (first | assumption | (simp only [beq_iff_eq, bne_iff_ne, beq_eq_false_iff_ne, bne_eq_false_iff_eq, decide_eq_true_eq, decide_eq_false_iff_not, Bool.not_eq_true', Bool.not_eq_false', ne_eq, beq_true, beq_false, bne_self_eq_false, not_true_eq_false, not_false_eq_true, gt_iff_lt, ge_iff_le, Int.not_lt, Int.not_le, Bool.true_eq_false, Bool.false_eq_true] <;> omega))) ?_
  conv => whnf
  refine SW.region hS 2 rfl (by kernel_rfl) ?_
  conv => whnf
  exact OpW.raise rfl rfl rfl rfl
end
end Go.Proofs.YtjfjagnnefmepaaDoor.AB
end

section
set_option linter.unusedVariables false
set_option linter.unusedSimpArgs false
open Go Go.Ab Go.Proofs Go.Vl
namespace Go.Proofs.YtjfjagnnefmepaaDoor.AB
set_option maxRecDepth 100000
set_option maxHeartbeats 16000000
set_option linter.unusedSimpArgs false
set_option linter.unusedVariables false
theorem Gro_fz2 {sz d : Nat} {hp : Hp} {m : Nat} {s : V} {cs : List V} {n : Nat} (h : Gro sz hp.a m s cs n) : ∃ a', Go.Ab.fz (d + 2) hp s = some (.sl false cs n, ⟨hp.h, hp.n, a', hp.m⟩) := by
  rcases h.is with ⟨rfl, rfl⟩ | ⟨b, v, _, rfl, ha⟩
  · have := h.len
    simp at this
    subst this
    exact ⟨hp.a, rfl⟩
  · have e : sub cs 0 (n * sz) = cs := by simp [sub, List.take_of_length_le, h.len]
    refine ⟨upd hp.a b (some ⟨v, sz, cs, none, max 0 (0 + n * sz)⟩), ?_⟩
    rw [fz_rsl, ha]
    dsimp only
    rw [if_pos ⟨rfl, by rw [h.len]; omega⟩, e, fzL_cold d _ cs h.cold]
theorem asGro {d : Bool} {hp : Hp} {xs : List V} {m n sz : Nat} {S : V} {cs : List V} {Q : List V × Hp → Prop} (h : Gro sz hp.a m S cs n) (hd : d = false) (hx : xs = [S]) (hq : ∀ a', Q ([.sl false cs n], ⟨hp.h, hp.n, a', hp.m⟩)) : opt (asData d hp xs) Q := by
  subst hd hx
  obtain ⟨a', e⟩ := Gro_fz2 (d := 4) h
  have : asData false hp [S] = some ([.sl false cs n], ⟨hp.h, hp.n, a', hp.m⟩) := by
    show fzL (fz 6) hp [S] = _
    exact fzL_cons e rfl
  rw [this]
  exact hq a'
theorem ldFK {l : List T} {X k : Nat} {Q : V → Prop} (he : X = k * 4) (h : k < l.length) (hq : Q (A l[k])) : X + 4 ≤ (encL l).length ∧ opt (one (some true) (sub (encL l) X 4)) fun v => fv v Q := by
  subst he
  exact ldA h hq
theorem appT {hp : Hp} {ida m n : Nat} {S : V} {D : List T} {x y : T} {c : Bool} {Q : V × Hp → Prop} (h : Gro 4 hp.a m S (encL D) n) (hm : m ≤ hp.m) (hi : ida < hp.m) (hb : n ≤ 1048576)
    (q : ∀ b v a', Gro 4 a' hp.m (.rsl false b v 0 (n + 2)) (encL (D ++ [x, y])) (n + 2) → Q (.rsl false b v 0 (n + 2), ⟨hp.h, hp.n, a', hp.m⟩)) :
    opt (appendV 4 56 hp ida S (.sl c [V.int .i64 x.f0, .int .i64 x.f1, .str x.f2, .sl false (encL x.f3) x.f3.length, .int .i64 y.f0, .int .i64 y.f1, .str y.f2, .sl false (encL y.f3) y.f3.length] 2)) Q :=
  Gro.app h (xs := [V.int .i64 x.f0, .int .i64 x.f1, .str x.f2, .sl false (encL x.f3) x.f3.length, .int .i64 y.f0, .int .i64 y.f1, .str y.f2, .sl false (encL y.f3) y.f3.length]) (k := 2) rfl (by decide) rfl (two_cold x y) ⟨by unfold maxRoom; omega, by unfold maxRoom; omega⟩ hi hm
    fun b v a' h1 _ _ => q b v a' (h1.to (two_one D x y) rfl)
theorem appE {hp : Hp} {ida b k sz bytes : Nat} {cs : List V} {cp : Option Nat} {Q : V × Hp → Prop} (hA : hp.a b = some ⟨0, sz, [], cp, 0⟩) (hcp : cp = some 0) (hz : sz ≠ 0) (hl : cs.length = k * sz) (hk : k ≠ 0) (hc : ∀ c ∈ cs, cold c = true) (hb : k * bytes ≤ 140737488355328 ∧ k ≤ 140737488355328) (hi : ida < hp.m)
    (q : ∀ a', Gro sz a' hp.m (.rsl false ida 0 0 (0 + k)) cs (0 + k) → Q (.rsl false ida 0 0 (0 + k), ⟨hp.h, hp.n, a', hp.m⟩)) :
    opt (appendV sz bytes hp ida (.rsl false b 0 0 0) (.sl false cs k)) Q := by
  subst hcp
  have hm : maxRoom = 140737488355328 := rfl
  have c1 : content none hp sz (.rsl false b 0 0 0) = some ([], 0) := by
    simp [content, hA, sub]
  have c2 : content none hp sz (.sl false cs k) = some (cs, k) := by simp only [content]; rw [if_pos hl]
  have : appendV sz bytes hp ida (.rsl false b 0 0 0) (.sl false cs k) = some (.rsl false ida 0 0 (0 + k), ⟨hp.h, hp.n, upd hp.a ida (some ⟨0, sz, [] ++ cs, none, 0⟩), hp.m⟩) := by
    unfold appendV
    rw [c1, c2]
    simp only
    rw [if_neg hk, if_pos (by rw [Nat.zero_add]; omega), hA]
    simp only
    rw [if_neg (by have := Nat.mul_pos (Nat.pos_of_ne_zero hk) (Nat.pos_of_ne_zero hz); simp only [Nat.zero_add, Nat.zero_mul]; omega)]
  rw [this]
  refine q _ ⟨by rw [Nat.zero_add]; exact hl, hc, .inr ⟨ida, 0, hi, rfl, ?_⟩⟩
  rw [upd_is]; rfl
theorem insF_len (l : List T) (s w : T) : 0 < (insF l s w).length ∧ (insF l s w).length ≤ l.length + 2 := by
  have := keyF_le l s
  unfold insF
  by_cases h : (keyF l s).2 = true
  · have := keyF_lt l s h
    rw [if_pos h, List.length_set]; omega
  · rw [if_neg h]
    simp only [List.length_append, List.length_take, List.length_drop, List.length_cons, List.length_nil]; omega
section
variable {ext : Exts}
theorem rKeyed (hn : Non ext) (n : Nat) (l : List (T × T)) (h1 : l.length ≤ n + 1) (h2 : l.length ≤ 100000) (hw : ∀ p ∈ l, WfV p.1) :
    (cfg ext).Ev 82 [.sl false (encL (flatK l)) l.length] (.sl false (encL (flatK (keyedK n l))) (keyedK n l).length) := by
  have h := rkeyed hn n l h1 h2 hw
  refine Ev.of (hn 82 (by decide) (by decide)) Tryd.func82 rfl rfl ?_
  conv => whnf
  refine ⟨_, h, ?_⟩
  conv => whnf
theorem lund (L : List (T × T)) (hl : L.length ≤ 100000) (B N : Nat) (hB : (B = 22 ∧ N = 25) ∨ (B = 19 ∧ N = 22)) (Q : Ex → St → Prop) (d : Nat) :
    ∀ (i : Nat) (S : V) (z : St), L.length - i = d → i ≤ L.length → Has z.t [(6, .ref 3 0), (7, .sl false (encL (flatK L)) L.length), (8, .ref B 0), (9, .int .i64 i)] → z.hp.n = N → Has z.hp.h [(3, some (.cells zC false)), (B, some (.cells [.int .i64 6, .int .i64 0, .str ⟨#[]⟩, S] false))] → Gro 4 z.hp.a z.hp.m S (encL ((flatK L).take (2 * i))) (2 * i) →
      (∀ (S' : V) (z' : St), Has z'.t [(6, .ref 3 0), (8, .ref B 0)] → z'.hp.n = z'.hp.n → Has z'.hp.h [(3, some (.cells zC false)), (B, some (.cells [.int .i64 6, .int .i64 0, .str ⟨#[]⟩, S'] false))] → Gro 4 z'.hp.a z'.hp.m S' (encL (flatK L)) (2 * L.length) → Q (.exit 0) z') →
      Go.Ab.Loop (cfg ext) (lpOf Tryd.f63) N z Q := by
  have hfl := flat_len L
  induction d with
  | zero =>
    intro i S z hd hi ht hz hb hg hq
    obtain rfl : i = L.length := by omega
    have g : decide ((L.length : Int) < (L.length : Int)) = false := decide_eq_false (by omega)
    rw [List.take_of_length_le (by omega)] at hg
    rcases hB with ⟨rfl, rfl⟩ | ⟨rfl, rfl⟩
    all_goals
      rcases hg.form with ⟨eS, _⟩ | ⟨bS, vS, eS⟩ <;> subst eS
    all_goals
      rw [St.knows _ _ ht hz _ hb]
      refine Loop.round ?_
      conv => whnf
      refine sel_no g ?_
      conv => whnf
      refine hq _ _ ⟨rfl, rfl, trivial⟩ rfl ⟨rfl, rfl, trivial⟩ ?_
      refine Gro.mono hg (fun _ _ => rfl) ?_
      (conv => lhs; whnf); (repeat ((conv => rhs; whnf); first | with_reducible exact Nat.le_refl _ | refine Nat.le_trans ?_ (Nat.le_add_right _ _) | refine Nat.le_succ_of_le ?_ | exact Nat.le_refl _))
  | succ d ih =>
    intro i S z hd hi ht hz hb hg hq
    have hlt : i < L.length := by omega
    have g : decide ((i : Int) < (L.length : Int)) = true := decide_eq_true (by omega)
    have e1 : IntKind.i64.wrap ((i : Int) + 1) = ((i + 1 : Nat) : Int) := wrapN (by omega) (by omega)
    have h1 : 2 * i < (flatK L).length := by omega
    have h2 : 2 * i + 1 < (flatK L).length := by omega
    obtain ⟨x, hx⟩ : ∃ x, (flatK L)[2 * i] = x := ⟨_, rfl⟩
    obtain ⟨y, hy⟩ : ∃ y, (flatK L)[2 * i + 1] = y := ⟨_, rfl⟩
    have eT : (flatK L).take (2 * i) ++ [x, y] = (flatK L).take (2 * (i + 1)) := by
      rw [show 2 * (i + 1) = 2 * i + 1 + 1 by omega, List.take_add_one, List.take_add_one, List.getElem?_eq_getElem h1, List.getElem?_eq_getElem h2, hx, hy]
      simp
    have hlx : ∀ {Q : V → Prop}, Q (A x) → (i : Int).toNat * 8 + 0 + 4 ≤ (encL (flatK L)).length ∧ opt (one (some true) (sub (encL (flatK L)) ((i : Int).toNat * 8 + 0) 4)) fun v => fv v Q := fun h => ldFK (by simp; omega) h1 (by rw [hx]; exact h)
    have hly : ∀ {Q : V → Prop}, Q (A y) → (i : Int).toNat * 8 + 4 + 4 ≤ (encL (flatK L)).length ∧ opt (one (some true) (sub (encL (flatK L)) ((i : Int).toNat * 8 + 4) 4)) fun v => fv v Q := fun h => ldFK (by simp; omega) h2 (by rw [hy]; exact h)
    rcases hB with ⟨rfl, rfl⟩ | ⟨rfl, rfl⟩
    all_goals
      rcases hg.form with ⟨eS, _⟩ | ⟨bS, vS, eS⟩ <;> subst eS
    all_goals
      rw [St.knows _ _ ht hz _ hb]
      refine Loop.round ?_
      conv => whnf
      refine sel_yes g ?_
      conv => whnf
      refine ⟨⟨by omega, by omega⟩, ?_⟩
      conv => whnf
      refine hlx ?_
      conv => whnf
      refine ⟨⟨by omega, by omega⟩, ?_⟩
      conv => whnf
      refine hly ?_
      conv => whnf
      refine ⟨rfl, ?_⟩
      conv => whnf
      refine ⟨⟨rfl, (show (4 : Nat) ≠ 0 by decide)⟩, ?_⟩
      refine appT hg (by (conv => lhs; whnf); (repeat ((conv => rhs; whnf); first | with_reducible exact Nat.le_refl _ | refine Nat.le_trans ?_ (Nat.le_add_right _ _) | refine Nat.le_succ_of_le ?_ | exact Nat.le_refl _))) (Nat.add_lt_add_left (by decide) _) (by omega) (fun b1 v1 a1 k1 => ?_)
      rw [eT] at k1
      conv => whnf
      refine ih (i + 1) (.rsl false b1 v1 0 (2 * i + 2)) _ (by omega) (by omega) ⟨rfl, rfl, rfl, ?_, trivial⟩ rfl ⟨rfl, rfl, trivial⟩ ?_ hq
      · conv => lhs; whnf
        exact vi e1
      · refine Gro.truncR k1 ?_
        (conv => lhs; whnf); (repeat ((conv => rhs; whnf); first | with_reducible exact Nat.le_refl _ | refine Nat.le_trans ?_ (Nat.le_add_right _ _) | refine Nat.le_succ_of_le ?_ | exact Nat.le_refl _))
theorem runder (hn : Non ext) (v s w : T) (hv : Good v) (hs : Good s) (h06 : v.f0 = 0 ∨ v.f0 = 6) : (cfg ext).Ev 63 [A v, A s, A w] (A ⟨6, 0, ⟨#[]⟩, insF v.f3 s w⟩) := by
  have hlen := (OK.row (okB_iff.1 hv.ok)).1
  have hev : v.f3.length % 2 = 0 := by
    rcases h06 with h0 | h6
    · rw [hv.nil h0]; rfl
    · exact hv.row.even h6
  have hR : Rise 2 v.f3 := by
    rcases h06 with h0 | h6
    · rw [hv.nil h0]; intro i _ h; simp at h
    · exact hv.rise h6
  have hS : ∀ a ∈ v.f3, Shp a := fun a ha => (hv.item ha).shp
  have hfl := flat_len (prsK v.f3)
  rw [flat_prs v.f3 hev] at hfl
  have hK := rKeyed (ext := ext) hn 2000 (prsK v.f3 ++ [(s, w)]) (by simp; omega) (by simp; omega) (fun p hp => by
    rcases List.mem_append.1 hp with h | h
    · exact (hv.item (prs_mem v.f3 hev p h).1).wf
    · rw [List.mem_singleton.1 h]; exact hs.wf)
  have hM := keyed_map v.f3 s w hev hS hs.shp hR 2000 (by omega)
  have eI : flatK (prsK v.f3 ++ [(s, w)]) = v.f3 ++ [s, w] := by rw [flat_app, flat_prs v.f3 hev]; rfl
  rw [eI] at hK
  obtain ⟨L, hL⟩ : ∃ L, keyedK 2000 (prsK v.f3 ++ [(s, w)]) = L := ⟨_, rfl⟩
  rw [hL] at hK hM
  have hLf := flat_len L
  have hi := insF_len v.f3 s w
  rw [hM] at hLf
  have hpos : (prsK v.f3 ++ [(s, w)]).length = v.f3.length / 2 + 1 := by simp; omega
  rw [hpos] at hK
  have fin : ∀ (S : V) (z : St) (B : Nat), Has z.hp.h [(3, some (.cells zC false)), (B, some (.cells [.int .i64 6, .int .i64 0, .str ⟨#[]⟩, S] false))] → Gro 4 z.hp.a z.hp.m S (encL (flatK L)) (2 * L.length) → ∃ b v, S = .rsl false b v 0 (2 * L.length) ∧ z.hp.a b = some ⟨v, 4, encL (flatK L), none, 0⟩ := by
    intro S z B hb hg
    rcases hg.is with ⟨_, h0⟩ | ⟨b, v, _, e, ha⟩
    · omega
    · exact ⟨b, v, e, ha⟩
  have hr : V.agg [.int .i64 6, .int .i64 0, .str ⟨#[]⟩, .sl false (encL (flatK L)) (2 * L.length)] = A ⟨6, 0, ⟨#[]⟩, insF v.f3 s w⟩ := by
    rw [hM, ← hLf]; rfl
  have key : ∃ r, (cfg ext).Ev 63 [A v, A s, A w] r ∧ r = A ⟨6, 0, ⟨#[]⟩, insF v.f3 s w⟩ := by
    refine Ev.ofF (hn 63 (by decide) (by decide)) Tryd.func63 rfl rfl ?_
    by_cases h6 : v.f0 = 6
    · have hP := rprs (ext := ext) hn v (by omega) hev
      have g : (v.f0 == 6) = true := by simp [h6]
      by_cases hnil : v.f3 = []
      · rw [hnil] at hP hK
        simp only [encL, enc_eq, List.append_nil, List.cons_append, List.nil_append] at hP hK
        conv => whnf
        repeat (first
          | (refine sel_yes ?_ ?_; (first | assumption | (simp only [beq_iff_eq, bne_iff_ne, beq_eq_false_iff_ne, bne_eq_false_iff_eq, decide_eq_true_eq, decide_eq_false_iff_not, Bool.not_eq_true', Bool.not_eq_false', ne_eq, beq_true, beq_false, bne_self_eq_false, not_true_eq_false, not_false_eq_true, gt_iff_lt, ge_iff_le, Int.not_lt, Int.not_le, Bool.true_eq_false, Bool.false_eq_true] <;> omega)); conv => whnf)
          | (refine sel_no ?_ ?_; (first | assumption | (simp only [beq_iff_eq, bne_iff_ne, beq_eq_false_iff_ne, bne_eq_false_iff_eq, decide_eq_true_eq, decide_eq_false_iff_not, Bool.not_eq_true', Bool.not_eq_false', ne_eq, beq_true, beq_false, bne_self_eq_false, not_true_eq_false, not_false_eq_true, gt_iff_lt, ge_iff_le, Int.not_lt, Int.not_le, Bool.true_eq_false, Bool.false_eq_true] <;> omega)); conv => whnf)
          | (refine ⟨_, hP, ?_⟩; conv => whnf)
          | (refine ⟨le_rfl' ?_, ?_⟩; rfl; conv => whnf)
          | (refine ⟨⟨?_, ?_⟩, ?_⟩; omega; omega; conv => whnf)
          | (refine ⟨⟨?_, ?_, ?_⟩, ?_⟩; rfl; omega; omega; conv => whnf)
          | (refine ⟨rfl, ?_, ?_⟩; decide; conv => whnf))
        try exact rfl
        refine ⟨rfl, ?_⟩
        conv => whnf
        refine ⟨⟨rfl, (show (8 : Nat) ≠ 0 by decide)⟩, ?_⟩
        conv => whnf
        refine ⟨rfl, ?_⟩
        conv => whnf
        refine ⟨⟨rfl, (show (8 : Nat) ≠ 0 by decide)⟩, ?_⟩
        conv => whnf
        refine ⟨_, hK, ?_⟩
        conv => whnf
        refine lund L (by omega) 22 25 (.inl ⟨rfl, rfl⟩) _ L.length 0 (.sl true [] 0) _ (by omega) (by omega) ⟨rfl, rfl, rfl, rfl, trivial⟩ rfl ⟨rfl, rfl, trivial⟩ (by simp only [Nat.mul_zero, List.take_zero, encL]; exact Gro.nil _ _ _) (fun S z q1 q2 q3 q4 => ?_)
        obtain ⟨b, u, rfl, ha⟩ := fin S z 22 q3 q4
        rw [St.knows (s := z) _ z.hp.n q1 rfl _ q3]
        conv => whnf
        exact Fin.row (k1 := .i64) (k2 := .i64) rfl ha (by rw [encL_len, flat_len]) (encC _) hr
      · have hk : v.f3.length / 2 ≠ 0 := by have := List.length_pos_iff.2 hnil; omega
        have hK' := hK
        rw [show v.f3.length / 2 + 1 = 0 + v.f3.length / 2 + 1 by omega] at hK'
        conv => whnf
        repeat (first
          | (refine sel_yes ?_ ?_; (first | assumption | (simp only [beq_iff_eq, bne_iff_ne, beq_eq_false_iff_ne, bne_eq_false_iff_eq, decide_eq_true_eq, decide_eq_false_iff_not, Bool.not_eq_true', Bool.not_eq_false', ne_eq, beq_true, beq_false, bne_self_eq_false, not_true_eq_false, not_false_eq_true, gt_iff_lt, ge_iff_le, Int.not_lt, Int.not_le, Bool.true_eq_false, Bool.false_eq_true] <;> omega)); conv => whnf)
          | (refine sel_no ?_ ?_; (first | assumption | (simp only [beq_iff_eq, bne_iff_ne, beq_eq_false_iff_ne, bne_eq_false_iff_eq, decide_eq_true_eq, decide_eq_false_iff_not, Bool.not_eq_true', Bool.not_eq_false', ne_eq, beq_true, beq_false, bne_self_eq_false, not_true_eq_false, not_false_eq_true, gt_iff_lt, ge_iff_le, Int.not_lt, Int.not_le, Bool.true_eq_false, Bool.false_eq_true] <;> omega)); conv => whnf)
          | (refine ⟨_, hP, ?_⟩; conv => whnf)
          | (refine ⟨le_rfl' ?_, ?_⟩; rfl; conv => whnf)
          | (refine ⟨⟨?_, ?_⟩, ?_⟩; omega; omega; conv => whnf)
          | (refine ⟨⟨?_, ?_, ?_⟩, ?_⟩; rfl; omega; omega; conv => whnf)
          | (refine ⟨rfl, ?_, ?_⟩; decide; conv => whnf))
        try exact rfl
        refine ⟨rfl, ?_⟩
        conv => whnf
        refine ⟨⟨rfl, (show (8 : Nat) ≠ 0 by decide)⟩, ?_⟩
        refine appE (sz := 8) (bytes := 112) (cs := encL v.f3) (k := v.f3.length / 2) ?_ rfl (by decide) (by rw [encL_len]; omega) hk (encC _) ⟨by omega, by omega⟩ (Nat.add_lt_add_left (by decide) _) (fun a1 k1 => ?_)
        · rfl
        conv => whnf
        refine ⟨rfl, ?_⟩
        conv => whnf
        refine ⟨⟨rfl, (show (8 : Nat) ≠ 0 by decide)⟩, ?_⟩
        refine appP k1 (Nat.le_refl _) (Nat.add_lt_add_left (by decide) _) (by omega) (fun b2 v2 a2 k2 => ?_)
        conv => whnf
        refine asGro k2 rfl rfl (fun a3 => ?_)
        refine ⟨_, hK', ?_⟩
        conv => whnf
        refine lund L (by omega) 22 25 (.inl ⟨rfl, rfl⟩) _ L.length 0 (.sl true [] 0) _ (by omega) (by omega) ⟨rfl, rfl, rfl, rfl, trivial⟩ rfl ⟨rfl, rfl, trivial⟩ (by simp only [Nat.mul_zero, List.take_zero, encL]; exact Gro.nil _ _ _) (fun S z q1 q2 q3 q4 => ?_)
        obtain ⟨b, u, rfl, ha⟩ := fin S z 22 q3 q4
        rw [St.knows (s := z) _ z.hp.n q1 rfl _ q3]
        conv => whnf
        exact Fin.row (k1 := .i64) (k2 := .i64) rfl ha (by rw [encL_len, flat_len]) (encC _) hr
    · have g : (v.f0 == 6) = false := by simp [h6]
      have hnil : v.f3 = [] := hv.nil (by omega)
      rw [hnil] at hK
      simp only [encL, enc_eq, List.append_nil, List.cons_append, List.nil_append] at hK
      conv => whnf
      repeat (first
        | (refine sel_yes ?_ ?_; (first | assumption | (simp only [beq_iff_eq, bne_iff_ne, beq_eq_false_iff_ne, bne_eq_false_iff_eq, decide_eq_true_eq, decide_eq_false_iff_not, Bool.not_eq_true', Bool.not_eq_false', ne_eq, beq_true, beq_false, bne_self_eq_false, not_true_eq_false, not_false_eq_true, gt_iff_lt, ge_iff_le, Int.not_lt, Int.not_le, Bool.true_eq_false, Bool.false_eq_true] <;> omega)); conv => whnf)
        | (refine sel_no ?_ ?_; (first | assumption | (simp only [beq_iff_eq, bne_iff_ne, beq_eq_false_iff_ne, bne_eq_false_iff_eq, decide_eq_true_eq, decide_eq_false_iff_not, Bool.not_eq_true', Bool.not_eq_false', ne_eq, beq_true, beq_false, bne_self_eq_false, not_true_eq_false, not_false_eq_true, gt_iff_lt, ge_iff_le, Int.not_lt, Int.not_le, Bool.true_eq_false, Bool.false_eq_true] <;> omega)); conv => whnf)
        | (refine ⟨le_rfl' ?_, ?_⟩; rfl; conv => whnf)
        | (refine ⟨⟨?_, ?_⟩, ?_⟩; omega; omega; conv => whnf)
        | (refine ⟨⟨?_, ?_, ?_⟩, ?_⟩; rfl; omega; omega; conv => whnf)
        | (refine ⟨rfl, ?_, ?_⟩; decide; conv => whnf))
      try exact rfl
      refine ⟨rfl, ?_⟩
      conv => whnf
      refine ⟨⟨rfl, (show (8 : Nat) ≠ 0 by decide)⟩, ?_⟩
      conv => whnf
      refine ⟨rfl, ?_⟩
      conv => whnf
      refine ⟨⟨rfl, (show (8 : Nat) ≠ 0 by decide)⟩, ?_⟩
      conv => whnf
      refine ⟨_, hK, ?_⟩
      conv => whnf
      refine lund L (by omega) 19 22 (.inr ⟨rfl, rfl⟩) _ L.length 0 (.sl true [] 0) _ (by omega) (by omega) ⟨rfl, rfl, rfl, rfl, trivial⟩ rfl ⟨rfl, rfl, trivial⟩ (by simp only [Nat.mul_zero, List.take_zero, encL]; exact Gro.nil _ _ _) (fun S z q1 q2 q3 q4 => ?_)
      obtain ⟨b, u, rfl, ha⟩ := fin S z 19 q3 q4
      rw [St.knows (s := z) _ z.hp.n q1 rfl _ q3]
      conv => whnf
      exact Fin.row (k1 := .i64) (k2 := .i64) rfl ha (by rw [encL_len, flat_len]) (encC _) hr
  obtain ⟨r, h, rfl⟩ := key
  exact h
end
end Go.Proofs.YtjfjagnnefmepaaDoor.AB
end

section
set_option linter.unusedVariables false
set_option linter.unusedSimpArgs false
open Go Go.Ab Go.Proofs Go.Vl
namespace Go.Proofs.YtjfjagnnefmepaaDoor.AB
set_option maxRecDepth 100000
set_option maxHeartbeats 16000000
set_option linter.unusedSimpArgs false
set_option linter.unusedVariables false
theorem optV_eq (o : Option T) : optV o = .tup [A (o.getD nilT), .bool o.isSome] := by cases o <;> rfl
theorem one_cold (v : T) : ∀ c ∈ [V.int .i64 v.f0, .int .i64 v.f1, .str v.f2, .sl false (encL v.f3) v.f3.length], cold c = true := fun c hc => encC [v] c (by simp only [encL, enc_eq, List.append_nil]; exact hc)
theorem one_one (D : List T) (v : T) : encL D ++ [V.int .i64 v.f0, .int .i64 v.f1, .str v.f2, .sl false (encL v.f3) v.f3.length] = encL (D ++ [v]) := by
  rw [encL_app]
  simp only [encL, enc_eq, List.append_nil]
theorem appE2 {hp : Hp} {ida b k sz bytes : Nat} {cs : List V} {cp : Option Nat} {Q : V × Hp → Prop} (hA : hp.a b = some ⟨0, sz, [], cp, 0⟩) (hcp : cp = some 0) (hz : sz ≠ 0) (hl : cs.length = k * sz) (hk : k ≠ 0) (hc : ∀ c ∈ cs, cold c = true) (hb : k * bytes ≤ 140737488355328 ∧ k ≤ 140737488355328) (hi : ida < hp.m)
    (q : ∀ a', a' ida = some ⟨0, sz, cs, none, 0⟩ → Q (.rsl false ida 0 0 (0 + k), ⟨hp.h, hp.n, a', hp.m⟩)) :
    opt (appendV sz bytes hp ida (.rsl false b 0 0 0) (.sl false cs k)) Q := by
  refine appE hA hcp hz hl hk hc hb hi (fun a' h => ?_)
  rcases h.is with ⟨e, _⟩ | ⟨b', v', _, e, ha⟩
  · cases e
  · cases e
    exact q a' ha
theorem slRest {P : Program} {t e : Nat} {s : T} {p : List T} (ht : tslice P t = some e) (h4 : tsize P e = 4) : sliceV P t (.sl false (encL (s :: p)) (s :: p).length) (some (.int .i64 1)) none none = some (.sl false (encL p) p.length) := by
  have hb : (0 : Int) ≤ 1 ∧ (1 : Int) ≤ (((s :: p).length : Nat) : Int) := by simp only [List.length_cons]; omega
  simp only [sliceV, ht, bounds, boundO, bound, if_pos hb, Option.bind_some, h4, clip, Bool.false_and]
  have e1 : sub (encL (s :: p)) ((1 : Int).toNat * 4) (((s :: p).length - (1 : Int).toNat) * 4) = encL p := by
    have : (1 : Int).toNat = 1 := rfl
    rw [this]
    unfold sub
    rw [encL_drop, List.drop_succ_cons, List.drop_zero, List.take_of_length_le]
    rw [encL_len, List.length_cons]; omega
  rw [e1]
  simp
section
variable {ext : Exts}
theorem rput0 (hn : Non ext) (v x : T) : (cfg ext).Ev 33 [A v, .sl false [] 0, A x] (.tup [A x, .bool true]) := by
  refine Ev.of (hn 33 (by decide) (by decide)) Tryd.func33 rfl rfl ?_
  conv => whnf
  repeat (first
    | (refine sel_yes ?_ ?_; (first | assumption | (simp only [beq_iff_eq, bne_iff_ne, beq_eq_false_iff_ne, bne_eq_false_iff_eq, decide_eq_true_eq, decide_eq_false_iff_not, Bool.not_eq_true', Bool.not_eq_false', ne_eq, beq_true, beq_false, bne_self_eq_false, not_true_eq_false, not_false_eq_true, gt_iff_lt, ge_iff_le, Int.not_lt, Int.not_le, Bool.true_eq_false, Bool.false_eq_true] <;> omega)); conv => whnf)
    | (refine sel_no ?_ ?_; (first | assumption | (simp only [beq_iff_eq, bne_iff_ne, beq_eq_false_iff_ne, bne_eq_false_iff_eq, decide_eq_true_eq, decide_eq_false_iff_not, Bool.not_eq_true', Bool.not_eq_false', ne_eq, beq_true, beq_false, bne_self_eq_false, not_true_eq_false, not_false_eq_true, gt_iff_lt, ge_iff_le, Int.not_lt, Int.not_le, Bool.true_eq_false, Bool.false_eq_true] <;> omega)); conv => whnf)
    | (refine ⟨le_rfl' ?_, ?_⟩; rfl; conv => whnf)
    | (refine ⟨⟨?_, ?_⟩, ?_⟩; omega; omega; conv => whnf)
    | (refine ⟨⟨?_, ?_, ?_⟩, ?_⟩; rfl; omega; omega; conv => whnf)
    | (refine ⟨rfl, ?_, ?_⟩; decide; conv => whnf))
  try exact rfl
theorem rputD (hn : Non ext) (v s x : T) (p : List T) (hv : Good v) (hs : Good s) (h06 : v.f0 = 0 ∨ v.f0 = 6) (o : Option T)
    (hE : (cfg ext).Ev 33 [A ((partF v s).getD nilT), .sl false (encL p) p.length, A x] (optV o)) :
    (cfg ext).Ev 33 [A v, .sl false (encL (s :: p)) (s :: p).length, A x] (optV (o.map fun w => ⟨6, 0, ⟨#[]⟩, insF v.f3 s w⟩)) := by
  have hl0 : ((s :: p).length : Int) ≠ 0 := by simp only [List.length_cons]; omega
  have hI := rindex (ext := ext) hn v s
  rw [if_neg (by omega)] at hI
  have hP := rpart (ext := ext) hn v s hv hs
  rw [optV_eq] at hP
  have g1 : (v.f0 == 4) = false := by simp; omega
  have g2 : (v.f0 != 4) = true := by simp; omega
  generalize (partF v s).getD nilT = old at *
  generalize (partF v s).isSome = b at *
  rcases h06 with h0 | h6
  · have g3 : (v.f0 != 0) = false := by simp [h0]
    cases o with
    | none =>
      have key : ∃ r, (cfg ext).Ev 33 [A v, .sl false (encL (s :: p)) (s :: p).length, A x] r ∧ r = optV none := by
        refine Ev.ofE (hn 33 (by decide) (by decide)) Tryd.func33 rfl rfl ?_
        conv => whnf
        repeat (first
          | (refine sel_yes ?_ ?_; (first | assumption | (simp only [beq_iff_eq, bne_iff_ne, beq_eq_false_iff_ne, bne_eq_false_iff_eq, decide_eq_true_eq, decide_eq_false_iff_not, Bool.not_eq_true', Bool.not_eq_false', ne_eq, beq_true, beq_false, bne_self_eq_false, not_true_eq_false, not_false_eq_true, gt_iff_lt, ge_iff_le, Int.not_lt, Int.not_le, Bool.true_eq_false, Bool.false_eq_true] <;> omega)); conv => whnf)
          | (refine sel_no ?_ ?_; (first | assumption | (simp only [beq_iff_eq, bne_iff_ne, beq_eq_false_iff_ne, bne_eq_false_iff_eq, decide_eq_true_eq, decide_eq_false_iff_not, Bool.not_eq_true', Bool.not_eq_false', ne_eq, beq_true, beq_false, bne_self_eq_false, not_true_eq_false, not_false_eq_true, gt_iff_lt, ge_iff_le, Int.not_lt, Int.not_le, Bool.true_eq_false, Bool.false_eq_true] <;> omega)); conv => whnf)
          | (refine ⟨le_rfl' ?_, ?_⟩; rfl; conv => whnf)
          | (refine ⟨⟨?_, ?_⟩, ?_⟩; omega; omega; conv => whnf)
          | (refine ⟨⟨?_, ?_, ?_⟩, ?_⟩; rfl; omega; omega; conv => whnf)
          | (refine ⟨rfl, ?_, ?_⟩; decide; conv => whnf))
        try exact rfl
        refine ld0 ?_
        conv => whnf
        repeat (first
          | (refine sel_yes ?_ ?_; (first | assumption | (simp only [beq_iff_eq, bne_iff_ne, beq_eq_false_iff_ne, bne_eq_false_iff_eq, decide_eq_true_eq, decide_eq_false_iff_not, Bool.not_eq_true', Bool.not_eq_false', ne_eq, beq_true, beq_false, bne_self_eq_false, not_true_eq_false, not_false_eq_true, gt_iff_lt, ge_iff_le, Int.not_lt, Int.not_le, Bool.true_eq_false, Bool.false_eq_true] <;> omega)); conv => whnf)
          | (refine sel_no ?_ ?_; (first | assumption | (simp only [beq_iff_eq, bne_iff_ne, beq_eq_false_iff_ne, bne_eq_false_iff_eq, decide_eq_true_eq, decide_eq_false_iff_not, Bool.not_eq_true', Bool.not_eq_false', ne_eq, beq_true, beq_false, bne_self_eq_false, not_true_eq_false, not_false_eq_true, gt_iff_lt, ge_iff_le, Int.not_lt, Int.not_le, Bool.true_eq_false, Bool.false_eq_true] <;> omega)); conv => whnf)
          | (refine ⟨_, hI, ?_⟩; conv => whnf)
          | (refine ⟨_, hP, ?_⟩; conv => whnf)
          | (refine ⟨le_rfl' ?_, ?_⟩; rfl; conv => whnf)
          | (refine ⟨⟨?_, ?_⟩, ?_⟩; omega; omega; conv => whnf)
          | (refine ⟨⟨?_, ?_, ?_⟩, ?_⟩; rfl; omega; omega; conv => whnf)
          | (refine ⟨rfl, ?_, ?_⟩; decide; conv => whnf))
        try exact rfl
        refine ⟨_, slRest tsV szV, ?_⟩
        conv => whnf
        repeat (first
          | (refine sel_yes ?_ ?_; (first | assumption | (simp only [beq_iff_eq, bne_iff_ne, beq_eq_false_iff_ne, bne_eq_false_iff_eq, decide_eq_true_eq, decide_eq_false_iff_not, Bool.not_eq_true', Bool.not_eq_false', ne_eq, beq_true, beq_false, bne_self_eq_false, not_true_eq_false, not_false_eq_true, gt_iff_lt, ge_iff_le, Int.not_lt, Int.not_le, Bool.true_eq_false, Bool.false_eq_true] <;> omega)); conv => whnf)
          | (refine sel_no ?_ ?_; (first | assumption | (simp only [beq_iff_eq, bne_iff_ne, beq_eq_false_iff_ne, bne_eq_false_iff_eq, decide_eq_true_eq, decide_eq_false_iff_not, Bool.not_eq_true', Bool.not_eq_false', ne_eq, beq_true, beq_false, bne_self_eq_false, not_true_eq_false, not_false_eq_true, gt_iff_lt, ge_iff_le, Int.not_lt, Int.not_le, Bool.true_eq_false, Bool.false_eq_true] <;> omega)); conv => whnf)
          | (refine ⟨_, hE, ?_⟩; conv => whnf)
          | (refine ⟨le_rfl' ?_, ?_⟩; rfl; conv => whnf)
          | (refine ⟨⟨?_, ?_⟩, ?_⟩; omega; omega; conv => whnf)
          | (refine ⟨⟨?_, ?_, ?_⟩, ?_⟩; rfl; omega; omega; conv => whnf)
          | (refine ⟨rfl, ?_, ?_⟩; decide; conv => whnf))
        try exact rfl
      obtain ⟨r, h, rfl⟩ := key
      exact h
    | some w =>
      have hU := runder hn v s w hv hs (.inl h0)
      have key : ∃ r, (cfg ext).Ev 33 [A v, .sl false (encL (s :: p)) (s :: p).length, A x] r ∧ r = optV (some ⟨6, 0, ⟨#[]⟩, insF v.f3 s w⟩) := by
        refine Ev.ofE (hn 33 (by decide) (by decide)) Tryd.func33 rfl rfl ?_
        conv => whnf
        repeat (first
          | (refine sel_yes ?_ ?_; (first | assumption | (simp only [beq_iff_eq, bne_iff_ne, beq_eq_false_iff_ne, bne_eq_false_iff_eq, decide_eq_true_eq, decide_eq_false_iff_not, Bool.not_eq_true', Bool.not_eq_false', ne_eq, beq_true, beq_false, bne_self_eq_false, not_true_eq_false, not_false_eq_true, gt_iff_lt, ge_iff_le, Int.not_lt, Int.not_le, Bool.true_eq_false, Bool.false_eq_true] <;> omega)); conv => whnf)
          | (refine sel_no ?_ ?_; (first | assumption | (simp only [beq_iff_eq, bne_iff_ne, beq_eq_false_iff_ne, bne_eq_false_iff_eq, decide_eq_true_eq, decide_eq_false_iff_not, Bool.not_eq_true', Bool.not_eq_false', ne_eq, beq_true, beq_false, bne_self_eq_false, not_true_eq_false, not_false_eq_true, gt_iff_lt, ge_iff_le, Int.not_lt, Int.not_le, Bool.true_eq_false, Bool.false_eq_true] <;> omega)); conv => whnf)
          | (refine ⟨le_rfl' ?_, ?_⟩; rfl; conv => whnf)
          | (refine ⟨⟨?_, ?_⟩, ?_⟩; omega; omega; conv => whnf)
          | (refine ⟨⟨?_, ?_, ?_⟩, ?_⟩; rfl; omega; omega; conv => whnf)
          | (refine ⟨rfl, ?_, ?_⟩; decide; conv => whnf))
        try exact rfl
        refine ld0 ?_
        conv => whnf
        repeat (first
          | (refine sel_yes ?_ ?_; (first | assumption | (simp only [beq_iff_eq, bne_iff_ne, beq_eq_false_iff_ne, bne_eq_false_iff_eq, decide_eq_true_eq, decide_eq_false_iff_not, Bool.not_eq_true', Bool.not_eq_false', ne_eq, beq_true, beq_false, bne_self_eq_false, not_true_eq_false, not_false_eq_true, gt_iff_lt, ge_iff_le, Int.not_lt, Int.not_le, Bool.true_eq_false, Bool.false_eq_true] <;> omega)); conv => whnf)
          | (refine sel_no ?_ ?_; (first | assumption | (simp only [beq_iff_eq, bne_iff_ne, beq_eq_false_iff_ne, bne_eq_false_iff_eq, decide_eq_true_eq, decide_eq_false_iff_not, Bool.not_eq_true', Bool.not_eq_false', ne_eq, beq_true, beq_false, bne_self_eq_false, not_true_eq_false, not_false_eq_true, gt_iff_lt, ge_iff_le, Int.not_lt, Int.not_le, Bool.true_eq_false, Bool.false_eq_true] <;> omega)); conv => whnf)
          | (refine ⟨_, hI, ?_⟩; conv => whnf)
          | (refine ⟨_, hP, ?_⟩; conv => whnf)
          | (refine ⟨le_rfl' ?_, ?_⟩; rfl; conv => whnf)
          | (refine ⟨⟨?_, ?_⟩, ?_⟩; omega; omega; conv => whnf)
          | (refine ⟨⟨?_, ?_, ?_⟩, ?_⟩; rfl; omega; omega; conv => whnf)
          | (refine ⟨rfl, ?_, ?_⟩; decide; conv => whnf))
        try exact rfl
        refine ⟨_, slRest tsV szV, ?_⟩
        conv => whnf
        repeat (first
          | (refine sel_yes ?_ ?_; (first | assumption | (simp only [beq_iff_eq, bne_iff_ne, beq_eq_false_iff_ne, bne_eq_false_iff_eq, decide_eq_true_eq, decide_eq_false_iff_not, Bool.not_eq_true', Bool.not_eq_false', ne_eq, beq_true, beq_false, bne_self_eq_false, not_true_eq_false, not_false_eq_true, gt_iff_lt, ge_iff_le, Int.not_lt, Int.not_le, Bool.true_eq_false, Bool.false_eq_true] <;> omega)); conv => whnf)
          | (refine sel_no ?_ ?_; (first | assumption | (simp only [beq_iff_eq, bne_iff_ne, beq_eq_false_iff_ne, bne_eq_false_iff_eq, decide_eq_true_eq, decide_eq_false_iff_not, Bool.not_eq_true', Bool.not_eq_false', ne_eq, beq_true, beq_false, bne_self_eq_false, not_true_eq_false, not_false_eq_true, gt_iff_lt, ge_iff_le, Int.not_lt, Int.not_le, Bool.true_eq_false, Bool.false_eq_true] <;> omega)); conv => whnf)
          | (refine ⟨_, hE, ?_⟩; conv => whnf)
          | (refine ⟨_, hU, ?_⟩; conv => whnf)
          | (refine ⟨le_rfl' ?_, ?_⟩; rfl; conv => whnf)
          | (refine ⟨⟨?_, ?_⟩, ?_⟩; omega; omega; conv => whnf)
          | (refine ⟨⟨?_, ?_, ?_⟩, ?_⟩; rfl; omega; omega; conv => whnf)
          | (refine ⟨rfl, ?_, ?_⟩; decide; conv => whnf))
        try exact rfl
      obtain ⟨r, h, rfl⟩ := key
      exact h
  · have g3 : (v.f0 != 0) = true := by simp [h6]
    have g4 : (v.f0 != 6) = false := by simp [h6]
    cases o with
    | none =>
      have key : ∃ r, (cfg ext).Ev 33 [A v, .sl false (encL (s :: p)) (s :: p).length, A x] r ∧ r = optV none := by
        refine Ev.ofE (hn 33 (by decide) (by decide)) Tryd.func33 rfl rfl ?_
        conv => whnf
        repeat (first
          | (refine sel_yes ?_ ?_; (first | assumption | (simp only [beq_iff_eq, bne_iff_ne, beq_eq_false_iff_ne, bne_eq_false_iff_eq, decide_eq_true_eq, decide_eq_false_iff_not, Bool.not_eq_true', Bool.not_eq_false', ne_eq, beq_true, beq_false, bne_self_eq_false, not_true_eq_false, not_false_eq_true, gt_iff_lt, ge_iff_le, Int.not_lt, Int.not_le, Bool.true_eq_false, Bool.false_eq_true] <;> omega)); conv => whnf)
          | (refine sel_no ?_ ?_; (first | assumption | (simp only [beq_iff_eq, bne_iff_ne, beq_eq_false_iff_ne, bne_eq_false_iff_eq, decide_eq_true_eq, decide_eq_false_iff_not, Bool.not_eq_true', Bool.not_eq_false', ne_eq, beq_true, beq_false, bne_self_eq_false, not_true_eq_false, not_false_eq_true, gt_iff_lt, ge_iff_le, Int.not_lt, Int.not_le, Bool.true_eq_false, Bool.false_eq_true] <;> omega)); conv => whnf)
          | (refine ⟨le_rfl' ?_, ?_⟩; rfl; conv => whnf)
          | (refine ⟨⟨?_, ?_⟩, ?_⟩; omega; omega; conv => whnf)
          | (refine ⟨⟨?_, ?_, ?_⟩, ?_⟩; rfl; omega; omega; conv => whnf)
          | (refine ⟨rfl, ?_, ?_⟩; decide; conv => whnf))
        try exact rfl
        refine ld0 ?_
        conv => whnf
        repeat (first
          | (refine sel_yes ?_ ?_; (first | assumption | (simp only [beq_iff_eq, bne_iff_ne, beq_eq_false_iff_ne, bne_eq_false_iff_eq, decide_eq_true_eq, decide_eq_false_iff_not, Bool.not_eq_true', Bool.not_eq_false', ne_eq, beq_true, beq_false, bne_self_eq_false, not_true_eq_false, not_false_eq_true, gt_iff_lt, ge_iff_le, Int.not_lt, Int.not_le, Bool.true_eq_false, Bool.false_eq_true] <;> omega)); conv => whnf)
          | (refine sel_no ?_ ?_; (first | assumption | (simp only [beq_iff_eq, bne_iff_ne, beq_eq_false_iff_ne, bne_eq_false_iff_eq, decide_eq_true_eq, decide_eq_false_iff_not, Bool.not_eq_true', Bool.not_eq_false', ne_eq, beq_true, beq_false, bne_self_eq_false, not_true_eq_false, not_false_eq_true, gt_iff_lt, ge_iff_le, Int.not_lt, Int.not_le, Bool.true_eq_false, Bool.false_eq_true] <;> omega)); conv => whnf)
          | (refine ⟨_, hI, ?_⟩; conv => whnf)
          | (refine ⟨_, hP, ?_⟩; conv => whnf)
          | (refine ⟨le_rfl' ?_, ?_⟩; rfl; conv => whnf)
          | (refine ⟨⟨?_, ?_⟩, ?_⟩; omega; omega; conv => whnf)
          | (refine ⟨⟨?_, ?_, ?_⟩, ?_⟩; rfl; omega; omega; conv => whnf)
          | (refine ⟨rfl, ?_, ?_⟩; decide; conv => whnf))
        try exact rfl
        refine ⟨_, slRest tsV szV, ?_⟩
        conv => whnf
        repeat (first
          | (refine sel_yes ?_ ?_; (first | assumption | (simp only [beq_iff_eq, bne_iff_ne, beq_eq_false_iff_ne, bne_eq_false_iff_eq, decide_eq_true_eq, decide_eq_false_iff_not, Bool.not_eq_true', Bool.not_eq_false', ne_eq, beq_true, beq_false, bne_self_eq_false, not_true_eq_false, not_false_eq_true, gt_iff_lt, ge_iff_le, Int.not_lt, Int.not_le, Bool.true_eq_false, Bool.false_eq_true] <;> omega)); conv => whnf)
          | (refine sel_no ?_ ?_; (first | assumption | (simp only [beq_iff_eq, bne_iff_ne, beq_eq_false_iff_ne, bne_eq_false_iff_eq, decide_eq_true_eq, decide_eq_false_iff_not, Bool.not_eq_true', Bool.not_eq_false', ne_eq, beq_true, beq_false, bne_self_eq_false, not_true_eq_false, not_false_eq_true, gt_iff_lt, ge_iff_le, Int.not_lt, Int.not_le, Bool.true_eq_false, Bool.false_eq_true] <;> omega)); conv => whnf)
          | (refine ⟨_, hE, ?_⟩; conv => whnf)
          | (refine ⟨le_rfl' ?_, ?_⟩; rfl; conv => whnf)
          | (refine ⟨⟨?_, ?_⟩, ?_⟩; omega; omega; conv => whnf)
          | (refine ⟨⟨?_, ?_, ?_⟩, ?_⟩; rfl; omega; omega; conv => whnf)
          | (refine ⟨rfl, ?_, ?_⟩; decide; conv => whnf))
        try exact rfl
      obtain ⟨r, h, rfl⟩ := key
      exact h
    | some w =>
      have hU := runder hn v s w hv hs (.inr h6)
      have key : ∃ r, (cfg ext).Ev 33 [A v, .sl false (encL (s :: p)) (s :: p).length, A x] r ∧ r = optV (some ⟨6, 0, ⟨#[]⟩, insF v.f3 s w⟩) := by
        refine Ev.ofE (hn 33 (by decide) (by decide)) Tryd.func33 rfl rfl ?_
        conv => whnf
        repeat (first
          | (refine sel_yes ?_ ?_; (first | assumption | (simp only [beq_iff_eq, bne_iff_ne, beq_eq_false_iff_ne, bne_eq_false_iff_eq, decide_eq_true_eq, decide_eq_false_iff_not, Bool.not_eq_true', Bool.not_eq_false', ne_eq, beq_true, beq_false, bne_self_eq_false, not_true_eq_false, not_false_eq_true, gt_iff_lt, ge_iff_le, Int.not_lt, Int.not_le, Bool.true_eq_false, Bool.false_eq_true] <;> omega)); conv => whnf)
          | (refine sel_no ?_ ?_; (first | assumption | (simp only [beq_iff_eq, bne_iff_ne, beq_eq_false_iff_ne, bne_eq_false_iff_eq, decide_eq_true_eq, decide_eq_false_iff_not, Bool.not_eq_true', Bool.not_eq_false', ne_eq, beq_true, beq_false, bne_self_eq_false, not_true_eq_false, not_false_eq_true, gt_iff_lt, ge_iff_le, Int.not_lt, Int.not_le, Bool.true_eq_false, Bool.false_eq_true] <;> omega)); conv => whnf)
          | (refine ⟨le_rfl' ?_, ?_⟩; rfl; conv => whnf)
          | (refine ⟨⟨?_, ?_⟩, ?_⟩; omega; omega; conv => whnf)
          | (refine ⟨⟨?_, ?_, ?_⟩, ?_⟩; rfl; omega; omega; conv => whnf)
          | (refine ⟨rfl, ?_, ?_⟩; decide; conv => whnf))
        try exact rfl
        refine ld0 ?_
        conv => whnf
        repeat (first
          | (refine sel_yes ?_ ?_; (first | assumption | (simp only [beq_iff_eq, bne_iff_ne, beq_eq_false_iff_ne, bne_eq_false_iff_eq, decide_eq_true_eq, decide_eq_false_iff_not, Bool.not_eq_true', Bool.not_eq_false', ne_eq, beq_true, beq_false, bne_self_eq_false, not_true_eq_false, not_false_eq_true, gt_iff_lt, ge_iff_le, Int.not_lt, Int.not_le, Bool.true_eq_false, Bool.false_eq_true] <;> omega)); conv => whnf)
          | (refine sel_no ?_ ?_; (first | assumption | (simp only [beq_iff_eq, bne_iff_ne, beq_eq_false_iff_ne, bne_eq_false_iff_eq, decide_eq_true_eq, decide_eq_false_iff_not, Bool.not_eq_true', Bool.not_eq_false', ne_eq, beq_true, beq_false, bne_self_eq_false, not_true_eq_false, not_false_eq_true, gt_iff_lt, ge_iff_le, Int.not_lt, Int.not_le, Bool.true_eq_false, Bool.false_eq_true] <;> omega)); conv => whnf)
          | (refine ⟨_, hI, ?_⟩; conv => whnf)
          | (refine ⟨_, hP, ?_⟩; conv => whnf)
          | (refine ⟨le_rfl' ?_, ?_⟩; rfl; conv => whnf)
          | (refine ⟨⟨?_, ?_⟩, ?_⟩; omega; omega; conv => whnf)
          | (refine ⟨⟨?_, ?_, ?_⟩, ?_⟩; rfl; omega; omega; conv => whnf)
          | (refine ⟨rfl, ?_, ?_⟩; decide; conv => whnf))
        try exact rfl
        refine ⟨_, slRest tsV szV, ?_⟩
        conv => whnf
        repeat (first
          | (refine sel_yes ?_ ?_; (first | assumption | (simp only [beq_iff_eq, bne_iff_ne, beq_eq_false_iff_ne, bne_eq_false_iff_eq, decide_eq_true_eq, decide_eq_false_iff_not, Bool.not_eq_true', Bool.not_eq_false', ne_eq, beq_true, beq_false, bne_self_eq_false, not_true_eq_false, not_false_eq_true, gt_iff_lt, ge_iff_le, Int.not_lt, Int.not_le, Bool.true_eq_false, Bool.false_eq_true] <;> omega)); conv => whnf)
          | (refine sel_no ?_ ?_; (first | assumption | (simp only [beq_iff_eq, bne_iff_ne, beq_eq_false_iff_ne, bne_eq_false_iff_eq, decide_eq_true_eq, decide_eq_false_iff_not, Bool.not_eq_true', Bool.not_eq_false', ne_eq, beq_true, beq_false, bne_self_eq_false, not_true_eq_false, not_false_eq_true, gt_iff_lt, ge_iff_le, Int.not_lt, Int.not_le, Bool.true_eq_false, Bool.false_eq_true] <;> omega)); conv => whnf)
          | (refine ⟨_, hE, ?_⟩; conv => whnf)
          | (refine ⟨_, hU, ?_⟩; conv => whnf)
          | (refine ⟨le_rfl' ?_, ?_⟩; rfl; conv => whnf)
          | (refine ⟨⟨?_, ?_⟩, ?_⟩; omega; omega; conv => whnf)
          | (refine ⟨⟨?_, ?_, ?_⟩, ?_⟩; rfl; omega; omega; conv => whnf)
          | (refine ⟨rfl, ?_, ?_⟩; decide; conv => whnf))
        try exact rfl
      obtain ⟨r, h, rfl⟩ := key
      exact h
end
end Go.Proofs.YtjfjagnnefmepaaDoor.AB
end

section
set_option linter.unusedVariables false
set_option linter.unusedSimpArgs false
open Go Go.Ab Go.Proofs Go.Vl
namespace Go.Proofs.YtjfjagnnefmepaaDoor.AB
set_option maxRecDepth 100000
set_option maxHeartbeats 16000000
set_option linter.unusedSimpArgs false
set_option linter.unusedVariables false
theorem Gro_at {sz : Nat} {a : Nat → Option Arr} {m b v n l : Nat} {cs : List V} (h : Gro sz a m (.rsl false b v 0 l) cs n) : a b = some ⟨v, sz, cs, none, 0⟩ := by
  rcases h.is with ⟨e, _⟩ | ⟨b', v', _, e, ha⟩
  · cases e
  · cases e; exact ha
theorem FinRowT {P : Program} {fn : Func} {s : St} {R : V → Prop} {a b : Int} {t : ByteArray} {i n v : Nat} {cs : List V} {cap : Option Nat} {k1 k2 : IntKind} {o : Bool} (h : resOf P fn s = some (.tup [.agg [.int k1 a, .int k2 b, .str t, .rsl false i v 0 n], .bool o])) (ha : s.hp.a i = some ⟨v, 4, cs, cap, 0⟩) (hl : cs.length = n * 4) (hc : ∀ c ∈ cs, cold c = true)
    (hR : R (.tup [.agg [.int k1 a, .int k2 b, .str t, .sl false cs n], .bool o])) : Fin P fn s R := by
  refine ⟨?_⟩
  rw [h]
  have e := fz_full (d := 2) ha hl hc
  have e2 : fz 5 s.hp (.agg [.int k1 a, .int k2 b, .str t, .rsl false i v 0 n]) = some (.agg [.int k1 a, .int k2 b, .str t, .sl false cs n], { s.hp with a := upd s.hp.a i (some ⟨v, 4, cs, cap, max 0 (0 + n * 4)⟩) }) := by
    show (match fzL (fz 4) s.hp [.int k1 a, .int k2 b, .str t, .rsl false i v 0 n] with
      | some (cs', hp') => some (V.agg cs', hp')
      | none => none) = _
    simp only [fzL, fz_cold 3 s.hp (c := .int k1 a) rfl, fz_cold 3 s.hp (c := .int k2 b) rfl, fz_cold 3 s.hp (c := .str t) rfl, e]
  have : fz 6 s.hp (.tup [.agg [.int k1 a, .int k2 b, .str t, .rsl false i v 0 n], .bool o]) = some (.tup [.agg [.int k1 a, .int k2 b, .str t, .sl false cs n], .bool o], { s.hp with a := upd s.hp.a i (some ⟨v, 4, cs, cap, max 0 (0 + n * 4)⟩) }) := by
    show (match fzL (fz 5) s.hp [.agg [.int k1 a, .int k2 b, .str t, .rsl false i v 0 n], .bool o] with
      | some (cs', hp') => some (V.tup cs', hp')
      | none => none) = _
    rw [show fzL (fz 5) s.hp [.agg [.int k1 a, .int k2 b, .str t, .rsl false i v 0 n], .bool o] = some ([.agg [.int k1 a, .int k2 b, .str t, .sl false cs n], .bool o], { s.hp with a := upd s.hp.a i (some ⟨v, 4, cs, cap, max 0 (0 + n * 4)⟩) }) from fzL_cons e2 rfl]
  show opt (fz 6 s.hp _) fun p => R p.1
  rw [this]
  exact hR
section
variable {ext : Exts}
/-- in place -/
theorem rputA (hn : Non ext) (v s x : T) (p : List T) (hv : Good v) (hs : Good s) (h4 : v.f0 = 4) {i : Nat} (hi : idxF v.f3.length s = some i) (o : Option T)
    (hE : (cfg ext).Ev 33 [A ((partF v s).getD nilT), .sl false (encL p) p.length, A x] (optV o)) :
    (cfg ext).Ev 33 [A v, .sl false (encL (s :: p)) (s :: p).length, A x] (optV (o.map fun w => ⟨4, 0, ⟨#[]⟩, v.f3.set i w⟩)) := by
  have hl0 : ((s :: p).length : Int) ≠ 0 := by simp only [List.length_cons]; omega
  have hlen := (OK.row (okB_iff.1 hv.ok)).1
  have hb : s.f0 = 2 ∧ i < v.f3.length ∧ s.f1 = (i : Int) := by
    unfold idxF at hi
    split at hi <;> cases hi
    omega
  have hI := rindex (ext := ext) hn v s
  rw [if_pos h4, hi] at hI
  have hP := rpart (ext := ext) hn v s hv hs
  rw [optV_eq] at hP
  have g1 : (v.f0 == 4) = true := by simp [h4]
  have g2 : (v.f0 != 4) = false := by simp [h4]
  have g3 : (v.f0 != 0) = true := by simp [h4]
  have g4 : (v.f0 != 6) = true := by simp [h4]
  have g5 : (s.f0 == 2) = true := by simp [hb.1]
  have g6 : (s.f1 == (v.f3.length : Int)) = false := by simp; omega
  have hk : v.f3.length ≠ 0 := by omega
  generalize (partF v s).getD nilT = old at *
  generalize (partF v s).isSome = b at *
  cases o with
  | none =>
    have key : ∃ r, (cfg ext).Ev 33 [A v, .sl false (encL (s :: p)) (s :: p).length, A x] r ∧ r = optV none := by
      refine Ev.ofE (hn 33 (by decide) (by decide)) Tryd.func33 rfl rfl ?_
      conv => whnf
      repeat (first
        | (refine sel_yes ?_ ?_; (first | assumption | (simp only [beq_iff_eq, bne_iff_ne, beq_eq_false_iff_ne, bne_eq_false_iff_eq, decide_eq_true_eq, decide_eq_false_iff_not, Bool.not_eq_true', Bool.not_eq_false', ne_eq, beq_true, beq_false, bne_self_eq_false, not_true_eq_false, not_false_eq_true, gt_iff_lt, ge_iff_le, Int.not_lt, Int.not_le, Bool.true_eq_false, Bool.false_eq_true] <;> omega)); conv => whnf)
        | (refine sel_no ?_ ?_; (first | assumption | (simp only [beq_iff_eq, bne_iff_ne, beq_eq_false_iff_ne, bne_eq_false_iff_eq, decide_eq_true_eq, decide_eq_false_iff_not, Bool.not_eq_true', Bool.not_eq_false', ne_eq, beq_true, beq_false, bne_self_eq_false, not_true_eq_false, not_false_eq_true, gt_iff_lt, ge_iff_le, Int.not_lt, Int.not_le, Bool.true_eq_false, Bool.false_eq_true] <;> omega)); conv => whnf)
        | (refine ⟨le_rfl' ?_, ?_⟩; rfl; conv => whnf)
        | (refine ⟨⟨?_, ?_⟩, ?_⟩; omega; omega; conv => whnf)
        | (refine ⟨⟨?_, ?_, ?_⟩, ?_⟩; rfl; omega; omega; conv => whnf)
        | (refine ⟨rfl, ?_, ?_⟩; decide; conv => whnf))
      try exact rfl
      refine ld0 ?_
      conv => whnf
      repeat (first
        | (refine sel_yes ?_ ?_; (first | assumption | (simp only [beq_iff_eq, bne_iff_ne, beq_eq_false_iff_ne, bne_eq_false_iff_eq, decide_eq_true_eq, decide_eq_false_iff_not, Bool.not_eq_true', Bool.not_eq_false', ne_eq, beq_true, beq_false, bne_self_eq_false, not_true_eq_false, not_false_eq_true, gt_iff_lt, ge_iff_le, Int.not_lt, Int.not_le, Bool.true_eq_false, Bool.false_eq_true] <;> omega)); conv => whnf)
        | (refine sel_no ?_ ?_; (first | assumption | (simp only [beq_iff_eq, bne_iff_ne, beq_eq_false_iff_ne, bne_eq_false_iff_eq, decide_eq_true_eq, decide_eq_false_iff_not, Bool.not_eq_true', Bool.not_eq_false', ne_eq, beq_true, beq_false, bne_self_eq_false, not_true_eq_false, not_false_eq_true, gt_iff_lt, ge_iff_le, Int.not_lt, Int.not_le, Bool.true_eq_false, Bool.false_eq_true] <;> omega)); conv => whnf)
        | (refine ⟨_, hI, ?_⟩; conv => whnf)
        | (refine ⟨_, hP, ?_⟩; conv => whnf)
        | (refine ⟨le_rfl' ?_, ?_⟩; rfl; conv => whnf)
        | (refine ⟨⟨?_, ?_⟩, ?_⟩; omega; omega; conv => whnf)
        | (refine ⟨⟨?_, ?_, ?_⟩, ?_⟩; rfl; omega; omega; conv => whnf)
        | (refine ⟨rfl, ?_, ?_⟩; decide; conv => whnf))
      try exact rfl
      refine ⟨_, slRest tsV szV, ?_⟩
      conv => whnf
      repeat (first
        | (refine sel_yes ?_ ?_; (first | assumption | (simp only [beq_iff_eq, bne_iff_ne, beq_eq_false_iff_ne, bne_eq_false_iff_eq, decide_eq_true_eq, decide_eq_false_iff_not, Bool.not_eq_true', Bool.not_eq_false', ne_eq, beq_true, beq_false, bne_self_eq_false, not_true_eq_false, not_false_eq_true, gt_iff_lt, ge_iff_le, Int.not_lt, Int.not_le, Bool.true_eq_false, Bool.false_eq_true] <;> omega)); conv => whnf)
        | (refine sel_no ?_ ?_; (first | assumption | (simp only [beq_iff_eq, bne_iff_ne, beq_eq_false_iff_ne, bne_eq_false_iff_eq, decide_eq_true_eq, decide_eq_false_iff_not, Bool.not_eq_true', Bool.not_eq_false', ne_eq, beq_true, beq_false, bne_self_eq_false, not_true_eq_false, not_false_eq_true, gt_iff_lt, ge_iff_le, Int.not_lt, Int.not_le, Bool.true_eq_false, Bool.false_eq_true] <;> omega)); conv => whnf)
        | (refine ⟨_, hE, ?_⟩; conv => whnf)
        | (refine ⟨le_rfl' ?_, ?_⟩; rfl; conv => whnf)
        | (refine ⟨⟨?_, ?_⟩, ?_⟩; omega; omega; conv => whnf)
        | (refine ⟨⟨?_, ?_, ?_⟩, ?_⟩; rfl; omega; omega; conv => whnf)
        | (refine ⟨rfl, ?_, ?_⟩; decide; conv => whnf))
      try exact rfl
    obtain ⟨r, h, rfl⟩ := key
    exact h
  | some w =>
    have hr : V.tup [.agg [.int .i64 4, .int .i64 0, .str ⟨#[]⟩, .sl false (encL (v.f3.set i w)) (0 + v.f3.length)], .bool true] = optV (some ⟨4, 0, ⟨#[]⟩, v.f3.set i w⟩) := by
      rw [Nat.zero_add]
      show _ = V.tup [.agg [.int .i64 4, .int .i64 0, .str ⟨#[]⟩, .sl false (encL (v.f3.set i w)) (v.f3.set i w).length], .bool true]
      rw [List.length_set]
    have key : ∃ r, (cfg ext).Ev 33 [A v, .sl false (encL (s :: p)) (s :: p).length, A x] r ∧ r = optV (some ⟨4, 0, ⟨#[]⟩, v.f3.set i w⟩) := by
      refine Ev.ofF (hn 33 (by decide) (by decide)) Tryd.func33 rfl rfl ?_
      conv => whnf
      repeat (first
        | (refine sel_yes ?_ ?_; (first | assumption | (simp only [beq_iff_eq, bne_iff_ne, beq_eq_false_iff_ne, bne_eq_false_iff_eq, decide_eq_true_eq, decide_eq_false_iff_not, Bool.not_eq_true', Bool.not_eq_false', ne_eq, beq_true, beq_false, bne_self_eq_false, not_true_eq_false, not_false_eq_true, gt_iff_lt, ge_iff_le, Int.not_lt, Int.not_le, Bool.true_eq_false, Bool.false_eq_true] <;> omega)); conv => whnf)
        | (refine sel_no ?_ ?_; (first | assumption | (simp only [beq_iff_eq, bne_iff_ne, beq_eq_false_iff_ne, bne_eq_false_iff_eq, decide_eq_true_eq, decide_eq_false_iff_not, Bool.not_eq_true', Bool.not_eq_false', ne_eq, beq_true, beq_false, bne_self_eq_false, not_true_eq_false, not_false_eq_true, gt_iff_lt, ge_iff_le, Int.not_lt, Int.not_le, Bool.true_eq_false, Bool.false_eq_true] <;> omega)); conv => whnf)
        | (refine ⟨le_rfl' ?_, ?_⟩; rfl; conv => whnf)
        | (refine ⟨⟨?_, ?_⟩, ?_⟩; omega; omega; conv => whnf)
        | (refine ⟨⟨?_, ?_, ?_⟩, ?_⟩; rfl; omega; omega; conv => whnf)
        | (refine ⟨rfl, ?_, ?_⟩; decide; conv => whnf))
      try exact rfl
      refine ld0 ?_
      conv => whnf
      repeat (first
        | (refine sel_yes ?_ ?_; (first | assumption | (simp only [beq_iff_eq, bne_iff_ne, beq_eq_false_iff_ne, bne_eq_false_iff_eq, decide_eq_true_eq, decide_eq_false_iff_not, Bool.not_eq_true', Bool.not_eq_false', ne_eq, beq_true, beq_false, bne_self_eq_false, not_true_eq_false, not_false_eq_true, gt_iff_lt, ge_iff_le, Int.not_lt, Int.not_le, Bool.true_eq_false, Bool.false_eq_true] <;> omega)); conv => whnf)
        | (refine sel_no ?_ ?_; (first | assumption | (simp only [beq_iff_eq, bne_iff_ne, beq_eq_false_iff_ne, bne_eq_false_iff_eq, decide_eq_true_eq, decide_eq_false_iff_not, Bool.not_eq_true', Bool.not_eq_false', ne_eq, beq_true, beq_false, bne_self_eq_false, not_true_eq_false, not_false_eq_true, gt_iff_lt, ge_iff_le, Int.not_lt, Int.not_le, Bool.true_eq_false, Bool.false_eq_true] <;> omega)); conv => whnf)
        | (refine ⟨_, hI, ?_⟩; conv => whnf)
        | (refine ⟨_, hP, ?_⟩; conv => whnf)
        | (refine ⟨le_rfl' ?_, ?_⟩; rfl; conv => whnf)
        | (refine ⟨⟨?_, ?_⟩, ?_⟩; omega; omega; conv => whnf)
        | (refine ⟨⟨?_, ?_, ?_⟩, ?_⟩; rfl; omega; omega; conv => whnf)
        | (refine ⟨rfl, ?_, ?_⟩; decide; conv => whnf))
      try exact rfl
      refine ⟨_, slRest tsV szV, ?_⟩
      conv => whnf
      repeat (first
        | (refine sel_yes ?_ ?_; (first | assumption | (simp only [beq_iff_eq, bne_iff_ne, beq_eq_false_iff_ne, bne_eq_false_iff_eq, decide_eq_true_eq, decide_eq_false_iff_not, Bool.not_eq_true', Bool.not_eq_false', ne_eq, beq_true, beq_false, bne_self_eq_false, not_true_eq_false, not_false_eq_true, gt_iff_lt, ge_iff_le, Int.not_lt, Int.not_le, Bool.true_eq_false, Bool.false_eq_true] <;> omega)); conv => whnf)
        | (refine sel_no ?_ ?_; (first | assumption | (simp only [beq_iff_eq, bne_iff_ne, beq_eq_false_iff_ne, bne_eq_false_iff_eq, decide_eq_true_eq, decide_eq_false_iff_not, Bool.not_eq_true', Bool.not_eq_false', ne_eq, beq_true, beq_false, bne_self_eq_false, not_true_eq_false, not_false_eq_true, gt_iff_lt, ge_iff_le, Int.not_lt, Int.not_le, Bool.true_eq_false, Bool.false_eq_true] <;> omega)); conv => whnf)
        | (refine ⟨_, hE, ?_⟩; conv => whnf)
        | (refine ⟨le_rfl' ?_, ?_⟩; rfl; conv => whnf)
        | (refine ⟨⟨?_, ?_⟩, ?_⟩; omega; omega; conv => whnf)
        | (refine ⟨⟨?_, ?_, ?_⟩, ?_⟩; rfl; omega; omega; conv => whnf)
        | (refine ⟨rfl, ?_, ?_⟩; decide; conv => whnf))
      try exact rfl
      refine ⟨rfl, ?_⟩
      conv => whnf
      refine ⟨⟨rfl, (show (4 : Nat) ≠ 0 by decide)⟩, ?_⟩
      refine appE2 (sz := 4) (bytes := 56) (cs := encL v.f3) (k := v.f3.length) ?_ rfl (by decide) (encL_len _) hk (encC _) ⟨by omega, by omega⟩ (Nat.add_lt_add_left (by decide) _) (fun a1 k1 => ?_)
      · rfl
      conv => whnf
      refine sel_no g6 ?_
      conv => whnf
      refine ⟨⟨by omega, by omega⟩, ?_⟩
      conv => whnf
      refine stR (x := w) (l := v.f3) (k := i) k1 hb.2.2 hb.2.1 (fun a2 k2 => ?_)
      conv => whnf
      exact FinRowT (k1 := .i64) (k2 := .i64) rfl k2 (by rw [encL_len, List.length_set, Nat.zero_add]) (encC _) hr
    obtain ⟨r, h, rfl⟩ := key
    exact h
/-- at the end -/
theorem rputB (hn : Non ext) (v s x : T) (p : List T) (hv : Good v) (hs : Good s) (h4 : v.f0 = 4) (h2 : s.f0 = 2) (h1 : s.f1 = (v.f3.length : Int)) (o : Option T)
    (hE : (cfg ext).Ev 33 [A ((partF v s).getD nilT), .sl false (encL p) p.length, A x] (optV o)) :
    (cfg ext).Ev 33 [A v, .sl false (encL (s :: p)) (s :: p).length, A x] (optV (o.map fun w => ⟨4, 0, ⟨#[]⟩, v.f3 ++ [w]⟩)) := by
  have hl0 : ((s :: p).length : Int) ≠ 0 := by simp only [List.length_cons]; omega
  have hlen := (OK.row (okB_iff.1 hv.ok)).1
  have hI := rindex (ext := ext) hn v s
  have hi : idxF v.f3.length s = none := if_neg (by omega)
  rw [if_pos h4, hi] at hI
  have hP := rpart (ext := ext) hn v s hv hs
  rw [optV_eq] at hP
  have g1 : (v.f0 == 4) = true := by simp [h4]
  have g2 : (v.f0 != 4) = false := by simp [h4]
  have g3 : (v.f0 != 0) = true := by simp [h4]
  have g4 : (v.f0 != 6) = true := by simp [h4]
  have g5 : (s.f0 == 2) = true := by simp [h2]
  have g6 : (s.f1 == (v.f3.length : Int)) = true := by simp [h1]
  generalize (partF v s).getD nilT = old at *
  generalize (partF v s).isSome = b at *
  cases o with
  | none =>
    have key : ∃ r, (cfg ext).Ev 33 [A v, .sl false (encL (s :: p)) (s :: p).length, A x] r ∧ r = optV none := by
      refine Ev.ofE (hn 33 (by decide) (by decide)) Tryd.func33 rfl rfl ?_
      conv => whnf
      repeat (first
        | (refine sel_yes ?_ ?_; (first | assumption | (simp only [beq_iff_eq, bne_iff_ne, beq_eq_false_iff_ne, bne_eq_false_iff_eq, decide_eq_true_eq, decide_eq_false_iff_not, Bool.not_eq_true', Bool.not_eq_false', ne_eq, beq_true, beq_false, bne_self_eq_false, not_true_eq_false, not_false_eq_true, gt_iff_lt, ge_iff_le, Int.not_lt, Int.not_le, Bool.true_eq_false, Bool.false_eq_true] <;> omega)); conv => whnf)
        | (refine sel_no ?_ ?_; (first | assumption | (simp only [beq_iff_eq, bne_iff_ne, beq_eq_false_iff_ne, bne_eq_false_iff_eq, decide_eq_true_eq, decide_eq_false_iff_not, Bool.not_eq_true', Bool.not_eq_false', ne_eq, beq_true, beq_false, bne_self_eq_false, not_true_eq_false, not_false_eq_true, gt_iff_lt, ge_iff_le, Int.not_lt, Int.not_le, Bool.true_eq_false, Bool.false_eq_true] <;> omega)); conv => whnf)
        | (refine ⟨le_rfl' ?_, ?_⟩; rfl; conv => whnf)
        | (refine ⟨⟨?_, ?_⟩, ?_⟩; omega; omega; conv => whnf)
        | (refine ⟨⟨?_, ?_, ?_⟩, ?_⟩; rfl; omega; omega; conv => whnf)
        | (refine ⟨rfl, ?_, ?_⟩; decide; conv => whnf))
      try exact rfl
      refine ld0 ?_
      conv => whnf
      repeat (first
        | (refine sel_yes ?_ ?_; (first | assumption | (simp only [beq_iff_eq, bne_iff_ne, beq_eq_false_iff_ne, bne_eq_false_iff_eq, decide_eq_true_eq, decide_eq_false_iff_not, Bool.not_eq_true', Bool.not_eq_false', ne_eq, beq_true, beq_false, bne_self_eq_false, not_true_eq_false, not_false_eq_true, gt_iff_lt, ge_iff_le, Int.not_lt, Int.not_le, Bool.true_eq_false, Bool.false_eq_true] <;> omega)); conv => whnf)
        | (refine sel_no ?_ ?_; (first | assumption | (simp only [beq_iff_eq, bne_iff_ne, beq_eq_false_iff_ne, bne_eq_false_iff_eq, decide_eq_true_eq, decide_eq_false_iff_not, Bool.not_eq_true', Bool.not_eq_false', ne_eq, beq_true, beq_false, bne_self_eq_false, not_true_eq_false, not_false_eq_true, gt_iff_lt, ge_iff_le, Int.not_lt, Int.not_le, Bool.true_eq_false, Bool.false_eq_true] <;> omega)); conv => whnf)
        | (refine ⟨_, hI, ?_⟩; conv => whnf)
        | (refine ⟨_, hP, ?_⟩; conv => whnf)
        | (refine ⟨le_rfl' ?_, ?_⟩; rfl; conv => whnf)
        | (refine ⟨⟨?_, ?_⟩, ?_⟩; omega; omega; conv => whnf)
        | (refine ⟨⟨?_, ?_, ?_⟩, ?_⟩; rfl; omega; omega; conv => whnf)
        | (refine ⟨rfl, ?_, ?_⟩; decide; conv => whnf))
      try exact rfl
      refine ⟨_, slRest tsV szV, ?_⟩
      conv => whnf
      repeat (first
        | (refine sel_yes ?_ ?_; (first | assumption | (simp only [beq_iff_eq, bne_iff_ne, beq_eq_false_iff_ne, bne_eq_false_iff_eq, decide_eq_true_eq, decide_eq_false_iff_not, Bool.not_eq_true', Bool.not_eq_false', ne_eq, beq_true, beq_false, bne_self_eq_false, not_true_eq_false, not_false_eq_true, gt_iff_lt, ge_iff_le, Int.not_lt, Int.not_le, Bool.true_eq_false, Bool.false_eq_true] <;> omega)); conv => whnf)
        | (refine sel_no ?_ ?_; (first | assumption | (simp only [beq_iff_eq, bne_iff_ne, beq_eq_false_iff_ne, bne_eq_false_iff_eq, decide_eq_true_eq, decide_eq_false_iff_not, Bool.not_eq_true', Bool.not_eq_false', ne_eq, beq_true, beq_false, bne_self_eq_false, not_true_eq_false, not_false_eq_true, gt_iff_lt, ge_iff_le, Int.not_lt, Int.not_le, Bool.true_eq_false, Bool.false_eq_true] <;> omega)); conv => whnf)
        | (refine ⟨_, hE, ?_⟩; conv => whnf)
        | (refine ⟨le_rfl' ?_, ?_⟩; rfl; conv => whnf)
        | (refine ⟨⟨?_, ?_⟩, ?_⟩; omega; omega; conv => whnf)
        | (refine ⟨⟨?_, ?_, ?_⟩, ?_⟩; rfl; omega; omega; conv => whnf)
        | (refine ⟨rfl, ?_, ?_⟩; decide; conv => whnf))
      try exact rfl
    obtain ⟨r, h, rfl⟩ := key
    exact h
  | some w =>
    have hr : V.tup [.agg [.int .i64 4, .int .i64 0, .str ⟨#[]⟩, .sl false (encL (v.f3 ++ [w])) (0 + v.f3.length + 1)], .bool true] = optV (some ⟨4, 0, ⟨#[]⟩, v.f3 ++ [w]⟩) := by
      show _ = V.tup [.agg [.int .i64 4, .int .i64 0, .str ⟨#[]⟩, .sl false (encL (v.f3 ++ [w])) (v.f3 ++ [w]).length], .bool true]
      rw [List.length_append, Nat.zero_add]; rfl
    have key : ∃ r, (cfg ext).Ev 33 [A v, .sl false (encL (s :: p)) (s :: p).length, A x] r ∧ r = optV (some ⟨4, 0, ⟨#[]⟩, v.f3 ++ [w]⟩) := by
      refine Ev.ofF (hn 33 (by decide) (by decide)) Tryd.func33 rfl rfl ?_
      by_cases hk : v.f3.length = 0
      · have hnil : v.f3 = [] := List.eq_nil_of_length_eq_zero hk
        have eA : A v = .agg [.int .i64 v.f0, .int .i64 v.f1, .str v.f2, .sl false [] 0] := by unfold A; rw [hnil]; simp only [encL]; rfl
        have hr' : V.tup [.agg [.int .i64 4, .int .i64 0, .str ⟨#[]⟩, .sl false [.int .i64 w.f0, .int .i64 w.f1, .str w.f2, .sl false (encL w.f3) w.f3.length] 1], .bool true] = optV (some ⟨4, 0, ⟨#[]⟩, v.f3 ++ [w]⟩) := by
          rw [← hr, hnil]; simp only [encL, enc_eq, List.append_nil, List.nil_append]; rfl
        rw [hnil] at g6
        rw [eA] at hI hP ⊢
        conv => whnf
        repeat (first
          | (refine sel_yes ?_ ?_; (first | assumption | (simp only [beq_iff_eq, bne_iff_ne, beq_eq_false_iff_ne, bne_eq_false_iff_eq, decide_eq_true_eq, decide_eq_false_iff_not, Bool.not_eq_true', Bool.not_eq_false', ne_eq, beq_true, beq_false, bne_self_eq_false, not_true_eq_false, not_false_eq_true, gt_iff_lt, ge_iff_le, Int.not_lt, Int.not_le, Bool.true_eq_false, Bool.false_eq_true] <;> omega)); conv => whnf)
          | (refine sel_no ?_ ?_; (first | assumption | (simp only [beq_iff_eq, bne_iff_ne, beq_eq_false_iff_ne, bne_eq_false_iff_eq, decide_eq_true_eq, decide_eq_false_iff_not, Bool.not_eq_true', Bool.not_eq_false', ne_eq, beq_true, beq_false, bne_self_eq_false, not_true_eq_false, not_false_eq_true, gt_iff_lt, ge_iff_le, Int.not_lt, Int.not_le, Bool.true_eq_false, Bool.false_eq_true] <;> omega)); conv => whnf)
          | (refine ⟨le_rfl' ?_, ?_⟩; rfl; conv => whnf)
          | (refine ⟨⟨?_, ?_⟩, ?_⟩; omega; omega; conv => whnf)
          | (refine ⟨⟨?_, ?_, ?_⟩, ?_⟩; rfl; omega; omega; conv => whnf)
          | (refine ⟨rfl, ?_, ?_⟩; decide; conv => whnf))
        try exact rfl
        refine ld0 ?_
        conv => whnf
        repeat (first
          | (refine sel_yes ?_ ?_; (first | assumption | (simp only [beq_iff_eq, bne_iff_ne, beq_eq_false_iff_ne, bne_eq_false_iff_eq, decide_eq_true_eq, decide_eq_false_iff_not, Bool.not_eq_true', Bool.not_eq_false', ne_eq, beq_true, beq_false, bne_self_eq_false, not_true_eq_false, not_false_eq_true, gt_iff_lt, ge_iff_le, Int.not_lt, Int.not_le, Bool.true_eq_false, Bool.false_eq_true] <;> omega)); conv => whnf)
          | (refine sel_no ?_ ?_; (first | assumption | (simp only [beq_iff_eq, bne_iff_ne, beq_eq_false_iff_ne, bne_eq_false_iff_eq, decide_eq_true_eq, decide_eq_false_iff_not, Bool.not_eq_true', Bool.not_eq_false', ne_eq, beq_true, beq_false, bne_self_eq_false, not_true_eq_false, not_false_eq_true, gt_iff_lt, ge_iff_le, Int.not_lt, Int.not_le, Bool.true_eq_false, Bool.false_eq_true] <;> omega)); conv => whnf)
          | (refine ⟨_, hI, ?_⟩; conv => whnf)
          | (refine ⟨_, hP, ?_⟩; conv => whnf)
          | (refine ⟨le_rfl' ?_, ?_⟩; rfl; conv => whnf)
          | (refine ⟨⟨?_, ?_⟩, ?_⟩; omega; omega; conv => whnf)
          | (refine ⟨⟨?_, ?_, ?_⟩, ?_⟩; rfl; omega; omega; conv => whnf)
          | (refine ⟨rfl, ?_, ?_⟩; decide; conv => whnf))
        try exact rfl
        refine ⟨_, slRest tsV szV, ?_⟩
        conv => whnf
        repeat (first
          | (refine sel_yes ?_ ?_; (first | assumption | (simp only [beq_iff_eq, bne_iff_ne, beq_eq_false_iff_ne, bne_eq_false_iff_eq, decide_eq_true_eq, decide_eq_false_iff_not, Bool.not_eq_true', Bool.not_eq_false', ne_eq, beq_true, beq_false, bne_self_eq_false, not_true_eq_false, not_false_eq_true, gt_iff_lt, ge_iff_le, Int.not_lt, Int.not_le, Bool.true_eq_false, Bool.false_eq_true] <;> omega)); conv => whnf)
          | (refine sel_no ?_ ?_; (first | assumption | (simp only [beq_iff_eq, bne_iff_ne, beq_eq_false_iff_ne, bne_eq_false_iff_eq, decide_eq_true_eq, decide_eq_false_iff_not, Bool.not_eq_true', Bool.not_eq_false', ne_eq, beq_true, beq_false, bne_self_eq_false, not_true_eq_false, not_false_eq_true, gt_iff_lt, ge_iff_le, Int.not_lt, Int.not_le, Bool.true_eq_false, Bool.false_eq_true] <;> omega)); conv => whnf)
          | (refine ⟨_, hE, ?_⟩; conv => whnf)
          | (refine ⟨le_rfl' ?_, ?_⟩; rfl; conv => whnf)
          | (refine ⟨⟨?_, ?_⟩, ?_⟩; omega; omega; conv => whnf)
          | (refine ⟨⟨?_, ?_, ?_⟩, ?_⟩; rfl; omega; omega; conv => whnf)
          | (refine ⟨rfl, ?_, ?_⟩; decide; conv => whnf))
        try exact rfl
        refine ⟨rfl, ?_⟩
        conv => whnf
        refine ⟨⟨rfl, (show (4 : Nat) ≠ 0 by decide)⟩, ?_⟩
        conv => whnf
        refine sel_yes g6 ?_
        conv => whnf
        refine ⟨rfl, ?_⟩
        conv => whnf
        refine ⟨⟨rfl, (show (4 : Nat) ≠ 0 by decide)⟩, ?_⟩
        conv => whnf
        exact Fin.of_eq (v := .tup [.agg [.int .i64 4, .int .i64 0, .str ⟨#[]⟩, .sl false [.int .i64 w.f0, .int .i64 w.f1, .str w.f2, .sl false (encL w.f3) w.f3.length] 1], .bool true]) rfl hr'
      · conv => whnf
        repeat (first
          | (refine sel_yes ?_ ?_; (first | assumption | (simp only [beq_iff_eq, bne_iff_ne, beq_eq_false_iff_ne, bne_eq_false_iff_eq, decide_eq_true_eq, decide_eq_false_iff_not, Bool.not_eq_true', Bool.not_eq_false', ne_eq, beq_true, beq_false, bne_self_eq_false, not_true_eq_false, not_false_eq_true, gt_iff_lt, ge_iff_le, Int.not_lt, Int.not_le, Bool.true_eq_false, Bool.false_eq_true] <;> omega)); conv => whnf)
          | (refine sel_no ?_ ?_; (first | assumption | (simp only [beq_iff_eq, bne_iff_ne, beq_eq_false_iff_ne, bne_eq_false_iff_eq, decide_eq_true_eq, decide_eq_false_iff_not, Bool.not_eq_true', Bool.not_eq_false', ne_eq, beq_true, beq_false, bne_self_eq_false, not_true_eq_false, not_false_eq_true, gt_iff_lt, ge_iff_le, Int.not_lt, Int.not_le, Bool.true_eq_false, Bool.false_eq_true] <;> omega)); conv => whnf)
          | (refine ⟨le_rfl' ?_, ?_⟩; rfl; conv => whnf)
          | (refine ⟨⟨?_, ?_⟩, ?_⟩; omega; omega; conv => whnf)
          | (refine ⟨⟨?_, ?_, ?_⟩, ?_⟩; rfl; omega; omega; conv => whnf)
          | (refine ⟨rfl, ?_, ?_⟩; decide; conv => whnf))
        try exact rfl
        refine ld0 ?_
        conv => whnf
        repeat (first
          | (refine sel_yes ?_ ?_; (first | assumption | (simp only [beq_iff_eq, bne_iff_ne, beq_eq_false_iff_ne, bne_eq_false_iff_eq, decide_eq_true_eq, decide_eq_false_iff_not, Bool.not_eq_true', Bool.not_eq_false', ne_eq, beq_true, beq_false, bne_self_eq_false, not_true_eq_false, not_false_eq_true, gt_iff_lt, ge_iff_le, Int.not_lt, Int.not_le, Bool.true_eq_false, Bool.false_eq_true] <;> omega)); conv => whnf)
          | (refine sel_no ?_ ?_; (first | assumption | (simp only [beq_iff_eq, bne_iff_ne, beq_eq_false_iff_ne, bne_eq_false_iff_eq, decide_eq_true_eq, decide_eq_false_iff_not, Bool.not_eq_true', Bool.not_eq_false', ne_eq, beq_true, beq_false, bne_self_eq_false, not_true_eq_false, not_false_eq_true, gt_iff_lt, ge_iff_le, Int.not_lt, Int.not_le, Bool.true_eq_false, Bool.false_eq_true] <;> omega)); conv => whnf)
          | (refine ⟨_, hI, ?_⟩; conv => whnf)
          | (refine ⟨_, hP, ?_⟩; conv => whnf)
          | (refine ⟨le_rfl' ?_, ?_⟩; rfl; conv => whnf)
          | (refine ⟨⟨?_, ?_⟩, ?_⟩; omega; omega; conv => whnf)
          | (refine ⟨⟨?_, ?_, ?_⟩, ?_⟩; rfl; omega; omega; conv => whnf)
          | (refine ⟨rfl, ?_, ?_⟩; decide; conv => whnf))
        try exact rfl
        refine ⟨_, slRest tsV szV, ?_⟩
        conv => whnf
        repeat (first
          | (refine sel_yes ?_ ?_; (first | assumption | (simp only [beq_iff_eq, bne_iff_ne, beq_eq_false_iff_ne, bne_eq_false_iff_eq, decide_eq_true_eq, decide_eq_false_iff_not, Bool.not_eq_true', Bool.not_eq_false', ne_eq, beq_true, beq_false, bne_self_eq_false, not_true_eq_false, not_false_eq_true, gt_iff_lt, ge_iff_le, Int.not_lt, Int.not_le, Bool.true_eq_false, Bool.false_eq_true] <;> omega)); conv => whnf)
          | (refine sel_no ?_ ?_; (first | assumption | (simp only [beq_iff_eq, bne_iff_ne, beq_eq_false_iff_ne, bne_eq_false_iff_eq, decide_eq_true_eq, decide_eq_false_iff_not, Bool.not_eq_true', Bool.not_eq_false', ne_eq, beq_true, beq_false, bne_self_eq_false, not_true_eq_false, not_false_eq_true, gt_iff_lt, ge_iff_le, Int.not_lt, Int.not_le, Bool.true_eq_false, Bool.false_eq_true] <;> omega)); conv => whnf)
          | (refine ⟨_, hE, ?_⟩; conv => whnf)
          | (refine ⟨le_rfl' ?_, ?_⟩; rfl; conv => whnf)
          | (refine ⟨⟨?_, ?_⟩, ?_⟩; omega; omega; conv => whnf)
          | (refine ⟨⟨?_, ?_, ?_⟩, ?_⟩; rfl; omega; omega; conv => whnf)
          | (refine ⟨rfl, ?_, ?_⟩; decide; conv => whnf))
        try exact rfl
        refine ⟨rfl, ?_⟩
        conv => whnf
        refine ⟨⟨rfl, (show (4 : Nat) ≠ 0 by decide)⟩, ?_⟩
        refine appE (sz := 4) (bytes := 56) (cs := encL v.f3) (k := v.f3.length) ?_ rfl (by decide) (encL_len _) hk (encC _) ⟨by omega, by omega⟩ (Nat.add_lt_add_left (by decide) _) (fun a1 k1 => ?_)
        · rfl
        conv => whnf
        refine sel_yes g6 ?_
        conv => whnf
        refine ⟨rfl, ?_⟩
        conv => whnf
        refine ⟨⟨rfl, (show (4 : Nat) ≠ 0 by decide)⟩, ?_⟩
        refine Gro.one (val := [V.int .i64 w.f0, .int .i64 w.f1, .str w.f2, .sl false (encL w.f3) w.f3.length]) k1 ⟨_, _, _, _, rfl, rfl⟩ ?_ rfl (one_cold w) ⟨?_, ?_⟩ ?_ ?_ (fun b1 v1 a2 k2 => ?_)
        · intro b0 hb0
          exact upd_lt (Nat.lt_of_lt_of_le hb0 (by ((conv => lhs; whnf); (repeat ((conv => rhs; whnf); first | with_reducible exact Nat.le_refl _ | refine Nat.le_trans ?_ (Nat.le_add_right _ _) | refine Nat.le_succ_of_le ?_)))))
        · show (0 + v.f3.length + 1) * 56 ≤ 140737488355328
          omega
        · show 0 + v.f3.length + 1 ≤ 140737488355328
          omega
        · exact Nat.add_lt_add_left (by decide) _
        · ((conv => lhs; whnf); (repeat ((conv => rhs; whnf); first | with_reducible exact Nat.le_refl _ | refine Nat.le_trans ?_ (Nat.le_add_right _ _) | refine Nat.le_succ_of_le ?_)))
        have ha := Gro_at (k2.to (one_one v.f3 w) rfl)
        conv => whnf
        exact FinRowT (k1 := .i64) (k2 := .i64) rfl ha (by rw [encL_len, List.length_append, Nat.zero_add]; rfl) (encC _) hr
    obtain ⟨r, h, rfl⟩ := key
    exact h
theorem rputC (hn : Non ext) (v s x : T) (p : List T) (h4 : v.f0 = 4) (hi : idxF v.f3.length s = none) (he : ¬ (s.f0 = 2 ∧ s.f1 = (v.f3.length : Int))) :
    (cfg ext).Ev 33 [A v, .sl false (encL (s :: p)) (s :: p).length, A x] (optV none) := by
  have hl0 : ((s :: p).length : Int) ≠ 0 := by simp only [List.length_cons]; omega
  have hI := rindex (ext := ext) hn v s
  rw [if_pos h4, hi] at hI
  have g1 : (v.f0 == 4) = true := by simp [h4]
  have g3 : (v.f0 != 0) = true := by simp [h4]
  have g4 : (v.f0 != 6) = true := by simp [h4]
  have key : ∃ r, (cfg ext).Ev 33 [A v, .sl false (encL (s :: p)) (s :: p).length, A x] r ∧ r = optV none := by
    refine Ev.ofE (hn 33 (by decide) (by decide)) Tryd.func33 rfl rfl ?_
    by_cases h2 : s.f0 = 2
    · have g5 : (s.f0 == 2) = true := by simp [h2]
      have g6 : (s.f1 == (v.f3.length : Int)) = false := by simp; omega
      conv => whnf
      repeat (first
        | (refine sel_yes ?_ ?_; (first | assumption | (simp only [beq_iff_eq, bne_iff_ne, beq_eq_false_iff_ne, bne_eq_false_iff_eq, decide_eq_true_eq, decide_eq_false_iff_not, Bool.not_eq_true', Bool.not_eq_false', ne_eq, beq_true, beq_false, bne_self_eq_false, not_true_eq_false, not_false_eq_true, gt_iff_lt, ge_iff_le, Int.not_lt, Int.not_le, Bool.true_eq_false, Bool.false_eq_true] <;> omega)); conv => whnf)
        | (refine sel_no ?_ ?_; (first | assumption | (simp only [beq_iff_eq, bne_iff_ne, beq_eq_false_iff_ne, bne_eq_false_iff_eq, decide_eq_true_eq, decide_eq_false_iff_not, Bool.not_eq_true', Bool.not_eq_false', ne_eq, beq_true, beq_false, bne_self_eq_false, not_true_eq_false, not_false_eq_true, gt_iff_lt, ge_iff_le, Int.not_lt, Int.not_le, Bool.true_eq_false, Bool.false_eq_true] <;> omega)); conv => whnf)
        | (refine ⟨le_rfl' ?_, ?_⟩; rfl; conv => whnf)
        | (refine ⟨⟨?_, ?_⟩, ?_⟩; omega; omega; conv => whnf)
        | (refine ⟨⟨?_, ?_, ?_⟩, ?_⟩; rfl; omega; omega; conv => whnf)
        | (refine ⟨rfl, ?_, ?_⟩; decide; conv => whnf))
      try exact rfl
      refine ld0 ?_
      conv => whnf
      repeat (first
        | (refine sel_yes ?_ ?_; (first | assumption | (simp only [beq_iff_eq, bne_iff_ne, beq_eq_false_iff_ne, bne_eq_false_iff_eq, decide_eq_true_eq, decide_eq_false_iff_not, Bool.not_eq_true', Bool.not_eq_false', ne_eq, beq_true, beq_false, bne_self_eq_false, not_true_eq_false, not_false_eq_true, gt_iff_lt, ge_iff_le, Int.not_lt, Int.not_le, Bool.true_eq_false, Bool.false_eq_true] <;> omega)); conv => whnf)
        | (refine sel_no ?_ ?_; (first | assumption | (simp only [beq_iff_eq, bne_iff_ne, beq_eq_false_iff_ne, bne_eq_false_iff_eq, decide_eq_true_eq, decide_eq_false_iff_not, Bool.not_eq_true', Bool.not_eq_false', ne_eq, beq_true, beq_false, bne_self_eq_false, not_true_eq_false, not_false_eq_true, gt_iff_lt, ge_iff_le, Int.not_lt, Int.not_le, Bool.true_eq_false, Bool.false_eq_true] <;> omega)); conv => whnf)
        | (refine ⟨_, hI, ?_⟩; conv => whnf)
        | (refine ⟨le_rfl' ?_, ?_⟩; rfl; conv => whnf)
        | (refine ⟨⟨?_, ?_⟩, ?_⟩; omega; omega; conv => whnf)
        | (refine ⟨⟨?_, ?_, ?_⟩, ?_⟩; rfl; omega; omega; conv => whnf)
        | (refine ⟨rfl, ?_, ?_⟩; decide; conv => whnf))
      try exact rfl
    · have g5 : (s.f0 == 2) = false := by simp [h2]
      conv => whnf
      repeat (first
        | (refine sel_yes ?_ ?_; (first | assumption | (simp only [beq_iff_eq, bne_iff_ne, beq_eq_false_iff_ne, bne_eq_false_iff_eq, decide_eq_true_eq, decide_eq_false_iff_not, Bool.not_eq_true', Bool.not_eq_false', ne_eq, beq_true, beq_false, bne_self_eq_false, not_true_eq_false, not_false_eq_true, gt_iff_lt, ge_iff_le, Int.not_lt, Int.not_le, Bool.true_eq_false, Bool.false_eq_true] <;> omega)); conv => whnf)
        | (refine sel_no ?_ ?_; (first | assumption | (simp only [beq_iff_eq, bne_iff_ne, beq_eq_false_iff_ne, bne_eq_false_iff_eq, decide_eq_true_eq, decide_eq_false_iff_not, Bool.not_eq_true', Bool.not_eq_false', ne_eq, beq_true, beq_false, bne_self_eq_false, not_true_eq_false, not_false_eq_true, gt_iff_lt, ge_iff_le, Int.not_lt, Int.not_le, Bool.true_eq_false, Bool.false_eq_true] <;> omega)); conv => whnf)
        | (refine ⟨le_rfl' ?_, ?_⟩; rfl; conv => whnf)
        | (refine ⟨⟨?_, ?_⟩, ?_⟩; omega; omega; conv => whnf)
        | (refine ⟨⟨?_, ?_, ?_⟩, ?_⟩; rfl; omega; omega; conv => whnf)
        | (refine ⟨rfl, ?_, ?_⟩; decide; conv => whnf))
      try exact rfl
      refine ld0 ?_
      conv => whnf
      repeat (first
        | (refine sel_yes ?_ ?_; (first | assumption | (simp only [beq_iff_eq, bne_iff_ne, beq_eq_false_iff_ne, bne_eq_false_iff_eq, decide_eq_true_eq, decide_eq_false_iff_not, Bool.not_eq_true', Bool.not_eq_false', ne_eq, beq_true, beq_false, bne_self_eq_false, not_true_eq_false, not_false_eq_true, gt_iff_lt, ge_iff_le, Int.not_lt, Int.not_le, Bool.true_eq_false, Bool.false_eq_true] <;> omega)); conv => whnf)
        | (refine sel_no ?_ ?_; (first | assumption | (simp only [beq_iff_eq, bne_iff_ne, beq_eq_false_iff_ne, bne_eq_false_iff_eq, decide_eq_true_eq, decide_eq_false_iff_not, Bool.not_eq_true', Bool.not_eq_false', ne_eq, beq_true, beq_false, bne_self_eq_false, not_true_eq_false, not_false_eq_true, gt_iff_lt, ge_iff_le, Int.not_lt, Int.not_le, Bool.true_eq_false, Bool.false_eq_true] <;> omega)); conv => whnf)
        | (refine ⟨_, hI, ?_⟩; conv => whnf)
        | (refine ⟨le_rfl' ?_, ?_⟩; rfl; conv => whnf)
        | (refine ⟨⟨?_, ?_⟩, ?_⟩; omega; omega; conv => whnf)
        | (refine ⟨⟨?_, ?_, ?_⟩, ?_⟩; rfl; omega; omega; conv => whnf)
        | (refine ⟨rfl, ?_, ?_⟩; decide; conv => whnf))
      try exact rfl
  obtain ⟨r, h, rfl⟩ := key
  exact h
theorem rputE (hn : Non ext) (v s x : T) (p : List T) (h4 : v.f0 ≠ 4) (h0 : v.f0 ≠ 0) (h6 : v.f0 ≠ 6) :
    (cfg ext).Ev 33 [A v, .sl false (encL (s :: p)) (s :: p).length, A x] (optV none) := by
  have hl0 : ((s :: p).length : Int) ≠ 0 := by simp only [List.length_cons]; omega
  have hI := rindex (ext := ext) hn v s
  rw [if_neg h4] at hI
  have g1 : (v.f0 == 4) = false := by simp [h4]
  have g3 : (v.f0 != 0) = true := by simp [h0]
  have g4 : (v.f0 != 6) = true := by simp [h6]
  have key : ∃ r, (cfg ext).Ev 33 [A v, .sl false (encL (s :: p)) (s :: p).length, A x] r ∧ r = optV none := by
    refine Ev.ofE (hn 33 (by decide) (by decide)) Tryd.func33 rfl rfl ?_
    conv => whnf
    repeat (first
      | (refine sel_yes ?_ ?_; (first | assumption | (simp only [beq_iff_eq, bne_iff_ne, beq_eq_false_iff_ne, bne_eq_false_iff_eq, decide_eq_true_eq, decide_eq_false_iff_not, Bool.not_eq_true', Bool.not_eq_false', ne_eq, beq_true, beq_false, bne_self_eq_false, not_true_eq_false, not_false_eq_true, gt_iff_lt, ge_iff_le, Int.not_lt, Int.not_le, Bool.true_eq_false, Bool.false_eq_true] <;> omega)); conv => whnf)
      | (refine sel_no ?_ ?_; (first | assumption | (simp only [beq_iff_eq, bne_iff_ne, beq_eq_false_iff_ne, bne_eq_false_iff_eq, decide_eq_true_eq, decide_eq_false_iff_not, Bool.not_eq_true', Bool.not_eq_false', ne_eq, beq_true, beq_false, bne_self_eq_false, not_true_eq_false, not_false_eq_true, gt_iff_lt, ge_iff_le, Int.not_lt, Int.not_le, Bool.true_eq_false, Bool.false_eq_true] <;> omega)); conv => whnf)
      | (refine ⟨le_rfl' ?_, ?_⟩; rfl; conv => whnf)
      | (refine ⟨⟨?_, ?_⟩, ?_⟩; omega; omega; conv => whnf)
      | (refine ⟨⟨?_, ?_, ?_⟩, ?_⟩; rfl; omega; omega; conv => whnf)
      | (refine ⟨rfl, ?_, ?_⟩; decide; conv => whnf))
    try exact rfl
    refine ld0 ?_
    conv => whnf
    repeat (first
      | (refine sel_yes ?_ ?_; (first | assumption | (simp only [beq_iff_eq, bne_iff_ne, beq_eq_false_iff_ne, bne_eq_false_iff_eq, decide_eq_true_eq, decide_eq_false_iff_not, Bool.not_eq_true', Bool.not_eq_false', ne_eq, beq_true, beq_false, bne_self_eq_false, not_true_eq_false, not_false_eq_true, gt_iff_lt, ge_iff_le, Int.not_lt, Int.not_le, Bool.true_eq_false, Bool.false_eq_true] <;> omega)); conv => whnf)
      | (refine sel_no ?_ ?_; (first | assumption | (simp only [beq_iff_eq, bne_iff_ne, beq_eq_false_iff_ne, bne_eq_false_iff_eq, decide_eq_true_eq, decide_eq_false_iff_not, Bool.not_eq_true', Bool.not_eq_false', ne_eq, beq_true, beq_false, bne_self_eq_false, not_true_eq_false, not_false_eq_true, gt_iff_lt, ge_iff_le, Int.not_lt, Int.not_le, Bool.true_eq_false, Bool.false_eq_true] <;> omega)); conv => whnf)
      | (refine ⟨_, hI, ?_⟩; conv => whnf)
      | (refine ⟨le_rfl' ?_, ?_⟩; rfl; conv => whnf)
      | (refine ⟨⟨?_, ?_⟩, ?_⟩; omega; omega; conv => whnf)
      | (refine ⟨⟨?_, ?_, ?_⟩, ?_⟩; rfl; omega; omega; conv => whnf)
      | (refine ⟨rfl, ?_, ?_⟩; decide; conv => whnf))
    try exact rfl
  obtain ⟨r, h, rfl⟩ := key
  exact h
/-- the reference's put, whole -/
theorem rput (hn : Non ext) (x : T) : ∀ (p : List T) (v : T), Good v → (∀ s ∈ p, Good s) → (cfg ext).Ev 33 [A v, .sl false (encL p) p.length, A x] (optV (putF v p x))
  | [], v, hv, hp => rput0 hn v x
  | s :: p, v, hv, hp => by
    have hs : Good s := hp s (by simp)
    have ih := rput hn x p ((partF v s).getD nilT) (old_good hv hs) (fun s' h => hp s' (by simp [h]))
    by_cases h4 : v.f0 = 4
    · cases hi : idxF v.f3.length s with
      | some i =>
        have e : putF v (s :: p) x = (putF ((partF v s).getD nilT) p x).map fun w => ⟨4, 0, ⟨#[]⟩, v.f3.set i w⟩ := by
          conv => lhs; unfold putF
          rw [if_pos h4, hi]
        rw [e]
        exact rputA hn v s x p hv hs h4 hi _ ih
      | none =>
        by_cases he : s.f0 = 2 ∧ s.f1 = (v.f3.length : Int)
        · have e : putF v (s :: p) x = (putF ((partF v s).getD nilT) p x).map fun w => ⟨4, 0, ⟨#[]⟩, v.f3 ++ [w]⟩ := by
            conv => lhs; unfold putF
            rw [if_pos h4, hi]
            simp only
            rw [if_pos he]
          rw [e]
          exact rputB hn v s x p hv hs h4 he.1 he.2 _ ih
        · have e : putF v (s :: p) x = none := by
            conv => lhs; unfold putF
            rw [if_pos h4, hi]
            simp only
            rw [if_neg he]
          rw [e]
          exact rputC hn v s x p h4 hi he
    · by_cases h06 : v.f0 = 0 ∨ v.f0 = 6
      · have e : putF v (s :: p) x = (putF ((partF v s).getD nilT) p x).map fun w => ⟨6, 0, ⟨#[]⟩, insF v.f3 s w⟩ := by
          conv => lhs; unfold putF
          rw [if_neg h4, if_pos h06]
        rw [e]
        exact rputD hn v s x p hv hs h06 _ ih
      · have e : putF v (s :: p) x = none := by
          conv => lhs; unfold putF
          rw [if_neg h4, if_neg h06]
        rw [e]
        exact rputE hn v s x p h4 (fun h => h06 (.inl h)) (fun h => h06 (.inr h))
/-- what the reference's Put says is right -/
noncomputable def doneZ : Option T → V
  | none => .tup [A nilT, .int .i64 260]
  | some w => if okB w = true then .tup [A w, .int .i64 0] else .tup [A nilT, .int .i64 2]
theorem rdone (hn : Non ext) (o : Option T) (hw : ∀ w, o = some w → WfV w) : (cfg ext).Ev 32 [A (o.getD nilT), .bool o.isSome] (doneZ o) := by
  cases o with
  | none =>
    refine Ev.of (hn 32 (by decide) (by decide)) Tryd.func32 rfl rfl ?_
    conv => whnf
    rfl
  | some w =>
    have h1 := rright hn w (hw w rfl)
    by_cases hk : okB w = true
    · rw [hk] at h1
      unfold doneZ
      simp only [hk, if_true]
      refine Ev.of (hn 32 (by decide) (by decide)) Tryd.func32 rfl rfl ?_
      conv => whnf
      repeat (first
        | (refine sel_yes ?_ ?_; (first | assumption | (simp only [beq_iff_eq, bne_iff_ne, beq_eq_false_iff_ne, bne_eq_false_iff_eq, decide_eq_true_eq, decide_eq_false_iff_not, Bool.not_eq_true', Bool.not_eq_false', ne_eq, beq_true, beq_false, bne_self_eq_false, not_true_eq_false, not_false_eq_true, gt_iff_lt, ge_iff_le, Int.not_lt, Int.not_le, Bool.true_eq_false, Bool.false_eq_true] <;> omega)); conv => whnf)
        | (refine sel_no ?_ ?_; (first | assumption | (simp only [beq_iff_eq, bne_iff_ne, beq_eq_false_iff_ne, bne_eq_false_iff_eq, decide_eq_true_eq, decide_eq_false_iff_not, Bool.not_eq_true', Bool.not_eq_false', ne_eq, beq_true, beq_false, bne_self_eq_false, not_true_eq_false, not_false_eq_true, gt_iff_lt, ge_iff_le, Int.not_lt, Int.not_le, Bool.true_eq_false, Bool.false_eq_true] <;> omega)); conv => whnf)
        | (refine ⟨_, h1, ?_⟩; conv => whnf)
        | (refine ⟨le_rfl' ?_, ?_⟩; rfl; conv => whnf)
        | (refine ⟨⟨?_, ?_⟩, ?_⟩; omega; omega; conv => whnf)
        | (refine ⟨⟨?_, ?_, ?_⟩, ?_⟩; rfl; omega; omega; conv => whnf)
        | (refine ⟨rfl, ?_, ?_⟩; decide; conv => whnf))
      try exact rfl
    · have hk' : okB w = false := by simpa using hk
      rw [hk'] at h1
      unfold doneZ
      simp only [hk', if_false, Bool.false_eq_true]
      refine Ev.of (hn 32 (by decide) (by decide)) Tryd.func32 rfl rfl ?_
      conv => whnf
      repeat (first
        | (refine sel_yes ?_ ?_; (first | assumption | (simp only [beq_iff_eq, bne_iff_ne, beq_eq_false_iff_ne, bne_eq_false_iff_eq, decide_eq_true_eq, decide_eq_false_iff_not, Bool.not_eq_true', Bool.not_eq_false', ne_eq, beq_true, beq_false, bne_self_eq_false, not_true_eq_false, not_false_eq_true, gt_iff_lt, ge_iff_le, Int.not_lt, Int.not_le, Bool.true_eq_false, Bool.false_eq_true] <;> omega)); conv => whnf)
        | (refine sel_no ?_ ?_; (first | assumption | (simp only [beq_iff_eq, bne_iff_ne, beq_eq_false_iff_ne, bne_eq_false_iff_eq, decide_eq_true_eq, decide_eq_false_iff_not, Bool.not_eq_true', Bool.not_eq_false', ne_eq, beq_true, beq_false, bne_self_eq_false, not_true_eq_false, not_false_eq_true, gt_iff_lt, ge_iff_le, Int.not_lt, Int.not_le, Bool.true_eq_false, Bool.false_eq_true] <;> omega)); conv => whnf)
        | (refine ⟨_, h1, ?_⟩; conv => whnf)
        | (refine ⟨le_rfl' ?_, ?_⟩; rfl; conv => whnf)
        | (refine ⟨⟨?_, ?_⟩, ?_⟩; omega; omega; conv => whnf)
        | (refine ⟨⟨?_, ?_, ?_⟩, ?_⟩; rfl; omega; omega; conv => whnf)
        | (refine ⟨rfl, ?_, ?_⟩; decide; conv => whnf))
      try exact rfl
end
end Go.Proofs.YtjfjagnnefmepaaDoor.AB
end

section
set_option linter.unusedVariables false
set_option linter.unusedSimpArgs false
open Go Go.Ab Go.Proofs Go.Vl
namespace Go.Proofs.YtjfjagnnefmepaaDoor.AB
set_option maxRecDepth 100000
set_option maxHeartbeats 8000000
set_option linter.unusedSimpArgs false
set_option linter.unusedVariables false
section
variable {ext : Exts}
/-- the reference's test of a list -/
theorem llisted (hn : Non ext) (l : List T) (hl : l.length ≤ 65536) (hw : ∀ a ∈ l, WfV a) (Q : Ex → St → Prop) (d : Nat) :
    ∀ (i : Nat) (z : St), l.length - i = d → i ≤ l.length → Has z.t [(8, .sl false (encL l) l.length), (9, .int .i64 l.length), (10, .int .i64 i)] → z.hp.n = 7 →
      (∀ z' : St, z'.t 2 = .int .i64 3 → ¬ (∀ a ∈ l.drop i, okB a = true) → Q .ret z') →
      (∀ z' : St, (∀ a ∈ l.drop i, okB a = true) → Q (.exit 0) z') →
      Go.Ab.Loop (cfg ext) (lpOf Tryd.f60) 7 z Q := by
  induction d with
  | zero =>
    intro i z hd hi ht hz hr hq
    have g : decide ((i : Int) < (l.length : Int)) = false := decide_eq_false (by omega)
    rw [St.knows _ _ ht hz]
    refine Loop.round ?_
    conv => whnf
    repeat (first
      | (refine sel_yes ?_ ?_; (first | assumption | (simp only [beq_iff_eq, bne_iff_ne, beq_eq_false_iff_ne, bne_eq_false_iff_eq, decide_eq_true_eq, decide_eq_false_iff_not, Bool.not_eq_true', Bool.not_eq_false', ne_eq, beq_true, beq_false, bne_self_eq_false, not_true_eq_false, not_false_eq_true, gt_iff_lt, ge_iff_le, Int.not_lt, Int.not_le, Bool.true_eq_false, Bool.false_eq_true] <;> omega)); conv => whnf)
      | (refine sel_no ?_ ?_; (first | assumption | (simp only [beq_iff_eq, bne_iff_ne, beq_eq_false_iff_ne, bne_eq_false_iff_eq, decide_eq_true_eq, decide_eq_false_iff_not, Bool.not_eq_true', Bool.not_eq_false', ne_eq, beq_true, beq_false, bne_self_eq_false, not_true_eq_false, not_false_eq_true, gt_iff_lt, ge_iff_le, Int.not_lt, Int.not_le, Bool.true_eq_false, Bool.false_eq_true] <;> omega)); conv => whnf)
      | (refine ⟨le_rfl' ?_, ?_⟩; rfl; conv => whnf)
      | (refine ⟨⟨?_, ?_⟩, ?_⟩; omega; omega; conv => whnf)
      | (refine ⟨⟨?_, ?_, ?_⟩, ?_⟩; rfl; omega; omega; conv => whnf)
      | (refine ⟨rfl, ?_, ?_⟩; decide; conv => whnf))
    try exact rfl
    exact hq _ (by intro a ha; rw [List.drop_eq_nil_of_le (by omega)] at ha; cases ha)
  | succ d ih =>
    intro i z hd hi ht hz hr hq
    have hlt : i < l.length := by omega
    have g : decide ((i : Int) < (l.length : Int)) = true := decide_eq_true (by omega)
    have eD := List.drop_eq_getElem_cons hlt
    have e1 : IntKind.i64.wrap ((i : Int) + 1) = ((i + 1 : Nat) : Int) := wrapN (by omega) (by omega)
    have hE := rright hn l[i] (hw _ (List.getElem_mem hlt))
    rw [St.knows _ _ ht hz]
    refine Loop.round ?_
    conv => whnf
    repeat (first
      | (refine sel_yes ?_ ?_; (first | assumption | (simp only [beq_iff_eq, bne_iff_ne, beq_eq_false_iff_ne, bne_eq_false_iff_eq, decide_eq_true_eq, decide_eq_false_iff_not, Bool.not_eq_true', Bool.not_eq_false', ne_eq, beq_true, beq_false, bne_self_eq_false, not_true_eq_false, not_false_eq_true, gt_iff_lt, ge_iff_le, Int.not_lt, Int.not_le, Bool.true_eq_false, Bool.false_eq_true] <;> omega)); conv => whnf)
      | (refine sel_no ?_ ?_; (first | assumption | (simp only [beq_iff_eq, bne_iff_ne, beq_eq_false_iff_ne, bne_eq_false_iff_eq, decide_eq_true_eq, decide_eq_false_iff_not, Bool.not_eq_true', Bool.not_eq_false', ne_eq, beq_true, beq_false, bne_self_eq_false, not_true_eq_false, not_false_eq_true, gt_iff_lt, ge_iff_le, Int.not_lt, Int.not_le, Bool.true_eq_false, Bool.false_eq_true] <;> omega)); conv => whnf)
      | (refine ⟨le_rfl' ?_, ?_⟩; rfl; conv => whnf)
      | (refine ⟨⟨?_, ?_⟩, ?_⟩; omega; omega; conv => whnf)
      | (refine ⟨⟨?_, ?_, ?_⟩, ?_⟩; rfl; omega; omega; conv => whnf)
      | (refine ⟨rfl, ?_, ?_⟩; decide; conv => whnf))
    try exact rfl
    refine ldA (i := i) hlt ?_
    conv => whnf
    refine ⟨_, hE, ?_⟩
    cases ho : okB l[i] with
    | false =>
      conv => whnf
      exact hr _ rfl (fun g => by have := g l[i] (by rw [eD]; exact List.mem_cons_self); rw [ho] at this; cases this)
    | true =>
      conv => whnf
      refine ih (i + 1) _ (by omega) (by omega) ⟨rfl, rfl, ?_, trivial⟩ rfl (fun z' a c => hr z' a (fun g => c (fun x hx => g x (by rw [eD]; exact List.mem_cons_of_mem _ hx)))) (fun z' e => hq z' (fun x hx => by rw [eD] at hx; rcases List.mem_cons.1 hx with rfl | hx; exact ho; exact e x hx))
      conv => lhs; whnf
      exact vi e1
noncomputable def listedZ (l : List T) : Int := if 65536 < l.length then 2 else if l.all okB = true then 0 else 3
theorem rlisted (hn : Non ext) (l : List T) (hl : l.length ≤ 9223372036854775807) (hw : ∀ a ∈ l, WfV a) : (cfg ext).Ev 60 [.sl false (encL l) l.length] (.int .i64 (listedZ l)) := by
  have key : ∃ r, (cfg ext).Ev 60 [.sl false (encL l) l.length] r ∧ r = .int .i64 (listedZ l) := by
    refine Ev.ofF (hn 60 (by decide) (by decide)) Tryd.func60 rfl rfl ?_
    conv => whnf
    by_cases h : 65536 < l.length
    · have g : decide ((l.length : Int) > 65536) = true := decide_eq_true (by omega)
      repeat (first
        | (refine sel_yes ?_ ?_; (first | assumption | (simp only [beq_iff_eq, bne_iff_ne, beq_eq_false_iff_ne, bne_eq_false_iff_eq, decide_eq_true_eq, decide_eq_false_iff_not, Bool.not_eq_true', Bool.not_eq_false', ne_eq, beq_true, beq_false, bne_self_eq_false, not_true_eq_false, not_false_eq_true, gt_iff_lt, ge_iff_le, Int.not_lt, Int.not_le, Bool.true_eq_false, Bool.false_eq_true] <;> omega)); conv => whnf)
        | (refine sel_no ?_ ?_; (first | assumption | (simp only [beq_iff_eq, bne_iff_ne, beq_eq_false_iff_ne, bne_eq_false_iff_eq, decide_eq_true_eq, decide_eq_false_iff_not, Bool.not_eq_true', Bool.not_eq_false', ne_eq, beq_true, beq_false, bne_self_eq_false, not_true_eq_false, not_false_eq_true, gt_iff_lt, ge_iff_le, Int.not_lt, Int.not_le, Bool.true_eq_false, Bool.false_eq_true] <;> omega)); conv => whnf)
        | (refine ⟨le_rfl' ?_, ?_⟩; rfl; conv => whnf)
        | (refine ⟨⟨?_, ?_⟩, ?_⟩; omega; omega; conv => whnf)
        | (refine ⟨⟨?_, ?_, ?_⟩, ?_⟩; rfl; omega; omega; conv => whnf)
        | (refine ⟨rfl, ?_, ?_⟩; decide; conv => whnf))
      try exact rfl
      exact Fin.tmp (i := 2) rfl rfl (vi (by unfold listedZ; rw [if_pos h]))
    · have g : decide ((l.length : Int) > 65536) = false := decide_eq_false (by omega)
      repeat (first
        | (refine sel_yes ?_ ?_; (first | assumption | (simp only [beq_iff_eq, bne_iff_ne, beq_eq_false_iff_ne, bne_eq_false_iff_eq, decide_eq_true_eq, decide_eq_false_iff_not, Bool.not_eq_true', Bool.not_eq_false', ne_eq, beq_true, beq_false, bne_self_eq_false, not_true_eq_false, not_false_eq_true, gt_iff_lt, ge_iff_le, Int.not_lt, Int.not_le, Bool.true_eq_false, Bool.false_eq_true] <;> omega)); conv => whnf)
        | (refine sel_no ?_ ?_; (first | assumption | (simp only [beq_iff_eq, bne_iff_ne, beq_eq_false_iff_ne, bne_eq_false_iff_eq, decide_eq_true_eq, decide_eq_false_iff_not, Bool.not_eq_true', Bool.not_eq_false', ne_eq, beq_true, beq_false, bne_self_eq_false, not_true_eq_false, not_false_eq_true, gt_iff_lt, ge_iff_le, Int.not_lt, Int.not_le, Bool.true_eq_false, Bool.false_eq_true] <;> omega)); conv => whnf)
        | (refine ⟨le_rfl' ?_, ?_⟩; rfl; conv => whnf)
        | (refine ⟨⟨?_, ?_⟩, ?_⟩; omega; omega; conv => whnf)
        | (refine ⟨⟨?_, ?_, ?_⟩, ?_⟩; rfl; omega; omega; conv => whnf)
        | (refine ⟨rfl, ?_, ?_⟩; decide; conv => whnf))
      try exact rfl
      refine llisted hn l (by omega) hw _ l.length 0 _ rfl (by omega) ⟨rfl, rfl, rfl, trivial⟩ rfl (fun z a b => ?_) (fun z b => ?_)
      · exact Fin.tmp (i := 2) rfl a (vi (by unfold listedZ; rw [if_neg h, if_neg (show ¬ (l.all okB = true) from fun h => b (List.all_eq_true.1 h))]))
      · conv => whnf
        exact Fin.tmp (i := 2) rfl rfl (vi (by unfold listedZ; rw [if_neg h, if_pos (show l.all okB = true from List.all_eq_true.2 b)]))
  obtain ⟨r, h, rfl⟩ := key
  exact h
end
end Go.Proofs.YtjfjagnnefmepaaDoor.AB
end

section
set_option linter.unusedVariables false
set_option linter.unusedSimpArgs false
open Go Go.Ab Go.Proofs Go.Vl
namespace Go.Proofs.YtjfjagnnefmepaaDoor.AB
set_option maxRecDepth 100000
set_option maxHeartbeats 8000000
set_option linter.unusedSimpArgs false
set_option linter.unusedVariables false
theorem panAt {C : Cfg} {L : World → Prop} {o : Oper} {s : St} {X : Value → Prop} {f : Operand} {args : Array Operand} {at_ : Array TypeId} {kf : Nat} {cap av : List V} {x : Value} (h7 : PanC C.P L kf av x) (h5 : Goes C.P kf) (h6 : X x) (h1 : o.op = .call ⟨.value f, args, at_⟩) (h2 : o.guard = none) (h3 : val s.t f = .fn kf cap) (h4 : fzPL (fzP 6) (args.toList.map (val s.t) ++ cap) = some av) : PanAt C L o s X :=
  ⟨f, args, at_, kf, cap, av, x, h1, h2, h3, h4, h5, h6, h7⟩
theorem put_goes : Goes Tryd.prog 29 := ⟨_, Tryd.func29, rfl, by decide⟩
section
variable {ext : Exts}
/-- paths.put: a step that says no place of a list -/
theorem tpan1 {L : World → Prop} (hS : Sound (cfg ext) L) (hn : Non ext) (v s x old : T) (pb : Bool) (p : List T) (h4 : v.f0 = 4) (hi : idxF v.f3.length s = none) (he : ¬ (s.f0 = 2 ∧ s.f1 = (v.f3.length : Int))) (hP : (cfg ext).Ev 54 [A v, A s] (.tup [A old, .bool pb])) :
    PanC Tryd.prog L 29 [A v, .sl false (encL (s :: p)) (s :: p).length, A x] refusal := by
  have g1 : (v.f0 == 4) = true := by simp [h4]
  have hI := tindex (ext := ext) hn v s
  rw [hi] at hI
  refine PanC.of_SW (C := cfg ext) (fn := Tryd.f29) hS Tryd.func29 rfl ?_
  refine SW.seq (SW.of_x hS (by kernel_rfl) ?_)
  conv => whnf
  refine SW.seq (SW.of_x hS (by kernel_rfl) ?_)
  conv => whnf
  refine SW.seq (SW.of_x hS (by kernel_rfl) ?_)
  conv => whnf
  refine ⟨bnd0, ?_⟩
  conv => whnf
  refine ld0 ?_
  conv => whnf
  refine ⟨_, slTail tsV szV, ?_⟩
  conv => whnf
  refine SW.seq (SW.of_x hS (by kernel_rfl) ?_)
  conv => whnf
  refine ⟨_, hP, ?_⟩
  conv => whnf
  refine SW.seq (SW.seq (SW.of_x hS (by kernel_rfl) ?_))
  conv => whnf
  refine SW.cond (t := (v.f0 == 4)) rfl (fun _ => ?_) (fun h => by rw [g1] at h; cases h)
  refine SW.seq (SW.of_x hS (by kernel_rfl) ?_)
  conv => whnf
  refine ⟨_, hI, ?_⟩
  conv => whnf
  refine SW.seq (SW.seq (SW.of_x hS (by kernel_rfl) ?_))
  conv => whnf
  by_cases h2 : s.f0 = 2
  · have g2 : (s.f0 != 2) = false := by simp [h2]
    have g3 : (s.f1 != (v.f3.length : Int)) = true := by
      have : s.f1 ≠ (v.f3.length : Int) := fun h => he ⟨h2, h⟩
      simp [this]
    repeat (first
      | (refine sel_yes ?_ ?_; (first | assumption | (simp only [beq_iff_eq, bne_iff_ne, beq_eq_false_iff_ne, bne_eq_false_iff_eq, decide_eq_true_eq, decide_eq_false_iff_not, Bool.not_eq_true', Bool.not_eq_false', ne_eq, beq_true, beq_false, bne_self_eq_false, not_true_eq_false, not_false_eq_true, gt_iff_lt, ge_iff_le, Int.not_lt, Int.not_le, Bool.true_eq_false, Bool.false_eq_true] <;> omega)); conv => whnf)
      | (refine sel_no ?_ ?_; (first | assumption | (simp only [beq_iff_eq, bne_iff_ne, beq_eq_false_iff_ne, bne_eq_false_iff_eq, decide_eq_true_eq, decide_eq_false_iff_not, Bool.not_eq_true', Bool.not_eq_false', ne_eq, beq_true, beq_false, bne_self_eq_false, not_true_eq_false, not_false_eq_true, gt_iff_lt, ge_iff_le, Int.not_lt, Int.not_le, Bool.true_eq_false, Bool.false_eq_true] <;> omega)); conv => whnf)
      | (refine ⟨le_rfl' ?_, ?_⟩; rfl; conv => whnf)
      | (refine ⟨⟨?_, ?_⟩, ?_⟩; omega; omega; conv => whnf)
      | (refine ⟨⟨?_, ?_, ?_⟩, ?_⟩; rfl; omega; omega; conv => whnf)
      | (refine ⟨rfl, ?_, ?_⟩; decide; conv => whnf))
    try exact rfl
    refine SW.cond (t := (s.f1 != (v.f3.length : Int))) rfl (fun _ => ?_) (fun h => by rw [g3] at h; cases h)
    refine SW.region hS 2 rfl (by kernel_rfl) ?_
    conv => whnf
    exact OpW.raise rfl rfl rfl rfl
  · have g2 : (s.f0 != 2) = true := by simp [h2]
    repeat (first
      | (refine sel_yes ?_ ?_; (first | assumption | (simp only [beq_iff_eq, bne_iff_ne, beq_eq_false_iff_ne, bne_eq_false_iff_eq, decide_eq_true_eq, decide_eq_false_iff_not, Bool.not_eq_true', Bool.not_eq_false', ne_eq, beq_true, beq_false, bne_self_eq_false, not_true_eq_false, not_false_eq_true, gt_iff_lt, ge_iff_le, Int.not_lt, Int.not_le, Bool.true_eq_false, Bool.false_eq_true] <;> omega)); conv => whnf)
      | (refine sel_no ?_ ?_; (first | assumption | (simp only [beq_iff_eq, bne_iff_ne, beq_eq_false_iff_ne, bne_eq_false_iff_eq, decide_eq_true_eq, decide_eq_false_iff_not, Bool.not_eq_true', Bool.not_eq_false', ne_eq, beq_true, beq_false, bne_self_eq_false, not_true_eq_false, not_false_eq_true, gt_iff_lt, ge_iff_le, Int.not_lt, Int.not_le, Bool.true_eq_false, Bool.false_eq_true] <;> omega)); conv => whnf)
      | (refine ⟨le_rfl' ?_, ?_⟩; rfl; conv => whnf)
      | (refine ⟨⟨?_, ?_⟩, ?_⟩; omega; omega; conv => whnf)
      | (refine ⟨⟨?_, ?_, ?_⟩, ?_⟩; rfl; omega; omega; conv => whnf)
      | (refine ⟨rfl, ?_, ?_⟩; decide; conv => whnf))
    try exact rfl
    refine SW.cond (t := true) rfl (fun _ => ?_) (fun h => by cases h)
    refine SW.region hS 2 rfl (by kernel_rfl) ?_
    conv => whnf
    exact OpW.raise rfl rfl rfl rfl
/-- paths.put: what stands in a list panics -/
theorem tpan2 {L : World → Prop} (hS : Sound (cfg ext) L) (hn : Non ext) (h26 : E26 ext) (v s x : T) (p : List T) (hv : Good v) (h4 : v.f0 = 4) {i : Nat} (hi : idxF v.f3.length s = some i)
    (hE : PanC Tryd.prog L 29 [A ((partF v s).getD nilT), .sl false (encL p) p.length, A x] refusal) :
    PanC Tryd.prog L 29 [A v, .sl false (encL (s :: p)) (s :: p).length, A x] refusal := by
  have g1 : (v.f0 == 4) = true := by simp [h4]
  have hb : i < v.f3.length := by
    unfold idxF at hi
    split at hi <;> cases hi
    omega
  have hx : partF v s = some v.f3[i] := by
    unfold partF; rw [if_neg (by omega), if_pos h4, hi]; exact List.getElem?_eq_getElem hb
  have hP := tpart hn h26 v s hv.row
  have hI := tindex (ext := ext) hn v s
  rw [hx] at hP hE
  rw [hi] at hI
  have hlen := (OK.row (okB_iff.1 hv.ok)).1
  refine PanC.of_SW (C := cfg ext) (fn := Tryd.f29) hS Tryd.func29 rfl ?_
  refine SW.seq (SW.of_x hS (by kernel_rfl) ?_)
  conv => whnf
  refine SW.seq (SW.of_x hS (by kernel_rfl) ?_)
  conv => whnf
  refine SW.seq (SW.of_x hS (by kernel_rfl) ?_)
  conv => whnf
  refine ⟨bnd0, ?_⟩
  conv => whnf
  refine ld0 ?_
  conv => whnf
  refine ⟨_, slTail tsV szV, ?_⟩
  conv => whnf
  refine SW.seq (SW.of_x hS (by kernel_rfl) ?_)
  conv => whnf
  refine ⟨_, hP, ?_⟩
  conv => whnf
  refine SW.seq (SW.seq (SW.of_x hS (by kernel_rfl) ?_))
  conv => whnf
  refine SW.cond (t := (v.f0 == 4)) rfl (fun _ => ?_) (fun h => by rw [g1] at h; cases h)
  refine SW.seq (SW.of_x hS (by kernel_rfl) ?_)
  conv => whnf
  refine ⟨_, hI, ?_⟩
  conv => whnf
  refine SW.seq (SW.of_x hS (by kernel_rfl) ?_)
  conv => whnf
  repeat (first
    | (refine sel_yes ?_ ?_; (first | assumption | (simp only [beq_iff_eq, bne_iff_ne, beq_eq_false_iff_ne, bne_eq_false_iff_eq, decide_eq_true_eq, decide_eq_false_iff_not, Bool.not_eq_true', Bool.not_eq_false', ne_eq, beq_true, beq_false, bne_self_eq_false, not_true_eq_false, not_false_eq_true, gt_iff_lt, ge_iff_le, Int.not_lt, Int.not_le, Bool.true_eq_false, Bool.false_eq_true] <;> omega)); conv => whnf)
    | (refine sel_no ?_ ?_; (first | assumption | (simp only [beq_iff_eq, bne_iff_ne, beq_eq_false_iff_ne, bne_eq_false_iff_eq, decide_eq_true_eq, decide_eq_false_iff_not, Bool.not_eq_true', Bool.not_eq_false', ne_eq, beq_true, beq_false, bne_self_eq_false, not_true_eq_false, not_false_eq_true, gt_iff_lt, ge_iff_le, Int.not_lt, Int.not_le, Bool.true_eq_false, Bool.false_eq_true] <;> omega)); conv => whnf)
    | (refine ⟨le_rfl' ?_, ?_⟩; rfl; conv => whnf)
    | (refine ⟨⟨?_, ?_⟩, ?_⟩; omega; omega; conv => whnf)
    | (refine ⟨⟨?_, ?_, ?_⟩, ?_⟩; rfl; omega; omega; conv => whnf)
    | (refine ⟨rfl, ?_, ?_⟩; decide; conv => whnf))
  try exact rfl
  refine SW.seq (SW.of_x hS (by kernel_rfl) ?_)
  conv => whnf
  refine clone_use (l := v.f3) (by omega) (fun h => by rw [h] at hb; simp at hb) (fun _ a' ha => ?_)
  conv => whnf
  refine SW.seq (SW.of_x hS (by kernel_rfl) ?_)
  conv => whnf
  refine SW.seq (SW.regionP (l := [0, 1, 2, 3, 4, 5]) hS 6 rfl (by kernel_rfl) (by kernel_rfl) (by kernel_rfl) ?_)
  conv => whnf
  refine ⟨rfl, panAt (cap := []) hE put_goes rfl rfl rfl ?_ ?_⟩
  · rfl
  · rfl
/-- paths.put: what comes behind a list panics -/
theorem tpan3 {L : World → Prop} (hS : Sound (cfg ext) L) (hn : Non ext) (h26 : E26 ext) (v s x : T) (p : List T) (hv : Good v) (h4 : v.f0 = 4) (h2 : s.f0 = 2) (h1 : s.f1 = (v.f3.length : Int))
    (hE : PanC Tryd.prog L 29 [A ((partF v s).getD nilT), .sl false (encL p) p.length, A x] refusal) :
    PanC Tryd.prog L 29 [A v, .sl false (encL (s :: p)) (s :: p).length, A x] refusal := by
  have g1 : (v.f0 == 4) = true := by simp [h4]
  have hi : idxF v.f3.length s = none := if_neg (by omega)
  have hx : partF v s = none := by
    unfold partF; rw [if_neg (by omega), if_pos h4, hi]
  have g2 : (s.f0 != 2) = false := by simp [h2]
  have g3 : (s.f1 != (v.f3.length : Int)) = false := by simp [h1]
  have hP := tpart hn h26 v s hv.row
  have hI := tindex (ext := ext) hn v s
  rw [hx] at hP hE
  rw [hi] at hI
  have hlen := (OK.row (okB_iff.1 hv.ok)).1
  refine PanC.of_SW (C := cfg ext) (fn := Tryd.f29) hS Tryd.func29 rfl ?_
  refine SW.seq (SW.of_x hS (by kernel_rfl) ?_)
  conv => whnf
  refine SW.seq (SW.of_x hS (by kernel_rfl) ?_)
  conv => whnf
  refine SW.seq (SW.of_x hS (by kernel_rfl) ?_)
  conv => whnf
  refine ⟨bnd0, ?_⟩
  conv => whnf
  refine ld0 ?_
  conv => whnf
  refine ⟨_, slTail tsV szV, ?_⟩
  conv => whnf
  refine SW.seq (SW.of_x hS (by kernel_rfl) ?_)
  conv => whnf
  refine ⟨_, hP, ?_⟩
  conv => whnf
  refine SW.seq (SW.seq (SW.of_x hS (by kernel_rfl) ?_))
  conv => whnf
  refine SW.cond (t := (v.f0 == 4)) rfl (fun _ => ?_) (fun h => by rw [g1] at h; cases h)
  refine SW.seq (SW.of_x hS (by kernel_rfl) ?_)
  conv => whnf
  refine ⟨_, hI, ?_⟩
  conv => whnf
  refine SW.seq (SW.of_x hS (by kernel_rfl) ?_)
  conv => whnf
  repeat (first
    | (refine sel_yes ?_ ?_; (first | assumption | (simp only [beq_iff_eq, bne_iff_ne, beq_eq_false_iff_ne, bne_eq_false_iff_eq, decide_eq_true_eq, decide_eq_false_iff_not, Bool.not_eq_true', Bool.not_eq_false', ne_eq, beq_true, beq_false, bne_self_eq_false, not_true_eq_false, not_false_eq_true, gt_iff_lt, ge_iff_le, Int.not_lt, Int.not_le, Bool.true_eq_false, Bool.false_eq_true] <;> omega)); conv => whnf)
    | (refine sel_no ?_ ?_; (first | assumption | (simp only [beq_iff_eq, bne_iff_ne, beq_eq_false_iff_ne, bne_eq_false_iff_eq, decide_eq_true_eq, decide_eq_false_iff_not, Bool.not_eq_true', Bool.not_eq_false', ne_eq, beq_true, beq_false, bne_self_eq_false, not_true_eq_false, not_false_eq_true, gt_iff_lt, ge_iff_le, Int.not_lt, Int.not_le, Bool.true_eq_false, Bool.false_eq_true] <;> omega)); conv => whnf)
    | (refine ⟨le_rfl' ?_, ?_⟩; rfl; conv => whnf)
    | (refine ⟨⟨?_, ?_⟩, ?_⟩; omega; omega; conv => whnf)
    | (refine ⟨⟨?_, ?_, ?_⟩, ?_⟩; rfl; omega; omega; conv => whnf)
    | (refine ⟨rfl, ?_, ?_⟩; decide; conv => whnf))
  try exact rfl
  refine SW.seq (SW.of_x hS (by kernel_rfl) ?_)
  conv => whnf
  refine clone_use (l := v.f3) (by omega) (fun hnil => ?_) (fun hpos a' ha => ?_)
  · have hl0 : v.f3.length = 0 := by rw [hnil]; rfl
    conv => whnf
    refine SW.seq (SW.of_x hS (by kernel_rfl) ?_)
    conv => whnf
    refine app0 ts22 tz24 tl24 sz24 tb24 rfl rfl (fun a2 ha2 => ?_)
    conv => whnf
    refine SW.seq (SW.regionP (l := [0, 1, 2, 3, 4, 5]) hS 6 rfl (by kernel_rfl) (by kernel_rfl) (by kernel_rfl) ?_)
    conv => whnf
    refine ⟨rfl, panAt (cap := []) hE put_goes rfl rfl rfl ?_ ?_⟩
    · rfl
    · rfl
  · conv => whnf
    refine SW.seq (SW.of_x hS (by kernel_rfl) ?_)
    conv => whnf
    refine app1 ts22 tz24 tl24 sz24 tb24 ha rfl (encL_len _) rfl (by omega) (fun a2 ha2 => ?_)
    conv => whnf
    refine SW.seq (SW.regionP (l := [0, 1, 2, 3, 4, 5]) hS 6 rfl (by kernel_rfl) (by kernel_rfl) (by kernel_rfl) ?_)
    conv => whnf
    refine ⟨rfl, panAt (cap := []) hE put_goes rfl rfl rfl ?_ ?_⟩
    · rfl
    · rfl
/-- paths.put: what comes under a key panics -/
theorem tpan4 {L : World → Prop} (hS : Sound (cfg ext) L) (hn : Non ext) (v s x old : T) (pb : Bool) (p : List T) (hv : Good v) (h6 : v.f0 = 0 ∨ v.f0 = 6) (hP : (cfg ext).Ev 54 [A v, A s] (.tup [A old, .bool pb]))
    (hE : PanC Tryd.prog L 29 [A old, .sl false (encL p) p.length, A x] refusal) :
    PanC Tryd.prog L 29 [A v, .sl false (encL (s :: p)) (s :: p).length, A x] refusal := by
  have g1 : (v.f0 == 4) = false := by rcases h6 with h | h <;> simp [h]
  have hlen := (OK.row (okB_iff.1 hv.ok)).1
  refine PanC.of_SW (C := cfg ext) (fn := Tryd.f29) hS Tryd.func29 rfl ?_
  refine SW.seq (SW.of_x hS (by kernel_rfl) ?_)
  conv => whnf
  refine SW.seq (SW.of_x hS (by kernel_rfl) ?_)
  conv => whnf
  refine SW.seq (SW.of_x hS (by kernel_rfl) ?_)
  conv => whnf
  refine ⟨bnd0, ?_⟩
  conv => whnf
  refine ld0 ?_
  conv => whnf
  refine ⟨_, slTail tsV szV, ?_⟩
  conv => whnf
  refine SW.seq (SW.of_x hS (by kernel_rfl) ?_)
  conv => whnf
  refine ⟨_, hP, ?_⟩
  conv => whnf
  refine SW.seq (SW.of_x hS (by kernel_rfl) ?_)
  conv => whnf
  refine sel_no (by (first | assumption | (simp only [beq_iff_eq, bne_iff_ne, beq_eq_false_iff_ne, bne_eq_false_iff_eq, decide_eq_true_eq, decide_eq_false_iff_not, Bool.not_eq_true', Bool.not_eq_false', ne_eq, beq_true, beq_false, bne_self_eq_false, not_true_eq_false, not_false_eq_true, gt_iff_lt, ge_iff_le, Int.not_lt, Int.not_le, Bool.true_eq_false, Bool.false_eq_true] <;> omega))) ?_
  conv => whnf
  refine SW.seq (SW.seq (SW.of_x hS (by kernel_rfl) ?_))
  conv => whnf
  refine SW.block ?_
  refine SW.seq (SW.of_x hS (by kernel_rfl) ?_)
  conv => whnf
  by_cases h0 : v.f0 = 0
  · have g2 : (v.f0 == 0) = true := by simp [h0]
    repeat (first
      | (refine sel_yes ?_ ?_; (first | assumption | (simp only [beq_iff_eq, bne_iff_ne, beq_eq_false_iff_ne, bne_eq_false_iff_eq, decide_eq_true_eq, decide_eq_false_iff_not, Bool.not_eq_true', Bool.not_eq_false', ne_eq, beq_true, beq_false, bne_self_eq_false, not_true_eq_false, not_false_eq_true, gt_iff_lt, ge_iff_le, Int.not_lt, Int.not_le, Bool.true_eq_false, Bool.false_eq_true] <;> omega)); conv => whnf)
      | (refine sel_no ?_ ?_; (first | assumption | (simp only [beq_iff_eq, bne_iff_ne, beq_eq_false_iff_ne, bne_eq_false_iff_eq, decide_eq_true_eq, decide_eq_false_iff_not, Bool.not_eq_true', Bool.not_eq_false', ne_eq, beq_true, beq_false, bne_self_eq_false, not_true_eq_false, not_false_eq_true, gt_iff_lt, ge_iff_le, Int.not_lt, Int.not_le, Bool.true_eq_false, Bool.false_eq_true] <;> omega)); conv => whnf)
      | (refine ⟨le_rfl' ?_, ?_⟩; rfl; conv => whnf)
      | (refine ⟨⟨?_, ?_⟩, ?_⟩; omega; omega; conv => whnf)
      | (refine ⟨⟨?_, ?_, ?_⟩, ?_⟩; rfl; omega; omega; conv => whnf)
      | (refine ⟨rfl, ?_, ?_⟩; decide; conv => whnf))
    try exact rfl
    refine SW.seq (SW.seq (SW.of_x hS (by kernel_rfl) ?_))
    conv => whnf
    refine clone_use (l := v.f3) (by omega) (fun hnil => ?_) (fun hpos a' ha => ?_)
    · conv => whnf
      refine SW.seq (SW.region hS 3 rfl (by kernel_rfl) ?_)
      conv => whnf
      refine OpW.pan (panAt (cap := []) hE put_goes rfl rfl rfl ?_ ?_)
      · rfl
      · rfl
    · conv => whnf
      refine SW.seq (SW.region hS 3 rfl (by kernel_rfl) ?_)
      conv => whnf
      refine OpW.pan (panAt (cap := []) hE put_goes rfl rfl rfl ?_ ?_)
      · rfl
      · rfl
  · have h6' : v.f0 = 6 := by omega
    have g2 : (v.f0 == 0) = false := by simp [h6']
    have g3 : (v.f0 == 6) = true := by simp [h6']
    repeat (first
      | (refine sel_yes ?_ ?_; (first | assumption | (simp only [beq_iff_eq, bne_iff_ne, beq_eq_false_iff_ne, bne_eq_false_iff_eq, decide_eq_true_eq, decide_eq_false_iff_not, Bool.not_eq_true', Bool.not_eq_false', ne_eq, beq_true, beq_false, bne_self_eq_false, not_true_eq_false, not_false_eq_true, gt_iff_lt, ge_iff_le, Int.not_lt, Int.not_le, Bool.true_eq_false, Bool.false_eq_true] <;> omega)); conv => whnf)
      | (refine sel_no ?_ ?_; (first | assumption | (simp only [beq_iff_eq, bne_iff_ne, beq_eq_false_iff_ne, bne_eq_false_iff_eq, decide_eq_true_eq, decide_eq_false_iff_not, Bool.not_eq_true', Bool.not_eq_false', ne_eq, beq_true, beq_false, bne_self_eq_false, not_true_eq_false, not_false_eq_true, gt_iff_lt, ge_iff_le, Int.not_lt, Int.not_le, Bool.true_eq_false, Bool.false_eq_true] <;> omega)); conv => whnf)
      | (refine ⟨le_rfl' ?_, ?_⟩; rfl; conv => whnf)
      | (refine ⟨⟨?_, ?_⟩, ?_⟩; omega; omega; conv => whnf)
      | (refine ⟨⟨?_, ?_, ?_⟩, ?_⟩; rfl; omega; omega; conv => whnf)
      | (refine ⟨rfl, ?_, ?_⟩; decide; conv => whnf))
    try exact rfl
    refine SW.seq (SW.seq (SW.of_x hS (by kernel_rfl) ?_))
    conv => whnf
    refine clone_use (l := v.f3) (by omega) (fun hnil => ?_) (fun hpos a' ha => ?_)
    · conv => whnf
      refine SW.seq (SW.region hS 3 rfl (by kernel_rfl) ?_)
      conv => whnf
      refine OpW.pan (panAt (cap := []) hE put_goes rfl rfl rfl ?_ ?_)
      · rfl
      · rfl
    · conv => whnf
      refine SW.seq (SW.region hS 3 rfl (by kernel_rfl) ?_)
      conv => whnf
      refine OpW.pan (panAt (cap := []) hE put_goes rfl rfl rfl ?_ ?_)
      · rfl
      · rfl
end
end Go.Proofs.YtjfjagnnefmepaaDoor.AB
end

section
set_option linter.unusedVariables false
set_option linter.unusedSimpArgs false
open Go Go.Ab Go.Proofs Go.Vl Go.RowKit
namespace Go.Proofs.YtjfjagnnefmepaaDoor.AB
set_option maxRecDepth 100000
set_option maxHeartbeats 8000000
set_option linter.unusedSimpArgs false
set_option linter.unusedVariables false
/-- an interface value held against nil -/
theorem OpW.neqIf {C : Cfg} {L : World → Prop} {X : Value → Prop} {ops : Array Oper} {i : Nat} {n0 m0 : Nat} {s : St} {o : Oper} {x : Operand} {ty yt : Nat} {r : Bool} (ho : o.op = .binOp .neq ty x (.const .nilIface) yt) (hg : o.guard = none) (ht : C.P.underlying ty = some (.interface #[])) (hx : (r = true ∧ ∃ t c, val s.t x = .ifc t [c]) ∨ (r = false ∧ val s.t x = .nilif)) :
    OpW C L ops i o n0 m0 s (fun s' => s' = s.put o.dst (.bool r)) X := by
  refine OpW.same hg fun base ow G a w hs ht' => ?_
  have hv := eval_ok ht' x
  obtain ⟨dst, op, ty', pos, after, guard⟩ := o
  simp only at ho
  subst ho
  rcases hx with ⟨rfl, t, c, hx⟩ | ⟨rfl, hx⟩
  · rw [hx] at hv
    obtain ⟨y, e1, _⟩ := hv
    refine ⟨.bool true, ?_, rfl⟩
    have hg1 : (eqGuard .neq ty x (.const .nilIface) (.iface t y) .nilIface).run C.P w = .ok () w := run_eqGuard .neq ty x (.const .nilIface) _ _ w (by intro cs hc; cases hc) (by intro hc; cases hc)
    have he : (Op.equal ty (.iface t y) .nilIface).run C.P w = .ok false w := by
      obtain ⟨d, hd⟩ := equal_at ty (.iface t y) .nilIface
      rw [hd]
      unfold Op.equalIn
      simp [run_underlying ht]
    have e2 : a.eval (.const .nilIface) = .nilIface := rfl
    simp [execOp, e1, e2, hg1, Go.binOp, he]
  · rw [hx] at hv
    simp only [VR] at hv
    refine ⟨.bool false, ?_, rfl⟩
    have hg1 : (eqGuard .neq ty x (.const .nilIface) .nilIface .nilIface).run C.P w = .ok () w := by
      unfold eqGuard
      simp
    have he : (Op.equal ty .nilIface .nilIface).run C.P w = .ok true w := by
      obtain ⟨d, hd⟩ := equal_at ty .nilIface .nilIface
      rw [hd]
      unfold Op.equalIn
      simp [run_underlying ht]
    have e2 : a.eval (.const .nilIface) = .nilIface := rfl
    simp [execOp, hv, e2, hg1, Go.binOp, he]
def zC1 (e : Int) : List V := [.int .i64 e]
section
variable {ext : Exts}
/-- the deferred function, behind recover: it tells the refusal's number -/
theorem rec_pan {L : World → Prop} (hS : Sound (cfg ext) L) {S : St} (hn7 : S.hp.n = 9) (ht : Has S.t [(0, .ref 0 0), (1, .ref 1 0), (2, .ifc 75 [.agg [.int .i64 260]])]) (hh : Has S.hp.h [(0, some (.cells zC false)), (1, some (.cells [.int .i64 0] false))]) :
    SW (cfg ext) L 19 (atP (bodyOf Tryd.f53) [true]) S (fun ex s' => ex = .normal ∧ Has s'.hp.h [(0, some (.cells zC false)), (1, some (.cells [.int .i64 260] false))]) (fun _ => False) := by
  obtain ⟨t, h, n, a, m⟩ := S
  simp only at hn7 ht hh
  subst hn7
  rw [St.knows (s := ⟨t, ⟨h, 9, a, m⟩⟩) _ 9 ht rfl _ hh]
  refine SW.seq (SW.region hS 1 rfl (by kernel_rfl) ?_)
  conv => whnf
  refine OpW.mono (OpW.neqIf (r := true) rfl rfl (by kernel_rfl) (.inl ⟨rfl, _, _, rfl⟩)) ?_
  rintro _ rfl
  conv => whnf
  refine SW.of_x hS (by kernel_rfl) ?_
  conv => whnf
  exact ⟨rfl, rfl, rfl, trivial⟩
/-- the deferred function, behind recover, where there was no panic -/
theorem rec_nil {L : World → Prop} (hS : Sound (cfg ext) L) {S : St} (ht : Has S.t [(2, .nilif)]) :
    SW (cfg ext) L 19 (atP (bodyOf Tryd.f53) [true]) S (fun ex s' => ex = .normal ∧ s'.hp = ⟨S.hp.h, S.hp.n + 2, S.hp.a, S.hp.m + 2⟩) (fun _ => False) := by
  obtain ⟨t, h, n, a, m⟩ := S
  simp only at ht
  rw [St.knowsT0 (s := ⟨t, ⟨h, n, a, m⟩⟩) _ ht]
  refine SW.seq (SW.region hS 1 rfl (by kernel_rfl) ?_)
  conv => whnf
  refine OpW.mono (OpW.neqIf (r := false) rfl rfl (by kernel_rfl) (.inr ⟨rfl, rfl⟩)) ?_
  rintro _ rfl
  conv => whnf
  refine SW.of_x hS (by kernel_rfl) ?_
  conv => whnf
  exact ⟨rfl, rfl⟩
theorem caught1_body : Tryd.f53.body = some (bodyOf Tryd.f53) := rfl
theorem rec_reg {P : Program} {o0 o1 : Oper} {Q : Exit → Act → List Frame → World → Prop} {a : Act} {c0 : Frame} {cs : List Frame} {w : World} {x : Value} {d0 d1 : Nat} {rest : List PanicEntry} (h0 : o0.op = .call ⟨.builtin .recover, #[], #[]⟩ ∧ o0.dst = some d0 ∧ o0.guard = none) (h1 : o1.op = .assign (.tmp d0) ∧ o1.dst = some d1 ∧ o1.guard = none) (hu : c0.mode = .panicking ({ v := x, recovered := false } :: rest)) (hd : d0 < a.tmps.size)
    (hq : Q .normal ((a.put (some d0) x).put (some d1) x) ({ c0 with mode := .panicking ({ v := x, recovered := true } :: rest) } :: cs) w) : wpOpsS P #[o0, o1] Q (List.range 2) a (c0 :: cs) w := by
  obtain ⟨dst0, op0, ty0, pos0, after0, guard0⟩ := o0
  obtain ⟨dst1, op1, ty1, pos1, after1, guard1⟩ := o1
  simp only at h0 h1
  obtain ⟨rfl, rfl, rfl⟩ := h0
  obtain ⟨rfl, rfl, rfl⟩ := h1
  have e : List.range 2 = [0, 1] := rfl
  rw [e]
  have r0 : recoverD (c0 :: cs) = some (x, { c0 with mode := .panicking ({ v := x, recovered := true } :: rest) } :: cs) := by
    unfold recoverD
    simp only [hu]
  have ev : (a.put (some d0) x).eval (.tmp d0) = x := by simp [Act.put, Act.eval, hd]
  simp [wpOpsS, Region.wanted, execOp, resolve, invoke, builtin, r0, ev, Oper.upon_value]
  exact hq
/-- what a deferred call of caught's closure comes to -/
theorem callsD1 {L : World → Prop} (hS : Sound (cfg ext) L) {base : Nat} {G0 G : Gh} {w0 w : World} {hp0 hp : Hp} (inv : FInv base G0 w0 hp0 G hp w) (hL : ∀ w', Below base w0 w' → L w') {caps : Array Value} (hc : VRs G w [.ref 0 0, .ref 1 0] caps.toList) (hn7 : hp.n = 7) (hh : Has hp.h [(0, some (.cells zC false)), (1, some (.cells [.int .i64 0] false))]) :
    CallsD Tryd.prog 53 caps (.panicking [{ v := refusal, recovered := false }]) w fun e u' w' => e = .returned (.tuple #[]) ∧ u' = .panicking [{ v := refusal, recovered := true }] ∧ ∃ G' hp', FInv base G0 w0 hp0 G' hp' w' ∧ Grow G w G' w' ∧ Has hp'.h [(0, some (.cells zC false)), (1, some (.cells [.int .i64 260] false))] := by
  refine callsD_of_wpS Tryd.func53 caught1_body ?_
  intro c0 cs hu
  refine wpS_seq (wpS_region ?_)
  have hsz : caps.size = 2 := by have := hc.length; simpa using this
  refine rec_reg (d0 := 5) (d1 := 2) ⟨rfl, rfl, rfl⟩ ⟨rfl, rfl, rfl⟩ hu ?_ ?_
  · show 5 < (caps ++ Array.replicate (Tryd.f53.ntmps - caps.size) undef).size
    rw [Array.size_append, Array.size_replicate, hsz]; decide
  show Code.wpS _ (atP (bodyOf Tryd.f53) [true]) _ _ _ _
  have hsz2 : (caps ++ Array.replicate (Tryd.f53.ntmps - caps.size) undef).size = 19 := by
    rw [Array.size_append, Array.size_replicate, hsz]; rfl
  have hV : VR G w (.ifc 75 [.agg [.int .i64 260]]) refusal := ⟨_, rfl, _, _, rfl, ⟨_, rfl, by intro y hy; simp at hy; subst hy; rfl, _, _, rfl, rfl, rfl⟩, rfl⟩
  have h0 : FInv base G w hp G hp w := ⟨inv.sim, Grow.refl _ _, Below.refl _ _, inv.lb, inv.fb, inv.fa, Nat.le_refl _, Nat.le_refl _, fun _ _ => rfl, fun _ _ h => h, inv.fb, fun _ _ h _ => h⟩
  have ht0 : TOK G w (init [.ref 0 0, .ref 1 0]) (caps ++ Array.replicate (Tryd.f53.ntmps - caps.size) undef) := init_ok hc _
  have ht1 := TOK.put (s := ⟨init [.ref 0 0, .ref 1 0], hp⟩) (a := { tmps := caps ++ Array.replicate (Tryd.f53.ntmps - caps.size) undef, defers := [] }) (dst := some 5) ht0 hV (fun d hd => by cases hd; rw [hsz2]; decide)
  have ht2 := TOK.put (dst := some 2) ht1 hV (fun d hd => by cases hd; rw [put_size, hsz2]; decide)
  refine wpS_of_wp (wp_mono ((rec_pan hS (S := ((((⟨init [.ref 0 0, .ref 1 0], hp⟩ : St).put (some 5) (.ifc 75 [.agg [.int .i64 260]])).put (some 2) (.ifc 75 [.agg [.int .i64 260]])).bump 2)) (by show hp.n + 2 = 9; omega) ⟨rfl, rfl, rfl, trivial⟩ hh).out base G w hp 19 _ w G (by decide) (fun w' hw' => hL w' (inv.below.trans hw')) ⟨h0.bump 2, ht2, rfl, ?_⟩) ?_)
  · rw [put_size, put_size, hsz2]
  · intro e a' w' hp1
    rcases hp1 with ⟨ex, s', G', rfl, ⟨rfl, hH⟩, hC⟩ | ⟨v, rfl, hx, _⟩
    · obtain ⟨x, g1, g2⟩ := resOf_ok hC (fn := Tryd.f53) (v := .tup []) rfl
      obtain ⟨arr, rfl, harr⟩ := g2
      simp only [VRs] at harr
      have harr' : arr = #[] := by cases arr; simp_all
      subst harr'
      exact ⟨hC.d, _, rfl, _, g1, rfl, rfl, G', s'.hp, inv.trans hC.inv, hC.inv.grow, hH⟩
    · exact hx.elim
end
end Go.Proofs.YtjfjagnnefmepaaDoor.AB
end

section
set_option linter.unusedVariables false
set_option linter.unusedSimpArgs false
open Go Go.Ab Go.Proofs Go.Vl Go.RowKit
namespace Go.Proofs.YtjfjagnnefmepaaDoor.AB
set_option maxRecDepth 100000
set_option maxHeartbeats 8000000
set_option linter.unusedSimpArgs false
set_option linter.unusedVariables false
theorem rec_reg0 {P : Program} {o0 o1 : Oper} {Q : Exit → Act → List Frame → World → Prop} {a : Act} {c0 : Frame} {cs : List Frame} {w : World} {d0 d1 : Nat} (h0 : o0.op = .call ⟨.builtin .recover, #[], #[]⟩ ∧ o0.dst = some d0 ∧ o0.guard = none) (h1 : o1.op = .assign (.tmp d0) ∧ o1.dst = some d1 ∧ o1.guard = none) (hu : c0.mode = .returning) (hd : d0 < a.tmps.size)
    (hq : Q .normal ((a.put (some d0) .nilIface).put (some d1) .nilIface) (c0 :: cs) w) : wpOpsS P #[o0, o1] Q (List.range 2) a (c0 :: cs) w := by
  obtain ⟨dst0, op0, ty0, pos0, after0, guard0⟩ := o0
  obtain ⟨dst1, op1, ty1, pos1, after1, guard1⟩ := o1
  simp only at h0 h1
  obtain ⟨rfl, rfl, rfl⟩ := h0
  obtain ⟨rfl, rfl, rfl⟩ := h1
  have e : List.range 2 = [0, 1] := rfl
  rw [e]
  have r0 : recoverD (c0 :: cs) = none := by
    unfold recoverD
    simp only [hu]
  have ev : (a.put (some d0) Value.nilIface).eval (.tmp d0) = Value.nilIface := by simp [Act.put, Act.eval, hd]
  simp [wpOpsS, Region.wanted, execOp, resolve, invoke, builtin, r0, ev, Oper.upon_value]
  exact hq
section
variable {ext : Exts}
theorem callsD0 {L : World → Prop} (hS : Sound (cfg ext) L) {base : Nat} {G0 G : Gh} {w0 w : World} {hp0 hp : Hp} (inv : FInv base G0 w0 hp0 G hp w) (hL : ∀ w', Below base w0 w' → L w') {caps : Array Value} (hc : VRs G w [.ref 0 0, .ref 1 0] caps.toList) :
    CallsD Tryd.prog 53 caps .returning w fun e u' w' => e = .returned (.tuple #[]) ∧ u' = .returning ∧ ∃ G' hp', FInv base G0 w0 hp0 G' hp' w' ∧ Grow G w G' w' ∧ hp'.h = hp.h ∧ hp'.a = hp.a := by
  refine callsD_of_wpS Tryd.func53 caught1_body ?_
  intro c0 cs hu
  refine wpS_seq (wpS_region ?_)
  have hsz : caps.size = 2 := by have := hc.length; simpa using this
  refine rec_reg0 (d0 := 5) (d1 := 2) ⟨rfl, rfl, rfl⟩ ⟨rfl, rfl, rfl⟩ hu ?_ ?_
  · show 5 < (caps ++ Array.replicate (Tryd.f53.ntmps - caps.size) undef).size
    rw [Array.size_append, Array.size_replicate, hsz]; decide
  show Code.wpS _ (atP (bodyOf Tryd.f53) [true]) _ _ _ _
  have hsz2 : (caps ++ Array.replicate (Tryd.f53.ntmps - caps.size) undef).size = 19 := by
    rw [Array.size_append, Array.size_replicate, hsz]; rfl
  have hV : VR G w .nilif .nilIface := rfl
  have h0 : FInv base G w hp G hp w := ⟨inv.sim, Grow.refl _ _, Below.refl _ _, inv.lb, inv.fb, inv.fa, Nat.le_refl _, Nat.le_refl _, fun _ _ => rfl, fun _ _ h => h, inv.fb, fun _ _ h _ => h⟩
  have ht0 : TOK G w (init [.ref 0 0, .ref 1 0]) (caps ++ Array.replicate (Tryd.f53.ntmps - caps.size) undef) := init_ok hc _
  have ht1 := TOK.put (s := ⟨init [.ref 0 0, .ref 1 0], hp⟩) (a := { tmps := caps ++ Array.replicate (Tryd.f53.ntmps - caps.size) undef, defers := [] }) (dst := some 5) ht0 hV (fun d hd => by cases hd; rw [hsz2]; decide)
  have ht2 := TOK.put (dst := some 2) ht1 hV (fun d hd => by cases hd; rw [put_size, hsz2]; decide)
  refine wpS_of_wp (wp_mono ((rec_nil hS (S := ((((⟨init [.ref 0 0, .ref 1 0], hp⟩ : St).put (some 5) .nilif).put (some 2) .nilif).bump 2)) ⟨rfl, trivial⟩).out base G w hp 19 _ w G (by decide) (fun w' hw' => hL w' (inv.below.trans hw')) ⟨h0.bump 2, ht2, rfl, ?_⟩) ?_)
  · rw [put_size, put_size, hsz2]
  · intro e a' w' hp1
    rcases hp1 with ⟨ex, s', G', rfl, ⟨rfl, hH⟩, hC⟩ | ⟨v, rfl, hx, _⟩
    · obtain ⟨x, g1, g2⟩ := resOf_ok hC (fn := Tryd.f53) (v := .tup []) rfl
      obtain ⟨arr, rfl, harr⟩ := g2
      simp only [VRs] at harr
      have harr' : arr = #[] := by cases arr; simp_all
      subst harr'
      refine ⟨hC.d, .returning, ?_, _, g1, rfl, rfl, G', s'.hp, inv.trans hC.inv, hC.inv.grow, by rw [hH]; rfl, by rw [hH]; rfl⟩
      rw [← hu]
    · exact hx.elim
theorem caught_body : Tryd.f27.body = some (bodyOf Tryd.f27) := rfl
/-- what a deferred call is: of caught's closure, which holds the two results -/
def dfr (caps : Array Value) : Deferred := { target := .fn (.func 53) caps, args := #[] }
/-- caught, up to the call -/
theorem caught_start {L : World → Prop} (hS : Sound (cfg ext) L) {fc : Nat} {cap : List V} {Q : Exit → Act → World → Prop} {base : Nat} {G0 : Gh} {w0 : World} {hp0 : Hp} {a : Act} {w : World} {G : Gh} (hL : ∀ w', Below base w0 w' → L w') (hC : CInv [] base G0 w0 hp0 13 ⟨init [.fn fc cap], hp0⟩ a w G) (h00 : hp0 = Hp.empty)
    (hq : ∀ (caps : Array Value) (S : St) a' w' G', CInv [dfr caps] base G0 w0 hp0 13 S a' w' G' → VRs G' w' [.ref 0 0, .ref 1 0] caps.toList → Has S.t [(0, .fn fc cap), (2, .ref 0 0), (3, .ref 1 0)] → S.hp.n = 4 → S.hp.m = 4 → Has S.hp.h [(0, some (.cells zC false)), (1, some (.cells [.int .i64 0] false))] →
      (atP (bodyOf Tryd.f27) [true, true]).wp Tryd.prog Q a' w') :
    (bodyOf Tryd.f27).wp Tryd.prog Q a w := by
  subst h00
  have hx : xCode (cfg ext) (atP (bodyOf Tryd.f27) [false]) ⟨init [.fn fc cap], Hp.empty⟩ (fun ex s' => ex = .normal ∧ Has s'.t [(0, .fn fc cap), (2, .ref 0 0), (3, .ref 1 0)] ∧ s'.hp.n = 2 ∧ s'.hp.m = 2 ∧ Has s'.hp.h [(0, some (.cells zC false)), (1, some (.cells [.int .i64 0] false))]) := by
    conv => whnf
    exact ⟨rfl, ⟨rfl, rfl, rfl, trivial⟩, rfl, rfl, rfl, rfl, trivial⟩
  obtain ⟨K, ex, s1, h1, rfl, ht, hn, hm, hh⟩ := xCode_ok _ _ _ hx
  refine wp_seq (wp_mono (code_ok (hS.env K) hS.mixed (N := 13) (M := 13) (by decide) hL K _ _ a w G _ s1 (by kernel_rfl) hC (h1 K (Nat.le_refl _))) ?_)
  rintro e a1 w1 ⟨rfl, G1, C1⟩
  show (atP (bodyOf Tryd.f27) [true]).wp _ _ _ _
  refine wp_seq (wp_region ?_)
  generalize hQ : Exit.then _ _ = Q'
  have hstep : ∀ o : Oper, o.op = .makeFunc (.func 53) #[] #[.tmp 2, .tmp 3] → o.dst = some 4 → o.guard = none → ∀ ops, stepOp Tryd.prog ((cfg ext).env 0) ops false s1.hp.n s1.hp.m 0 o (s1.bump 2) = some ((s1.bump 2).put (some 4) (.fn 53 [s1.t 2, s1.t 3])) := by
    rintro ⟨dst, op, ty, pos, after, guard⟩ h1 h2 h3 ops
    simp only at h1 h2 h3
    subst h1 h2 h3
    rfl
  have R : RInv [] (fun j => j < 2) s1.hp.n s1.hp.m base G0 w0 Hp.empty 13 (s1.bump 2) a1 w1 G1 :=
    ⟨C1.inv.bump 2, C1.t, C1.d, C1.N, C1.inv.n, C1.inv.m, fun j hj => ⟨by simp only [St.bump]; omega, C1.inv.fb _ (by omega)⟩, fun j hj => ⟨by simp only [St.bump]; omega, C1.inv.fa _ (by omega)⟩⟩
  show wpOps Tryd.prog _ Q' [0, 1] a1 w1
  rw [wpOps_cons]
  refine stepOp_ok (hS.env 0) hL R (i := 0) (by decide) rfl (fun d hd => by cases hd; decide) (hstep _ rfl rfl rfl _) (fun a2 w2 G2 R2 => ?_)
  rw [wpOps_cons]
  refine wpOp_at rfl (wanted_none rfl _) ?_
  have hf := R2.t 4
  obtain ⟨caps, e1, e2⟩ : VR G2 w2 (.fn 53 [s1.t 2, s1.t 3]) (a2.tmps.getD 4 undef) := hf
  have e1' : a2.eval (.tmp 4) = .func (.func 53) #[] caps := e1
  unfold Oper.wp
  have hrun : ∀ (o : Oper), o.op = .defer ⟨.value (.tmp 4), #[], #[]⟩ → (execOp a2.eval o).run Tryd.prog w2 = .ok (.defer (dfr caps)) w2 := by
    rintro ⟨dst, op, ty, pos, after, guard⟩ h1
    simp only at h1
    subst h1
    simp [execOp, resolve, Deferred.ofValue, e1', dfr]
  rw [hrun _ rfl, Oper.upon_defer]
  subst hQ
  rw [ht.2.1, ht.2.2.1] at e2
  refine hq caps ((s1.bump 2).put (some 4) (.fn 53 [s1.t 2, s1.t 3])) _ w2 G2 ⟨R2.inv, R2.t, ?_, R2.N⟩ e2 ⟨ht.1, ht.2.1, ht.2.2.1, trivial⟩ (by show s1.hp.n + 2 = 4; omega) (by show s1.hp.m + 2 = 4; omega) hh
  show dfr caps :: a2.defers = [dfr caps]
  rw [R2.d]
end
end Go.Proofs.YtjfjagnnefmepaaDoor.AB
end

section
set_option linter.unusedVariables false
set_option linter.unusedSimpArgs false
open Go Go.Ab Go.Proofs Go.Vl Go.RowKit
namespace Go.Proofs.YtjfjagnnefmepaaDoor.AB
set_option maxRecDepth 100000
set_option maxHeartbeats 8000000
set_option linter.unusedSimpArgs false
set_option linter.unusedVariables false
/-- the end of a call upon data -/
theorem pure_end {P : Program} {D : List Deferred} {S : Nat → Nat → Prop} {w w' : World} {N : Nat} {s : St} {a : Act} {G' : Gh} {fn : Func} {r0 r : V} {hp2 : Hp} (hC : CInv D w.heap.size (stab S) w Hp.empty N s a w' G') (hr : resOf P fn s = some r0) (hz : fz 6 s.hp r0 = some (r, hp2)) :
    ∃ v, (results fn a.tmps).run P w' = .ok v w' ∧ ∃ x S', Ending.returned v = .returned x ∧ Below w.heap.size w w' ∧ (∀ r o, S r o → S' r o) ∧ (∀ r o, S' r o → r < w'.heap.size ∧ (r < w.heap.size → S r o)) ∧ VR (stab S') w' r x := by
  have hC0 : CInv [] w.heap.size (stab S) w Hp.empty N s { tmps := a.tmps, defers := [] } w' G' := ⟨hC.inv, hC.t, rfl, hC.N⟩
  obtain ⟨x, g1, g2⟩ := resOf_ok hC0 hr
  obtain ⟨ow, hs⟩ := hC.inv.sim
  obtain ⟨G2, F, hv2⟩ := fz_ok 6 G' s.hp r0 r hp2 x hz hs g2
  exact ⟨x, g1, x, G2.S, rfl, hC.inv.below, fun q o hq => F.grow.S q o (hC.inv.grow.S q o hq), fun q o hq => ⟨F.sim.S q o hq, fun hlt => hC.inv.s0 q o (F.s0 q o hq hlt) hlt⟩, hv2⟩
theorem goes53 : Goes Tryd.prog 53 := ⟨_, Tryd.func53, rfl, by decide⟩
theorem invoke53 (caps : Array Value) (w : World) : (invoke (.fn (.func 53) caps) #[]).run Tryd.prog w = .ok (.enter 53 caps) w := by
  obtain ⟨fn, h1, h2, h3⟩ := goes53
  have h2' : fn.body ≠ none := by rintro hb; simp [hb] at h2
  simp [invoke, callFunc, h1, h2', h3]
section
variable {ext : Exts}
/-- caught: the closure panics with a refusal -/
theorem caught_pan {L : World → Prop} (hS : Sound (cfg ext) L) {fc : Nat} {cap : List V} (hg : Goes Tryd.prog fc) (hz : fzPL (fzP 6) cap = some cap) (hP : PanC Tryd.prog L fc cap refusal) : PureC Tryd.prog L 27 [.fn fc cap] (.tup [A nilT, .int .i64 260]) := by
  intro S w xs hLw hSz hxs
  refine calls_of_wp_defers Tryd.func27 caught_body ?_
  have hxl : xs.size = 1 := by have := hxs.length; simpa using this
  have hN : (xs ++ Array.replicate (Tryd.f27.ntmps - xs.size) undef).size = 13 := by
    rw [Array.size_append, Array.size_replicate, hxl]; rfl
  have hL : ∀ w', Below w.heap.size w w' → L w' := fun w' hw' => hS.low w w' hLw hw'
  have hC : CInv [] w.heap.size (stab S) w Hp.empty 13 ⟨init [.fn fc cap], Hp.empty⟩ { tmps := xs ++ Array.replicate (Tryd.f27.ntmps - xs.size) undef, defers := [] } w (stab S) :=
    ⟨⟨⟨fun _ => none, hSz, fun b x hb => (by cases hb), fun i A hA => (by cases hA)⟩, Grow.refl _ _, Below.refl _ _, Nat.le_refl _, fun _ _ => rfl, fun _ _ _ => rfl, Nat.le_refl _, Nat.le_refl _, fun _ _ => rfl, fun _ _ h => h, fun _ _ => rfl, fun _ _ h _ => h⟩, init_ok hxs _, rfl, hN⟩
  refine caught_start hS hL hC rfl ?_
  intro caps s1 a1 w1 G1 C1 hv ht hn hm hh
  have C2 : CInv [dfr caps] w.heap.size G1 w1 s1.hp 13 s1 a1 w1 G1 := ⟨⟨C1.inv.sim, Grow.refl _ _, Below.refl _ _, C1.inv.lb, C1.inv.fb, C1.inv.fa, Nat.le_refl _, Nat.le_refl _, fun _ _ => rfl, fun _ _ h => h, C1.inv.fb, fun _ _ h _ => h⟩, C1.t, C1.d, C1.N⟩
  have hL2 : ∀ w', Below w.heap.size w1 w' → L w' := fun w' hw' => hL w' (C1.inv.below.trans hw')
  refine wp_seq (wp_region ?_)
  generalize hQ : Exit.then _ _ = Q'
  have hstep : ∀ o : Oper, o.op = .move (.tmp 0) → o.dst = some 5 → o.guard = none → ∀ ops, stepOp Tryd.prog ((cfg ext).env 0) ops false s1.hp.n s1.hp.m 0 o (s1.bump 3) = some ((s1.bump 3).put (some 5) (s1.t 0)) := by
    rintro ⟨dst, op, ty, pos, after, guard⟩ h1 h2 h3 ops
    simp only at h1 h2 h3
    subst h1 h2 h3
    rfl
  have R : RInv [dfr caps] (fun j => j < 3) s1.hp.n s1.hp.m w.heap.size G1 w1 s1.hp 13 (s1.bump 3) a1 w1 G1 :=
    ⟨C2.inv.bump 3, C2.t, C2.d, C2.N, C2.inv.n, C2.inv.m, fun j hj => ⟨by simp only [St.bump]; omega, C2.inv.fb _ (by omega)⟩, fun j hj => ⟨by simp only [St.bump]; omega, C2.inv.fa _ (by omega)⟩⟩
  show wpOps Tryd.prog _ Q' [0, 1, 2] a1 w1
  rw [wpOps_cons]
  refine stepOp_ok (hS.env 0) hL2 R (i := 0) (by decide) rfl (fun d hd => by cases hd; decide) (hstep _ rfl rfl rfl _) (fun a2 w2 G2 R2 => ?_)
  rw [wpOps_cons]
  refine wpOp_at rfl (wanted_none rfl _) ?_
  have hf : VR G2 w2 (s1.t 0) (a2.tmps.getD 5 undef) := R2.t 5
  rw [ht.1] at hf
  obtain ⟨cs, e1, e2⟩ := hf
  have e1' : a2.eval (.tmp 5) = .func (.func fc) #[] cs := e1
  have hv2 : VRs G2 w2 cap ((#[] : Array Value) ++ cs).toList := by simpa using e2
  have hzz := fzPL_ok (fun v v' x => fzP_ok 6 v v' x) hz hv2
  obtain ⟨ow, hsim⟩ := R2.inv.sim
  have href : VRs G2 w2 [.ref 0 0, .ref 1 0] caps.toList := VRs.mono R2.inv.grow _ _ hv
  have hrun : ∀ (o : Oper), o.op = .call ⟨.value (.tmp 5), #[], #[]⟩ → (execOp a2.eval o).run Tryd.prog w2 = .ok (.enter fc (#[] ++ cs)) w2 := by
    intro o ho
    have := run_call (P := Tryd.prog) (a := a2) ho e1' hg w2
    simpa using this
  unfold Oper.wp
  rw [hrun _ rfl, Oper.upon_enter]
  refine (hP G2.S w2 _ (hL2 w2 R2.inv.below) hsim.S hzz).mono ?_
  rintro e w3 ⟨rfl, hb⟩
  subst hQ
  show Leaves Tryd.prog Tryd.f27 a2.tmps _ a2.defers (.panicking [{ v := refusal, recovered := false }]) w3
  rw [R2.d]
  have hsz : ∀ q o, G2.S q o → q < w3.heap.size := fun q o hq => Nat.lt_of_lt_of_le (hsim.S q o hq) hb.size
  obtain ⟨p1, p2⟩ := grow_pure (S' := G2.S) R2.inv hb (fun _ _ h => h) (fun q o hq => ⟨hsz q o hq, fun _ => hq⟩)
  refine leaves_cons (by simp) (invoke53 caps w3) ?_
  refine (callsD1 hS p2 hL2 (VRs.mono p1 _ _ href) ?_ ?_).mono ?_
  · show s1.hp.n + 3 = 7; omega
  · exact hh
  rintro e u w4 ⟨rfl, rfl, G4, hp4, inv4, hg4, hH4⟩
  show Leaves Tryd.prog Tryd.f27 a2.tmps _ [] .returning w4
  have hC4 : CInv [] w.heap.size (stab S) w Hp.empty 13 ⟨((s1.bump 3).put (some 5) (s1.t 0)).t, hp4⟩ { tmps := a2.tmps, defers := [] } w4 G4 :=
    ⟨C1.inv.trans inv4, (R2.t.mono p1).mono hg4, rfl, R2.N⟩
  obtain ⟨t1, hp1⟩ := s1
  obtain ⟨h4, n4, a4, m4⟩ := hp4
  have e4 : (⟨(((⟨t1, hp1⟩ : St).bump 3).put (some 5) (t1 0)).t, ⟨h4, n4, a4, m4⟩⟩ : St) = ⟨updL (((⟨t1, hp1⟩ : St).bump 3).put (some 5) (t1 0)).t [(2, .ref 0 0), (3, .ref 1 0)], ⟨updL h4 [(0, some (.cells zC false)), (1, some (.cells [.int .i64 260] false))], n4, a4, m4⟩⟩ :=
    St.knows (s := ⟨(((⟨t1, hp1⟩ : St).bump 3).put (some 5) (t1 0)).t, ⟨h4, n4, a4, m4⟩⟩) [(2, .ref 0 0), (3, .ref 1 0)] n4 ⟨ht.2.1, ht.2.2.1, trivial⟩ rfl [(0, some (.cells zC false)), (1, some (.cells [.int .i64 260] false))] hH4
  rw [e4] at hC4
  refine pure_end (fn := Tryd.f27) (a := { tmps := a2.tmps, defers := [] }) (r0 := .tup [.agg zC, .int .i64 260]) (hp2 := ⟨updL h4 [(0, some (.cells zC false)), (1, some (.cells [.int .i64 260] false))], n4, a4, m4⟩) hC4 ?_ ?_
  · rfl
  · rfl
end
end Go.Proofs.YtjfjagnnefmepaaDoor.AB
end

section
set_option linter.unusedVariables false
set_option linter.unusedSimpArgs false
open Go Go.Ab Go.Proofs Go.Vl Go.RowKit
namespace Go.Proofs.YtjfjagnnefmepaaDoor.AB
set_option maxRecDepth 100000
set_option maxHeartbeats 8000000
set_option linter.unusedSimpArgs false
set_option linter.unusedVariables false
/-- a call of a closure upon data -/
theorem xCall {C : Cfg} {ops : List Oper} {n0 m0 i : Nat} {o : Oper} {os : List Oper} {s : St} {Q : St → Prop} {f : Operand} {at_ : Array TypeId} {k : Nat} {cap : List V} {r : V} (ho : o.op = .call ⟨.value f, #[], at_⟩) (hg : o.guard = none) (hf : val s.t f = .fn k cap) (hb : C.byref k = false) (hz : fzPL (fzP 6) cap = some cap) (hE : C.Ev k cap r)
    (hq : xOps C ops false n0 m0 (i + 1) os (s.put o.dst r) Q) : xOps C ops false n0 m0 i (o :: os) s Q := by
  obtain ⟨dst, op, ty, pos, after, guard⟩ := o
  simp only at ho hg
  subst ho hg
  simp only [xOps, xOp, hf, hb, Bool.false_and]
  have e : asData false s.hp cap = some (cap, s.hp) := fzPL_fz (fzP_fz 6) _ _ s.hp hz
  refine opt_of (x := (cap, s.hp)) (by simpa using e) ⟨r, hE, ?_⟩
  rw [keepH_self]
  exact hq
theorem xseqq {C : Cfg} {id : Nat} {ops : Array Oper} {b : Code} {s : St} {Q : Ex → St → Prop} (h : xOps C ops.toList false s.hp.n s.hp.m 0 ops.toList (s.bump ops.toList.length) fun s' => xCode C b s' Q) : xCode C (.seq (.region id ops false) b) s Q := h
section
variable {ext : Exts}
/-- caught: the closure tells a value -/
theorem caught_ok {L : World → Prop} (hS : Sound (cfg ext) L) {fc : Nat} {cap : List V} {v : T} {e : Int} (hb : byref fc = false) (hz : fzPL (fzP 6) cap = some cap) (hE : (cfg ext).Ev fc cap (A v)) (hC : (cfg ext).Ev 14 [A v] (.int .i64 e)) (hO : e = 0 → (cfg ext).Ev 37 [A v] (A v)) :
    PureC Tryd.prog L 27 [.fn fc cap] (if e = 0 then .tup [A v, .int .i64 0] else .tup [A nilT, .int .i64 2]) := by
  intro S w xs hLw hSz hxs
  refine calls_of_wp_defers Tryd.func27 caught_body ?_
  have hxl : xs.size = 1 := by have := hxs.length; simpa using this
  have hN : (xs ++ Array.replicate (Tryd.f27.ntmps - xs.size) undef).size = 13 := by
    rw [Array.size_append, Array.size_replicate, hxl]; rfl
  have hL : ∀ w', Below w.heap.size w w' → L w' := fun w' hw' => hS.low w w' hLw hw'
  have hC0 : CInv [] w.heap.size (stab S) w Hp.empty 13 ⟨init [.fn fc cap], Hp.empty⟩ { tmps := xs ++ Array.replicate (Tryd.f27.ntmps - xs.size) undef, defers := [] } w (stab S) :=
    ⟨⟨⟨fun _ => none, hSz, fun b x hb => (by cases hb), fun i A hA => (by cases hA)⟩, Grow.refl _ _, Below.refl _ _, Nat.le_refl _, fun _ _ => rfl, fun _ _ _ => rfl, Nat.le_refl _, Nat.le_refl _, fun _ _ => rfl, fun _ _ h => h, fun _ _ => rfl, fun _ _ h _ => h⟩, init_ok hxs _, rfl, hN⟩
  refine caught_start hS hL hC0 rfl ?_
  intro caps s1 a1 w1 G1 C1 hv ht hn hm hh
  have C2 : CInv [dfr caps] w.heap.size G1 w1 s1.hp 13 s1 a1 w1 G1 := ⟨⟨C1.inv.sim, Grow.refl _ _, Below.refl _ _, C1.inv.lb, C1.inv.fb, C1.inv.fa, Nat.le_refl _, Nat.le_refl _, fun _ _ => rfl, fun _ _ h => h, C1.inv.fb, fun _ _ h _ => h⟩, C1.t, C1.d, C1.N⟩
  have hL2 : ∀ w', Below w.heap.size w1 w' → L w' := fun w' hw' => hL w' (C1.inv.below.trans hw')
  obtain ⟨cs, k, hck, hx⟩ : ∃ (cs : List V) (k : Int), ((e = 0 ∧ cs = cellsV v ∧ k = 0) ∨ (e ≠ 0 ∧ cs = zC ∧ k = 2)) ∧ xCode (cfg ext) (atP (bodyOf Tryd.f27) [true, true]) s1 (fun ex s' => ex = .ret ∧ Has s'.t [(2, .ref 0 0), (3, .ref 1 0)] ∧ Has s'.hp.h [(0, some (.cells cs false)), (1, some (.cells [.int .i64 k] false))]) := by
    by_cases h0 : e = 0
    · refine ⟨cellsV v, 0, .inl ⟨h0, rfl, rfl⟩, ?_⟩
      have g0 : (e != 0) = false := by simp [h0]
      have hO' := hO h0
      rw [St.knows (s := s1) _ 4 ht hn _ hh]
      refine xseqq ?_
      refine xMv rfl rfl (xCall rfl rfl rfl hb hz hE ?_)
      conv => whnf
      refine ⟨_, hC, ?_⟩
      conv => whnf
      refine sel_no (by (first | assumption | (simp only [beq_iff_eq, bne_iff_ne, beq_eq_false_iff_ne, bne_eq_false_iff_eq, decide_eq_true_eq, decide_eq_false_iff_not, Bool.not_eq_true', Bool.not_eq_false', ne_eq, beq_true, beq_false, bne_self_eq_false, not_true_eq_false, not_false_eq_true, gt_iff_lt, ge_iff_le, Int.not_lt, Int.not_le, Bool.true_eq_false, Bool.false_eq_true] <;> omega))) ?_
      conv => whnf
      refine ⟨_, hO', ?_⟩
      conv => whnf
      exact ⟨rfl, ⟨rfl, rfl, trivial⟩, rfl, rfl, trivial⟩
    · refine ⟨zC, 2, .inr ⟨h0, rfl, rfl⟩, ?_⟩
      have g0 : (e != 0) = true := by simp [h0]
      rw [St.knows (s := s1) _ 4 ht hn _ hh]
      refine xseqq ?_
      refine xMv rfl rfl (xCall rfl rfl rfl hb hz hE ?_)
      conv => whnf
      refine ⟨_, hC, ?_⟩
      conv => whnf
      refine sel_yes (by (first | assumption | (simp only [beq_iff_eq, bne_iff_ne, beq_eq_false_iff_ne, bne_eq_false_iff_eq, decide_eq_true_eq, decide_eq_false_iff_not, Bool.not_eq_true', Bool.not_eq_false', ne_eq, beq_true, beq_false, bne_self_eq_false, not_true_eq_false, not_false_eq_true, gt_iff_lt, ge_iff_le, Int.not_lt, Int.not_le, Bool.true_eq_false, Bool.false_eq_true] <;> omega))) ?_
      conv => whnf
      exact ⟨rfl, ⟨rfl, rfl, trivial⟩, rfl, rfl, trivial⟩
  obtain ⟨K, ex, s2, h1, rfl, ht2, hh2⟩ := xCode_ok _ _ _ hx
  refine wp_mono (code_ok (hS.env K) hS.mixed (N := 13) (M := 13) (by decide) hL2 K _ _ a1 w1 G1 _ s2 (by kernel_rfl) C2 (h1 K (Nat.le_refl _))) ?_
  rintro ee a3 w3 ⟨rfl, G3, C3⟩
  show Leaves Tryd.prog Tryd.f27 a3.tmps _ a3.defers .returning w3
  rw [C3.d]
  refine leaves_cons (by simp) (invoke53 caps w3) ?_
  refine (callsD0 hS C3.inv hL2 (VRs.mono C3.inv.grow _ _ hv)).mono ?_
  rintro ee u w4 ⟨rfl, rfl, G4, hp4, inv4, hg4, hH4, _⟩
  show Leaves Tryd.prog Tryd.f27 a3.tmps _ [] .returning w4
  have hC4 : CInv [] w.heap.size (stab S) w Hp.empty 13 ⟨s2.t, hp4⟩ { tmps := a3.tmps, defers := [] } w4 G4 :=
    ⟨C1.inv.trans inv4, C3.t.mono hg4, rfl, C3.N⟩
  rw [← hH4] at hh2
  obtain ⟨t2, hp2⟩ := s2
  obtain ⟨h4, n4, a4, m4⟩ := hp4
  have e4 : (⟨t2, ⟨h4, n4, a4, m4⟩⟩ : St) = ⟨updL t2 [(2, .ref 0 0), (3, .ref 1 0)], ⟨updL h4 [(0, some (.cells cs false)), (1, some (.cells [.int .i64 k] false))], n4, a4, m4⟩⟩ :=
    St.knows (s := ⟨t2, ⟨h4, n4, a4, m4⟩⟩) [(2, .ref 0 0), (3, .ref 1 0)] n4 ht2 rfl [(0, some (.cells cs false)), (1, some (.cells [.int .i64 k] false))] hh2
  rw [e4] at hC4
  rcases hck with ⟨h0, rfl, rfl⟩ | ⟨h0, rfl, rfl⟩
  · rw [if_pos h0]
    refine pure_end (fn := Tryd.f27) (a := { tmps := a3.tmps, defers := [] }) (r0 := .tup [A v, .int .i64 0]) (hp2 := ⟨updL h4 [(0, some (.cells (cellsV v) false)), (1, some (.cells [.int .i64 0] false))], n4, a4, m4⟩) hC4 ?_ ?_
    · rfl
    · rfl
  · rw [if_neg h0]
    refine pure_end (fn := Tryd.f27) (a := { tmps := a3.tmps, defers := [] }) (r0 := .tup [.agg zC, .int .i64 2]) (hp2 := ⟨updL h4 [(0, some (.cells zC false)), (1, some (.cells [.int .i64 2] false))], n4, a4, m4⟩) hC4 ?_ ?_
    · rfl
    · rfl
end
end Go.Proofs.YtjfjagnnefmepaaDoor.AB
end

section
set_option linter.unusedVariables false
set_option linter.unusedSimpArgs false
open Go Go.Ab Go.Proofs Go.Vl
namespace Go.Proofs.YtjfjagnnefmepaaDoor.AB
set_option maxRecDepth 100000
set_option maxHeartbeats 8000000
set_option linter.unusedSimpArgs false
set_option linter.unusedVariables false
section
variable {ext : Exts}
theorem part_tup {v s : T} (h : (cfg ext).Ev 54 [A v, A s] (optV (partF v s))) : ∃ b, (cfg ext).Ev 54 [A v, A s] (.tup [A ((partF v s).getD nilT), .bool b]) := by
  cases hp : partF v s with
  | none => rw [hp] at h; exact ⟨false, h⟩
  | some w => rw [hp] at h; exact ⟨true, h⟩
/-- paths.put, where the path leads nowhere -/
theorem tpan {L : World → Prop} (hS : Sound (cfg ext) L) (hn : Non ext) (h26 : E26 ext) (x : T) : ∀ (p : List T) (v : T), Good v → (∀ s ∈ p, Good s) → putF v p x = none → PanC Tryd.prog L 29 [A v, .sl false (encL p) p.length, A x] refusal
  | [], v, hv, hp, h => by cases h
  | s :: p, v, hv, hp, h => by
    have hs : Good s := hp s (by simp)
    have hp' : ∀ s' ∈ p, Good s' := fun s' h => hp s' (by simp [h])
    have ih := tpan hS hn h26 x p ((partF v s).getD nilT) (old_good hv hs) hp'
    obtain ⟨b, hP⟩ := part_tup (tpart hn h26 v s hv.row)
    unfold putF at h
    by_cases h4 : v.f0 = 4
    · rw [if_pos h4] at h
      cases hi : idxF v.f3.length s with
      | some i =>
        rw [hi] at h
        simp only [Option.map_eq_none_iff] at h
        exact tpan2 hS hn h26 v s x p hv h4 hi (ih h)
      | none =>
        rw [hi] at h
        simp only at h
        split at h
        · rename_i hc
          simp only [Option.map_eq_none_iff] at h
          exact tpan3 hS hn h26 v s x p hv h4 hc.1 hc.2 (ih h)
        · rename_i hc
          exact tpan1 hS hn v s x _ b p h4 hi hc hP
    · rw [if_neg h4] at h
      split at h
      · rename_i h06
        simp only [Option.map_eq_none_iff] at h
        exact tpan4 hS hn v s x _ b p hv h06 hP (ih h)
      · rename_i h06
        exact tpan0 hS hn v s x _ b p h4 (fun h => h06 (.inl h)) (fun h => h06 (.inr h)) hP
/-- the closure of Put -/
theorem tput1 (hn : Non ext) (h26 : E26 ext) (x v w : T) (p : List T) (hv : Good v) (hp : ∀ s ∈ p, Good s) (h : putF v p x = some w) : (cfg ext).Ev 28 [.ptr (enc v) 0, .ptr [.sl false (encL p) p.length] 0, .ptr (enc x) 0] (A w) := by
  have hE := tput hn h26 x p v w hv hp h
  refine Ev.of (hn 28 (by decide) (by decide)) Tryd.func28 rfl rfl ?_
  rw [enc_eq, enc_eq]
  conv => whnf
  refine ⟨le_rfl' ?_, ?_⟩
  · rfl
  conv => whnf
  refine ⟨le_rfl' ?_, ?_⟩
  · rfl
  conv => whnf
  refine ⟨le_rfl' ?_, ?_⟩
  · rfl
  conv => whnf
  refine ⟨_, hE, ?_⟩
  conv => whnf
  rfl
theorem tpan1c {L : World → Prop} (hS : Sound (cfg ext) L) (hn : Non ext) (h26 : E26 ext) (x v : T) (p : List T) (hv : Good v) (hp : ∀ s ∈ p, Good s) (h : putF v p x = none) : PanC Tryd.prog L 28 [.ptr (enc v) 0, .ptr [.sl false (encL p) p.length] 0, .ptr (enc x) 0] refusal := by
  have hE := tpan hS hn h26 x p v hv hp h
  refine PanC.of_SW (C := cfg ext) (fn := Tryd.f28) hS Tryd.func28 rfl ?_
  rw [enc_eq, enc_eq]
  refine SW.seq (SW.of_x hS (by kernel_rfl) ?_)
  conv => whnf
  refine SW.seq (SW.region hS 3 rfl (by kernel_rfl) ?_)
  conv => whnf
  refine ⟨le_rfl' ?_, ?_⟩
  · rfl
  conv => whnf
  refine ⟨le_rfl' ?_, ?_⟩
  · rfl
  conv => whnf
  refine ⟨le_rfl' ?_, ?_⟩
  · rfl
  conv => whnf
  refine OpW.pan (panAt (cap := []) hE put_goes rfl rfl rfl ?_ ?_)
  · rfl
  · rfl
/-- what is wrong with a path -/
theorem lasked (hn : Non ext) (h26 : E26 ext) (h73 : E73 ext) (l : List T) (hl : l.length ≤ 1048576) (hw : ∀ a ∈ l, WfV a) (Q : Ex → St → Prop) (d : Nat) :
    ∀ (i : Nat) (z : St), l.length - i = d → i ≤ l.length → Has z.t [(9, .sl false (encL l) l.length), (10, .int .i64 l.length), (11, .int .i64 i)] → z.hp.n = 7 →
      (∀ z' : St, z'.t 2 = .int .i64 3 → ¬ (∀ a ∈ l.drop i, okB a = true) → Q .ret z') →
      (∀ z' : St, (∀ a ∈ l.drop i, okB a = true) → Q (.exit 0) z') →
      Go.Ab.Loop (cfg ext) (lpOf Tryd.f26) 7 z Q := by
  induction d with
  | zero =>
    intro i z hd hi ht hz hr hq
    have g : decide ((i : Int) < (l.length : Int)) = false := decide_eq_false (by omega)
    rw [St.knows _ _ ht hz]
    refine Loop.round ?_
    conv => whnf
    repeat (first
      | (refine sel_yes ?_ ?_; (first | assumption | (simp only [beq_iff_eq, bne_iff_ne, beq_eq_false_iff_ne, bne_eq_false_iff_eq, decide_eq_true_eq, decide_eq_false_iff_not, Bool.not_eq_true', Bool.not_eq_false', ne_eq, beq_true, beq_false, bne_self_eq_false, not_true_eq_false, not_false_eq_true, gt_iff_lt, ge_iff_le, Int.not_lt, Int.not_le, Bool.true_eq_false, Bool.false_eq_true] <;> omega)); conv => whnf)
      | (refine sel_no ?_ ?_; (first | assumption | (simp only [beq_iff_eq, bne_iff_ne, beq_eq_false_iff_ne, bne_eq_false_iff_eq, decide_eq_true_eq, decide_eq_false_iff_not, Bool.not_eq_true', Bool.not_eq_false', ne_eq, beq_true, beq_false, bne_self_eq_false, not_true_eq_false, not_false_eq_true, gt_iff_lt, ge_iff_le, Int.not_lt, Int.not_le, Bool.true_eq_false, Bool.false_eq_true] <;> omega)); conv => whnf)
      | (refine ⟨le_rfl' ?_, ?_⟩; rfl; conv => whnf)
      | (refine ⟨⟨?_, ?_⟩, ?_⟩; omega; omega; conv => whnf)
      | (refine ⟨⟨?_, ?_, ?_⟩, ?_⟩; rfl; omega; omega; conv => whnf)
      | (refine ⟨rfl, ?_, ?_⟩; decide; conv => whnf))
    try exact rfl
    exact hq _ (by intro a ha; rw [List.drop_eq_nil_of_le (by omega)] at ha; cases ha)
  | succ d ih =>
    intro i z hd hi ht hz hr hq
    have hlt : i < l.length := by omega
    have g : decide ((i : Int) < (l.length : Int)) = true := decide_eq_true (by omega)
    have eD := List.drop_eq_getElem_cons hlt
    have e1 : IntKind.i64.wrap ((i : Int) + 1) = ((i + 1 : Nat) : Int) := wrapN (by omega) (by omega)
    have hE := t22 hn h26 h73 l[i] (hw _ (List.getElem_mem hlt))
    rw [St.knows _ _ ht hz]
    refine Loop.round ?_
    conv => whnf
    repeat (first
      | (refine sel_yes ?_ ?_; (first | assumption | (simp only [beq_iff_eq, bne_iff_ne, beq_eq_false_iff_ne, bne_eq_false_iff_eq, decide_eq_true_eq, decide_eq_false_iff_not, Bool.not_eq_true', Bool.not_eq_false', ne_eq, beq_true, beq_false, bne_self_eq_false, not_true_eq_false, not_false_eq_true, gt_iff_lt, ge_iff_le, Int.not_lt, Int.not_le, Bool.true_eq_false, Bool.false_eq_true] <;> omega)); conv => whnf)
      | (refine sel_no ?_ ?_; (first | assumption | (simp only [beq_iff_eq, bne_iff_ne, beq_eq_false_iff_ne, bne_eq_false_iff_eq, decide_eq_true_eq, decide_eq_false_iff_not, Bool.not_eq_true', Bool.not_eq_false', ne_eq, beq_true, beq_false, bne_self_eq_false, not_true_eq_false, not_false_eq_true, gt_iff_lt, ge_iff_le, Int.not_lt, Int.not_le, Bool.true_eq_false, Bool.false_eq_true] <;> omega)); conv => whnf)
      | (refine ⟨le_rfl' ?_, ?_⟩; rfl; conv => whnf)
      | (refine ⟨⟨?_, ?_⟩, ?_⟩; omega; omega; conv => whnf)
      | (refine ⟨⟨?_, ?_, ?_⟩, ?_⟩; rfl; omega; omega; conv => whnf)
      | (refine ⟨rfl, ?_, ?_⟩; decide; conv => whnf))
    try exact rfl
    refine ldA (i := i) hlt ?_
    conv => whnf
    cases ho : okB l[i] with
    | false =>
      rw [ho] at hE
      refine ⟨_, hE, ?_⟩
      conv => whnf
      exact hr _ rfl (fun g => by have := g l[i] (by rw [eD]; exact List.mem_cons_self); rw [ho] at this; cases this)
    | true =>
      rw [ho] at hE
      refine ⟨_, hE, ?_⟩
      conv => whnf
      refine ih (i + 1) _ (by omega) (by omega) ⟨rfl, rfl, ?_, trivial⟩ rfl (fun z' a c => hr z' a (fun g => c (fun x hx => g x (by rw [eD]; exact List.mem_cons_of_mem _ hx)))) (fun z' e => hq z' (fun x hx => by rw [eD] at hx; rcases List.mem_cons.1 hx with rfl | hx; exact ho; exact e x hx))
      conv => lhs; whnf
      exact vi e1
noncomputable def askZ (l : List T) : Int := if 16 < l.length then 2 else if l.all okB = true then 0 else 3
theorem tasked (hn : Non ext) (h26 : E26 ext) (h73 : E73 ext) (l : List T) (hl : l.length ≤ 9223372036854775807) (hw : ∀ a ∈ l, WfV a) : (cfg ext).Ev 26 [.sl false (encL l) l.length] (.int .i64 (askZ l)) := by
  have key : ∃ r, (cfg ext).Ev 26 [.sl false (encL l) l.length] r ∧ r = .int .i64 (askZ l) := by
    refine Ev.ofF (hn 26 (by decide) (by decide)) Tryd.func26 rfl rfl ?_
    conv => whnf
    by_cases h : 16 < l.length
    · have g : decide ((l.length : Int) > 16) = true := decide_eq_true (by omega)
      repeat (first
        | (refine sel_yes ?_ ?_; (first | assumption | (simp only [beq_iff_eq, bne_iff_ne, beq_eq_false_iff_ne, bne_eq_false_iff_eq, decide_eq_true_eq, decide_eq_false_iff_not, Bool.not_eq_true', Bool.not_eq_false', ne_eq, beq_true, beq_false, bne_self_eq_false, not_true_eq_false, not_false_eq_true, gt_iff_lt, ge_iff_le, Int.not_lt, Int.not_le, Bool.true_eq_false, Bool.false_eq_true] <;> omega)); conv => whnf)
        | (refine sel_no ?_ ?_; (first | assumption | (simp only [beq_iff_eq, bne_iff_ne, beq_eq_false_iff_ne, bne_eq_false_iff_eq, decide_eq_true_eq, decide_eq_false_iff_not, Bool.not_eq_true', Bool.not_eq_false', ne_eq, beq_true, beq_false, bne_self_eq_false, not_true_eq_false, not_false_eq_true, gt_iff_lt, ge_iff_le, Int.not_lt, Int.not_le, Bool.true_eq_false, Bool.false_eq_true] <;> omega)); conv => whnf)
        | (refine ⟨le_rfl' ?_, ?_⟩; rfl; conv => whnf)
        | (refine ⟨⟨?_, ?_⟩, ?_⟩; omega; omega; conv => whnf)
        | (refine ⟨⟨?_, ?_, ?_⟩, ?_⟩; rfl; omega; omega; conv => whnf)
        | (refine ⟨rfl, ?_, ?_⟩; decide; conv => whnf))
      try exact rfl
      exact Fin.tmp (i := 2) rfl rfl (vi (by unfold askZ; rw [if_pos h]))
    · have g : decide ((l.length : Int) > 16) = false := decide_eq_false (by omega)
      repeat (first
        | (refine sel_yes ?_ ?_; (first | assumption | (simp only [beq_iff_eq, bne_iff_ne, beq_eq_false_iff_ne, bne_eq_false_iff_eq, decide_eq_true_eq, decide_eq_false_iff_not, Bool.not_eq_true', Bool.not_eq_false', ne_eq, beq_true, beq_false, bne_self_eq_false, not_true_eq_false, not_false_eq_true, gt_iff_lt, ge_iff_le, Int.not_lt, Int.not_le, Bool.true_eq_false, Bool.false_eq_true] <;> omega)); conv => whnf)
        | (refine sel_no ?_ ?_; (first | assumption | (simp only [beq_iff_eq, bne_iff_ne, beq_eq_false_iff_ne, bne_eq_false_iff_eq, decide_eq_true_eq, decide_eq_false_iff_not, Bool.not_eq_true', Bool.not_eq_false', ne_eq, beq_true, beq_false, bne_self_eq_false, not_true_eq_false, not_false_eq_true, gt_iff_lt, ge_iff_le, Int.not_lt, Int.not_le, Bool.true_eq_false, Bool.false_eq_true] <;> omega)); conv => whnf)
        | (refine ⟨le_rfl' ?_, ?_⟩; rfl; conv => whnf)
        | (refine ⟨⟨?_, ?_⟩, ?_⟩; omega; omega; conv => whnf)
        | (refine ⟨⟨?_, ?_, ?_⟩, ?_⟩; rfl; omega; omega; conv => whnf)
        | (refine ⟨rfl, ?_, ?_⟩; decide; conv => whnf))
      try exact rfl
      refine lasked hn h26 h73 l (by omega) hw _ l.length 0 _ rfl (by omega) ⟨rfl, rfl, rfl, trivial⟩ rfl (fun z a b => ?_) (fun z b => ?_)
      · exact Fin.tmp (i := 2) rfl a (vi (by unfold askZ; rw [if_neg h, if_neg (show ¬ (l.all okB = true) from fun h => b (List.all_eq_true.1 h))]))
      · conv => whnf
        exact Fin.tmp (i := 2) rfl rfl (vi (by unfold askZ; rw [if_neg h, if_pos (show l.all okB = true from List.all_eq_true.2 b)]))
  obtain ⟨r, h, rfl⟩ := key
  exact h
end
end Go.Proofs.YtjfjagnnefmepaaDoor.AB
end

section
set_option linter.unusedVariables false
set_option linter.unusedSimpArgs false
open Go Go.Ab Go.Proofs Go.Vl
namespace Go.Proofs.YtjfjagnnefmepaaDoor.AB
set_option maxRecDepth 100000
set_option maxHeartbeats 8000000
set_option linter.unusedSimpArgs false
set_option linter.unusedVariables false
section
variable {ext : Exts}
def ownE (ext : Exts) (v : T) : Prop := (cfg ext).Ev 37 [A v] (A v)
/-- a row of which the first ones are told -/
theorem stM {hp : Hp} {b v : Nat} {l : List T} {z : List V} {cap : Option Nat} {e : Int} {k : Nat} {x : T} {Q : V × Hp → Prop} (h : hp.a b = some ⟨v, 4, encL l ++ z, cap, 0⟩) (hz : 4 ≤ z.length) (he : e = (k : Int)) (hk : k = l.length)
    (q : ∀ a', a' b = some ⟨v, 4, encL (l ++ [x]) ++ z.drop 4, cap, 0⟩ → Q (.tup [], ⟨hp.h, hp.n, a', hp.m⟩)) :
    opt ((storeV hp (.aref b v (0 + e.toNat * 4)) [.int .i64 x.f0, .int .i64 x.f1, .str x.f2, .sl false (encL x.f3) x.f3.length]).bind fun hp' => some (.tup [], hp')) Q := by
  subst he hk
  refine opt_store h (Nat.zero_le _) (by rw [List.length_append, encL_len]; simp; omega) (fun a' h1 _ => q a' ?_)
  rw [h1, show 0 + ((l.length : Nat) : Int).toNat * 4 = l.length * 4 by simp, ← enc_eq]
  have e4 : (enc x).length = 4 := by rw [enc_eq]; rfl
  have ez : z = z.take 4 ++ z.drop 4 := (List.take_append_drop 4 z).symm
  have := fill_mid (x := encL l) (y := z.take 4) (z := z.drop 4) (u := enc x) (by rw [e4]; simp; omega)
  rw [encL_len, List.append_assoc, ← ez] at this
  rw [this, encL_app]
  simp only [encL, List.append_nil]
theorem trunc_arr2 {z : St} {b v n : Nat} {l : List T} {y : List V} {cap : Option Nat} (hy : y.map (cleanV n) = y) (h : z.hp.a b = some ⟨v, 4, encL l ++ y, cap, 0⟩) : (z.trunc n).hp.a b = some ⟨v, 4, encL l ++ y, cap, 0⟩ := by
  show (match z.hp.a b with | some A => some { A with cs := A.cs.map (cleanV n) } | none => none) = _
  rw [h]
  simp only [List.map_append, map_encL, hy]
theorem clean_zeros (n : Nat) : ∀ k, ((List.replicate k zC).flatten).map (cleanV n) = (List.replicate k zC).flatten
  | 0 => rfl
  | k + 1 => by
    rw [List.replicate_succ, List.flatten_cons, List.map_append, clean_zeros n k]; rfl
theorem drop_zeros (k : Nat) : ((List.replicate (k + 1) zC).flatten).drop 4 = (List.replicate k zC).flatten := by
  rw [List.replicate_succ, List.flatten_cons]; rfl
theorem len_zeros (k : Nat) : ((List.replicate k zC).flatten).length = k * 4 := by
  induction k with
  | zero => rfl
  | succ k ih => rw [List.replicate_succ, List.flatten_cons, List.length_append, ih]; show 4 + k * 4 = _; omega
theorem lownp (v : T) (hl : v.f3.length ≤ 1000000) (E : ∀ a ∈ v.f3, ownE ext a) (b : Nat) (Q : Ex → St → Prop) (d : Nat) :
    ∀ (i : Nat) (z : St), v.f3.length - i = d → i ≤ v.f3.length → Has z.t [(1, .ref 0 0), (2, .ref 1 0), (3, .rsl false b 0 0 v.f3.length), (17, .sl false (encL v.f3) v.f3.length), (18, .int .i64 v.f3.length), (19, .int .i64 i)] → z.hp.n = 15 → Has z.hp.h [(0, some (.cells (cellsV v) false)), (1, some (.cells zC false))] → z.hp.a b = some ⟨0, 4, encL (v.f3.take i) ++ (List.replicate (v.f3.length - i) zC).flatten, some v.f3.length, 0⟩ → b < z.hp.m →
      (∀ z' : St, Has z'.t [(1, .ref 0 0), (2, .ref 1 0), (3, .rsl false b 0 0 v.f3.length)] → Has z'.hp.h [(0, some (.cells (cellsV v) false)), (1, some (.cells zC false))] → z'.hp.a b = some ⟨0, 4, encL v.f3, some v.f3.length, 0⟩ → b < z'.hp.m → Q (.exit 0) z') →
      Go.Ab.Loop (cfg ext) (lpOf Tryd.f37) 15 z Q := by
  induction d with
  | zero =>
    intro i z hd hi ht hz hb ha hm hq
    have g : decide ((i : Int) < (v.f3.length : Int)) = false := decide_eq_false (by omega)
    rw [St.knows _ _ ht hz _ hb]
    refine Loop.round ?_
    conv => whnf
    repeat (first
      | (refine sel_yes ?_ ?_; (first | assumption | (simp only [beq_iff_eq, bne_iff_ne, beq_eq_false_iff_ne, bne_eq_false_iff_eq, decide_eq_true_eq, decide_eq_false_iff_not, Bool.not_eq_true', Bool.not_eq_false', ne_eq, beq_true, beq_false, bne_self_eq_false, not_true_eq_false, not_false_eq_true, gt_iff_lt, ge_iff_le, Int.not_lt, Int.not_le, Bool.true_eq_false, Bool.false_eq_true] <;> omega)); conv => whnf)
      | (refine sel_no ?_ ?_; (first | assumption | (simp only [beq_iff_eq, bne_iff_ne, beq_eq_false_iff_ne, bne_eq_false_iff_eq, decide_eq_true_eq, decide_eq_false_iff_not, Bool.not_eq_true', Bool.not_eq_false', ne_eq, beq_true, beq_false, bne_self_eq_false, not_true_eq_false, not_false_eq_true, gt_iff_lt, ge_iff_le, Int.not_lt, Int.not_le, Bool.true_eq_false, Bool.false_eq_true] <;> omega)); conv => whnf)
      | (refine ⟨le_rfl' ?_, ?_⟩; rfl; conv => whnf)
      | (refine ⟨⟨?_, ?_⟩, ?_⟩; omega; omega; conv => whnf)
      | (refine ⟨⟨?_, ?_, ?_⟩, ?_⟩; rfl; omega; omega; conv => whnf)
      | (refine ⟨rfl, ?_, ?_⟩; decide; conv => whnf))
    try exact rfl
    refine hq _ ⟨rfl, rfl, rfl, trivial⟩ ⟨rfl, rfl, trivial⟩ ?_ (Nat.lt_of_lt_of_le hm (Nat.le_add_right _ _))
    have e1 : v.f3.length - i = 0 := by omega
    have e2 : v.f3.take i = v.f3 := List.take_of_length_le (by omega)
    rw [e1, e2] at ha
    have ha' : z.hp.a b = some ⟨0, 4, encL v.f3, some v.f3.length, 0⟩ := by simpa using ha
    exact ha'
  | succ d ih =>
    intro i z hd hi ht hz hb ha hm hq
    have hlt : i < v.f3.length := by omega
    have g : decide ((i : Int) < (v.f3.length : Int)) = true := decide_eq_true (by omega)
    have e1 : IntKind.i64.wrap ((i : Int) + 1) = ((i + 1 : Nat) : Int) := wrapN (by omega) (by omega)
    have hE := E v.f3[i] (List.getElem_mem hlt)
    rw [St.knows _ _ ht hz _ hb]
    refine Loop.round ?_
    conv => whnf
    repeat (first
      | (refine sel_yes ?_ ?_; (first | assumption | (simp only [beq_iff_eq, bne_iff_ne, beq_eq_false_iff_ne, bne_eq_false_iff_eq, decide_eq_true_eq, decide_eq_false_iff_not, Bool.not_eq_true', Bool.not_eq_false', ne_eq, beq_true, beq_false, bne_self_eq_false, not_true_eq_false, not_false_eq_true, gt_iff_lt, ge_iff_le, Int.not_lt, Int.not_le, Bool.true_eq_false, Bool.false_eq_true] <;> omega)); conv => whnf)
      | (refine sel_no ?_ ?_; (first | assumption | (simp only [beq_iff_eq, bne_iff_ne, beq_eq_false_iff_ne, bne_eq_false_iff_eq, decide_eq_true_eq, decide_eq_false_iff_not, Bool.not_eq_true', Bool.not_eq_false', ne_eq, beq_true, beq_false, bne_self_eq_false, not_true_eq_false, not_false_eq_true, gt_iff_lt, ge_iff_le, Int.not_lt, Int.not_le, Bool.true_eq_false, Bool.false_eq_true] <;> omega)); conv => whnf)
      | (refine ⟨le_rfl' ?_, ?_⟩; rfl; conv => whnf)
      | (refine ⟨⟨?_, ?_⟩, ?_⟩; omega; omega; conv => whnf)
      | (refine ⟨⟨?_, ?_, ?_⟩, ?_⟩; rfl; omega; omega; conv => whnf)
      | (refine ⟨rfl, ?_, ?_⟩; decide; conv => whnf))
    try exact rfl
    refine ldA (i := i) hlt ?_
    conv => whnf
    refine ⟨_, hE, ?_⟩
    conv => whnf
    refine ⟨bnd rfl hlt, ?_⟩
    conv => whnf
    refine stM (x := v.f3[i]) (l := v.f3.take i) (k := i) ha (by rw [len_zeros]; omega) rfl (by simp; omega) (fun a2 ha2 => ?_)
    conv => whnf
    refine ih (i + 1) _ (by omega) (by omega) ⟨rfl, rfl, rfl, rfl, rfl, ?_, trivial⟩ rfl ⟨rfl, rfl, trivial⟩ ?_ (Nat.lt_of_lt_of_le hm (by (conv => lhs; whnf); (repeat ((conv => rhs; whnf); first | with_reducible exact Nat.le_refl _ | refine Nat.le_trans ?_ (Nat.le_add_right _ _) | refine Nat.le_succ_of_le ?_ | exact Nat.le_refl _)))) hq
    · conv => lhs; whnf
      exact vi e1
    · have e2 : v.f3.take i ++ [v.f3[i]] = v.f3.take (i + 1) := by rw [List.take_add_one, List.getElem?_eq_getElem hlt]; rfl
      have e3 : v.f3.length - i = (v.f3.length - (i + 1)) + 1 := by omega
      rw [e2, e3, drop_zeros] at ha2
      exact trunc_arr2 (clean_zeros _ _) ha2
theorem townp1 (hn : Non ext) (v : T) (hl : v.f3.length ≤ 1000000) (E : ∀ a ∈ v.f3, ownE ext a) : ownE ext v := by
  have key : ∃ r, (cfg ext).Ev 37 [A v] r ∧ r = A v := by
    refine Ev.ofF (hn 37 (by decide) (by decide)) Tryd.func37 rfl rfl ?_
    conv => whnf
    by_cases h0 : v.f3 = []
    · have g0 : ((v.f3.length : Int) == 0) = true := by rw [h0]; rfl
      repeat (first
        | (refine sel_yes ?_ ?_; (first | assumption | (simp only [beq_iff_eq, bne_iff_ne, beq_eq_false_iff_ne, bne_eq_false_iff_eq, decide_eq_true_eq, decide_eq_false_iff_not, Bool.not_eq_true', Bool.not_eq_false', ne_eq, beq_true, beq_false, bne_self_eq_false, not_true_eq_false, not_false_eq_true, gt_iff_lt, ge_iff_le, Int.not_lt, Int.not_le, Bool.true_eq_false, Bool.false_eq_true] <;> omega)); conv => whnf)
        | (refine sel_no ?_ ?_; (first | assumption | (simp only [beq_iff_eq, bne_iff_ne, beq_eq_false_iff_ne, bne_eq_false_iff_eq, decide_eq_true_eq, decide_eq_false_iff_not, Bool.not_eq_true', Bool.not_eq_false', ne_eq, beq_true, beq_false, bne_self_eq_false, not_true_eq_false, not_false_eq_true, gt_iff_lt, ge_iff_le, Int.not_lt, Int.not_le, Bool.true_eq_false, Bool.false_eq_true] <;> omega)); conv => whnf)
        | (refine ⟨le_rfl' ?_, ?_⟩; rfl; conv => whnf)
        | (refine ⟨⟨?_, ?_⟩, ?_⟩; omega; omega; conv => whnf)
        | (refine ⟨⟨?_, ?_, ?_⟩, ?_⟩; rfl; omega; omega; conv => whnf)
        | (refine ⟨rfl, ?_, ?_⟩; decide; conv => whnf))
      try exact rfl
      exact FinAgg (k1 := .i64) (k2 := .i64) rfl (by unfold A; rw [h0]; rfl)
    · have hp : 0 < v.f3.length := List.length_pos_iff.2 h0
      have g0 : ((v.f3.length : Int) == 0) = false := by simp; omega
      repeat (first
        | (refine sel_yes ?_ ?_; (first | assumption | (simp only [beq_iff_eq, bne_iff_ne, beq_eq_false_iff_ne, bne_eq_false_iff_eq, decide_eq_true_eq, decide_eq_false_iff_not, Bool.not_eq_true', Bool.not_eq_false', ne_eq, beq_true, beq_false, bne_self_eq_false, not_true_eq_false, not_false_eq_true, gt_iff_lt, ge_iff_le, Int.not_lt, Int.not_le, Bool.true_eq_false, Bool.false_eq_true] <;> omega)); conv => whnf)
        | (refine sel_no ?_ ?_; (first | assumption | (simp only [beq_iff_eq, bne_iff_ne, beq_eq_false_iff_ne, bne_eq_false_iff_eq, decide_eq_true_eq, decide_eq_false_iff_not, Bool.not_eq_true', Bool.not_eq_false', ne_eq, beq_true, beq_false, bne_self_eq_false, not_true_eq_false, not_false_eq_true, gt_iff_lt, ge_iff_le, Int.not_lt, Int.not_le, Bool.true_eq_false, Bool.false_eq_true] <;> omega)); conv => whnf)
        | (refine ⟨le_rfl' ?_, ?_⟩; rfl; conv => whnf)
        | (refine ⟨⟨?_, ?_⟩, ?_⟩; omega; omega; conv => whnf)
        | (refine ⟨⟨?_, ?_, ?_⟩, ?_⟩; rfl; omega; omega; conv => whnf)
        | (refine ⟨rfl, ?_, ?_⟩; decide; conv => whnf))
      try exact rfl
      refine opt_make (n := v.f3.length) (k := .i64) (k' := .i64) (t := 22) (e := 24) (l := .tmp 14) (c := .tmp 14) (z := zC) ?_ ?_ ?_ ?_ ?_ ?_ ?_ ?_
      · rfl
      · rfl
      · rfl
      · rfl
      · rfl
      · rfl
      · exact ⟨by show v.f3.length * 56 ≤ 140737488355328; omega, by show v.f3.length ≤ 140737488355328; omega⟩
      conv => whnf
      refine lownp v hl E _ _ v.f3.length 0 _ (by omega) (by omega) ⟨rfl, rfl, rfl, rfl, rfl, rfl, trivial⟩ rfl ?_ ?_ ?_ (fun z a b c d => ?_)
      · exact ⟨rfl, rfl, trivial⟩
      · rfl
      · exact Nat.le_of_ble_eq_true rfl
      · rw [St.knows (s := z) _ z.hp.n a rfl _ b]
        conv => whnf
        exact Fin.row (k1 := .i64) (k2 := .i64) rfl c (encL_len _) (encC _) rfl
  obtain ⟨r, h, rfl⟩ := key
  exact h
mutual
theorem ownV1 (hn : Non ext) : (v : T) → partsV v ≤ 1000000 → ownE ext v
  | ⟨k, n, t, l⟩, h => townp1 hn ⟨k, n, t, l⟩ (by
      simp only [partsV] at h
      have := partsL_len l
      show l.length ≤ 1000000
      omega) (fun a ha => ownL1 hn l (by simp only [partsV] at h; omega) a ha)
theorem ownL1 (hn : Non ext) : (l : List T) → partsL l ≤ 1000000 → ∀ a ∈ l, ownE ext a
  | [], _, a, ha => by cases ha
  | v :: l, h, a, ha => by
    simp only [partsL] at h
    rcases List.mem_cons.1 ha with e | ha
    · rw [e]; exact ownV1 hn v (by omega)
    · exact ownL1 hn l (by omega) a ha
end
theorem townG (hn : Non ext) {v : T} (h : okB v = true) : ownE ext v := ownV1 hn v (by have := (okB_iff.1 h).2.2; omega)
end
end Go.Proofs.YtjfjagnnefmepaaDoor.AB
end

section
set_option linter.unusedVariables false
set_option linter.unusedSimpArgs false
open Go Go.Ab Go.Proofs Go.Vl
namespace Go.Proofs.YtjfjagnnefmepaaDoor.AB
set_option maxRecDepth 100000
set_option maxHeartbeats 8000000
set_option linter.unusedSimpArgs false
set_option linter.unusedVariables false
/-- what is put stands there, and what is put there then counts -/
theorem put_put (x y : T) : ∀ (p : List T) (v a : T), Good v → (∀ s ∈ p, Good s) → putF v p x = some a → ∃ c, putF v p y = some c ∧ putF a p y = some c ∧ atF a p = some x
  | [], v, a, hv, hp, h => by cases h; exact ⟨y, rfl, rfl, rfl⟩
  | s :: p, v, a, hv, hp, h => by
    have hs : Good s := hp s (by simp)
    have hp' : ∀ s' ∈ p, Good s' := fun s' h => hp s' (by simp [h])
    have ih := put_put x y p ((partF v s).getD nilT)
    have hog := old_good hv hs
    unfold putF at h
    by_cases h4 : v.f0 = 4
    · rw [if_pos h4] at h
      cases hi : idxF v.f3.length s with
      | some i =>
        rw [hi] at h
        simp only [Option.map_eq_some_iff] at h
        obtain ⟨w, hw, rfl⟩ := h
        obtain ⟨c, c1, c2, c3⟩ := ih w hog hp' hw
        have hb : i < v.f3.length := by
          unfold idxF at hi
          split at hi <;> cases hi
          omega
        have hl : (v.f3.set i w).length = v.f3.length := List.length_set
        have hx : partF ⟨4, 0, ⟨#[]⟩, v.f3.set i w⟩ s = some w := by
          unfold partF
          rw [if_neg (show ¬ (4 : Int) = 6 by decide), if_pos rfl]
          simp only [hl, hi]
          rw [List.getElem?_set_self (by omega)]
        refine ⟨⟨4, 0, ⟨#[]⟩, v.f3.set i c⟩, ?_, ?_, ?_⟩
        · unfold putF; rw [if_pos h4, hi]; simp only [c1, Option.map_some]
        · unfold putF; rw [if_pos rfl]; simp only [hl, hi, hx, Option.getD_some, c2, Option.map_some, List.set_set]
        · unfold atF; rw [hx]; exact c3
      | none =>
        rw [hi] at h
        simp only at h
        split at h
        · rename_i hc
          simp only [Option.map_eq_some_iff] at h
          obtain ⟨w, hw, rfl⟩ := h
          obtain ⟨c, c1, c2, c3⟩ := ih w hog hp' hw
          have hl : (v.f3 ++ [w]).length = v.f3.length + 1 := by simp
          have hi2 : idxF (v.f3.length + 1) s = some v.f3.length := by
            unfold idxF; rw [if_pos ⟨hc.1, by omega, by rw [hc.2]; omega⟩, hc.2]; simp
          have hx : partF ⟨4, 0, ⟨#[]⟩, v.f3 ++ [w]⟩ s = some w := by
            unfold partF
            rw [if_neg (show ¬ (4 : Int) = 6 by decide), if_pos rfl]
            simp only [hl, hi2]
            simp
          refine ⟨⟨4, 0, ⟨#[]⟩, v.f3 ++ [c]⟩, ?_, ?_, ?_⟩
          · unfold putF; rw [if_pos h4, hi]; simp only; rw [if_pos hc]; simp only [c1, Option.map_some]
          · unfold putF; rw [if_pos rfl]; simp only [hl, hi2, hx, Option.getD_some, c2, Option.map_some]
            simp
          · unfold atF; rw [hx]; exact c3
        · cases h
    · rw [if_neg h4] at h
      split at h
      · rename_i h06
        simp only [Option.map_eq_some_iff] at h
        obtain ⟨w, hw, rfl⟩ := h
        obtain ⟨c, c1, c2, c3⟩ := ih w hog hp' hw
        have hev : v.f3.length % 2 = 0 := by
          rcases h06 with h0 | h6
          · rw [hv.nil h0]; rfl
          · exact (OK.row (okB_iff.1 hv.ok)).2 h6
        obtain ⟨i1, i2, i3⟩ := ins_all v.f3 s w c hev
        have hx : partF ⟨6, 0, ⟨#[]⟩, insF v.f3 s w⟩ s = some w := by
          unfold partF
          rw [if_pos rfl, i1, if_pos rfl]; exact i3
        refine ⟨⟨6, 0, ⟨#[]⟩, insF v.f3 s c⟩, ?_, ?_, ?_⟩
        · unfold putF; rw [if_neg h4, if_pos h06]; simp only [c1, Option.map_some]
        · unfold putF; rw [if_neg (show ¬ (6 : Int) = 4 by decide), if_pos (.inr rfl)]; simp only [hx, Option.getD_some, c2, Option.map_some, i2]
        · unfold atF; rw [hx]; exact c3
      · cases h
section
variable {ext : Exts}
/-- paths.Get of what is right -/
theorem tGet (hn : Non ext) (h26 : E26 ext) (h73 : E73 ext) (v x : T) (p : List T) (hv : Good v) (hp : ∀ s ∈ p, Good s) (hl : p.length ≤ 16) (hx : atF v p = some x) : (cfg ext).Ev 13 [A v, .sl false (encL p) p.length] (.tup [A x, .bool true, .int .i64 0]) := by
  have h1 := t22 hn h26 h73 v hv.wf
  rw [if_pos hv.ok] at h1
  have h2 := tasked hn h26 h73 p (by omega) (fun s hs => (hp s hs).wf)
  have e2 : askZ p = 0 := by unfold askZ; rw [if_neg (by omega), if_pos (List.all_eq_true.2 fun s hs => (hp s hs).ok)]
  rw [e2] at h2
  have h3 := tat hn h26 v hv p (by omega) hp
  rw [hx] at h3
  have h4 : (cfg ext).Ev 37 [A x] (A x) := townG hn (at_good p hv hp hx).ok
  refine Ev.of (hn 13 (by decide) (by decide)) Tryd.func13 rfl rfl ?_
  conv => whnf
  refine ⟨_, h1, ?_⟩
  conv => whnf
  refine ⟨_, h2, ?_⟩
  conv => whnf
  refine ⟨_, h3, ?_⟩
  conv => whnf
  refine ⟨_, h4, ?_⟩
  conv => whnf
  rfl
end
end Go.Proofs.YtjfjagnnefmepaaDoor.AB
end

section
set_option linter.unusedVariables false
set_option linter.unusedSimpArgs false
open Go Go.Ab Go.Proofs Go.Vl Go.RowKit
namespace Go.Proofs.YtjfjagnnefmepaaDoor.AB
set_option maxRecDepth 100000
set_option maxHeartbeats 8000000
set_option linter.unusedSimpArgs false
set_option linter.unusedVariables false
mutual
theorem enc_inj : (a b : T) → enc a = enc b → a = b
  | ⟨a0, a1, a2, a3⟩, ⟨b0, b1, b2, b3⟩, h => by
    rw [enc_eq, enc_eq] at h
    simp only [List.cons.injEq, V.int.injEq, V.str.injEq, V.sl.injEq, true_and, and_true] at h
    obtain ⟨h0, h1, h2, h3, _⟩ := h
    have := encL_inj a3 b3 h3
    rw [h0, h1, h2, this]
theorem encL_inj : (l m : List T) → encL l = encL m → l = m
  | [], [], _ => rfl
  | [], b :: m, h => by have := congrArg List.length h; rw [encL_len, encL_len] at this; simp at this
  | a :: l, [], h => by have := congrArg List.length h; rw [encL_len, encL_len] at this; simp at this
  | a :: l, b :: m, h => by
    have e : enc a = enc b ∧ encL l = encL m := by
      have ha : (enc a).length = 4 := by rw [enc_eq]; rfl
      have hb : (enc b).length = 4 := by rw [enc_eq]; rfl
      have h' : enc a ++ encL l = enc b ++ encL m := h
      exact List.append_inj h' (by rw [ha, hb])
    rw [enc_inj a b e.1, encL_inj l m e.2]
end
theorem sndL : Sound (cfg ext0) LaidW := Sound.of LaidW.below mixed okf ext_ok extR_ok
/-- what Put hands to caught -/
def putCl (v : T) (p : List T) (x : T) : List V := [.fn 28 [.ptr (enc v) 0, .ptr [.sl false (encL p) p.length] 0, .ptr (enc x) 0]]
theorem putCl_inj {v v' x x' : T} {p p' : List T} (h : putCl v p x = putCl v' p' x') : v = v' ∧ p = p' ∧ x = x' := by
  simp only [putCl, List.cons.injEq, V.fn.injEq, V.ptr.injEq, V.sl.injEq, true_and, and_true] at h
  exact ⟨enc_inj _ _ h.1, encL_inj _ _ h.2.1.1, enc_inj _ _ h.2.2⟩
/-- what caught tells of it -/
noncomputable def putRes (v : T) (p : List T) (x : T) : V := match putF v p x with
  | none => .tup [A nilT, .int .i64 260]
  | some w => if okB w = true then .tup [A w, .int .i64 0] else .tup [A nilT, .int .i64 2]
theorem wf_mk {k : Int} {l : List T} (hk : In64 k) (hl : l.length ≤ 1000000) (h : ∀ a ∈ l, WfV a) : WfV ⟨k, 0, ⟨#[]⟩, l⟩ := by
  simp only [WfV]
  exact ⟨hk, by unfold In64; omega, Nat.zero_le _, by omega, wfL_of l h⟩
theorem put_wf : ∀ (p : List T) (v x w : T), Good v → (∀ s ∈ p, Good s) → WfV x → putF v p x = some w → WfV w
  | [], v, x, w, hv, hp, hx, h => by cases h; exact hx
  | s :: p, v, x, w, hv, hp, hx, h => by
    have hs : Good s := hp s (by simp)
    have hp' : ∀ s' ∈ p, Good s' := fun s' h => hp s' (by simp [h])
    have ih := fun u => put_wf p ((partF v s).getD nilT) x u (old_good hv hs) hp' hx
    have hlen := (OK.row (okB_iff.1 hv.ok)).1
    have hw := hv.row.wfl
    unfold putF at h
    by_cases h4 : v.f0 = 4
    · rw [if_pos h4] at h
      cases hi : idxF v.f3.length s with
      | some i =>
        rw [hi] at h
        simp only [Option.map_eq_some_iff] at h
        obtain ⟨u, hu, rfl⟩ := h
        refine wf_mk (by unfold In64; omega) (by rw [List.length_set]; omega) (fun a ha => ?_)
        rcases List.mem_or_eq_of_mem_set ha with h | rfl
        · exact hw a h
        · exact ih a hu
      | none =>
        rw [hi] at h
        simp only at h
        split at h
        · simp only [Option.map_eq_some_iff] at h
          obtain ⟨u, hu, rfl⟩ := h
          refine wf_mk (by unfold In64; omega) (by rw [List.length_append]; show v.f3.length + 1 ≤ _; omega) (fun a ha => ?_)
          rcases List.mem_append.1 ha with h | h
          · exact hw a h
          · rw [List.mem_singleton.1 h]; exact ih u hu
        · cases h
    · rw [if_neg h4] at h
      split at h
      · simp only [Option.map_eq_some_iff] at h
        obtain ⟨u, hu, rfl⟩ := h
        unfold insF
        split
        · refine wf_mk (by unfold In64; omega) (by rw [List.length_set]; omega) (fun a ha => ?_)
          rcases List.mem_or_eq_of_mem_set ha with h | rfl
          · exact hw a h
          · exact ih a hu
        · refine wf_mk (by unfold In64; omega) (by simp; omega) (fun a ha => ?_)
          rcases List.mem_append.1 ha with h | h
          · rcases List.mem_append.1 h with h | h
            · exact hw a (List.mem_of_mem_take h)
            · simp only [List.mem_cons, List.not_mem_nil, or_false] at h
              rcases h with rfl | rfl
              · exact hs.wf
              · exact ih a hu
          · exact hw a (List.mem_of_mem_drop h)
      · cases h
theorem caughtPut (v x : T) (p : List T) (hv : Good v) (hp : ∀ s ∈ p, Good s) (hx : WfV x) : PureC Tryd.prog LaidW 27 (putCl v p x) (putRes v p x) := by
  have hz : fzPL (fzP 6) [.ptr (enc v) 0, .ptr [.sl false (encL p) p.length] 0, .ptr (enc x) 0] = some [.ptr (enc v) 0, .ptr [.sl false (encL p) p.length] 0, .ptr (enc x) 0] := rfl
  unfold putRes
  cases h : putF v p x with
  | none => exact caught_pan sndL ⟨_, Tryd.func28, rfl, by decide⟩ hz (tpan1c sndL non0 e26 x v p hv hp h)
  | some w =>
    have hE := tput1 (ext := ext0) non0 e26 x v w p hv hp h
    have hC := t22 non0 e26 e73 w (put_wf p v x w hv hp hx h)
    have := caught_ok sndL (e := if okB w = true then 0 else 3) rfl hz hE hC (fun h0 => townG non0 (by by_cases hk : okB w = true; exact hk; rw [if_neg hk] at h0; cases h0))
    by_cases hk : okB w = true
    · simp only [hk, if_true] at this ⊢; exact this
    · simp only [hk, if_false, Bool.false_eq_true] at this ⊢
      exact this
/-- what is walked above -/
def upL : List Nat := [9, 12, 4, 3, 7, 5, 6, 8, 1000000, 23, 15, 17, 25, 1000000]
def upF (f : Nat) : Bool := upL.any fun k => Nat.beq f k && Nat.blt k 1000000
abbrev CT := Tab Tryd.prog LaidW
/-- the upper configuration: what lies below is as the lower one says, caught as a table says -/
noncomputable def cfgU (T : CT) : Cfg := ((Tab.of sndL).with 27 T).cfg upF
theorem up {T : CT} {f : Nat} {av : List V} {r : V} (hf : upF f = false) (hc : f ≠ 27) (h : (cfg ext0).Ev f av r) : (cfgU T).Ev f av r := Tab.ev hf (Tab.with_ne hc h)
theorem upC {T : CT} {av : List V} {r : V} (h : T.ok 27 av r) : (cfgU T).Ev 27 av r := Tab.ev (by decide) (Tab.with_at h)
theorem hnU {T : CT} {f : Nat} (h : upF f = true) : (cfgU T).ext f = none := Tab.none h
theorem upL_ok : (upL.all fun k => !(Nat.blt k 1000000) || okF k) = true := by decide
theorem upF_ok : ∀ f, upF f = true → okF f = true := by
  intro f h
  obtain ⟨k, hk, h⟩ := List.any_eq_true.1 h
  simp only [Bool.and_eq_true] at h
  have e := Nat.eq_of_beq_eq_true h.1
  have h1 := List.all_eq_true.1 upL_ok k hk
  rw [h.2] at h1
  rw [e]
  simpa using h1
theorem sndU (T : CT) : Sound (cfgU T) LaidW := Tab.sound _ LaidW.below mixed (okf.sub upF_ok)
/-- the table of Put -/
noncomputable def putT : CT := ⟨fun f a r => f = 27 ∧ ∃ (v x : T) (p : List T), (Good v ∧ (∀ s ∈ p, Good s) ∧ WfV x) ∧ a = putCl v p x ∧ r = putRes v p x, fun f a r r' h h' => by
  obtain ⟨_, v, x, p, _, rfl, rfl⟩ := h
  obtain ⟨_, v', x', p', _, h1, rfl⟩ := h'
  obtain ⟨rfl, rfl, rfl⟩ := putCl_inj h1
  rfl, fun f a r h => by
  obtain ⟨rfl, v, x, p, ⟨h1, h2, h3⟩, rfl, rfl⟩ := h
  exact ⟨⟨_, Tryd.func27, rfl, by decide⟩, caughtPut v x p h1 h2 h3⟩⟩
/-- a table that speaks of Put -/
def PutT (T : CT) : Prop := ∀ (v x : Go.Vl.T) (p : List Go.Vl.T), Good v → (∀ s ∈ p, Good s) → WfV x → T.ok 27 (putCl v p x) (putRes v p x)
theorem putT_put : PutT putT := fun v x p h1 h2 h3 => ⟨rfl, v, x, p, ⟨h1, h2, h3⟩, rfl, rfl⟩
end Go.Proofs.YtjfjagnnefmepaaDoor.AB
end

section
set_option linter.unusedVariables false
set_option linter.unusedSimpArgs false
open Go Go.Ab Go.Proofs Go.Vl Go.RowKit
namespace Go.Proofs.YtjfjagnnefmepaaDoor.AB
set_option maxRecDepth 100000
set_option maxHeartbeats 8000000
set_option linter.unusedSimpArgs false
set_option linter.unusedVariables false
theorem cl_eq (v x : T) (p : List T) : putCl v p x = [.fn 28 [.ptr [.int .i64 v.f0, .int .i64 v.f1, .str v.f2, .sl false (encL v.f3) v.f3.length] 0, .ptr [.sl false (encL p) p.length] 0, .ptr [.int .i64 x.f0, .int .i64 x.f1, .str x.f2, .sl false (encL x.f3) x.f3.length] 0]] := by
  unfold putCl; rw [enc_eq, enc_eq]
/-- what Put tells -/
noncomputable def putAll (v : T) (p : List T) (x : T) : V :=
  if okB v = true then if askZ p = 0 then if okB x = true then putRes v p x else .tup [A nilT, .int .i64 3] else .tup [A nilT, .int .i64 (askZ p)] else .tup [A nilT, .int .i64 3]
theorem ask0 {p : List T} (h : askZ p = 0) : p.length ≤ 16 ∧ ∀ s ∈ p, okB s = true := by
  unfold askZ at h
  split at h
  · cases h
  · split at h
    · rename_i h1 h2; exact ⟨by omega, List.all_eq_true.1 h2⟩
    · cases h
theorem askn {p : List T} (h : askZ p ≠ 0) : askZ p = 2 ∨ askZ p = 3 := by
  unfold askZ at h ⊢
  split
  · exact .inl rfl
  · rename_i h1
    rw [if_neg h1] at h
    split
    · rename_i h2; rw [if_pos h2] at h; exact absurd rfl h
    · exact .inr rfl
theorem putRes_tup (v x : T) (p : List T) : ∃ (u : T) (e : Int), putRes v p x = .tup [A u, .int .i64 e] := by
  unfold putRes
  split
  · exact ⟨_, _, rfl⟩
  · split <;> exact ⟨_, _, rfl⟩
section
variable {T : CT}
theorem tPut (hT : PutT T) (v x : Go.Vl.T) (p : List Go.Vl.T) (hv : WfV v) (hp : ∀ s ∈ p, WfV s) (hx : WfV x) (hl : p.length ≤ 9223372036854775807) : (cfgU T).Ev 9 [A v, .sl false (encL p) p.length, A x] (putAll v p x) := by
  have h1 := up (T := T) (by decide) (by decide) (t22 non0 e26 e73 v hv)
  have h2 := up (T := T) (by decide) (by decide) (tasked non0 e26 e73 p hl hp)
  have h3 := up (T := T) (by decide) (by decide) (t22 non0 e26 e73 x hx)
  unfold putAll
  by_cases hv' : okB v = true
  · rw [if_pos hv'] at h1 ⊢
    by_cases ha : askZ p = 0
    · rw [if_pos ha]
      rw [ha] at h2
      by_cases hx' : okB x = true
      · rw [if_pos hx'] at h3 ⊢
        have h4 := upC (hT v x p ⟨hv, hv'⟩ (fun s hs => ⟨hp s hs, (ask0 ha).2 s hs⟩) hx)
        rw [cl_eq] at h4
        obtain ⟨u, e, hu⟩ := putRes_tup v x p
        rw [hu] at h4 ⊢
        refine Ev.of (hnU (by decide)) Tryd.func9 rfl rfl ?_
        conv => whnf
        repeat (first
          | (refine sel_yes ?_ ?_; (first | assumption | (simp only [beq_iff_eq, bne_iff_ne, beq_eq_false_iff_ne, bne_eq_false_iff_eq, decide_eq_true_eq, decide_eq_false_iff_not, Bool.not_eq_true', Bool.not_eq_false', ne_eq, beq_true, beq_false, bne_self_eq_false, not_true_eq_false, not_false_eq_true, gt_iff_lt, ge_iff_le, Int.not_lt, Int.not_le, Bool.true_eq_false, Bool.false_eq_true] <;> omega)); conv => whnf)
          | (refine sel_no ?_ ?_; (first | assumption | (simp only [beq_iff_eq, bne_iff_ne, beq_eq_false_iff_ne, bne_eq_false_iff_eq, decide_eq_true_eq, decide_eq_false_iff_not, Bool.not_eq_true', Bool.not_eq_false', ne_eq, beq_true, beq_false, bne_self_eq_false, not_true_eq_false, not_false_eq_true, gt_iff_lt, ge_iff_le, Int.not_lt, Int.not_le, Bool.true_eq_false, Bool.false_eq_true] <;> omega)); conv => whnf)
          | (refine ⟨_, h1, ?_⟩; conv => whnf)
          | (refine ⟨_, h2, ?_⟩; conv => whnf)
          | (refine ⟨_, h3, ?_⟩; conv => whnf)
          | (refine ⟨_, h4, ?_⟩; conv => whnf)
          | (refine ⟨le_rfl' ?_, ?_⟩; rfl; conv => whnf)
          | (refine ⟨⟨?_, ?_⟩, ?_⟩; omega; omega; conv => whnf)
          | (refine ⟨⟨?_, ?_, ?_⟩, ?_⟩; rfl; omega; omega; conv => whnf)
          | (refine ⟨rfl, ?_, ?_⟩; decide; conv => whnf))
        try exact rfl
      · rw [if_neg hx'] at h3 ⊢
        refine Ev.of (hnU (by decide)) Tryd.func9 rfl rfl ?_
        conv => whnf
        repeat (first
          | (refine sel_yes ?_ ?_; (first | assumption | (simp only [beq_iff_eq, bne_iff_ne, beq_eq_false_iff_ne, bne_eq_false_iff_eq, decide_eq_true_eq, decide_eq_false_iff_not, Bool.not_eq_true', Bool.not_eq_false', ne_eq, beq_true, beq_false, bne_self_eq_false, not_true_eq_false, not_false_eq_true, gt_iff_lt, ge_iff_le, Int.not_lt, Int.not_le, Bool.true_eq_false, Bool.false_eq_true] <;> omega)); conv => whnf)
          | (refine sel_no ?_ ?_; (first | assumption | (simp only [beq_iff_eq, bne_iff_ne, beq_eq_false_iff_ne, bne_eq_false_iff_eq, decide_eq_true_eq, decide_eq_false_iff_not, Bool.not_eq_true', Bool.not_eq_false', ne_eq, beq_true, beq_false, bne_self_eq_false, not_true_eq_false, not_false_eq_true, gt_iff_lt, ge_iff_le, Int.not_lt, Int.not_le, Bool.true_eq_false, Bool.false_eq_true] <;> omega)); conv => whnf)
          | (refine ⟨_, h1, ?_⟩; conv => whnf)
          | (refine ⟨_, h2, ?_⟩; conv => whnf)
          | (refine ⟨_, h3, ?_⟩; conv => whnf)
          | (refine ⟨le_rfl' ?_, ?_⟩; rfl; conv => whnf)
          | (refine ⟨⟨?_, ?_⟩, ?_⟩; omega; omega; conv => whnf)
          | (refine ⟨⟨?_, ?_, ?_⟩, ?_⟩; rfl; omega; omega; conv => whnf)
          | (refine ⟨rfl, ?_, ?_⟩; decide; conv => whnf))
        try exact rfl
    · rw [if_neg ha]
      rcases askn ha with e | e
      all_goals rw [e] at h2 ⊢
      all_goals refine Ev.of (hnU (by decide)) Tryd.func9 rfl rfl ?_
      · conv => whnf
        repeat (first
          | (refine sel_yes ?_ ?_; (first | assumption | (simp only [beq_iff_eq, bne_iff_ne, beq_eq_false_iff_ne, bne_eq_false_iff_eq, decide_eq_true_eq, decide_eq_false_iff_not, Bool.not_eq_true', Bool.not_eq_false', ne_eq, beq_true, beq_false, bne_self_eq_false, not_true_eq_false, not_false_eq_true, gt_iff_lt, ge_iff_le, Int.not_lt, Int.not_le, Bool.true_eq_false, Bool.false_eq_true] <;> omega)); conv => whnf)
          | (refine sel_no ?_ ?_; (first | assumption | (simp only [beq_iff_eq, bne_iff_ne, beq_eq_false_iff_ne, bne_eq_false_iff_eq, decide_eq_true_eq, decide_eq_false_iff_not, Bool.not_eq_true', Bool.not_eq_false', ne_eq, beq_true, beq_false, bne_self_eq_false, not_true_eq_false, not_false_eq_true, gt_iff_lt, ge_iff_le, Int.not_lt, Int.not_le, Bool.true_eq_false, Bool.false_eq_true] <;> omega)); conv => whnf)
          | (refine ⟨_, h1, ?_⟩; conv => whnf)
          | (refine ⟨_, h2, ?_⟩; conv => whnf)
          | (refine ⟨_, h3, ?_⟩; conv => whnf)
          | (refine ⟨le_rfl' ?_, ?_⟩; rfl; conv => whnf)
          | (refine ⟨⟨?_, ?_⟩, ?_⟩; omega; omega; conv => whnf)
          | (refine ⟨⟨?_, ?_, ?_⟩, ?_⟩; rfl; omega; omega; conv => whnf)
          | (refine ⟨rfl, ?_, ?_⟩; decide; conv => whnf))
        try exact rfl
      · conv => whnf
        repeat (first
          | (refine sel_yes ?_ ?_; (first | assumption | (simp only [beq_iff_eq, bne_iff_ne, beq_eq_false_iff_ne, bne_eq_false_iff_eq, decide_eq_true_eq, decide_eq_false_iff_not, Bool.not_eq_true', Bool.not_eq_false', ne_eq, beq_true, beq_false, bne_self_eq_false, not_true_eq_false, not_false_eq_true, gt_iff_lt, ge_iff_le, Int.not_lt, Int.not_le, Bool.true_eq_false, Bool.false_eq_true] <;> omega)); conv => whnf)
          | (refine sel_no ?_ ?_; (first | assumption | (simp only [beq_iff_eq, bne_iff_ne, beq_eq_false_iff_ne, bne_eq_false_iff_eq, decide_eq_true_eq, decide_eq_false_iff_not, Bool.not_eq_true', Bool.not_eq_false', ne_eq, beq_true, beq_false, bne_self_eq_false, not_true_eq_false, not_false_eq_true, gt_iff_lt, ge_iff_le, Int.not_lt, Int.not_le, Bool.true_eq_false, Bool.false_eq_true] <;> omega)); conv => whnf)
          | (refine ⟨_, h1, ?_⟩; conv => whnf)
          | (refine ⟨_, h2, ?_⟩; conv => whnf)
          | (refine ⟨_, h3, ?_⟩; conv => whnf)
          | (refine ⟨le_rfl' ?_, ?_⟩; rfl; conv => whnf)
          | (refine ⟨⟨?_, ?_⟩, ?_⟩; omega; omega; conv => whnf)
          | (refine ⟨⟨?_, ?_, ?_⟩, ?_⟩; rfl; omega; omega; conv => whnf)
          | (refine ⟨rfl, ?_, ?_⟩; decide; conv => whnf))
        try exact rfl
  · rw [if_neg hv'] at h1 ⊢
    refine Ev.of (hnU (by decide)) Tryd.func9 rfl rfl ?_
    conv => whnf
    repeat (first
      | (refine sel_yes ?_ ?_; (first | assumption | (simp only [beq_iff_eq, bne_iff_ne, beq_eq_false_iff_ne, bne_eq_false_iff_eq, decide_eq_true_eq, decide_eq_false_iff_not, Bool.not_eq_true', Bool.not_eq_false', ne_eq, beq_true, beq_false, bne_self_eq_false, not_true_eq_false, not_false_eq_true, gt_iff_lt, ge_iff_le, Int.not_lt, Int.not_le, Bool.true_eq_false, Bool.false_eq_true] <;> omega)); conv => whnf)
      | (refine sel_no ?_ ?_; (first | assumption | (simp only [beq_iff_eq, bne_iff_ne, beq_eq_false_iff_ne, bne_eq_false_iff_eq, decide_eq_true_eq, decide_eq_false_iff_not, Bool.not_eq_true', Bool.not_eq_false', ne_eq, beq_true, beq_false, bne_self_eq_false, not_true_eq_false, not_false_eq_true, gt_iff_lt, ge_iff_le, Int.not_lt, Int.not_le, Bool.true_eq_false, Bool.false_eq_true] <;> omega)); conv => whnf)
      | (refine ⟨_, h1, ?_⟩; conv => whnf)
      | (refine ⟨le_rfl' ?_, ?_⟩; rfl; conv => whnf)
      | (refine ⟨⟨?_, ?_⟩, ?_⟩; omega; omega; conv => whnf)
      | (refine ⟨⟨?_, ?_, ?_⟩, ?_⟩; rfl; omega; omega; conv => whnf)
      | (refine ⟨rfl, ?_, ?_⟩; decide; conv => whnf))
    try exact rfl
end
end Go.Proofs.YtjfjagnnefmepaaDoor.AB
end

section
set_option linter.unusedVariables false
set_option linter.unusedSimpArgs false
open Go Go.Ab Go.Proofs Go.Vl Go.RowKit
namespace Go.Proofs.YtjfjagnnefmepaaDoor.AB
set_option maxRecDepth 100000
set_option maxHeartbeats 8000000
set_option linter.unusedSimpArgs false
set_option linter.unusedVariables false
def pA : T := ⟨3, 0, ⟨#[97]⟩, []⟩
def pB : T := ⟨3, 0, ⟨#[98]⟩, []⟩
def p1 : T := ⟨2, 1, ⟨#[]⟩, []⟩
def p3 : T := ⟨2, 3, ⟨#[]⟩, []⟩
def pL : T := ⟨4, 0, ⟨#[]⟩, []⟩
def pM : T := ⟨6, 0, ⟨#[]⟩, [pA, ⟨6, 0, ⟨#[]⟩, [pB, p1]⟩]⟩
section
variable {ext : Exts}
theorem tText (hn : Non ext) (s : ByteArray) : (cfg ext).Ev 34 [.str s] (A ⟨3, 0, s, []⟩) := by
  refine Ev.of (hn 34 (by decide) (by decide)) Tryd.func34 rfl rfl ?_
  conv => whnf
  rfl
theorem tInt (hn : Non ext) (n : Int) : (cfg ext).Ev 35 [.int .i64 n] (A ⟨2, n, ⟨#[]⟩, []⟩) := by
  refine Ev.of (hn 35 (by decide) (by decide)) Tryd.func35 rfl rfl ?_
  conv => whnf
  rfl
end
theorem u_A : utfB ⟨#[97]⟩ = true := by kernel_rfl
theorem u_B : utfB ⟨#[98]⟩ = true := by kernel_rfl
theorem z_1 (b : UInt8) : (⟨#[b]⟩ : ByteArray).size = 1 := rfl
theorem z_0 : (⟨#[]⟩ : ByteArray).size = 0 := rfl
theorem k_nil : okB nilT = true := by
  rw [okB_iff]
  simp [OK, OkV, OkL, FormV, PlainV, deepV, deepL, partsV, partsL, Rise, nilT, pA, pB, p1, p3, pL, pM, u_A, u_B, z_1, z_0]
theorem k_A : okB pA = true := by
  rw [okB_iff]
  simp [OK, OkV, OkL, FormV, PlainV, deepV, deepL, partsV, partsL, Rise, nilT, pA, pB, p1, p3, pL, pM, u_A, u_B, z_1, z_0]
theorem k_B : okB pB = true := by
  rw [okB_iff]
  simp [OK, OkV, OkL, FormV, PlainV, deepV, deepL, partsV, partsL, Rise, nilT, pA, pB, p1, p3, pL, pM, u_A, u_B, z_1, z_0]
theorem k_1 : okB p1 = true := by
  rw [okB_iff]
  simp [OK, OkV, OkL, FormV, PlainV, deepV, deepL, partsV, partsL, Rise, nilT, pA, pB, p1, p3, pL, pM, u_A, u_B, z_1, z_0]
theorem k_3 : okB p3 = true := by
  rw [okB_iff]
  simp [OK, OkV, OkL, FormV, PlainV, deepV, deepL, partsV, partsL, Rise, nilT, pA, pB, p1, p3, pL, pM, u_A, u_B, z_1, z_0]
theorem k_L : okB pL = true := by
  rw [okB_iff]
  simp [OK, OkV, OkL, FormV, PlainV, deepV, deepL, partsV, partsL, Rise, nilT, pA, pB, p1, p3, pL, pM, u_A, u_B, z_1, z_0]
theorem k_M : okB pM = true := by
  rw [okB_iff]
  simp [OK, OkV, OkL, FormV, PlainV, deepV, deepL, partsV, partsL, Rise, nilT, pA, pB, p1, p3, pL, pM, u_A, u_B, z_1, z_0]
  exact ⟨fun i _ h => absurd h (by omega), fun i _ h => absurd h (by omega)⟩
theorem k_put : putF nilT [pA, pB] p1 = some pM := by kernel_rfl
theorem k_at : atF pM [pA, pB] = some p1 := by kernel_rfl
theorem k_pan : putF pL [p3] pA = none := by kernel_rfl
theorem w_nil : WfV nilT := by simp [nilT, WfV, WfL, In64, z_0]
theorem w_A : WfV pA := by simp [pA, WfV, WfL, In64, z_0, z_1]
theorem w_B : WfV pB := by simp [pB, WfV, WfL, In64, z_0, z_1]
theorem w_1 : WfV p1 := by simp [p1, WfV, WfL, In64, z_0, z_1]
theorem w_3 : WfV p3 := by simp [p3, WfV, WfL, In64, z_0, z_1]
theorem w_L : WfV pL := by simp [pL, WfV, WfL, In64, z_0, z_1]
theorem w_M : WfV pM := by simp [pM, pA, pB, p1, WfV, WfL, In64, z_0, z_1]
section
variable {T : CT}
theorem s_put1 (hT : PutT T) : (cfgU T).Ev 9 [A nilT, .sl false (encL [pA, pB]) 2, A p1] (.tup [A pM, .int .i64 0]) := by
  have h := tPut hT nilT p1 [pA, pB] w_nil (by simp [w_A, w_B]) w_1 (by decide)
  have e : putAll nilT [pA, pB] p1 = .tup [A pM, .int .i64 0] := by
    have a : askZ [pA, pB] = 0 := by simp [askZ, k_A, k_B]
    unfold putAll putRes
    rw [if_pos k_nil, if_pos a, if_pos k_1, k_put]
    simp only [k_M, if_true]
  rw [e] at h
  exact h
theorem s_put2 (hT : PutT T) : (cfgU T).Ev 9 [A pL, .sl false (encL [p3]) 1, A pA] (.tup [A nilT, .int .i64 260]) := by
  have h := tPut hT pL pA [p3] w_L (by simp [w_3]) w_A (by decide)
  have e : putAll pL [p3] pA = .tup [A nilT, .int .i64 260] := by
    have a : askZ [p3] = 0 := by simp [askZ, k_3]
    unfold putAll putRes
    rw [if_pos k_L, if_pos a, if_pos k_A, k_pan]
  rw [e] at h
  exact h
theorem s_get : (cfgU T).Ev 13 [A pM, .sl false (encL [pA, pB]) 2] (.tup [A p1, .bool true, .int .i64 0]) :=
  up (T := T) (by decide) (by decide) (tGet non0 e26 e73 pM p1 [pA, pB] ⟨w_M, k_M⟩ (by simp; exact ⟨⟨w_A, k_A⟩, ⟨w_B, k_B⟩⟩) (by decide) k_at)
theorem speaks26 (hT : PutT T) : (cfgU T).Ev 12 [] (.bool true) := by
  have h1 := up (T := T) (by decide) (by decide) (tText non0 ⟨#[97]⟩)
  have h2 := up (T := T) (by decide) (by decide) (tText non0 ⟨#[98]⟩)
  have h3 := up (T := T) (by decide) (by decide) (tInt non0 1)
  have h4 := up (T := T) (by decide) (by decide) (tInt non0 3)
  have h5 := s_put1 hT
  have h6 := s_put2 hT
  have h7 := s_get (T := T)
  refine Ev.of (hnU (by decide)) Tryd.func12 rfl rfl ?_
  conv => whnf
  repeat (first
    | (refine sel_yes ?_ ?_; (first | assumption | (simp only [beq_iff_eq, bne_iff_ne, beq_eq_false_iff_ne, bne_eq_false_iff_eq, decide_eq_true_eq, decide_eq_false_iff_not, Bool.not_eq_true', Bool.not_eq_false', ne_eq, beq_true, beq_false, bne_self_eq_false, not_true_eq_false, not_false_eq_true, gt_iff_lt, ge_iff_le, Int.not_lt, Int.not_le, Bool.true_eq_false, Bool.false_eq_true] <;> omega)); conv => whnf)
    | (refine sel_no ?_ ?_; (first | assumption | (simp only [beq_iff_eq, bne_iff_ne, beq_eq_false_iff_ne, bne_eq_false_iff_eq, decide_eq_true_eq, decide_eq_false_iff_not, Bool.not_eq_true', Bool.not_eq_false', ne_eq, beq_true, beq_false, bne_self_eq_false, not_true_eq_false, not_false_eq_true, gt_iff_lt, ge_iff_le, Int.not_lt, Int.not_le, Bool.true_eq_false, Bool.false_eq_true] <;> omega)); conv => whnf)
    | (refine ⟨_, h1, ?_⟩; conv => whnf)
    | (refine ⟨_, h2, ?_⟩; conv => whnf)
    | (refine ⟨_, h3, ?_⟩; conv => whnf)
    | (refine ⟨_, h4, ?_⟩; conv => whnf)
    | (refine ⟨_, h5, ?_⟩; conv => whnf)
    | (refine ⟨_, h6, ?_⟩; conv => whnf)
    | (refine ⟨_, h7, ?_⟩; conv => whnf)
    | (refine ⟨le_rfl' ?_, ?_⟩; rfl; conv => whnf)
    | (refine ⟨⟨?_, ?_⟩, ?_⟩; omega; omega; conv => whnf)
    | (refine ⟨⟨?_, ?_, ?_⟩, ?_⟩; rfl; omega; omega; conv => whnf)
    | (refine ⟨rfl, ?_, ?_⟩; decide; conv => whnf))
  try exact rfl
end
/-- what the upper configuration says of a law, the machine does -/
theorem evT_calls {T : CT} {f : Nat} {vs : List V} (h : (cfgU T).Ev f vs (.bool true)) (W : World) (hT : LaidW W) (xs : Array Value) (hv : VRs (stab (inW W)) W vs xs.toList) :
    Calls Tryd.prog f xs W fun e w' => e = .returned (.bool true) ∧ Below W.heap.size W w' := by
  obtain ⟨K, hK⟩ := h.out
  refine ((((sndU T).env K).call _ _ _ (hK K (Nat.le_refl _))).2 (inW W) W xs hT (fun r o h => h) hv).mono ?_
  rintro e w' ⟨x, S', rfl, hb, _, _, hx⟩
  exact ⟨by rw [show x = .bool true from hx], hb⟩
theorem tup2 {u u' : T} {e e' : Int} (h : V.tup [A u, .int .i64 e] = .tup [A u', .int .i64 e']) : u = u' ∧ e = e' := by
  simp only [V.tup.injEq, List.cons.injEq, V.int.injEq, true_and, and_true] at h
  exact ⟨enc_inj _ _ (by rw [enc_eq, enc_eq]; exact (V.agg.inj h.1)), h.2⟩
theorem putAll_tup (v x : T) (p : List T) : ∃ (u : T) (e : Int), putAll v p x = .tup [A u, .int .i64 e] := by
  unfold putAll
  split
  · split
    · split
      · exact putRes_tup v x p
      · exact ⟨_, _, rfl⟩
    · exact ⟨_, _, rfl⟩
  · exact ⟨_, _, rfl⟩

end Go.Proofs.YtjfjagnnefmepaaDoor.AB
end
