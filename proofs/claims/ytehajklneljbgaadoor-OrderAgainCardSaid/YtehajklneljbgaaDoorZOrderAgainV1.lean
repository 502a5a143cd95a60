/- What OrderAgain is proved with: what the program's functions make of their arguments, by the evaluator. -/
import Derived.Test.YtehajklneljbgaaDoorZOrderAgainV0
import Derived.Test.YtehajklneljbgaaDoorZOrderAgainA1
section
set_option linter.unusedVariables false
set_option linter.unusedSimpArgs false
open Go Go.Ab Go.Proofs Go.Vl
namespace Go.Proofs.YtehajklneljbgaaDoor.AB
set_option maxRecDepth 100000
set_option maxHeartbeats 16000000
set_option linter.unusedSimpArgs false
set_option linter.unusedVariables false
theorem xseq {C : Cfg} {a b c : Code} {s : St} {Q : Ex → St → Prop} (e : c = .seq a b) (h : xCode C a s fun ex s' => match ex with | .normal => xCode C b s' Q | .exit i => Q (.exit i) s' | .ret => Q .ret s') : xCode C c s Q := by subst e; exact h
section
variable {ext : Exts}
theorem smRegEnd (o : Nat) (N b v : Nat) (cap : Option Nat) (L : List T) (e1 e2 e3 e18 e19 e20 e24 : Int) (h24 : IntKind.i64.wrap (e19 - e20) = e24) (z : St) (K : Ex → St → Prop)
    (ht : Has z.t [(0, .rsl false b v 0 N), (1, .int .i64 e1), (2, .int .i64 e2), (3, .int .i64 e3), (4, rowOf o), (18, .int .i64 e18), (19, .int .i64 e19), (20, .int .i64 e20)]) (ha : z.hp.a b = some ⟨v, 4, encL L, cap, 0⟩) (hb : b < z.hp.m)
    (hq : ∀ (z' : St), Has z'.t [(0, .rsl false b v 0 N), (1, .int .i64 e1), (2, .int .i64 e2), (3, .int .i64 e3), (4, rowOf o), (18, .int .i64 e18), (20, .int .i64 e20), (24, .int .i64 e24)] → z'.hp.a b = some ⟨v, 4, encL L, cap, 0⟩ → b < z'.hp.m → K .normal z') :
    xCode (cfg ext) (atP (bodyOf Tryd.f47) [true, true, true, true, true, true, true, true, false]) z K := by
  rw [St.knows _ z.hp.n ht rfl]
  conv => whnf
  refine hq _ ⟨rfl, rfl, rfl, rfl, rfl, rfl, rfl, ?_, trivial⟩ ha (Nat.lt_of_lt_of_le hb (by (conv => lhs; whnf); (repeat ((conv => rhs; whnf); first | with_reducible exact Nat.le_refl _ | refine Nat.le_trans ?_ (Nat.le_add_right _ _) | refine Nat.le_succ_of_le ?_ | exact Nat.le_refl _))))
  conv => lhs; whnf
  exact vi h24
theorem smEnd (o : Nat) (h5 : o ≤ 5) (N b v : Nat) (hN : N ≤ 65536) (cap : Option Nat) (p X1 X2 Y1 Y2 s : List T) (mid nn : Int) (hmid : mid = ((p.length + X1.length + Y1.length : Nat) : Int)) (hnn : IntKind.i64.wrap (nn - ((p.length + X1.length : Nat) : Int)) = ((p.length + X1.length + X2.length + Y1.length : Nat) : Int))
    (hG : Gd (p ++ X1 ++ X2 ++ Y1 ++ Y2 ++ s)) (hlen : (p ++ X1 ++ X2 ++ Y1 ++ Y2 ++ s).length = N) (sX : Le (ordF ext o) (X1 ++ X2)) (sY : Le (ordF ext o) (Y1 ++ Y2)) (hb1 : ∀ a b, X1.getLast? = some a → Y2.head? = some b → ordF ext o a b ≤ 0) (hb2 : ∀ a b, Y1.getLast? = some a → X2.head? = some b → ordF ext o a b ≤ 0)
    (ih1 : SM ext o X1 Y1) (ih2 : SM ext o X2 Y2) (z : St) (K : Ex → St → Prop)
    (ht : Has z.t [(0, .rsl false b v 0 N), (1, .int .i64 p.length), (2, .int .i64 ((p.length + X1.length + X2.length : Nat) : Int)), (3, .int .i64 ((p.length + X1.length + X2.length + Y1.length + Y2.length : Nat) : Int)), (4, rowOf o), (18, .int .i64 mid), (19, .int .i64 nn), (20, .int .i64 ((p.length + X1.length : Nat) : Int))])
    (ha : z.hp.a b = some ⟨v, 4, encL (p ++ X1 ++ X2 ++ Y1 ++ Y2 ++ s), cap, 0⟩) (hb : b < z.hp.m)
    (hq : ∀ (z' : St) (Z : List T), Le (ordF ext o) Z → Z.Perm (X1 ++ X2 ++ (Y1 ++ Y2)) → z'.hp.a b = some ⟨v, 4, encL (p ++ Z ++ s), cap, 0⟩ → b < z'.hp.m → K .normal z') :
    xCode (cfg ext) (atP (bodyOf Tryd.f47) [true, true, true, true, true, true, true, true]) z K := by
  subst hmid
  refine xseq (a := atP (bodyOf Tryd.f47) [true, true, true, true, true, true, true, true, false]) (b := atP (bodyOf Tryd.f47) [true, true, true, true, true, true, true, true, true]) rfl ?_
  refine smRegEnd o N b v cap _ _ _ _ _ _ _ _ hnn z _ ht ha hb (fun z1 ht1 ha1 hb1' => ?_)
  have e1 : p ++ X1 ++ X2 ++ Y1 ++ Y2 ++ s = (p ++ X1) ++ X2 ++ Y1 ++ (Y2 ++ s) := by simp
  have e2 : (p ++ X1) ++ Y1 ++ X2 ++ (Y2 ++ s) = p ++ X1 ++ Y1 ++ (X2 ++ Y2 ++ s) := by simp
  have el : (p ++ X1).length = p.length + X1.length := List.length_append
  rw [e1] at ha1 hlen
  rw [← el] at ht1
  refine xseq (a := atP (bodyOf Tryd.f47) [true, true, true, true, true, true, true, true, true, false]) (b := atP (bodyOf Tryd.f47) [true, true, true, true, true, true, true, true, true, true]) rfl ?_
  refine smRot o h5 N b v hN cap (p ++ X1) X2 Y1 (Y2 ++ s) _ _ _ hlen z1 _ ht1 ha1 hb1' (fun z2 ht2 ha2 hb2' => ?_)
  rw [e2] at ha2
  rw [el] at ht2
  have n3 : p.length + X1.length + Y1.length + X2.length + Y2.length = p.length + X1.length + X2.length + Y1.length + Y2.length := by omega
  have n24 : p.length + X1.length + Y1.length + X2.length = p.length + X1.length + X2.length + Y1.length := by omega
  have sX' := List.pairwise_append.1 sX
  have sY' := List.pairwise_append.1 sY
  have pG : (p ++ X1 ++ Y1 ++ (X2 ++ Y2 ++ s)).Perm (p ++ X1 ++ X2 ++ Y1 ++ Y2 ++ s) := by
    rw [← e2, e1]
    exact List.Perm.append_right _ (by rw [List.append_assoc (p ++ X1) Y1 X2, List.append_assoc (p ++ X1) X2 Y1]; exact List.Perm.append_left _ List.perm_append_comm)
  refine smL o h5 N b v hN cap p X1 Y1 X2 Y2 s (hG.perm pG) (by rw [pG.length_eq, e1]; exact hlen) sX'.1 sY'.1 sX'.2.1 sY'.2.1 ih1 ih2 z2 _ (by rw [n3, n24]; exact ht2) ha2 hb2' (fun z' Z1 Z2 s1 s2 p1 p2 k1 k2 => ?_)
  refine hq z' (Z1 ++ Z2) (mrg (ord_line o) (fun x hx => hG.shp x (by simp only [List.mem_append] at hx ⊢; rcases hx with ((h | h) | h) | h <;> simp [h])) sX sY hb1 hb2 p1 p2 s1 s2) ?_ k1 k2
  refine (List.Perm.append p1 p2).trans ?_
  rw [show X1 ++ X2 ++ (Y1 ++ Y2) = X1 ++ ((X2 ++ Y1) ++ Y2) by simp, show X1 ++ Y1 ++ (X2 ++ Y2) = X1 ++ ((Y1 ++ X2) ++ Y2) by simp]
  exact List.Perm.append_left _ (List.Perm.append_right _ List.perm_append_comm)
theorem last_is {A : List T} {y : T} (h : A.getLast? = some y) : ∃ B, A = B ++ [y] := by
  rcases List.eq_nil_or_concat A with rfl | ⟨B, x, rfl⟩
  · cases h
  · simp at h; subst h; exact ⟨B, by simp⟩
theorem head_is {A : List T} {y : T} (h : A.head? = some y) : ∃ B, A = y :: B := by
  cases A with
  | nil => cases h
  | cons x A => simp at h; subst h; exact ⟨A, rfl⟩
theorem tsm1 (hn : Non ext) (h26 : E26 ext) (h73 : E73 ext) (o : Nat) (h5 : o ≤ 5) (c : T) (Y : List T) : SM ext o [c] Y := by
  intro p s b v cap hG hN hX hY sX sY hp ha hb
  obtain ⟨N, hNe⟩ : ∃ N, (p ++ [c] ++ Y ++ s).length = N := ⟨_, rfl⟩
  rw [hNe] at hN ⊢
  have hlen' := hNe
  simp only [List.length_append, List.length_cons, List.length_nil] at hlen'
  have l1 : ([c] : List T).length = 1 := rfl
  have w : IntKind.i64.wrap (((p.length + ([c] : List T).length : Nat) : Int) - (p.length : Int)) = 1 := by rw [IntKind.wrap_i64]; omega
  have g1 : (IntKind.i64.wrap (((p.length + ([c] : List T).length : Nat) : Int) - (p.length : Int)) == 1) = true := by rw [w]; rfl
  have key : ∃ r hp', (cfg ext).EvR 47 [.rsl false b v 0 N, .int .i64 p.length, .int .i64 ((p.length + ([c] : List T).length : Nat) : Int), .int .i64 ((p.length + ([c] : List T).length + Y.length : Nat) : Int), rowOf o] hp r hp' ∧ (r = .tup [] ∧ ∃ Z, Le (ordF ext o) Z ∧ Z.Perm ([c] ++ Y) ∧ hp'.a b = some ⟨v, 4, encL (p ++ Z ++ s), cap, 0⟩ ∧ b < hp'.m) := by
    refine EvR.ofE Tryd.func47 rfl rfl ?_
    conv => whnf
    refine sel_yes g1 ?_
    conv => whnf
    refine lbs0 hn h26 h73 o h5 N b v hN cap (p ++ [c] ++ Y ++ s) hG hNe p.length (p.length + ([c] : List T).length) (p.length + ([c] : List T).length + Y.length) (p.length + ([c] : List T).length) (p.length + ([c] : List T).length + Y.length) (by omega) (by omega) _ _ _ (p.length + ([c] : List T).length) (p.length + ([c] : List T).length + Y.length) _ (Nat.le_refl _) (Nat.le_refl _) (by omega) (Nat.le_refl _) (.inl rfl) (.inl rfl) ⟨rfl, rfl, rfl, rfl, rfl, rfl, rfl, trivial⟩ rfl ha (Nat.lt_of_lt_of_le hb (by (conv => lhs; whnf); (repeat ((conv => rhs; whnf); first | with_reducible exact Nat.le_refl _ | refine Nat.le_trans ?_ (Nat.le_add_right _ _) | refine Nat.le_succ_of_le ?_ | exact Nat.le_refl _)))) (fun z k hB ht ha1 hb1 => ?_)
    obtain ⟨q1, q2, q3, q4⟩ := hB
    obtain ⟨Y1, Y2, hY12, hl1⟩ : ∃ Y1 Y2, Y = Y1 ++ Y2 ∧ p.length + ([c] : List T).length + Y1.length = k := ⟨Y.take (k - (p.length + 1)), Y.drop (k - (p.length + 1)), (List.take_append_drop _ _).symm, by rw [List.length_take]; omega⟩
    subst hY12
    simp only [List.length_append] at hlen' q2
    have rA : (p ++ [c] ++ (Y1 ++ Y2) ++ s)[p.length]? = some c := by
      rw [show p ++ [c] ++ (Y1 ++ Y2) ++ s = p ++ c :: (Y1 ++ Y2 ++ s) by simp]; exact getq rfl
    have hu : ∀ y, Y1.getLast? = some y → ordF ext o y c ≤ 0 := by
      intro y hy
      obtain ⟨B, rfl⟩ := last_is hy
      rcases q3 with q3 | q3
      · simp only [List.length_append, List.length_cons, List.length_nil] at hl1; omega
      · have r : (p ++ [c] ++ (B ++ [y] ++ Y2) ++ s)[k - 1]? = some y := by
          rw [show p ++ [c] ++ (B ++ [y] ++ Y2) ++ s = (p ++ [c] ++ B) ++ y :: (Y2 ++ s) by simp]; exact getq (by simp only [List.length_append, List.length_cons, List.length_nil] at hl1 ⊢; omega)
        have q3' : atB ext o (p ++ [c] ++ (B ++ [y] ++ Y2) ++ s) (k - 1) p.length = true := q3
        rw [atB_is r rA] at q3'
        have := of_decide_eq_true q3'
        omega
    have hw : ∀ y, Y2.head? = some y → ordF ext o c y ≤ 0 := by
      intro y hy
      obtain ⟨B, rfl⟩ := head_is hy
      rcases q4 with q4 | q4
      · simp only [List.length_append, List.length_cons] at q4; omega
      · have r : (p ++ [c] ++ (Y1 ++ y :: B) ++ s)[k]? = some y := by
          rw [show p ++ [c] ++ (Y1 ++ y :: B) ++ s = (p ++ [c] ++ Y1) ++ y :: (B ++ s) by simp]; exact getq (by simp only [List.length_append, List.length_cons, List.length_nil] at hl1 ⊢; omega)
        have q4' : atB ext o (p ++ [c] ++ (Y1 ++ y :: B) ++ s) k p.length = false := q4
        rw [atB_is r rA] at q4'
        have h1 := of_decide_eq_false q4'
        have h2 := (ord_line (ext := ext) o).1 c y
        omega
    have hle := ins2 (ord_line (ext := ext) o) (fun x hx => hG.shp x (by simp only [List.mem_append, List.mem_cons] at hx ⊢; rcases hx with h | h | h <;> simp [h])) sY hu hw
    have hL1 : p ++ [c] ++ (Y1 ++ Y2) ++ s = p ++ [] ++ c :: (Y1 ++ (Y2 ++ s)) := by simp
    rw [hL1] at ha1
    rw [St.knows _ z.hp.n ht rfl]
    conv => whnf
    refine lmv1 N b v hN cap p (Y2 ++ s) c _ _ Y1 [] _ (by rw [← hL1]; exact hNe) ⟨rfl, ?_, rfl, trivial⟩ rfl ha1 (Nat.lt_of_lt_of_le hb1 (by (conv => lhs; whnf); (repeat ((conv => rhs; whnf); first | with_reducible exact Nat.le_refl _ | refine Nat.le_trans ?_ (Nat.le_add_right _ _) | refine Nat.le_succ_of_le ?_ | exact Nat.le_refl _)))) (fun z2 h1 h2 => ?_)
    · exact vi (by simp only [List.length_nil, List.length_cons] at hl1 ⊢; omega)
    · exact ⟨rfl, Y1 ++ c :: Y2, hle, List.perm_middle, by rw [h1]; simp, h2⟩
  obtain ⟨r, hp', h, rfl, Z, k1, k2, k3, k4⟩ := key
  exact ⟨hp', Z, h, k1, k2, k3, k4⟩
theorem tsm2 (hn : Non ext) (h26 : E26 ext) (h73 : E73 ext) (o : Nat) (h5 : o ≤ 5) (c : T) (X : List T) (hX1 : X.length ≠ 1) : SM ext o X [c] := by
  intro p s b v cap hG hN hX hY sX sY hp ha hb
  obtain ⟨N, hNe⟩ : ∃ N, (p ++ X ++ [c] ++ s).length = N := ⟨_, rfl⟩
  rw [hNe] at hN ⊢
  have hlen' := hNe
  simp only [List.length_append, List.length_cons, List.length_nil] at hlen'
  have l1 : ([c] : List T).length = 1 := rfl
  have w0 : IntKind.i64.wrap (((p.length + X.length : Nat) : Int) - (p.length : Int)) = (X.length : Int) := by rw [IntKind.wrap_i64]; omega
  have g0 : (IntKind.i64.wrap (((p.length + X.length : Nat) : Int) - (p.length : Int)) == 1) = false := by rw [w0]; simp; omega
  have w : IntKind.i64.wrap (((p.length + X.length + ([c] : List T).length : Nat) : Int) - ((p.length + X.length : Nat) : Int)) = 1 := by rw [IntKind.wrap_i64]; omega
  have g1 : (IntKind.i64.wrap (((p.length + X.length + ([c] : List T).length : Nat) : Int) - ((p.length + X.length : Nat) : Int)) == 1) = true := by rw [w]; rfl
  have key : ∃ r hp', (cfg ext).EvR 47 [.rsl false b v 0 N, .int .i64 p.length, .int .i64 ((p.length + X.length : Nat) : Int), .int .i64 ((p.length + X.length + ([c] : List T).length : Nat) : Int), rowOf o] hp r hp' ∧ (r = .tup [] ∧ ∃ Z, Le (ordF ext o) Z ∧ Z.Perm (X ++ [c]) ∧ hp'.a b = some ⟨v, 4, encL (p ++ Z ++ s), cap, 0⟩ ∧ b < hp'.m) := by
    refine EvR.ofE Tryd.func47 rfl rfl ?_
    conv => whnf
    refine sel_no g0 ?_
    conv => whnf
    refine sel_yes g1 ?_
    conv => whnf
    refine lbs2 hn h26 h73 o h5 N b v hN cap (p ++ X ++ [c] ++ s) hG hNe p.length (p.length + X.length) (p.length + X.length + ([c] : List T).length) p.length (p.length + X.length) (by omega) (by omega) _ _ _ p.length (p.length + X.length) _ (Nat.le_refl _) (Nat.le_refl _) (by omega) (Nat.le_refl _) (.inl rfl) (.inl rfl) ⟨rfl, rfl, rfl, rfl, rfl, rfl, rfl, trivial⟩ rfl ha (Nat.lt_of_lt_of_le hb (by (conv => lhs; whnf); (repeat ((conv => rhs; whnf); first | with_reducible exact Nat.le_refl _ | refine Nat.le_trans ?_ (Nat.le_add_right _ _) | refine Nat.le_succ_of_le ?_ | exact Nat.le_refl _)))) (fun z k hB ht ha1 hb1 => ?_)
    obtain ⟨q1, q2, q3, q4⟩ := hB
    obtain ⟨X1, X2, hX12, hl1⟩ : ∃ X1 X2, X = X1 ++ X2 ∧ p.length + X1.length = k := ⟨X.take (k - p.length), X.drop (k - p.length), (List.take_append_drop _ _).symm, by rw [List.length_take]; omega⟩
    subst hX12
    have rA : (p ++ (X1 ++ X2) ++ [c] ++ s)[p.length + (X1 ++ X2).length]? = some c := by
      rw [show p ++ (X1 ++ X2) ++ [c] ++ s = (p ++ (X1 ++ X2)) ++ c :: s by simp]; exact getq (by simp)
    have hu : ∀ y, X1.getLast? = some y → ordF ext o y c ≤ 0 := by
      intro y hy
      obtain ⟨B, rfl⟩ := last_is hy
      rcases q3 with q3 | q3
      · simp only [List.length_append, List.length_cons, List.length_nil] at hl1; omega
      · have r : (p ++ (B ++ [y] ++ X2) ++ [c] ++ s)[k - 1]? = some y := by
          rw [show p ++ (B ++ [y] ++ X2) ++ [c] ++ s = (p ++ B) ++ y :: (X2 ++ [c] ++ s) by simp]; exact getq (by simp only [List.length_append, List.length_cons, List.length_nil] at hl1 ⊢; omega)
        have q3' : (!atB ext o (p ++ (B ++ [y] ++ X2) ++ [c] ++ s) (p.length + (B ++ [y] ++ X2).length) (k - 1)) = true := q3
        rw [atB_is rA r, Bool.not_eq_true'] at q3'
        have h1 := of_decide_eq_false q3'
        have h2 := (ord_line (ext := ext) o).1 c y
        omega
    have hw : ∀ y, X2.head? = some y → ordF ext o c y ≤ 0 := by
      intro y hy
      obtain ⟨B, rfl⟩ := head_is hy
      rcases q4 with q4 | q4
      · simp only [List.length_append, List.length_cons] at q4; omega
      · have r : (p ++ (X1 ++ y :: B) ++ [c] ++ s)[k]? = some y := by
          rw [show p ++ (X1 ++ y :: B) ++ [c] ++ s = (p ++ X1) ++ y :: (B ++ [c] ++ s) by simp]; exact getq (by simp only [List.length_append]; omega)
        have q4' : (!atB ext o (p ++ (X1 ++ y :: B) ++ [c] ++ s) (p.length + (X1 ++ y :: B).length) k) = false := q4
        rw [atB_is rA r, Bool.not_eq_false'] at q4'
        have h1 := of_decide_eq_true q4'
        omega
    have hle := ins2 (ord_line (ext := ext) o) (fun x hx => hG.shp x (by simp only [List.mem_append, List.mem_cons] at hx ⊢; rcases hx with h | h | h <;> simp [h])) sX hu hw
    have hL1 : p ++ (X1 ++ X2) ++ [c] ++ s = (p ++ X1) ++ X2 ++ c :: s := by simp
    rw [hL1] at ha1
    rw [St.knows _ z.hp.n ht rfl]
    conv => whnf
    refine lmv3 N b v hN cap (p ++ X1) c _ _ X2.length X2 s _ rfl (by rw [← hL1]; exact hNe) ⟨rfl, ?_, ?_, trivial⟩ rfl ha1 (Nat.lt_of_lt_of_le hb1 (by (conv => lhs; whnf); (repeat ((conv => rhs; whnf); first | with_reducible exact Nat.le_refl _ | refine Nat.le_trans ?_ (Nat.le_add_right _ _) | refine Nat.le_succ_of_le ?_ | exact Nat.le_refl _)))) (fun z2 h1 h2 => ?_)
    · exact vi (by simp only [List.length_append]; omega)
    · exact vi (by simp only [List.length_append]; omega)
    · exact ⟨rfl, X1 ++ c :: X2, hle, List.perm_middle.trans (List.perm_append_comm (l₁ := [c])), by rw [h1]; simp, h2⟩
  obtain ⟨r, hp', h, rfl, Z, k1, k2, k3, k4⟩ := key
  exact ⟨hp', Z, h, k1, k2, k3, k4⟩
end
end Go.Proofs.YtehajklneljbgaaDoor.AB
end

section
set_option linter.unusedVariables false
set_option linter.unusedSimpArgs false
open Go Go.Ab Go.Proofs Go.Vl
namespace Go.Proofs.YtehajklneljbgaaDoor.AB
set_option maxRecDepth 100000
set_option maxHeartbeats 16000000
set_option linter.unusedSimpArgs false
set_option linter.unusedVariables false
section
variable {ext : Exts}
theorem tsm3 (hn : Non ext) (h26 : E26 ext) (h73 : E73 ext) (o : Nat) (h5 : o ≤ 5) (X Y : List T) (hX1 : X.length ≠ 1) (hY1 : Y.length ≠ 1) (ih : ∀ X' Y' : List T, X'.length + Y'.length < X.length + Y.length → SM ext o X' Y') : SM ext o X Y := by
  intro p s b v cap hG hN hX hY sX sY hp ha hb
  obtain ⟨N, hNe⟩ : ∃ N, (p ++ X ++ Y ++ s).length = N := ⟨_, rfl⟩
  rw [hNe] at hN ⊢
  have hlen' := hNe
  simp only [List.length_append] at hlen'
  have em := midZ_is (i := p.length) (j := p.length + X.length + Y.length) (by omega)
  obtain ⟨md, hmd⟩ : ∃ md, md = (p.length + (p.length + X.length + Y.length)) / 2 := ⟨_, rfl⟩
  rw [← hmd] at em
  have w0 : IntKind.i64.wrap (((p.length + X.length : Nat) : Int) - (p.length : Int)) = (X.length : Int) := by rw [IntKind.wrap_i64]; omega
  have g0 : (IntKind.i64.wrap (((p.length + X.length : Nat) : Int) - (p.length : Int)) == 1) = false := by rw [w0]; simp; omega
  have w1 : IntKind.i64.wrap (((p.length + X.length + Y.length : Nat) : Int) - ((p.length + X.length : Nat) : Int)) = (Y.length : Int) := by rw [IntKind.wrap_i64]; omega
  have g1 : (IntKind.i64.wrap (((p.length + X.length + Y.length : Nat) : Int) - ((p.length + X.length : Nat) : Int)) == 1) = false := by rw [w1]; simp; omega
  have wn : IntKind.i64.wrap (midZ p.length (p.length + X.length + Y.length) + ((p.length + X.length : Nat) : Int)) = ((md + (p.length + X.length) : Nat) : Int) := by rw [em, IntKind.wrap_i64]; omega
  have wp : IntKind.i64.wrap (IntKind.i64.wrap (midZ p.length (p.length + X.length + Y.length) + ((p.length + X.length : Nat) : Int)) - 1) = ((md + (p.length + X.length) - 1 : Nat) : Int) := by rw [wn, IntKind.wrap_i64]; omega
  have common : ∀ (i0 j0 : Nat), ((md < p.length + X.length ∧ i0 = md + (p.length + X.length) - (p.length + X.length + Y.length) ∧ j0 = md) ∨ (p.length + X.length ≤ md ∧ i0 = p.length ∧ j0 = p.length + X.length)) → ∀ (z : St) (k : Nat), Bs (fun h => !atB ext o (p ++ X ++ Y ++ s) (md + (p.length + X.length) - 1 - h) h) i0 j0 k →
      Has z.t [(0, .rsl false b v 0 N), (1, .int .i64 p.length), (2, .int .i64 ((p.length + X.length : Nat) : Int)), (3, .int .i64 ((p.length + X.length + Y.length : Nat) : Int)), (4, rowOf o), (18, .int .i64 (midZ p.length (p.length + X.length + Y.length))), (19, .int .i64 (IntKind.i64.wrap (midZ p.length (p.length + X.length + Y.length) + ((p.length + X.length : Nat) : Int)))), (22, .int .i64 ((md + (p.length + X.length) - 1 : Nat) : Int)), (20, .int .i64 k)] →
      z.hp.a b = some ⟨v, 4, encL (p ++ X ++ Y ++ s), cap, 0⟩ → b < z.hp.m → ∀ K : Ex → St → Prop, (∀ (z' : St) (Z : List T), Le (ordF ext o) Z → Z.Perm (X ++ Y) → z'.hp.a b = some ⟨v, 4, encL (p ++ Z ++ s), cap, 0⟩ → b < z'.hp.m → K .normal z') →
      xCode (cfg ext) (atP (bodyOf Tryd.f47) [true, true, true, true, true, true, true, true]) z K := by
    intro i0 j0 hc z k hB ht ha1 hb1 K hK
    obtain ⟨q1, q2, q3, q4⟩ := hB
    have k1 : p.length ≤ k := by omega
    have k2 : k ≤ p.length + X.length := by omega
    have k3 : k ≤ md := by omega
    have k4 : md - k ≤ Y.length := by omega
    obtain ⟨X1, X2, hX12, hl1⟩ : ∃ X1 X2, X = X1 ++ X2 ∧ p.length + X1.length = k := ⟨X.take (k - p.length), X.drop (k - p.length), (List.take_append_drop _ _).symm, by rw [List.length_take]; omega⟩
    obtain ⟨Y1, Y2, hY12, hl2⟩ : ∃ Y1 Y2, Y = Y1 ++ Y2 ∧ Y1.length = md - k := ⟨Y.take (md - k), Y.drop (md - k), (List.take_append_drop _ _).symm, by rw [List.length_take]; omega⟩
    subst hX12 hY12
    have eL : p ++ (X1 ++ X2) ++ (Y1 ++ Y2) ++ s = p ++ X1 ++ X2 ++ Y1 ++ Y2 ++ s := by simp
    simp only [List.length_append] at hlen' hc hmd q1 q2 q3 q4 k2 k4 hX hY ih hX1 hY1
    rw [eL] at ha1 hG q3 q4
    have hb1' : ∀ a b', X1.getLast? = some a → Y2.head? = some b' → ordF ext o a b' ≤ 0 := by
      intro a b' h1 h2
      obtain ⟨U, rfl⟩ := last_is h1
      obtain ⟨W, rfl⟩ := head_is h2
      simp only [List.length_append, List.length_cons, List.length_nil] at hl1 hc k4 k2 hlen' hmd q1 q2
      rcases q3 with q3 | q3
      · exfalso; (try simp only [List.length_append, List.length_cons, List.length_nil] at q3); omega
      · have ra : (p ++ (U ++ [a]) ++ X2 ++ Y1 ++ b' :: W ++ s)[k - 1]? = some a := by
          rw [show p ++ (U ++ [a]) ++ X2 ++ Y1 ++ b' :: W ++ s = (p ++ U) ++ a :: (X2 ++ Y1 ++ b' :: W ++ s) by simp]; exact getq (by simp only [List.length_append]; omega)
        have rb : (p ++ (U ++ [a]) ++ X2 ++ Y1 ++ b' :: W ++ s)[md + (p.length + (U.length + (0 + 1) + X2.length)) - 1 - (k - 1)]? = some b' := by
          rw [show p ++ (U ++ [a]) ++ X2 ++ Y1 ++ b' :: W ++ s = (p ++ (U ++ [a]) ++ X2 ++ Y1) ++ b' :: (W ++ s) by simp]; exact getq (by simp only [List.length_append, List.length_cons, List.length_nil]; omega)
        try simp only [List.length_append, List.length_cons, List.length_nil] at q3
        have q3' : (!atB ext o (p ++ (U ++ [a]) ++ X2 ++ Y1 ++ b' :: W ++ s) (md + (p.length + (U.length + (0 + 1) + X2.length)) - 1 - (k - 1)) (k - 1)) = true := q3
        rw [atB_is rb ra, Bool.not_eq_true'] at q3'
        have h3 := of_decide_eq_false q3'
        have h4 := (ord_line (ext := ext) o).1 a b'
        omega
    have hb2' : ∀ a b', Y1.getLast? = some a → X2.head? = some b' → ordF ext o a b' ≤ 0 := by
      intro a b' h1 h2
      obtain ⟨U, rfl⟩ := last_is h1
      obtain ⟨W, rfl⟩ := head_is h2
      simp only [List.length_append, List.length_cons, List.length_nil] at hl2 hc k4 k2 hlen' hmd q1 q2
      rcases q4 with q4 | q4
      · exfalso; (try simp only [List.length_append, List.length_cons, List.length_nil] at q4); omega
      · have rb : (p ++ X1 ++ b' :: W ++ (U ++ [a]) ++ Y2 ++ s)[k]? = some b' := by
          rw [show p ++ X1 ++ b' :: W ++ (U ++ [a]) ++ Y2 ++ s = (p ++ X1) ++ b' :: (W ++ (U ++ [a]) ++ Y2 ++ s) by simp]; exact getq (by simp only [List.length_append]; omega)
        have ra : (p ++ X1 ++ b' :: W ++ (U ++ [a]) ++ Y2 ++ s)[md + (p.length + (X1.length + (W.length + 1))) - 1 - k]? = some a := by
          rw [show p ++ X1 ++ b' :: W ++ (U ++ [a]) ++ Y2 ++ s = (p ++ X1 ++ b' :: W ++ U) ++ a :: (Y2 ++ s) by simp]; exact getq (by simp only [List.length_append, List.length_cons, List.length_nil]; omega)
        try simp only [List.length_append, List.length_cons, List.length_nil] at q4
        have q4' : (!atB ext o (p ++ X1 ++ b' :: W ++ (U ++ [a]) ++ Y2 ++ s) (md + (p.length + (X1.length + (W.length + 1))) - 1 - k) k) = false := q4
        rw [atB_is ra rb, Bool.not_eq_false'] at q4'
        have h3 := of_decide_eq_true q4'
        omega
    obtain ⟨h0, h1, h2, h3, h4, h18, h19, h22, h20, _⟩ := ht
    refine smEnd o h5 N b v hN cap p X1 X2 Y1 Y2 s (midZ p.length (p.length + (X1 ++ X2).length + (Y1 ++ Y2).length)) (IntKind.i64.wrap (midZ p.length (p.length + (X1 ++ X2).length + (Y1 ++ Y2).length) + ((p.length + (X1 ++ X2).length : Nat) : Int))) (by rw [em]; omega) (by rw [wn, IntKind.wrap_i64]; simp only [List.length_append]; omega)
      hG (by rw [← eL]; exact hNe) sX sY hb1' hb2' (ih _ _ (by omega)) (ih _ _ (by omega)) z K ⟨h0, h1, h2.trans (vi (by simp only [List.length_append]; omega)), h3.trans (vi (by simp only [List.length_append]; omega)), h4, h18, h19, h20.trans (vi (by omega)), trivial⟩ ha1 hb1 hK
  have key : ∃ r hp', (cfg ext).EvR 47 [.rsl false b v 0 N, .int .i64 p.length, .int .i64 ((p.length + X.length : Nat) : Int), .int .i64 ((p.length + X.length + Y.length : Nat) : Int), rowOf o] hp r hp' ∧ (r = .tup [] ∧ ∃ Z, Le (ordF ext o) Z ∧ Z.Perm (X ++ Y) ∧ hp'.a b = some ⟨v, 4, encL (p ++ Z ++ s), cap, 0⟩ ∧ b < hp'.m) := by
    refine EvR.ofE Tryd.func47 rfl rfl ?_
    conv => whnf
    refine sel_no g0 ?_
    conv => whnf
    refine sel_no g1 ?_
    conv => whnf
    by_cases hm : md < p.length + X.length
    · have g2 : decide (((p.length + X.length : Nat) : Int) > midZ p.length (p.length + X.length + Y.length)) = true := decide_eq_true (by rw [em]; omega)
      have ws : IntKind.i64.wrap (IntKind.i64.wrap (midZ p.length (p.length + X.length + Y.length) + ((p.length + X.length : Nat) : Int)) - ((p.length + X.length + Y.length : Nat) : Int)) = ((md + (p.length + X.length) - (p.length + X.length + Y.length) : Nat) : Int) := by rw [wn, IntKind.wrap_i64]; omega
      refine sel_yes g2 ?_
      conv => whnf
      refine lbs4 hn h26 h73 o h5 N b v hN cap (p ++ X ++ Y ++ s) hG hNe p.length (p.length + X.length) (p.length + X.length + Y.length) (md + (p.length + X.length) - (p.length + X.length + Y.length)) md (by omega) (midZ p.length (p.length + X.length + Y.length)) (IntKind.i64.wrap (midZ p.length (p.length + X.length + Y.length) + ((p.length + X.length : Nat) : Int))) (md + (p.length + X.length) - 1) (fun h h1 h2 => by omega) (by omega) _ _ _ (md + (p.length + X.length) - (p.length + X.length + Y.length)) md _ (Nat.le_refl _) (Nat.le_refl _) (by omega) (Nat.le_refl _) (.inl rfl) (.inl rfl) ⟨rfl, rfl, rfl, rfl, rfl, rfl, rfl, ?_, ?_, ?_, trivial⟩ rfl ha (Nat.lt_of_lt_of_le hb (by (conv => lhs; whnf); (repeat ((conv => rhs; whnf); first | with_reducible exact Nat.le_refl _ | refine Nat.le_trans ?_ (Nat.le_add_right _ _) | refine Nat.le_succ_of_le ?_ | exact Nat.le_refl _)))) (fun z k hB ht ha1 hb1 => ?_)
      · conv => lhs; whnf
        exact vi wp
      · conv => lhs; whnf
        exact vi ws
      · conv => lhs; whnf
        exact vi em
      · exact common _ _ (.inl ⟨hm, rfl, rfl⟩) z k hB ht ha1 hb1 _ (fun z' Z h1 h2 h3 h4 => ⟨rfl, Z, h1, h2, h3, h4⟩)
    · have g2 : decide (((p.length + X.length : Nat) : Int) > midZ p.length (p.length + X.length + Y.length)) = false := decide_eq_false (by rw [em]; omega)
      refine sel_no g2 ?_
      conv => whnf
      refine lbs4 hn h26 h73 o h5 N b v hN cap (p ++ X ++ Y ++ s) hG hNe p.length (p.length + X.length) (p.length + X.length + Y.length) p.length (p.length + X.length) (by omega) (midZ p.length (p.length + X.length + Y.length)) (IntKind.i64.wrap (midZ p.length (p.length + X.length + Y.length) + ((p.length + X.length : Nat) : Int))) (md + (p.length + X.length) - 1) (fun h h1 h2 => by omega) (by omega) _ _ _ p.length (p.length + X.length) _ (Nat.le_refl _) (Nat.le_refl _) (by omega) (Nat.le_refl _) (.inl rfl) (.inl rfl) ⟨rfl, rfl, rfl, rfl, rfl, rfl, rfl, ?_, rfl, rfl, trivial⟩ rfl ha (Nat.lt_of_lt_of_le hb (by (conv => lhs; whnf); (repeat ((conv => rhs; whnf); first | with_reducible exact Nat.le_refl _ | refine Nat.le_trans ?_ (Nat.le_add_right _ _) | refine Nat.le_succ_of_le ?_ | exact Nat.le_refl _)))) (fun z k hB ht ha1 hb1 => ?_)
      · conv => lhs; whnf
        exact vi wp
      · exact common _ _ (.inr ⟨by omega, rfl, rfl⟩) z k hB ht ha1 hb1 _ (fun z' Z h1 h2 h3 h4 => ⟨rfl, Z, h1, h2, h3, h4⟩)
  obtain ⟨r, hp', h, rfl, Z, k1, k2, k3, k4⟩ := key
  exact ⟨hp', Z, h, k1, k2, k3, k4⟩
theorem tsm (hn : Non ext) (h26 : E26 ext) (h73 : E73 ext) (o : Nat) (h5 : o ≤ 5) : ∀ (d : Nat) (X Y : List T), X.length + Y.length ≤ d → SM ext o X Y := by
  intro d
  induction d with
  | zero => intro X Y hd p s b v cap hG hN hX; omega
  | succ d ih =>
    intro X Y hd
    by_cases h1 : X.length = 1
    · obtain ⟨c, rfl⟩ := List.length_eq_one_iff.1 h1
      exact tsm1 hn h26 h73 o h5 c Y
    · by_cases h2 : Y.length = 1
      · obtain ⟨c, rfl⟩ := List.length_eq_one_iff.1 h2
        exact tsm2 hn h26 h73 o h5 c X h1
      · exact tsm3 hn h26 h73 o h5 X Y h1 h2 (fun X' Y' h => ih X' Y' (by omega))
end
end Go.Proofs.YtehajklneljbgaaDoor.AB
end

section
set_option linter.unusedVariables false
set_option linter.unusedSimpArgs false
open Go Go.Ab Go.Proofs Go.Vl
namespace Go.Proofs.YtehajklneljbgaaDoor.AB
set_option maxRecDepth 100000
set_option maxHeartbeats 16000000
set_option linter.unusedSimpArgs false
set_option linter.unusedVariables false
/-- rows of so many, each sorted -/
def Blk (f : T → T → Int) (n : Nat) (cs : List (List T)) : Prop := ∀ c ∈ cs, c.length = n ∧ Le f c
theorem blk_len {f : T → T → Int} {n : Nat} : ∀ {cs : List (List T)}, Blk f n cs → cs.flatten.length = cs.length * n
  | [], _ => by simp
  | c :: cs, h => by
    rw [List.flatten_cons, List.length_append, (h c (by simp)).1, blk_len (cs := cs) (fun x hx => h x (by simp [hx])), List.length_cons, Nat.add_mul]; omega
theorem blk_add {f : T → T → Int} {n : Nat} {cs : List (List T)} {c : List T} (h : Blk f n cs) (h1 : c.length = n) (h2 : Le f c) : Blk f n (cs ++ [c]) := fun x hx => by
  rcases List.mem_append.1 hx with hx | hx
  · exact h x hx
  · simp at hx; subst hx; exact ⟨h1, h2⟩
section
variable {ext : Exts}
theorem ins_use (hn : Non ext) (h26 : E26 ext) (h73 : E73 ext) (o : Nat) (h5 : o ≤ 5) {p M s : List T} {b v N : Nat} {cap : Option Nat} {xs : List V} {hp : Hp} {Q : V → Hp → Prop} (hG : Gd M) (hN : N ≤ 65536) (hlen : (p ++ M ++ s).length = N)
    (e : [.rsl false b v 0 N, .int .i64 p.length, .int .i64 ((p.length + M.length : Nat) : Int), rowOf o] = xs) (ha : hp.a b = some ⟨v, 4, encL (p ++ M ++ s), cap, 0⟩) (hb : b < hp.m)
    (q : ∀ hp' M', Le (ordF ext o) M' → M'.Perm M → hp'.a b = some ⟨v, 4, encL (p ++ M' ++ s), cap, 0⟩ → b < hp'.m → Q (.tup []) hp') : ∃ r hp', (cfg ext).EvR 46 xs hp r hp' ∧ Q r hp' := by
  obtain ⟨hp', Z, h1, h2, h3, h4, h5⟩ := tins hn h26 h73 o h5 b v cap p M s hG (by omega) hp ha hb
  rw [hlen, e] at h1
  exact ⟨_, hp', h1, q hp' Z h2 h3 h4 h5⟩
theorem lstA (hn : Non ext) (h26 : E26 ext) (h73 : E73 ext) (o : Nat) (h5 : o ≤ 5) (N b v : Nat) (hN : N ≤ 65536) (cap : Option Nat) (Q : Ex → St → Prop) (n : Nat) (d : Nat) :
    ∀ (cs : List (List T)) (R : List T) (z : St), R.length ≤ d → Gd (cs.flatten ++ R) → Blk (ordF ext o) 20 cs → (cs.flatten ++ R).length = N →
      Has z.t [(0, .rsl false b v 0 N), (1, .int .i64 N), (2, rowOf o), (6, .int .i64 20), (7, .int .i64 cs.flatten.length), (8, .int .i64 ((cs.flatten.length + 20 : Nat) : Int))] → z.hp.n = n → z.hp.a b = some ⟨v, 4, encL (cs.flatten ++ R), cap, 0⟩ → b < z.hp.m →
      (∀ (z' : St) (cs' : List (List T)) (R' : List T), Blk (ordF ext o) 20 cs' → R'.length < 20 → (cs'.flatten ++ R').Perm (cs.flatten ++ R) →
        Has z'.t [(0, .rsl false b v 0 N), (1, .int .i64 N), (2, rowOf o), (6, .int .i64 20), (7, .int .i64 cs'.flatten.length)] → z'.hp.a b = some ⟨v, 4, encL (cs'.flatten ++ R'), cap, 0⟩ → b < z'.hp.m → Q (.exit 0) z') →
      Go.Ab.Loop (cfg ext) (lpN Tryd.f36 0) n z Q := by
  have hcl := row_clean o h5
  obtain ⟨fk, fc, ef⟩ := row_fn o h5
  have stop : ∀ (cs : List (List T)) (R : List T) (z : St), R.length < 20 → Blk (ordF ext o) 20 cs → (cs.flatten ++ R).length = N →
      Has z.t [(0, .rsl false b v 0 N), (1, .int .i64 N), (2, rowOf o), (6, .int .i64 20), (7, .int .i64 cs.flatten.length), (8, .int .i64 ((cs.flatten.length + 20 : Nat) : Int))] → z.hp.n = n → z.hp.a b = some ⟨v, 4, encL (cs.flatten ++ R), cap, 0⟩ → b < z.hp.m →
      (∀ (z' : St) (cs' : List (List T)) (R' : List T), Blk (ordF ext o) 20 cs' → R'.length < 20 → (cs'.flatten ++ R').Perm (cs.flatten ++ R) →
        Has z'.t [(0, .rsl false b v 0 N), (1, .int .i64 N), (2, rowOf o), (6, .int .i64 20), (7, .int .i64 cs'.flatten.length)] → z'.hp.a b = some ⟨v, 4, encL (cs'.flatten ++ R'), cap, 0⟩ → b < z'.hp.m → Q (.exit 0) z') →
      Go.Ab.Loop (cfg ext) (lpN Tryd.f36 0) n z Q := by
    intro cs R z hR hB hlen ht hz ha hb hq
    have g : decide (((cs.flatten.length + 20 : Nat) : Int) ≤ (N : Int)) = false := decide_eq_false (by rw [List.length_append] at hlen; omega)
    rw [St.knows _ _ ht hz]
    refine Loop.round ?_
    conv => whnf
    refine sel_no g ?_
    conv => whnf
    exact hq _ cs R hB hR (List.Perm.refl _) ⟨rfl, rfl, rfl, rfl, rfl, trivial⟩ ha (Nat.lt_of_lt_of_le hb (by (conv => lhs; whnf); (repeat ((conv => rhs; whnf); first | with_reducible exact Nat.le_refl _ | refine Nat.le_trans ?_ (Nat.le_add_right _ _) | refine Nat.le_succ_of_le ?_ | exact Nat.le_refl _))))
  induction d with
  | zero =>
    intro cs R z hd hG hB hlen ht hz ha hb hq
    exact stop cs R z (by omega) hB hlen ht hz ha hb hq
  | succ d ih =>
    intro cs R z hd hG hB hlen ht hz ha hb hq
    by_cases hR : R.length < 20
    · exact stop cs R z hR hB hlen ht hz ha hb hq
    obtain ⟨c, R2, hcR, hc⟩ : ∃ c R2, R = c ++ R2 ∧ c.length = 20 := ⟨R.take 20, R.drop 20, (List.take_append_drop _ _).symm, by rw [List.length_take]; omega⟩
    subst hcR
    rw [List.length_append] at hd hR
    have hlen' := hlen
    simp only [List.length_append] at hlen'
    have g : decide (((cs.flatten.length + 20 : Nat) : Int) ≤ (N : Int)) = true := decide_eq_true (by omega)
    have w8 : IntKind.i64.wrap (((cs.flatten.length + 20 : Nat) : Int) + 20) = ((cs.flatten.length + 20 + 20 : Nat) : Int) := by rw [IntKind.wrap_i64]; omega
    have el : cs.flatten ++ (c ++ R2) = cs.flatten ++ c ++ R2 := by simp
    rw [el] at ha hG hlen
    rw [ef] at ht
    rw [St.knows _ _ ht hz]
    refine Loop.round ?_
    conv => whnf
    refine sel_yes g ?_
    conv => whnf
    refine ins_use hn h26 h73 o h5 (p := cs.flatten) (M := c) (s := R2) (fun x hx => hG x (by simp [hx])) hN hlen (by rw [ef, hc]; rfl) ha (Nat.lt_of_lt_of_le hb (by (conv => lhs; whnf); (repeat ((conv => rhs; whnf); first | with_reducible exact Nat.le_refl _ | refine Nat.le_trans ?_ (Nat.le_add_right _ _) | refine Nat.le_succ_of_le ?_ | exact Nat.le_refl _)))) (fun hp' M' k1 k2 k3 k4 => ?_)
    have hl := k2.length_eq
    have e2 : (cs ++ [M']).flatten = cs.flatten ++ M' := by simp
    have e3 : (cs ++ [M']).flatten.length = cs.flatten.length + 20 := by rw [e2, List.length_append]; omega
    conv => whnf
    refine ih (cs ++ [M']) R2 _ (by omega) (hG.perm ?_) (blk_add hB (by omega) k1) (by rw [List.length_append, e3]; omega) ⟨rfl, rfl, ?_, rfl, ?_, ?_, trivial⟩ rfl (by rw [e2]; exact trunc_arr k3) (Nat.lt_of_lt_of_le k4 (by (conv => lhs; whnf); (repeat ((conv => rhs; whnf); first | with_reducible exact Nat.le_refl _ | refine Nat.le_trans ?_ (Nat.le_add_right _ _) | refine Nat.le_succ_of_le ?_ | exact Nat.le_refl _)))) (fun z' cs' R' q1 q2 q3 => hq z' cs' R' q1 q2 (q3.trans ?_))
    · rw [e2]; exact List.Perm.append_right _ (List.Perm.append_left _ k2)
    · rw [ef]; have := hcl n; rw [ef] at this; exact this
    · exact vi (by rw [e3])
    · conv => lhs; whnf
      exact vi (by rw [w8, e3])
    · rw [e2, el]; exact List.Perm.append_right _ (List.Perm.append_left _ k2)
theorem lstI (hn : Non ext) (h26 : E26 ext) (h73 : E73 ext) (o : Nat) (h5 : o ≤ 5) (N b v : Nat) (hN : N ≤ 65536) (cap : Option Nat) (bs : Nat) (hbs : bs < N) (h0 : 0 < bs) (R : List T) (hR : R.length < bs) (Q : Ex → St → Prop) (n : Nat) (d : Nat) :
    ∀ (cs ds : List (List T)) (z : St), cs.length ≤ d → Gd (ds.flatten ++ cs.flatten ++ R) → Blk (ordF ext o) bs cs → Blk (ordF ext o) (2 * bs) ds → (ds.flatten ++ cs.flatten ++ R).length = N →
      Has z.t [(0, .rsl false b v 0 N), (1, .int .i64 N), (2, rowOf o), (6, .int .i64 bs), (7, .int .i64 ds.flatten.length), (8, .int .i64 ((ds.flatten.length + 2 * bs : Nat) : Int))] → z.hp.n = n → z.hp.a b = some ⟨v, 4, encL (ds.flatten ++ cs.flatten ++ R), cap, 0⟩ → b < z.hp.m →
      (∀ (z' : St) (cs' ds' : List (List T)), cs'.length ≤ 1 → Blk (ordF ext o) bs cs' → Blk (ordF ext o) (2 * bs) ds' → (ds'.flatten ++ cs'.flatten ++ R).Perm (ds.flatten ++ cs.flatten ++ R) →
        Has z'.t [(0, .rsl false b v 0 N), (1, .int .i64 N), (2, rowOf o), (6, .int .i64 bs), (7, .int .i64 ds'.flatten.length)] → z'.hp.a b = some ⟨v, 4, encL (ds'.flatten ++ cs'.flatten ++ R), cap, 0⟩ → b < z'.hp.m → Q (.exit 4) z') →
      Go.Ab.Loop (cfg ext) (lpN Tryd.f36 2) n z Q := by
  have hcl := row_clean o h5
  obtain ⟨fk, fc, ef⟩ := row_fn o h5
  have stop : ∀ (cs ds : List (List T)) (z : St), cs.length ≤ 1 → Blk (ordF ext o) bs cs → Blk (ordF ext o) (2 * bs) ds → (ds.flatten ++ cs.flatten ++ R).length = N →
      Has z.t [(0, .rsl false b v 0 N), (1, .int .i64 N), (2, rowOf o), (6, .int .i64 bs), (7, .int .i64 ds.flatten.length), (8, .int .i64 ((ds.flatten.length + 2 * bs : Nat) : Int))] → z.hp.n = n → z.hp.a b = some ⟨v, 4, encL (ds.flatten ++ cs.flatten ++ R), cap, 0⟩ → b < z.hp.m →
      (∀ (z' : St) (cs' ds' : List (List T)), cs'.length ≤ 1 → Blk (ordF ext o) bs cs' → Blk (ordF ext o) (2 * bs) ds' → (ds'.flatten ++ cs'.flatten ++ R).Perm (ds.flatten ++ cs.flatten ++ R) →
        Has z'.t [(0, .rsl false b v 0 N), (1, .int .i64 N), (2, rowOf o), (6, .int .i64 bs), (7, .int .i64 ds'.flatten.length)] → z'.hp.a b = some ⟨v, 4, encL (ds'.flatten ++ cs'.flatten ++ R), cap, 0⟩ → b < z'.hp.m → Q (.exit 4) z') →
      Go.Ab.Loop (cfg ext) (lpN Tryd.f36 2) n z Q := by
    intro cs ds z hc hB hD hlen ht hz ha hb hq
    have hbl := blk_len hB
    have g : decide (((ds.flatten.length + 2 * bs : Nat) : Int) ≤ (N : Int)) = false := decide_eq_false (by
      simp only [List.length_append] at hlen
      have : cs.length = 0 ∨ cs.length = 1 := by omega
      rcases this with h | h <;> rw [h] at hbl <;> omega)
    rw [St.knows _ _ ht hz]
    refine Loop.round ?_
    conv => whnf
    refine sel_no g ?_
    conv => whnf
    exact hq _ cs ds hc hB hD (List.Perm.refl _) ⟨rfl, rfl, rfl, rfl, rfl, trivial⟩ ha (Nat.lt_of_lt_of_le hb (by (conv => lhs; whnf); (repeat ((conv => rhs; whnf); first | with_reducible exact Nat.le_refl _ | refine Nat.le_trans ?_ (Nat.le_add_right _ _) | refine Nat.le_succ_of_le ?_ | exact Nat.le_refl _))))
  induction d with
  | zero =>
    intro cs ds z hd hG hB hD hlen ht hz ha hb hq
    exact stop cs ds z (by omega) hB hD hlen ht hz ha hb hq
  | succ d ih =>
    intro cs ds z hd hG hB hD hlen ht hz ha hb hq
    match cs, hd, hG, hB, hlen, ha, hq with
    | [], hd, hG, hB, hlen, ha, hq => exact stop [] ds z (by simp) hB hD hlen ht hz ha hb hq
    | [c], hd, hG, hB, hlen, ha, hq => exact stop [c] ds z (by simp) hB hD hlen ht hz ha hb hq
    | c1 :: c2 :: cs, hd, hG, hB, hlen, ha, hq =>
      have b1 := hB c1 (by simp)
      have b2 := hB c2 (by simp)
      simp only [List.length_cons] at hd
      have el : ds.flatten ++ (c1 :: c2 :: cs).flatten ++ R = ds.flatten ++ c1 ++ c2 ++ (cs.flatten ++ R) := by simp
      rw [el] at hG hlen ha
      have hlen' := hlen
      simp only [List.length_append] at hlen'
      have g : decide (((ds.flatten.length + 2 * bs : Nat) : Int) ≤ (N : Int)) = true := decide_eq_true (by omega)
      have w1 : IntKind.i64.wrap ((ds.flatten.length : Int) + (bs : Int)) = ((ds.flatten.length + c1.length : Nat) : Int) := by rw [IntKind.wrap_i64]; omega
      have w2 : IntKind.i64.wrap (2 * (bs : Int)) = ((2 * bs : Nat) : Int) := by rw [IntKind.wrap_i64]; omega
      have w3 : IntKind.i64.wrap (((ds.flatten.length + 2 * bs : Nat) : Int) + IntKind.i64.wrap (2 * (bs : Int))) = ((ds.flatten.length + 2 * bs + 2 * bs : Nat) : Int) := by rw [w2, IntKind.wrap_i64]; omega
      have n2 : ds.flatten.length + 2 * bs = ds.flatten.length + c1.length + c2.length := by omega
      rw [ef] at ht
      rw [St.knows _ _ ht hz]
      refine Loop.round ?_
      conv => whnf
      refine sel_yes g ?_
      conv => whnf
      refine (tsm hn h26 h73 o h5 _ c1 c2 (Nat.le_refl _)).use (p := ds.flatten) (s := cs.flatten ++ R) hG hN hlen (by omega) (by omega) b1.2 b2.2 (by rw [ef, ← w1, ← n2]; rfl) ha (Nat.lt_of_lt_of_le hb (by (conv => lhs; whnf); (repeat ((conv => rhs; whnf); first | with_reducible exact Nat.le_refl _ | refine Nat.le_trans ?_ (Nat.le_add_right _ _) | refine Nat.le_succ_of_le ?_ | exact Nat.le_refl _)))) (fun hp' Z k1 k2 k3 k4 => ?_)
      have hl := k2.length_eq
      rw [List.length_append] at hl
      have e2 : (ds ++ [Z]).flatten = ds.flatten ++ Z := by simp
      have e3 : (ds ++ [Z]).flatten.length = ds.flatten.length + 2 * bs := by rw [e2, List.length_append]; omega
      have e4 : (ds ++ [Z]).flatten ++ cs.flatten ++ R = ds.flatten ++ Z ++ (cs.flatten ++ R) := by simp
      have pz : (ds.flatten ++ Z ++ (cs.flatten ++ R)).Perm (ds.flatten ++ c1 ++ c2 ++ (cs.flatten ++ R)) := by
        rw [show ds.flatten ++ c1 ++ c2 ++ (cs.flatten ++ R) = ds.flatten ++ (c1 ++ c2) ++ (cs.flatten ++ R) by simp]
        exact List.Perm.append_right _ (List.Perm.append_left _ k2)
      conv => whnf
      refine ih cs (ds ++ [Z]) _ (by omega) (hG.perm (by rw [e4]; exact pz)) (fun x hx => hB x (by simp [hx])) (blk_add hD (by omega) k1) (by rw [e4, pz.length_eq]; exact hlen) ⟨rfl, rfl, ?_, rfl, ?_, ?_, trivial⟩ rfl (by rw [e4]; exact trunc_arr k3) (Nat.lt_of_lt_of_le k4 (by (conv => lhs; whnf); (repeat ((conv => rhs; whnf); first | with_reducible exact Nat.le_refl _ | refine Nat.le_trans ?_ (Nat.le_add_right _ _) | refine Nat.le_succ_of_le ?_ | exact Nat.le_refl _)))) (fun z' cs' ds' q0 q1 q2 q3 => hq z' cs' ds' q0 q1 q2 (q3.trans ?_))
      · rw [ef]; have := hcl n; rw [ef] at this; exact this
      · exact vi (by rw [e3])
      · conv => lhs; whnf
        exact vi (by rw [w3, e3])
      · rw [e4, el]; exact pz
end
end Go.Proofs.YtehajklneljbgaaDoor.AB
end

section
set_option linter.unusedVariables false
set_option linter.unusedSimpArgs false
open Go Go.Ab Go.Proofs Go.Vl
namespace Go.Proofs.YtehajklneljbgaaDoor.AB
set_option maxRecDepth 100000
set_option maxHeartbeats 16000000
set_option linter.unusedSimpArgs false
set_option linter.unusedVariables false
section
variable {ext : Exts}
theorem lstB (hn : Non ext) (h26 : E26 ext) (h73 : E73 ext) (o : Nat) (h5 : o ≤ 5) (N b v : Nat) (hN : N ≤ 65536) (cap : Option Nat) (Q : Ex → St → Prop) (n : Nat) (d : Nat) :
    ∀ (bs : Nat) (cs : List (List T)) (R : List T) (z : St), N - bs ≤ d → 0 < bs → R.length < bs → Le (ordF ext o) R → Gd (cs.flatten ++ R) → Blk (ordF ext o) bs cs → (cs.flatten ++ R).length = N →
      Has z.t [(0, .rsl false b v 0 N), (1, .int .i64 N), (2, rowOf o), (6, .int .i64 bs)] → z.hp.n = n → z.hp.a b = some ⟨v, 4, encL (cs.flatten ++ R), cap, 0⟩ → b < z.hp.m →
      (∀ (z' : St) (L' : List T), Le (ordF ext o) L' → L'.Perm (cs.flatten ++ R) → z'.hp.a b = some ⟨v, 4, encL L', cap, 0⟩ → b < z'.hp.m → Q (.exit 2) z') →
      Go.Ab.Loop (cfg ext) (lpN Tryd.f36 1) n z Q := by
  have hcl := row_clean o h5
  obtain ⟨fk, fc, ef⟩ := row_fn o h5
  have hcl' : ∀ n, cleanV n (.fn fk fc) = .fn fk fc := fun n => by have := hcl n; rw [ef] at this; exact this
  have stop : ∀ (bs : Nat) (cs : List (List T)) (R : List T) (z : St), N ≤ bs → R.length < bs → Le (ordF ext o) R → Blk (ordF ext o) bs cs → (cs.flatten ++ R).length = N →
      Has z.t [(0, .rsl false b v 0 N), (1, .int .i64 N), (2, rowOf o), (6, .int .i64 bs)] → z.hp.n = n → z.hp.a b = some ⟨v, 4, encL (cs.flatten ++ R), cap, 0⟩ → b < z.hp.m →
      (∀ (z' : St) (L' : List T), Le (ordF ext o) L' → L'.Perm (cs.flatten ++ R) → z'.hp.a b = some ⟨v, 4, encL L', cap, 0⟩ → b < z'.hp.m → Q (.exit 2) z') →
      Go.Ab.Loop (cfg ext) (lpN Tryd.f36 1) n z Q := by
    intro bs cs R z hNb hR sR hB hlen ht hz ha hb hq
    have hbl := blk_len hB
    have g : decide ((bs : Int) < (N : Int)) = false := decide_eq_false (by omega)
    have fin : Le (ordF ext o) (cs.flatten ++ R) := by
      rw [List.length_append] at hlen
      have hc : cs.length = 0 ∨ cs.length = 1 ∨ 2 ≤ cs.length := by omega
      rcases hc with hc | hc | hc
      · obtain rfl := List.eq_nil_of_length_eq_zero hc
        simpa [Le] using sR
      · obtain ⟨c, rfl⟩ := List.length_eq_one_iff.1 hc
        rw [hc] at hbl
        have : R = [] := List.eq_nil_of_length_eq_zero (by omega)
        subst this
        have := (hB c (by simp)).2
        simpa [Le] using this
      · have : 2 * bs ≤ cs.length * bs := Nat.mul_le_mul_right bs hc
        omega
    rw [St.knows _ _ ht hz]
    refine Loop.round ?_
    conv => whnf
    refine sel_no g ?_
    conv => whnf
    exact hq _ _ fin (List.Perm.refl _) ha (Nat.lt_of_lt_of_le hb (by (conv => lhs; whnf); (repeat ((conv => rhs; whnf); first | with_reducible exact Nat.le_refl _ | refine Nat.le_trans ?_ (Nat.le_add_right _ _) | refine Nat.le_succ_of_le ?_ | exact Nat.le_refl _))))
  induction d with
  | zero =>
    intro bs cs R z hd h0 hR sR hG hB hlen ht hz ha hb hq
    exact stop bs cs R z (by omega) hR sR hB hlen ht hz ha hb hq
  | succ d ih =>
    intro bs cs R z hd h0 hR sR hG hB hlen ht hz ha hb hq
    by_cases hNb : N ≤ bs
    · exact stop bs cs R z hNb hR sR hB hlen ht hz ha hb hq
    have g : decide ((bs : Int) < (N : Int)) = true := decide_eq_true (by omega)
    have w2 : IntKind.i64.wrap (2 * (bs : Int)) = ((([] : List (List T)).flatten.length + 2 * bs : Nat) : Int) := by rw [IntKind.wrap_i64]; simp; omega
    have w4 : IntKind.i64.wrap ((bs : Int) * 2) = ((2 * bs : Nat) : Int) := by rw [IntKind.wrap_i64]; omega
    have e0 : ([] : List (List T)).flatten ++ cs.flatten ++ R = cs.flatten ++ R := by simp
    rw [ef] at ht
    rw [St.knows _ _ ht hz]
    refine Loop.round ?_
    conv => whnf
    refine sel_yes g ?_
    conv => whnf
    refine lstI hn h26 h73 o h5 N b v hN cap bs (by omega) h0 R hR _ _ cs.length cs [] _ (Nat.le_refl _) (by rw [e0]; exact hG) hB (fun c hc => by cases hc) (by rw [e0]; exact hlen) ⟨rfl, rfl, ef.symm, rfl, rfl, ?_, trivial⟩ rfl (by rw [e0]; exact ha) (Nat.lt_of_lt_of_le hb (by (conv => lhs; whnf); (repeat ((conv => rhs; whnf); first | with_reducible exact Nat.le_refl _ | refine Nat.le_trans ?_ (Nat.le_add_right _ _) | refine Nat.le_succ_of_le ?_ | exact Nat.le_refl _)))) (fun z1 cs' ds' q1 q2 q3 q4 q5 q6 q7 => ?_)
    · conv => lhs; whnf
      exact vi w2
    rw [e0] at q4
    have hl4 := q4.length_eq
    rw [hlen] at hl4
    simp only [List.length_append] at hl4
    have hbl := blk_len q2
    have w5 : IntKind.i64.wrap ((ds'.flatten.length : Int) + (bs : Int)) = ((ds'.flatten.length + bs : Nat) : Int) := by rw [IntKind.wrap_i64]; omega
    rw [ef] at q5
    have hG' : Gd (ds'.flatten ++ cs'.flatten ++ R) := hG.perm q4
    by_cases hm : ds'.flatten.length + bs < N
    · -- one row and what is left
      have g2 : decide (IntKind.i64.wrap ((ds'.flatten.length : Int) + (bs : Int)) < (N : Int)) = true := decide_eq_true (by rw [w5]; omega)
      have hc1 : cs'.length = 1 := by
        have h : cs'.length = 0 ∨ cs'.length = 1 := by omega
        rcases h with h | h
        · rw [h] at hbl; omega
        · exact h
      rw [hc1] at hbl
      have hR0 : 0 < R.length := by omega
      have hNN : ds'.flatten.length + bs + R.length = N := by omega
      obtain ⟨c, rfl⟩ := List.length_eq_one_iff.1 hc1
      have hc := q2 c (by simp)
      have e1 : ds'.flatten ++ [c].flatten ++ R = ds'.flatten ++ c ++ R ++ [] := by simp
      rw [e1] at q6 hG' q4
      rw [St.knows _ z1.hp.n q5 rfl]
      conv => whnf
      refine sel_yes g2 ?_
      conv => whnf
      refine (tsm hn h26 h73 o h5 _ c R (Nat.le_refl _)).use (p := ds'.flatten) (s := []) hG' hN (by rw [q4.length_eq]; exact hlen) (by omega) hR0 hc.2 sR (by rw [ef, hc.1, ← w5, hNN]; rfl) q6 (Nat.lt_of_lt_of_le q7 (by (conv => lhs; whnf); (repeat ((conv => rhs; whnf); first | with_reducible exact Nat.le_refl _ | refine Nat.le_trans ?_ (Nat.le_add_right _ _) | refine Nat.le_succ_of_le ?_ | exact Nat.le_refl _)))) (fun hp' Z k1 k2 k3 k4 => ?_)
      have hlz := k2.length_eq
      rw [List.length_append] at hlz
      have e2 : ds'.flatten ++ Z ++ [] = ds'.flatten ++ Z := by simp
      rw [e2] at k3
      have pz : (ds'.flatten ++ Z).Perm (cs.flatten ++ R) := (List.Perm.append_left _ k2).trans (by rw [← List.append_assoc]; simpa using q4)
      conv => whnf
      refine ih (2 * bs) ds' Z _ (by omega) (by omega) (by omega) k1 (hG.perm pz) q3 (by rw [pz.length_eq]; exact hlen) ⟨rfl, rfl, (hcl' n).trans ef.symm, ?_, trivial⟩ rfl (trunc_arr k3) (Nat.lt_of_lt_of_le k4 (by (conv => lhs; whnf); (repeat ((conv => rhs; whnf); first | with_reducible exact Nat.le_refl _ | refine Nat.le_trans ?_ (Nat.le_add_right _ _) | refine Nat.le_succ_of_le ?_ | exact Nat.le_refl _)))) (fun z' L' r1 r2 => hq z' L' r1 (r2.trans pz))
      conv => lhs; whnf
      exact vi w4
    · have g2 : decide (IntKind.i64.wrap ((ds'.flatten.length : Int) + (bs : Int)) < (N : Int)) = false := decide_eq_false (by rw [w5]; omega)
      obtain ⟨Z, z1', z2', z3'⟩ : ∃ Z, ds'.flatten ++ cs'.flatten ++ R = ds'.flatten ++ Z ∧ Le (ordF ext o) Z ∧ Z.length < 2 * bs := by
        have h : cs'.length = 0 ∨ cs'.length = 1 := by omega
        rcases h with h | h
        · obtain rfl := List.eq_nil_of_length_eq_zero h
          exact ⟨R, by simp, sR, by omega⟩
        · rw [h] at hbl
          obtain ⟨c, rfl⟩ := List.length_eq_one_iff.1 h
          have hc := q2 c (by simp)
          have : R = [] := List.eq_nil_of_length_eq_zero (by omega)
          subst this
          exact ⟨c, by simp, hc.2, by omega⟩
      rw [z1'] at q6 q4
      rw [St.knows _ z1.hp.n q5 rfl]
      conv => whnf
      refine sel_no g2 ?_
      conv => whnf
      refine ih (2 * bs) ds' Z _ (by omega) (by omega) z3' z2' (hG.perm q4) q3 (by rw [q4.length_eq]; exact hlen) ⟨rfl, rfl, (hcl' n).trans ef.symm, ?_, trivial⟩ rfl (trunc_arr q6) (Nat.lt_of_lt_of_le q7 (by (conv => lhs; whnf); (repeat ((conv => rhs; whnf); first | with_reducible exact Nat.le_refl _ | refine Nat.le_trans ?_ (Nat.le_add_right _ _) | refine Nat.le_succ_of_le ?_ | exact Nat.le_refl _)))) (fun z' L' r1 r2 => hq z' L' r1 (r2.trans q4))
      conv => lhs; whnf
      exact vi w4
theorem tstab (hn : Non ext) (h26 : E26 ext) (h73 : E73 ext) (o : Nat) (h5 : o ≤ 5) (b v : Nat) (cap : Option Nat) (l : List T) (hl : l.length ≤ 65536) (hG : Gd l) (hp : Hp) (ha : hp.a b = some ⟨v, 4, encL l, cap, 0⟩) (hb : b < hp.m) :
    ∃ hp' L', (cfg ext).EvR 36 [.rsl false b v 0 l.length, .int .i64 l.length, rowOf o] hp (.tup []) hp' ∧ Le (ordF ext o) L' ∧ L'.Perm l ∧ hp'.a b = some ⟨v, 4, encL L', cap, 0⟩ ∧ b < hp'.m := by
  have key : ∃ r hp', (cfg ext).EvR 36 [.rsl false b v 0 l.length, .int .i64 l.length, rowOf o] hp r hp' ∧ (r = .tup [] ∧ ∃ L', Le (ordF ext o) L' ∧ L'.Perm l ∧ hp'.a b = some ⟨v, 4, encL L', cap, 0⟩ ∧ b < hp'.m) := by
    obtain ⟨fk, fc, ef⟩ := row_fn o h5
    have ha0 : hp.a b = some ⟨v, 4, encL (([] : List (List T)).flatten ++ l), cap, 0⟩ := by simpa using ha
    refine EvR.ofE Tryd.func36 rfl rfl ?_
    conv => whnf
    refine lstA hn h26 h73 o h5 l.length b v hl cap _ _ l.length [] l _ (Nat.le_refl _) (by simpa using hG) (fun c hc => by cases hc) (by simp) ⟨rfl, rfl, rfl, rfl, rfl, rfl, trivial⟩ rfl ha0 (Nat.lt_of_lt_of_le hb (by (conv => lhs; whnf); (repeat ((conv => rhs; whnf); first | with_reducible exact Nat.le_refl _ | refine Nat.le_trans ?_ (Nat.le_add_right _ _) | refine Nat.le_succ_of_le ?_ | exact Nat.le_refl _)))) (fun z cs R q1 q2 q3 q4 q5 q6 => ?_)
    have hlR : (cs.flatten ++ R ++ []).length = l.length := by have := q3.length_eq; simpa using this
    have hlR' := hlR
    simp only [List.length_append, List.length_nil] at hlR'
    have q3' : (cs.flatten ++ R).Perm l := by simpa using q3
    have q5' : z.hp.a b = some ⟨v, 4, encL (cs.flatten ++ R ++ []), cap, 0⟩ := by simpa using q5
    rw [ef] at q4
    rw [St.knows _ z.hp.n q4 rfl]
    conv => whnf
    refine ins_use hn h26 h73 o h5 (p := cs.flatten) (M := R) (s := []) (fun x hx => hG x (q3'.mem_iff.1 (by simp [hx]))) hl hlR (by rw [ef, show cs.flatten.length + R.length = l.length by omega]; rfl) q5' (Nat.lt_of_lt_of_le q6 (by (conv => lhs; whnf); (repeat ((conv => rhs; whnf); first | with_reducible exact Nat.le_refl _ | refine Nat.le_trans ?_ (Nat.le_add_right _ _) | refine Nat.le_succ_of_le ?_ | exact Nat.le_refl _)))) (fun hp' M' k1 k2 k3 k4 => ?_)
    have hlM := k2.length_eq
    have pz : (cs.flatten ++ M').Perm l := (List.Perm.append_left _ k2).trans q3'
    have k3' : hp'.a b = some ⟨v, 4, encL (cs.flatten ++ M'), cap, 0⟩ := by simpa using k3
    conv => whnf
    refine lstB hn h26 h73 o h5 l.length b v hl cap _ _ l.length 20 cs M' _ (by omega) (by omega) (by omega) k1 (hG.perm pz) q1 (by rw [pz.length_eq]) ⟨rfl, rfl, ef.symm, rfl, trivial⟩ rfl k3' (Nat.lt_of_lt_of_le k4 (by (conv => lhs; whnf); (repeat ((conv => rhs; whnf); first | with_reducible exact Nat.le_refl _ | refine Nat.le_trans ?_ (Nat.le_add_right _ _) | refine Nat.le_succ_of_le ?_ | exact Nat.le_refl _)))) (fun z' L' r1 r2 r3 r4 => ?_)
    exact ⟨rfl, L', r1, r2.trans pz, r3, r4⟩
  obtain ⟨r, hp', h, rfl, L', k1, k2, k3, k4⟩ := key
  exact ⟨hp', L', h, k1, k2, k3, k4⟩
theorem tsortS (hn : Non ext) (h26 : E26 ext) (h73 : E73 ext) (o : Nat) (h5 : o ≤ 5) (b v : Nat) (cap : Option Nat) (l : List T) (hl : l.length ≤ 65536) (hG : Gd l) (hp : Hp) (ha : hp.a b = some ⟨v, 4, encL l, cap, 0⟩) (hb : b < hp.m) :
    ∃ hp' L', (cfg ext).EvR 29 [.rsl false b v 0 l.length, rowOf o] hp (.tup []) hp' ∧ Le (ordF ext o) L' ∧ L'.Perm l ∧ hp'.a b = some ⟨v, 4, encL L', cap, 0⟩ ∧ b < hp'.m := by
  have key : ∃ r hp', (cfg ext).EvR 29 [.rsl false b v 0 l.length, rowOf o] hp r hp' ∧ (r = .tup [] ∧ ∃ L', Le (ordF ext o) L' ∧ L'.Perm l ∧ hp'.a b = some ⟨v, 4, encL L', cap, 0⟩ ∧ b < hp'.m) := by
    obtain ⟨fk, fc, ef⟩ := row_fn o h5
    refine EvR.ofE Tryd.func29 rfl rfl ?_
    rw [ef]
    conv => whnf
    obtain ⟨hp', L', h, k1, k2, k3, k4⟩ := tstab (ext := ext) hn h26 h73 o h5 b v cap l hl hG ⟨hp.h, hp.n + 5, hp.a, hp.m + 5⟩ ha (Nat.lt_of_lt_of_le hb (Nat.le_add_right _ _))
    rw [ef] at h
    refine ⟨_, hp', h, ?_⟩
    conv => whnf
    exact ⟨rfl, L', k1, k2, k3, k4⟩
  obtain ⟨r, hp', h, rfl, L', k1, k2, k3, k4⟩ := key
  exact ⟨hp', L', h, k1, k2, k3, k4⟩
end
end Go.Proofs.YtehajklneljbgaaDoor.AB
end

section
set_option linter.unusedVariables false
set_option linter.unusedSimpArgs false
open Go Go.Ab Go.Proofs Go.Vl
namespace Go.Proofs.YtehajklneljbgaaDoor.AB
set_option maxRecDepth 100000
set_option maxHeartbeats 16000000
set_option linter.unusedSimpArgs false
set_option linter.unusedVariables false
theorem EvR.extR {C : Cfg} {f : Nat} {g : List V → Hp → Option (V × Hp)} {xs : List V} {hp hp' : Hp} {r : V} (h1 : C.okF f = false) (h2 : C.extR f = some g) (h3 : g xs hp = some (r, hp')) : C.EvR f xs hp r hp' :=
  ⟨1, fun k hk => by
    obtain ⟨k, rfl⟩ : ∃ m, k = m + 1 := ⟨k - 1, by omega⟩
    simp only [Cfg.R, evalR, h1, if_true, h2]
    exact h3⟩
theorem encC : ∀ (l : List T), ∀ c ∈ encL l, cold c = true
  | [], c, h => by simp [encL] at h
  | v :: l, c, h => by
    simp only [encL, enc_eq, List.mem_append] at h
    rcases h with h | h
    · simp at h; rcases h with rfl | rfl | rfl | rfl <;> rfl
    · exact encC l c h
section
variable {ext : Exts}
theorem clone_use {l : List T} {c : Bool} {hp : Hp} {Q : V → Hp → Prop} (hl : l.length ≤ 1000000) (q0 : l = [] → Q (.sl true [] 0) ⟨hp.h, hp.n + 7, hp.a, hp.m + 7⟩) (q1 : 0 < l.length → ∀ a', a' (hp.m + 5) = some ⟨0, 4, encL l, none, 0⟩ → Q (.rsl false (hp.m + 5) 0 0 l.length) ⟨hp.h, hp.n + 7, a', hp.m + 7⟩) :
    ∃ r hp', (cfg ext).EvR 28 [.sl c (encL l) l.length] hp r hp' ∧ Q r hp' := by
  cases l with
  | nil =>
    refine ⟨_, _, EvR.extR (g := cloneR 4 56) rfl rfl ?_, q0 rfl⟩
    rfl
  | cons v l =>
    have hlen := encL_len (v :: l)
    refine ⟨.rsl false (hp.m + 5) 0 0 (v :: l).length, ⟨hp.h, hp.n + 7, upd hp.a (hp.m + 5) (some ⟨0, 4, encL (v :: l), none, 0⟩), hp.m + 7⟩, EvR.extR (g := cloneR 4 56) rfl rfl ?_, q1 (by simp) _ (upd_is _ _ _)⟩
    have hc : content none hp 4 (.sl c (encL (v :: l)) (v :: l).length) = some (encL (v :: l), l.length + 1) := by
      simp only [content]
      rw [if_pos hlen]; rfl
    show (match content none hp 4 (.sl c (encL (v :: l)) (v :: l).length) with
      | some (_, 0) => some (V.sl true [] 0, (⟨hp.h, hp.n + 7, hp.a, hp.m + 7⟩ : Hp))
      | some (cs, n + 1) => if (n + 1) * 56 ≤ maxRoom ∧ n + 1 ≤ maxRoom then some (V.rsl false (hp.m + 5) 0 0 (n + 1), (⟨hp.h, hp.n + 7, upd hp.a (hp.m + 5) (some ⟨0, 4, cs, none, 0⟩), hp.m + 7⟩ : Hp)) else none
      | none => none) = _
    rw [hc]
    simp only [List.length_cons] at hl ⊢
    rw [if_pos (by unfold maxRoom; omega)]
theorem tins0 (o : Nat) (h5 : o ≤ 5) (hp : Hp) : ∃ hp', (cfg ext).EvR 46 [.sl true [] 0, .int .i64 0, .int .i64 0, rowOf o] hp (.tup []) hp' := by
  have key : ∃ r hp', (cfg ext).EvR 46 [.sl true [] 0, .int .i64 0, .int .i64 0, rowOf o] hp r hp' ∧ r = .tup [] := by
    refine EvR.ofE Tryd.func46 rfl rfl ?_
    conv => whnf
    refine Loop.round ?_
    conv => whnf
    try exact rfl
  obtain ⟨r, hp', h, rfl⟩ := key
  exact ⟨hp', h⟩
theorem tsortS0 (o : Nat) (h5 : o ≤ 5) (hp : Hp) : ∃ hp', (cfg ext).EvR 29 [.sl true [] 0, rowOf o] hp (.tup []) hp' := by
  obtain ⟨fk, fc, ef⟩ := row_fn o h5
  have st : ∀ hp : Hp, ∃ hp', (cfg ext).EvR 36 [.sl true [] 0, .int .i64 0, rowOf o] hp (.tup []) hp' := by
    intro hp
    have key : ∃ r hp', (cfg ext).EvR 36 [.sl true [] 0, .int .i64 0, rowOf o] hp r hp' ∧ r = .tup [] := by
      refine EvR.ofE Tryd.func36 rfl rfl ?_
      rw [ef]
      conv => whnf
      refine Loop.round ?_
      conv => whnf
      obtain ⟨hp1, h1⟩ := tins0 (ext := ext) o h5 ⟨hp.h, hp.n + 12, hp.a, hp.m + 12⟩
      rw [ef] at h1
      refine ⟨_, _, h1, ?_⟩
      conv => whnf
      refine Loop.round ?_
      conv => whnf
      try exact rfl
    obtain ⟨r, hp', h, rfl⟩ := key
    exact ⟨hp', h⟩
  have key : ∃ r hp', (cfg ext).EvR 29 [.sl true [] 0, rowOf o] hp r hp' ∧ r = .tup [] := by
    refine EvR.ofE Tryd.func29 rfl rfl ?_
    rw [ef]
    conv => whnf
    obtain ⟨hp', h⟩ := st ⟨hp.h, hp.n + 5, hp.a, hp.m + 5⟩
    rw [ef] at h
    refine ⟨_, hp', h, ?_⟩
    conv => whnf
    try exact rfl
  obtain ⟨r, hp', h, rfl⟩ := key
  exact ⟨hp', h⟩
/-- a sorted list of its own -/
theorem tsorted (hn : Non ext) (h26 : E26 ext) (h73 : E73 ext) (o : Nat) (h5 : o ≤ 5) (l : List T) (hl : l.length ≤ 65536) (hG : Gd l) :
    ∃ L', Le (ordF ext o) L' ∧ L'.Perm l ∧ (cfg ext).Ev 17 [.sl false (encL l) l.length, rowOf o] (.sl false (encL L') L'.length) := by
  have key : ∃ r, (cfg ext).Ev 17 [.sl false (encL l) l.length, rowOf o] r ∧ ∃ L', Le (ordF ext o) L' ∧ L'.Perm l ∧ r = .sl false (encL L') L'.length := by
    obtain ⟨fk, fc, ef⟩ := row_fn o h5
    refine Ev.ofF (hn 17 (by decide) (by decide)) Tryd.func17 rfl rfl ?_
    rw [ef]
    conv => whnf
    refine clone_use (by omega) (fun h0 => ?_) (fun h0 a' ha => ?_)
    · subst h0
      conv => whnf
      obtain ⟨hp', h⟩ := tsortS0 (ext := ext) o h5 ⟨(Hp.empty).h, 14, (Hp.empty).a, 14⟩
      rw [ef] at h
      refine ⟨_, hp', h, ?_⟩
      conv => whnf
      exact Fin.of_eq (v := .sl false [] 0) rfl ⟨[], List.Pairwise.nil, List.Perm.refl _, rfl⟩
    · conv => whnf
      obtain ⟨hp', L', h, k1, k2, k3, k4⟩ := tsortS (ext := ext) hn h26 h73 o h5 _ 0 none l hl hG ⟨(Hp.empty).h, 14, a', 14⟩ ha (show (9 : Nat) < 14 by decide)
      rw [ef] at h
      refine ⟨_, hp', h, ?_⟩
      conv => whnf
      refine Fin.gro (sz := 4) (m := hp'.m) (cs := encL L') (n := l.length) rfl ⟨by rw [encL_len, k2.length_eq], encC L', .inr ⟨_, 0, k4, rfl, k3⟩⟩ ⟨L', k1, k2, by rw [k2.length_eq]⟩
  obtain ⟨r, h, L', k1, k2, rfl⟩ := key
  exact ⟨L', k1, k2, h⟩
end
end Go.Proofs.YtehajklneljbgaaDoor.AB
end

section
set_option linter.unusedVariables false
set_option linter.unusedSimpArgs false
open Go Go.Ab Go.Proofs Go.Vl
namespace Go.Proofs.YtehajklneljbgaaDoor.AB
set_option maxRecDepth 100000
set_option maxHeartbeats 16000000
set_option linter.unusedSimpArgs false
set_option linter.unusedVariables false
theorem subF {l : List T} {i : Nat} (h : i < l.length) : sub (encL l) (i * 4 + 3) 1 = [.sl false (encL l[i].f3) l[i].f3.length] := by
  unfold sub
  rw [← List.drop_drop, encL_drop, List.drop_eq_getElem_cons h]
  simp only [encL, enc_eq]
  rfl
theorem ldF {hp : Hp} {lim : Option (Nat × Nat)} {b v ro : Nat} {l : List T} {cap : Option Nat} {i : Nat} {x : T} {Q : V → Prop} (h : hp.a b = some ⟨v, 4, encL l, cap, ro⟩) (hl : ∀ m, lim = some m → b < m.2) (hx : l[i]? = some x) (hq : Q (.sl false (encL x.f3) x.f3.length)) :
    opt (Go.Ab.look lim hp (.aref b v (0 + (i : Int).toNat * 4 + 3)) 1) fun cs => opt (one (some false) cs) fun v => fv v Q := by
  have hlen := encL_len l
  obtain ⟨hi, rfl⟩ := List.getElem?_eq_some_iff.1 hx
  refine opt_look h hl (by simp; omega) ?_
  rw [show 0 + (i : Int).toNat * 4 + 3 = i * 4 + 3 by simp, subF hi]
  exact hq
theorem fill_same {cs vs : List V} {o : Nat} (h : sub cs o vs.length = vs) (ho : o + vs.length ≤ cs.length) : fillL cs o vs = cs := by
  unfold fillL
  unfold sub at h
  conv => lhs; arg 1; arg 2; rw [← h]
  rw [← List.drop_drop, List.append_assoc, List.take_append_drop, List.take_append_drop]
theorem stF {hp : Hp} {b v : Nat} {l : List T} {cap : Option Nat} {i : Nat} {x : T} {Q : V × Hp → Prop} (h : hp.a b = some ⟨v, 4, encL l, cap, 0⟩) (hx : l[i]? = some x) (q : ∀ a', a' b = some ⟨v, 4, encL l, cap, 0⟩ → Q (.tup [], ⟨hp.h, hp.n, a', hp.m⟩)) :
    opt ((storeV hp (.aref b v (0 + (i : Int).toNat * 4 + 3)) [.sl false (encL x.f3) x.f3.length]).bind fun hp' => some (.tup [], hp')) Q := by
  have hlen := encL_len l
  obtain ⟨hi, rfl⟩ := List.getElem?_eq_some_iff.1 hx
  refine opt_store h (Nat.zero_le _) (by simp; omega) (fun a' h1 _ => q a' ?_)
  rw [h1, show 0 + (i : Int).toNat * 4 + 3 = i * 4 + 3 by simp, fill_same (subF hi) (by simp; omega)]
section
variable {ext : Exts}
def OwnE (ext : Exts) (l : List T) : Prop := (cfg ext).Ev 16 [.sl false (encL l) l.length] (.sl false (encL l) l.length)
theorem lown (l : List T) (hl : l.length ≤ 1000000) (E : ∀ a ∈ l, OwnE ext a.f3) (b v : Nat) (Q : Ex → St → Prop) (n : Nat) (d : Nat) :
    ∀ (i : Nat) (z : St), l.length - i = d → i ≤ l.length → Has z.t [(3, .rsl false b v 0 l.length), (8, .int .i64 l.length), (9, .int .i64 i)] → z.hp.n = n → z.hp.a b = some ⟨v, 4, encL l, none, 0⟩ → b < z.hp.m →
      (∀ z' : St, Has z'.t [(3, .rsl false b v 0 l.length)] → z'.hp.a b = some ⟨v, 4, encL l, none, 0⟩ → b < z'.hp.m → Q (.exit 0) z') →
      Go.Ab.Loop (cfg ext) (lpOf Tryd.f16) n z Q := by
  induction d with
  | zero =>
    intro i z hd hi ht hz ha hb hq
    have g : decide ((i : Int) < (l.length : Int)) = false := decide_eq_false (by omega)
    rw [St.knows _ _ ht hz]
    refine Loop.round ?_
    conv => whnf
    refine sel_no g ?_
    conv => whnf
    exact hq _ ⟨rfl, trivial⟩ ha (Nat.lt_of_lt_of_le hb (by (conv => lhs; whnf); (repeat ((conv => rhs; whnf); first | with_reducible exact Nat.le_refl _ | refine Nat.le_trans ?_ (Nat.le_add_right _ _) | refine Nat.le_succ_of_le ?_ | exact Nat.le_refl _))))
  | succ d ih =>
    intro i z hd hi ht hz ha hb hq
    have hlt : i < l.length := by omega
    have g : decide ((i : Int) < (l.length : Int)) = true := decide_eq_true (by omega)
    have e1 : IntKind.i64.wrap ((i : Int) + 1) = ((i + 1 : Nat) : Int) := wrapN (by omega) (by omega)
    obtain ⟨x, hx⟩ : ∃ x, l[i]? = some x := ⟨_, List.getElem?_eq_getElem hlt⟩
    have hE := E x (List.mem_of_getElem? hx)
    unfold OwnE at hE
    rw [St.knows _ _ ht hz]
    refine Loop.round ?_
    conv => whnf
    refine sel_yes g ?_
    conv => whnf
    refine ⟨⟨by omega, by omega⟩, ?_⟩
    conv => whnf
    refine ldF ha (fun l hl => by cases hl) hx ?_
    conv => whnf
    refine ⟨_, hE, ?_⟩
    conv => whnf
    refine ⟨⟨by omega, by omega⟩, ?_⟩
    conv => whnf
    refine stF ha hx (fun a1 h1 => ?_)
    conv => whnf
    refine ih (i + 1) _ (by omega) (by omega) ⟨rfl, rfl, ?_, trivial⟩ rfl (trunc_arr h1) (Nat.lt_of_lt_of_le hb (by (conv => lhs; whnf); (repeat ((conv => rhs; whnf); first | with_reducible exact Nat.le_refl _ | refine Nat.le_trans ?_ (Nat.le_add_right _ _) | refine Nat.le_succ_of_le ?_ | exact Nat.le_refl _)))) hq
    conv => lhs; whnf
    exact vi e1
theorem town1 (hn : Non ext) (l : List T) (hl : l.length ≤ 1000000) (E : ∀ a ∈ l, OwnE ext a.f3) : OwnE ext l := by
  have key : ∃ r, (cfg ext).Ev 16 [.sl false (encL l) l.length] r ∧ r = .sl false (encL l) l.length := by
    refine Ev.ofF (hn 16 (by decide) (by decide)) Tryd.func16 rfl rfl ?_
    conv => whnf
    refine clone_use hl (fun h0 => ?_) (fun h0 a' ha => ?_)
    · subst h0
      conv => whnf
      refine Loop.round ?_
      conv => whnf
      exact Fin.of_eq (v := .sl false [] 0) rfl (by simp only [encL]; rfl)
    · conv => whnf
      refine lown l hl E _ _ _ _ l.length 0 _ rfl (by omega) ⟨rfl, rfl, rfl, trivial⟩ rfl ha (show (9 : Nat) < 14 by decide) (fun z h1 h2 h3 => ?_)
      rw [St.knows _ z.hp.n h1 rfl]
      conv => whnf
      exact Fin.gro (sz := 4) (m := z.hp.m) (cs := encL l) (n := l.length) rfl ⟨encL_len l, encC l, .inr ⟨_, _, h3, rfl, h2⟩⟩ rfl
  obtain ⟨r, h, rfl⟩ := key
  exact h
mutual
theorem ownV (hn : Non ext) : (v : T) → partsV v ≤ 1024 → OwnE ext v.f3
  | ⟨k, n, t, l⟩, hp => by
    simp only [partsV] at hp
    have h1 := partsL_len l
    exact town1 hn l (by omega) (ownL hn l (by omega))
theorem ownL (hn : Non ext) : (l : List T) → partsL l ≤ 1024 → ∀ a ∈ l, OwnE ext a.f3
  | [], _, a, ha => by cases ha
  | v :: l, hp, a, ha => by
    simp only [partsL] at hp
    rcases List.mem_cons.1 ha with h | ha
    · rw [h]; exact ownV hn v (by omega)
    · exact ownL hn l (by omega) a ha
end
theorem town06 (hn : Non ext) (l : List T) (hl : l.length ≤ 1000000) (hG : Gd l) : OwnE ext l := town1 hn l hl (fun a ha => ownV hn a (okB_iff.1 (hG a ha).2).2.2)
/-- what Sort says -/
structure SortR (ext : Exts) (o : Int) (l L : List T) : Prop where
  ok : listedZ l = 0 → Le (ordF ext o) L ∧ L.Perm l
  no : listedZ l ≠ 0 → L = []
theorem Gd.of {l : List T} (hz : listedZ l = 0) (hw : ∀ a ∈ l, WfV a) : Gd l := fun x hx => ⟨hw x hx, (listed_ok hz).2 x hx⟩
theorem psort (hn : Non ext) (h26 : E26 ext) (h73 : E73 ext) (o : Nat) (h5 : o ≤ 5) (l : List T) (hw : ∀ a ∈ l, WfV a) :
    ∃ L, SortR ext o l L ∧ (cfg ext).Ev 8 [.int .i64 o, .sl false (encL l) l.length] (.tup [.sl false (encL L) L.length, .int .i64 (listedZ l)]) := by
  have key : ∃ r, (cfg ext).Ev 8 [.int .i64 o, .sl false (encL l) l.length] r ∧ ∃ L, SortR ext o l L ∧ r = .tup [.sl false (encL L) L.length, .int .i64 (listedZ l)] := by
    have hL := plisted hn h26 h73 o h5 l hw
    refine Ev.ofF (hn 8 (by decide) (by decide)) Tryd.func8 rfl rfl ?_
    by_cases hz : listedZ l = 0
    · have hok := listed_ok hz
      obtain ⟨L, k1, k2, hS⟩ := tsorted (ext := ext) hn h26 h73 o h5 l hok.1 (Gd.of hz hw)
      have hO := town06 hn L (by rw [k2.length_eq]; omega) ((Gd.of hz hw).perm k2)
      unfold OwnE at hO
      rw [hz] at hL ⊢
      have fin : SortR ext o l L := ⟨fun _ => ⟨k1, k2⟩, fun h => absurd hz h⟩
      obtain ⟨fk, fc, ef⟩ := row_fn o h5
      have c6 : o = 0 ∨ o = 1 ∨ o = 2 ∨ o = 3 ∨ o = 4 ∨ o = 5 := by omega
      rcases c6 with rfl | rfl | rfl | rfl | rfl | rfl
      all_goals
        conv => whnf
        refine ⟨_, hL, ?_⟩
        conv => whnf
        refine ⟨_, hS, ?_⟩
        conv => whnf
        refine ⟨_, hO, ?_⟩
        conv => whnf
        exact Fin.of_eq (v := .tup [.sl false (encL L) L.length, .int .i64 0]) rfl ⟨L, fin, rfl⟩
    · have fin : SortR ext o l [] := ⟨fun h => absurd h hz, fun _ => rfl⟩
      generalize listedZ l = e at hL hz ⊢
      have c6 : o = 0 ∨ o = 1 ∨ o = 2 ∨ o = 3 ∨ o = 4 ∨ o = 5 := by omega
      rcases c6 with rfl | rfl | rfl | rfl | rfl | rfl
      all_goals
        conv => whnf
        refine ⟨_, hL, ?_⟩
        conv => whnf
        refine sel_yes (by simpa using hz) ?_
        conv => whnf
        exact Fin.of_eq (v := .tup [.sl false [] 0, .int .i64 e]) rfl ⟨[], fin, by simp only [encL]; rfl⟩
  obtain ⟨r, h, L, k, rfl⟩ := key
  exact ⟨L, k, h⟩
end
end Go.Proofs.YtehajklneljbgaaDoor.AB
end

section
set_option linter.unusedVariables false
set_option linter.unusedSimpArgs false
open Go Go.Ab Go.Proofs Go.Vl
namespace Go.Proofs.YtehajklneljbgaaDoor.AB
set_option maxRecDepth 100000
set_option maxHeartbeats 16000000
set_option linter.unusedSimpArgs false
set_option linter.unusedVariables false
/-- the first by an order -/
def minF (f : T → T → Int) (m : T) : List T → T
  | [] => m
  | x :: l => minF f (if f x m < 0 then x else m) l
theorem minF_mem (f : T → T → Int) : ∀ (l : List T) (m : T), minF f m l = m ∨ minF f m l ∈ l
  | [], m => .inl rfl
  | x :: l, m => by
    simp only [minF]
    rcases minF_mem f l (if f x m < 0 then x else m) with h | h
    · rw [h]
      split
      · exact .inr (by simp)
      · exact .inl rfl
    · exact .inr (by simp [h])
section
variable {ext : Exts}
open Classical in
open Classical in
def zBox : Bx := .cells [.int .i64 0, .int .i64 0, .str ⟨#[]⟩, .sl true [] 0] false
end
end Go.Proofs.YtehajklneljbgaaDoor.AB
end

section
set_option linter.unusedVariables false
set_option linter.unusedSimpArgs false
open Go Go.Ab Go.Proofs Go.Vl
namespace Go.Proofs.YtehajklneljbgaaDoor.AB
set_option maxRecDepth 100000
set_option maxHeartbeats 16000000
set_option linter.unusedSimpArgs false
set_option linter.unusedVariables false
def T0 : T := ⟨0, 0, ⟨#[]⟩, []⟩
/-- the first of a list, and what is wrong -/
noncomputable def leastF (f : T → T → Int) (l : List T) : T × Int := if listedZ l ≠ 0 then (T0, listedZ l) else match l with | [] => (T0, 6) | x :: xs => (minF f x xs, 0)
section
variable {ext : Exts}
end
end Go.Proofs.YtehajklneljbgaaDoor.AB
end

section
set_option linter.unusedVariables false
set_option linter.unusedSimpArgs false
open Go Go.Ab Go.Proofs Go.Vl
namespace Go.Proofs.YtehajklneljbgaaDoor.AB
set_option maxRecDepth 100000
set_option maxHeartbeats 16000000
set_option linter.unusedSimpArgs false
set_option linter.unusedVariables false
/-- two sorted lists put together -/
def mrgF (f : T → T → Int) : List T → List T → List T
  | [], ys => ys
  | x :: xs, [] => x :: xs
  | x :: xs, y :: ys => if f x y ≤ 0 then x :: mrgF f xs (y :: ys) else y :: mrgF f (x :: xs) ys
termination_by xs ys => xs.length + ys.length
theorem mrgF_nil (f : T → T → Int) (xs : List T) : mrgF f xs [] = xs := by cases xs <;> simp [mrgF]
theorem mrgF_perm (f : T → T → Int) : ∀ (n : Nat) (xs ys : List T), xs.length + ys.length ≤ n → (mrgF f xs ys).Perm (xs ++ ys)
  | _, [], ys, _ => by simp [mrgF]
  | _, x :: xs, [], _ => by simp [mrgF]
  | 0, x :: xs, y :: ys, h => by simp at h
  | n + 1, x :: xs, y :: ys, h => by
    rw [mrgF]
    simp only [List.length_cons] at h
    split
    · exact List.Perm.cons _ (mrgF_perm f n xs (y :: ys) (by simp only [List.length_cons]; omega))
    · refine (List.Perm.cons _ (mrgF_perm f n (x :: xs) ys (by simp only [List.length_cons]; omega))).trans ?_
      exact (List.perm_middle (l₁ := x :: xs)).symm
theorem mrgF_le {f : T → T → Int} (hf : Line f) : ∀ (n : Nat) (xs ys : List T), xs.length + ys.length ≤ n → (∀ x ∈ xs, Shp x) → (∀ x ∈ ys, Shp x) → Le f xs → Le f ys → Le f (mrgF f xs ys)
  | _, [], ys, _, _, _, _, h => by simpa [mrgF] using h
  | _, x :: xs, [], _, _, _, h, _ => by simpa [mrgF] using h
  | 0, x :: xs, y :: ys, h, _, _, _, _ => by simp at h
  | n + 1, x :: xs, y :: ys, h, hx, hy, sx, sy => by
    rw [mrgF]
    simp only [List.length_cons] at h
    have sx' := List.pairwise_cons.1 sx
    have sy' := List.pairwise_cons.1 sy
    have ix := hx x (by simp)
    have iy := hy y (by simp)
    split
    · rename_i hc
      refine List.pairwise_cons.2 ⟨fun w hw => ?_, mrgF_le hf n xs (y :: ys) (by simp only [List.length_cons]; omega) (fun z hz => hx z (by simp [hz])) hy sx'.2 sy⟩
      have hw := (mrgF_perm f _ xs (y :: ys) (Nat.le_refl _)).mem_iff.1 hw
      rcases List.mem_append.1 hw with hw | hw
      · exact sx'.1 w hw
      · rcases List.mem_cons.1 hw with rfl | hw
        · exact hc
        · exact hf.2.2.1 x y w ix iy (hy w (by simp [hw])) hc (sy'.1 w hw)
    · rename_i hc
      have hyx : f y x ≤ 0 := by have := hf.1 x y; omega
      refine List.pairwise_cons.2 ⟨fun w hw => ?_, mrgF_le hf n (x :: xs) ys (by simp only [List.length_cons]; omega) hx (fun z hz => hy z (by simp [hz])) sx sy'.2⟩
      have hw := (mrgF_perm f _ (x :: xs) ys (Nat.le_refl _)).mem_iff.1 hw
      rcases List.mem_append.1 hw with hw | hw
      · rcases List.mem_cons.1 hw with rfl | hw
        · exact hyx
        · exact hf.2.2.1 y x w iy ix (hx w (by simp [hw])) hyx (sx'.1 w hw)
      · exact sy'.1 w hw
theorem encY_cold (v : T) : ∀ c ∈ [V.int .i64 v.f0, .int .i64 v.f1, .str v.f2, .sl false (encL v.f3) v.f3.length], cold c = true := fun c hc => encC [v] c (by simp only [encL, enc_eq, List.append_nil]; exact hc)
theorem encY_one (D : List T) (v : T) : encL D ++ [V.int .i64 v.f0, .int .i64 v.f1, .str v.f2, .sl false (encL v.f3) v.f3.length] = encL (D ++ [v]) := by
  rw [encL_app]
  simp only [encL, enc_eq, List.append_nil]
section
variable {ext : Exts}
end
end Go.Proofs.YtehajklneljbgaaDoor.AB
end

section
set_option linter.unusedVariables false
set_option linter.unusedSimpArgs false
open Go Go.Ab Go.Proofs Go.Vl
namespace Go.Proofs.YtehajklneljbgaaDoor.AB
set_option maxRecDepth 100000
set_option maxHeartbeats 16000000
set_option linter.unusedSimpArgs false
set_option linter.unusedVariables false
def prV (a b : List T) : V := .sl false [.sl false (encL a) a.length, .sl false (encL b) b.length] 2
/-- append of a whole list -/
theorem appS {l D : List T} {hp : Hp} {ida m : Nat} {S : V} {Q : V × Hp → Prop} (h : Gro 4 hp.a m S (encL D) D.length) (hm : m ≤ hp.m) (hi : ida < hp.m) (hb : D.length + l.length ≤ 1000000)
    (q : ∀ S' a', Gro 4 a' hp.m S' (encL (D ++ l)) (D ++ l).length → Q (S', ⟨hp.h, hp.n, a', hp.m⟩)) : opt (appendV 4 56 hp ida S (.sl false (encL l) l.length)) Q := by
  have hc : content none hp 4 (.sl false (encL l) l.length) = some (encL l, l.length) := by
    simp only [content]; rw [if_pos (encL_len l)]
  cases l with
  | nil =>
    refine Gro.app0 h (by rw [hc]; rfl) ?_
    exact q S hp.a ((h.mono (fun _ _ => rfl) hm).to (by simp) (by simp))
  | cons x l =>
    refine Gro.app h hc (by simp) (encL_len _) (encC _) (by unfold maxRoom; omega) hi hm (fun b v a' h1 _ _ => ?_)
    exact q _ a' (h1.to (by rw [encL_app]) (by simp))
section
variable {ext : Exts}
theorem grow_use {n : Nat} {e : Int} {hp : Hp} {Q : V → Hp → Prop} (he : e = (n : Int)) (hn : n ≤ 1000000) (hm : True) (q : ∀ S a' n' m', hp.m ≤ m' → Gro 4 a' m' S (encL []) ([] : List T).length → Q S ⟨hp.h, n', a', m'⟩) :
    ∃ r hp', (cfg ext).EvR 30 [.sl true [] 0, .int .i64 e] hp r hp' ∧ Q r hp' := by
  subst he
  by_cases h0 : n = 0
  · subst h0
    refine ⟨_, _, EvR.extR (g := growR 4 56) rfl rfl rfl, ?_⟩
    exact q (.sl true [] 0) hp.a hp.n hp.m (Nat.le_refl _) (by simp only [encL]; exact Gro.nil _ _ _)
  · refine ⟨.rsl false hp.m 0 0 0, ⟨hp.h, hp.n + 1, upd hp.a hp.m (some ⟨0, 4, [], none, 0⟩), hp.m + 1⟩, EvR.extR (g := growR 4 56) rfl rfl ?_, ?_⟩
    · show (if (n : Int) = 0 then some (V.sl true [] 0, hp) else if 0 < (n : Int) ∧ (n : Int).toNat * 56 ≤ 140737488355328 ∧ (n : Int).toNat ≤ 140737488355328 then some (V.rsl false hp.m 0 0 0, (⟨hp.h, hp.n + 1, upd hp.a hp.m (some ⟨0, 4, [], none, 0⟩), hp.m + 1⟩ : Hp)) else none) = _
      rw [if_neg (by omega), if_pos (by rw [Int.toNat_natCast]; omega)]
    · exact q _ _ _ _ (Nat.le_succ _) (by simp only [encL]; exact ⟨by simp, fun c hc => (by cases hc), .inr ⟨hp.m, 0, Nat.lt_succ_self _, rfl, upd_is _ _ _⟩⟩)
theorem lcA (a b : List T) (ha : a.length ≤ 65536) (hb : b.length ≤ 65536) (Q : Ex → St → Prop) (n : Nat) (d : Nat) :
    ∀ (i : Nat) (s : Nat) (z : St), 2 - i = d → i ≤ 2 → s ≤ i * 65536 → Has z.t [(0, prV a b), (9, prV a b), (10, .int .i64 2), (11, .int .i64 i), (3, .int .i64 s)] → z.hp.n = n →
      (∀ (z' : St), Has z'.t [(0, prV a b), (3, .int .i64 ((s + (if i = 0 then a.length + b.length else if i = 1 then b.length else 0) : Nat) : Int))] → Q (.exit 0) z') →
      Go.Ab.Loop (cfg ext) (lpN Tryd.f19 0) n z Q := by
  induction d with
  | zero =>
    intro i s z hd hi hs ht hz hq
    obtain rfl : i = 2 := by omega
    rw [St.knows _ _ ht hz]
    refine Loop.round ?_
    conv => whnf
    exact hq _ ⟨rfl, rfl, trivial⟩
  | succ d ih =>
    intro i s z hd hi hs ht hz hq
    obtain rfl | rfl : i = 0 ∨ i = 1 := by omega
    · have w : IntKind.i64.wrap ((s : Int) + (a.length : Int)) = ((s + a.length : Nat) : Int) := by rw [IntKind.wrap_i64]; omega
      have g : decide (IntKind.i64.wrap ((s : Int) + (a.length : Int)) < 0) = false := decide_eq_false (by rw [w]; omega)
      rw [St.knows _ _ ht hz]
      refine Loop.round ?_
      conv => whnf
      refine ⟨⟨by omega, by omega⟩, ?_⟩
      conv => whnf
      refine ⟨le_rfl' rfl, ?_⟩
      conv => whnf
      refine sel_no g ?_
      conv => whnf
      refine ih 1 (s + a.length) _ (by omega) (by omega) (by omega) ⟨rfl, rfl, rfl, rfl, ?_, trivial⟩ rfl (fun z' h => hq z' ⟨h.1, h.2.1.trans (vi (by simp; omega)), trivial⟩)
      conv => lhs; whnf
      exact vi w
    · have w : IntKind.i64.wrap ((s : Int) + (b.length : Int)) = ((s + b.length : Nat) : Int) := by rw [IntKind.wrap_i64]; omega
      have g : decide (IntKind.i64.wrap ((s : Int) + (b.length : Int)) < 0) = false := decide_eq_false (by rw [w]; omega)
      rw [St.knows _ _ ht hz]
      refine Loop.round ?_
      conv => whnf
      refine ⟨⟨by omega, by omega⟩, ?_⟩
      conv => whnf
      refine ⟨le_rfl' rfl, ?_⟩
      conv => whnf
      refine sel_no g ?_
      conv => whnf
      refine ih 2 (s + b.length) _ (by omega) (by omega) (by omega) ⟨rfl, rfl, rfl, rfl, ?_, trivial⟩ rfl (fun z' h => hq z' ⟨h.1, h.2.1.trans (vi (by simp)), trivial⟩)
      conv => lhs; whnf
      exact vi w
theorem lcB (a b : List T) (ha : a.length ≤ 65536) (hb : b.length ≤ 65536) (Q : Ex → St → Prop) (n : Nat) (d : Nat) :
    ∀ (i : Nat) (D : List T) (S : V) (z : St), 2 - i = d → i ≤ 2 → D.length ≤ i * 65536 → Has z.t [(25, prV a b), (26, .int .i64 2), (27, .int .i64 i), (6, S)] → z.hp.n = n → Gro 4 z.hp.a z.hp.m S (encL D) D.length →
      (∀ (z' : St) (S' : V), Has z'.t [(6, S')] → Gro 4 z'.hp.a z'.hp.m S' (encL (D ++ (if i = 0 then a ++ b else if i = 1 then b else []))) (D ++ (if i = 0 then a ++ b else if i = 1 then b else [])).length → Q (.exit 2) z') →
      Go.Ab.Loop (cfg ext) (lpN Tryd.f19 1) n z Q := by
  induction d with
  | zero =>
    intro i D S z hd hi hs ht hz hg hq
    obtain rfl : i = 2 := by omega
    rcases hg.form with ⟨eS, _⟩ | ⟨bS, vS, eS⟩ <;> subst eS
    all_goals
      rw [St.knows _ _ ht hz]
      refine Loop.round ?_
      conv => whnf
      refine hq _ _ ⟨rfl, trivial⟩ ?_
      refine Gro.to (Gro.mono hg (fun _ _ => rfl) ?_) (by simp) (by simp)
      (conv => lhs; whnf); (repeat ((conv => rhs; whnf); first | with_reducible exact Nat.le_refl _ | refine Nat.le_trans ?_ (Nat.le_add_right _ _) | refine Nat.le_succ_of_le ?_ | exact Nat.le_refl _))
  | succ d ih =>
    intro i D S z hd hi hs ht hz hg hq
    obtain rfl | rfl : i = 0 ∨ i = 1 := by omega
    · rcases hg.form with ⟨eS, _⟩ | ⟨bS, vS, eS⟩ <;> subst eS
      all_goals
        rw [St.knows _ _ ht hz]
        refine Loop.round ?_
        conv => whnf
        refine ⟨⟨by omega, by omega⟩, ?_⟩
        conv => whnf
        refine ⟨le_rfl' rfl, ?_⟩
        conv => whnf
        refine ⟨rfl, ?_⟩
        conv => whnf
        refine ⟨⟨rfl, (show (4 : Nat) ≠ 0 by decide)⟩, ?_⟩
        refine appS hg (by (conv => lhs; whnf); (repeat ((conv => rhs; whnf); first | with_reducible exact Nat.le_refl _ | refine Nat.le_trans ?_ (Nat.le_add_right _ _) | refine Nat.le_succ_of_le ?_ | exact Nat.le_refl _))) (Nat.add_lt_add_left (by decide) _) (by omega) (fun S1 a1 h1 => ?_)
        rcases h1.form with ⟨eS, _⟩ | ⟨bS1, vS1, eS⟩ <;> subst eS
        · conv => whnf
          refine ih 1 (D ++ a) (.sl true [] 0) _ (by omega) (by omega) (by simp; omega) ⟨rfl, rfl, rfl, rfl, trivial⟩ rfl (Gro.truncN h1 (by (conv => lhs; whnf); (repeat ((conv => rhs; whnf); first | with_reducible exact Nat.le_refl _ | refine Nat.le_trans ?_ (Nat.le_add_right _ _) | refine Nat.le_succ_of_le ?_ | exact Nat.le_refl _)))) (fun z' S' q1 q2 => hq z' S' q1 (by simpa using q2))
        · conv => whnf
          refine ih 1 (D ++ a) (.rsl false bS1 vS1 0 (D ++ a).length) _ (by omega) (by omega) (by simp; omega) ⟨rfl, rfl, rfl, rfl, trivial⟩ rfl (Gro.truncR h1 (by (conv => lhs; whnf); (repeat ((conv => rhs; whnf); first | with_reducible exact Nat.le_refl _ | refine Nat.le_trans ?_ (Nat.le_add_right _ _) | refine Nat.le_succ_of_le ?_ | exact Nat.le_refl _)))) (fun z' S' q1 q2 => hq z' S' q1 (by simpa using q2))
    · rcases hg.form with ⟨eS, _⟩ | ⟨bS, vS, eS⟩ <;> subst eS
      all_goals
        rw [St.knows _ _ ht hz]
        refine Loop.round ?_
        conv => whnf
        refine ⟨⟨by omega, by omega⟩, ?_⟩
        conv => whnf
        refine ⟨le_rfl' rfl, ?_⟩
        conv => whnf
        refine ⟨rfl, ?_⟩
        conv => whnf
        refine ⟨⟨rfl, (show (4 : Nat) ≠ 0 by decide)⟩, ?_⟩
        refine appS hg (by (conv => lhs; whnf); (repeat ((conv => rhs; whnf); first | with_reducible exact Nat.le_refl _ | refine Nat.le_trans ?_ (Nat.le_add_right _ _) | refine Nat.le_succ_of_le ?_ | exact Nat.le_refl _))) (Nat.add_lt_add_left (by decide) _) (by omega) (fun S1 a1 h1 => ?_)
        rcases h1.form with ⟨eS, _⟩ | ⟨bS1, vS1, eS⟩ <;> subst eS
        · conv => whnf
          refine ih 2 (D ++ b) (.sl true [] 0) _ (by omega) (by omega) (by simp; omega) ⟨rfl, rfl, rfl, rfl, trivial⟩ rfl (Gro.truncN h1 (by (conv => lhs; whnf); (repeat ((conv => rhs; whnf); first | with_reducible exact Nat.le_refl _ | refine Nat.le_trans ?_ (Nat.le_add_right _ _) | refine Nat.le_succ_of_le ?_ | exact Nat.le_refl _)))) (fun z' S' q1 q2 => hq z' S' q1 (by simpa using q2))
        · conv => whnf
          refine ih 2 (D ++ b) (.rsl false bS1 vS1 0 (D ++ b).length) _ (by omega) (by omega) (by simp; omega) ⟨rfl, rfl, rfl, rfl, trivial⟩ rfl (Gro.truncR h1 (by (conv => lhs; whnf); (repeat ((conv => rhs; whnf); first | with_reducible exact Nat.le_refl _ | refine Nat.le_trans ?_ (Nat.le_add_right _ _) | refine Nat.le_succ_of_le ?_ | exact Nat.le_refl _)))) (fun z' S' q1 q2 => hq z' S' q1 (by simpa using q2))
theorem tconcat (hn : Non ext) (a b : List T) (ha : a.length ≤ 65536) (hb : b.length ≤ 65536) : (cfg ext).Ev 19 [prV a b] (.sl false (encL (a ++ b)) (a ++ b).length) := by
  have key : ∃ r, (cfg ext).Ev 19 [prV a b] r ∧ r = .sl false (encL (a ++ b)) (a ++ b).length := by
    refine Ev.ofF (hn 19 (by decide) (by decide)) Tryd.func19 rfl rfl ?_
    conv => whnf
    refine lcA a b ha hb _ _ 2 0 0 _ rfl (by omega) (by omega) ⟨rfl, rfl, rfl, rfl, rfl, trivial⟩ rfl (fun z h => ?_)
    rw [St.knows _ z.hp.n h rfl]
    conv => whnf
    refine grow_use (n := a.length + b.length) (by simp) (by omega) trivial (fun S a' n' m' hm hg => ?_)
    rcases hg.form with ⟨eS, _⟩ | ⟨bS, vS, eS⟩ <;> subst eS
    all_goals
      conv => whnf
      refine lcB a b ha hb _ _ 2 0 [] _ _ rfl (by omega) (by simp) ⟨rfl, rfl, rfl, rfl, trivial⟩ rfl (Gro.mono hg (fun _ _ => rfl) (by (conv => lhs; whnf); (repeat ((conv => rhs; whnf); first | with_reducible exact Nat.le_refl _ | refine Nat.le_trans ?_ (Nat.le_add_right _ _) | refine Nat.le_succ_of_le ?_ | exact Nat.le_refl _)))) (fun z' S' h1 h2 => ?_)
      have h3 : Gro 4 z'.hp.a z'.hp.m S' (encL (a ++ b)) (a ++ b).length := by simpa using h2
      rcases h3.form with ⟨eS, _⟩ | ⟨bS', vS', eS⟩ <;> subst eS
      all_goals
        rw [St.knows _ z'.hp.n h1 rfl]
        conv => whnf
        exact Fin.gro rfl h3 rfl
  obtain ⟨r, h, rfl⟩ := key
  exact h
theorem srt_Le {f : T → T → Int} (hf : Line f) : ∀ {l : List T}, (∀ x ∈ l, Shp x) → Srt f l → Le f l := by
  intro l hl hs
  refine List.pairwise_iff_getElem.2 (fun i j hi hj hij => ?_)
  obtain ⟨d, rfl⟩ := Nat.exists_eq_add_of_le (Nat.le_of_lt hij)
  exact srt_le hf hl hs d i hj
theorem le_Srt {f : T → T → Int} (hf : Line f) {l : List T} (h : Le f l) : Srt f l := fun j hj hc => by
  have h1 := List.pairwise_iff_getElem.1 h j (j + 1) (by omega) hj (by omega)
  have h2 := hf.1 l[j] l[j + 1]
  omega
/-- what Merge says -/
structure MergeR (ext : Exts) (o : Int) (a b : List T) (L : List T) (e : Int) : Prop where
  err : e = if listedZ a ≠ 0 then listedZ a else if listedZ b ≠ 0 then listedZ b else if 65536 < a.length + b.length then 2 else e
  s : listedZ a = 0 → listedZ b = 0 → a.length + b.length ≤ 65536 → (e = 0 ∧ Srt (ordF ext o) a ∧ Srt (ordF ext o) b ∧ Le (ordF ext o) L ∧ L.Perm (a ++ b)) ∨ (e = 1 ∧ ¬ (Srt (ordF ext o) a ∧ Srt (ordF ext o) b) ∧ L = [])
  no : e ≠ 0 → L = []
theorem merge_one {o : Int} {a b L L' : List T} {e e' : Int} (hwa : ∀ x ∈ a, WfV x) (hwb : ∀ x ∈ b, WfV x) (h : MergeR ext o a b L e) (h' : MergeR ext o a b L' e') : L = L' ∧ e = e' := by
  have he := h.err
  have he' := h'.err
  by_cases hza : listedZ a = 0
  · by_cases hzb : listedZ b = 0
    · rw [if_neg (by simpa using hza), if_neg (by simpa using hzb)] at he he'
      by_cases hl : 65536 < a.length + b.length
      · rw [if_pos hl] at he he'
        exact ⟨by rw [h.no (by omega), h'.no (by omega)], by omega⟩
      · have hGa := Gd.of hza hwa
        have hGb := Gd.of hzb hwb
        have hGab : Gd (a ++ b) := fun x hx => by rcases List.mem_append.1 hx with h | h; exact hGa x h; exact hGb x h
        rcases h.s hza hzb (by omega) with ⟨q1, q2, q3, q4, q5⟩ | ⟨q1, q2, q3⟩ <;> rcases h'.s hza hzb (by omega) with ⟨k1, k2, k3, k4, k5⟩ | ⟨k1, k2, k3⟩
        · exact ⟨le_perm_eq (ord_line o) ((hGab.perm q5).shp) q4 k4 (q5.trans k5.symm), by omega⟩
        · exact absurd ⟨q2, q3⟩ k2
        · exact absurd ⟨k2, k3⟩ q2
        · exact ⟨by rw [q3, k3], by omega⟩
    · rw [if_neg (by simpa using hza), if_pos hzb] at he he'
      exact ⟨by rw [h.no (by omega), h'.no (by omega)], by omega⟩
  · rw [if_pos hza] at he he'
    exact ⟨by rw [h.no (by omega), h'.no (by omega)], by omega⟩
theorem merge_wf {o : Int} {a b L : List T} {e : Int} (hwa : ∀ x ∈ a, WfV x) (hwb : ∀ x ∈ b, WfV x) (h : MergeR ext o a b L e) : L.length ≤ 9223372036854775807 ∧ ∀ x ∈ L, WfV x := by
  by_cases he : e = 0
  · have h0 := h.err
    by_cases hza : listedZ a = 0
    · by_cases hzb : listedZ b = 0
      · rw [if_neg (by simpa using hza), if_neg (by simpa using hzb)] at h0
        by_cases hl : 65536 < a.length + b.length
        · rw [if_pos hl] at h0; omega
        · rcases h.s hza hzb (by omega) with ⟨q1, q2, q3, q4, q5⟩ | ⟨q1, q2, q3⟩
          · refine ⟨by rw [q5.length_eq, List.length_append]; omega, fun x hx => ?_⟩
            rcases List.mem_append.1 (q5.mem_iff.1 hx) with h | h
            · exact hwa x h
            · exact hwb x h
          · rw [q3]; exact ⟨by simp, fun x hx => by cases hx⟩
      · rw [if_neg (by simpa using hza), if_pos hzb] at h0; omega
    · rw [if_pos hza] at h0; omega
  · rw [h.no he]; exact ⟨by simp, fun x hx => by cases hx⟩
open Classical in
theorem pmerge (hn : Non ext) (h26 : E26 ext) (h73 : E73 ext) (o : Nat) (h5 : o ≤ 5) (a b : List T) (hwa : ∀ x ∈ a, WfV x) (hwb : ∀ x ∈ b, WfV x) :
    ∃ L e, MergeR ext o a b L e ∧ (cfg ext).Ev 9 [.int .i64 o, .sl false (encL a) a.length, .sl false (encL b) b.length] (.tup [.sl false (encL L) L.length, .int .i64 e]) := by
  have key : ∃ r, (cfg ext).Ev 9 [.int .i64 o, .sl false (encL a) a.length, .sl false (encL b) b.length] r ∧ ∃ L e, MergeR ext o a b L e ∧ r = .tup [.sl false (encL L) L.length, .int .i64 e] := by
    have hLa := plisted hn h26 h73 o h5 a hwa
    have hLb := plisted hn h26 h73 o h5 b hwb
    refine Ev.ofF (hn 9 (by decide) (by decide)) Tryd.func9 rfl rfl ?_
    have c6 : o = 0 ∨ o = 1 ∨ o = 2 ∨ o = 3 ∨ o = 4 ∨ o = 5 := by omega
    by_cases hza : listedZ a = 0
    · have oka := listed_ok hza
      have hGa := Gd.of hza hwa
      rw [hza] at hLa
      by_cases hzb : listedZ b = 0
      · have okb := listed_ok hzb
        have hGb := Gd.of hzb hwb
        rw [hzb] at hLb
        have w : IntKind.i64.wrap ((a.length : Int) + (b.length : Int)) = ((a.length + b.length : Nat) : Int) := by rw [IntKind.wrap_i64]; omega
        by_cases hl : 65536 < a.length + b.length
        · have g : decide (IntKind.i64.wrap ((a.length : Int) + (b.length : Int)) > 65536) = true := decide_eq_true (by rw [w]; omega)
          have fin : MergeR ext o a b [] 2 := ⟨by simp [hza, hzb, hl], fun _ _ h => absurd hl (by omega), fun _ => rfl⟩
          rcases c6 with rfl | rfl | rfl | rfl | rfl | rfl
          all_goals
            conv => whnf
            refine ⟨_, hLa, ?_⟩
            conv => whnf
            refine ⟨_, hLb, ?_⟩
            conv => whnf
            refine sel_yes g ?_
            conv => whnf
            exact Fin.of_eq (v := .tup [.sl false [] 0, .int .i64 2]) rfl ⟨[], 2, fin, by simp only [encL]; rfl⟩
        · have g : decide (IntKind.i64.wrap ((a.length : Int) + (b.length : Int)) > 65536) = false := decide_eq_false (by rw [w]; omega)
          have rowsa : Rows ext o a := fun x hx y hy => rowOrd hn h26 h73 o h5 x y (hwa x hx) (hwa y hy) (oka.2 x hx) (oka.2 y hy)
          have rowsb : Rows ext o b := fun x hx y hy => rowOrd hn h26 h73 o h5 x y (hwb x hx) (hwb y hy) (okb.2 x hx) (okb.2 y hy)
          have hSa := tisS hn o h5 a oka.1 rowsa
          have hSb := tisS hn o h5 b okb.1 rowsb
          by_cases sa : Srt (ordF ext o) a
          · rw [decide_eq_true sa] at hSa
            by_cases sb : Srt (ordF ext o) b
            · rw [decide_eq_true sb] at hSb
              have hC := tconcat hn a b oka.1 okb.1
              unfold prV at hC
              have hGab : Gd (a ++ b) := fun x hx => by rcases List.mem_append.1 hx with h | h; exact hGa x h; exact hGb x h
              obtain ⟨L, k1, k2, hS⟩ := tsorted (ext := ext) hn h26 h73 o h5 (a ++ b) (by rw [List.length_append]; omega) hGab
              have hO := town06 hn L (by rw [k2.length_eq, List.length_append]; omega) (hGab.perm k2)
              unfold OwnE at hO
              have fin : MergeR ext o a b L 0 := ⟨by simp [hza, hzb, hl], fun _ _ _ => .inl ⟨rfl, sa, sb, k1, k2⟩, fun h => absurd rfl h⟩
              rcases c6 with rfl | rfl | rfl | rfl | rfl | rfl
              all_goals
                conv => whnf
                refine ⟨_, hLa, ?_⟩
                conv => whnf
                refine ⟨_, hLb, ?_⟩
                conv => whnf
                refine sel_no g ?_
                conv => whnf
                refine ⟨_, hSa, ?_⟩
                conv => whnf
                refine ⟨_, hSb, ?_⟩
                conv => whnf
                refine ⟨_, hC, ?_⟩
                conv => whnf
                refine ⟨_, hS, ?_⟩
                conv => whnf
                refine ⟨_, hO, ?_⟩
                conv => whnf
                exact Fin.of_eq (v := .tup [.sl false (encL L) L.length, .int .i64 0]) rfl ⟨L, 0, fin, rfl⟩
            · rw [decide_eq_false sb] at hSb
              have fin : MergeR ext o a b [] 1 := ⟨by simp [hza, hzb, hl], fun _ _ _ => .inr ⟨rfl, fun h => sb h.2, rfl⟩, fun _ => rfl⟩
              rcases c6 with rfl | rfl | rfl | rfl | rfl | rfl
              all_goals
                conv => whnf
                refine ⟨_, hLa, ?_⟩
                conv => whnf
                refine ⟨_, hLb, ?_⟩
                conv => whnf
                refine sel_no g ?_
                conv => whnf
                refine ⟨_, hSa, ?_⟩
                conv => whnf
                refine ⟨_, hSb, ?_⟩
                conv => whnf
                exact Fin.of_eq (v := .tup [.sl false [] 0, .int .i64 1]) rfl ⟨[], 1, fin, by simp only [encL]; rfl⟩
          · rw [decide_eq_false sa] at hSa
            have fin : MergeR ext o a b [] 1 := ⟨by simp [hza, hzb, hl], fun _ _ _ => .inr ⟨rfl, fun h => sa h.1, rfl⟩, fun _ => rfl⟩
            rcases c6 with rfl | rfl | rfl | rfl | rfl | rfl
            all_goals
              conv => whnf
              refine ⟨_, hLa, ?_⟩
              conv => whnf
              refine ⟨_, hLb, ?_⟩
              conv => whnf
              refine sel_no g ?_
              conv => whnf
              refine ⟨_, hSa, ?_⟩
              conv => whnf
              exact Fin.of_eq (v := .tup [.sl false [] 0, .int .i64 1]) rfl ⟨[], 1, fin, by simp only [encL]; rfl⟩
      · have fin : MergeR ext o a b [] (listedZ b) := ⟨by simp [hza, hzb], fun _ h _ => absurd h hzb, fun _ => rfl⟩
        generalize listedZ b = e at hLb hzb fin
        rcases c6 with rfl | rfl | rfl | rfl | rfl | rfl
        all_goals
          conv => whnf
          refine ⟨_, hLa, ?_⟩
          conv => whnf
          refine ⟨_, hLb, ?_⟩
          conv => whnf
          refine sel_yes (by simpa using hzb) ?_
          conv => whnf
          exact Fin.of_eq (v := .tup [.sl false [] 0, .int .i64 e]) rfl ⟨[], e, fin, by simp only [encL]; rfl⟩
    · have fin : MergeR ext o a b [] (listedZ a) := ⟨by simp [hza], fun h _ _ => absurd h hza, fun _ => rfl⟩
      generalize listedZ a = e at hLa hza fin
      rcases c6 with rfl | rfl | rfl | rfl | rfl | rfl
      all_goals
        conv => whnf
        refine ⟨_, hLa, ?_⟩
        conv => whnf
        refine sel_no (by simpa using hza) ?_
        conv => whnf
        refine sel_yes (by simpa using hza) ?_
        conv => whnf
        exact Fin.of_eq (v := .tup [.sl false [] 0, .int .i64 e]) rfl ⟨[], e, fin, by simp only [encL]; rfl⟩
  obtain ⟨r, h, L, e, k, rfl⟩ := key
  exact ⟨L, e, k, h⟩
end
end Go.Proofs.YtehajklneljbgaaDoor.AB
end

section
set_option linter.unusedVariables false
set_option linter.unusedSimpArgs false
open Go Go.Ab Go.Proofs Go.Vl
namespace Go.Proofs.YtehajklneljbgaaDoor.AB
set_option maxRecDepth 100000
set_option maxHeartbeats 1600000
set_option linter.unusedSimpArgs false
section
variable {ext : Exts}
noncomputable def eqT (a b : T) : Bool := @decide (a = b) (Classical.propDecidable _)
theorem eqT_iff {a b : T} : eqT a b = true ↔ a = b := by unfold eqT; exact @decide_eq_true_iff _ (Classical.propDecidable _)
theorem eqT_self (a : T) : eqT a a = true := eqT_iff.2 rfl
noncomputable def eqL (a b : List T) : Bool := @decide (a = b) (Classical.propDecidable _)
theorem eqL_iff {a b : List T} : eqL a b = true ↔ a = b := by unfold eqL; exact @decide_eq_true_iff _ (Classical.propDecidable _)
theorem eqL_self (a : List T) : eqL a a = true := eqL_iff.2 rfl
theorem eqL_cons {a b : T} {l m : List T} : eqL (a :: l) (b :: m) = (eqT a b && eqL l m) := by
  rw [Bool.eq_iff_iff, Bool.and_eq_true, eqL_iff, eqT_iff, eqL_iff]
  exact ⟨fun h => by injection h with h1 h2; exact ⟨h1, h2⟩, fun h => by rw [h.1, h.2]⟩
theorem eqL_drop {l m : List T} {i : Nat} (h1 : i < l.length) (h2 : i < m.length) : eqL (l.drop i) (m.drop i) = (eqT l[i] m[i] && eqL (l.drop (i + 1)) (m.drop (i + 1))) := by
  rw [List.drop_eq_getElem_cons h1, List.drop_eq_getElem_cons h2, eqL_cons]
theorem wrapN1 {i : Nat} (h : i + 1 ≤ 9223372036854775807) : V.int .i64 (IntKind.i64.wrap ((i : Int) + 1)) = V.int .i64 ((i + 1 : Nat) : Int) := by
  rw [IntKind.wrap_i64]; exact vi (by omega)
theorem lplain (k n : Int) (t : ByteArray) (l : List T) (k' n' : Int) (t' : ByteArray) (m : List T) (hm : l.length = m.length) (hl : l.length ≤ 9223372036854775807) (E : ∀ a ∈ l, ∀ b ∈ m, (cfg ext).Ev 20 [A a, A b] (.bool (eqT a b))) (Q : Ex → St → Prop) (d : Nat) :
    ∀ (i : Nat) (z : St), l.length - i = d → i ≤ l.length → Has z.t [(37, .int .i64 i), (36, .int .i64 l.length), (2, .ref 0 0), (3, .ref 1 0)] →
      Has z.hp.h [(0, some (.cells [.int .i64 k, .int .i64 n, .str t, .sl false (encL l) l.length] false)), (1, some (.cells [.int .i64 k', .int .i64 n', .str t', .sl false (encL m) m.length] false))] → z.hp.n = 35 →
      (∀ z', z'.t 4 = .bool false → eqL (l.drop i) (m.drop i) = false → Q .ret z') → (∀ z', eqL (l.drop i) (m.drop i) = true → Q (.exit 0) z') →
      Go.Ab.Loop (cfg ext) (lpOf Tryd.f20) 35 z Q := by
  induction d with
  | zero =>
    intro i z hd hi ht hh hn hr hq
    obtain rfl : i = l.length := by omega
    rw [St.knows _ _ ht hn _ hh]
    refine Loop.round ?_
    conv => whnf
    refine sel_no (by simp) ?_
    conv => whnf
    exact hq _ (by rw [List.drop_length, hm, List.drop_length]; exact eqL_self _)
  | succ d ih =>
    intro i z hd hi ht hh hn hr hq
    have h1 : i < l.length := by omega
    have h2 : i < m.length := by omega
    have hE := E _ (List.getElem_mem h1) _ (List.getElem_mem h2)
    have eD := eqL_drop h1 h2
    rw [St.knows _ _ ht hn _ hh]
    refine Loop.round ?_
    conv => whnf
    refine sel_yes (by simp; omega) ?_
    conv => whnf
    refine ⟨⟨by omega, by omega⟩, ?_⟩
    conv => whnf
    refine ldA (i := i) h1 ?_
    conv => whnf
    refine ⟨⟨by omega, by omega⟩, ?_⟩
    conv => whnf
    refine ldA (i := i) h2 ?_
    conv => whnf
    refine ⟨_, hE, ?_⟩
    cases he : eqT l[i] m[i] with
    | false =>
      conv => whnf
      exact hr _ rfl (by rw [eD, he]; rfl)
    | true =>
      conv => whnf
      refine ih (i + 1) _ (by omega) (by omega) ⟨?_, rfl, rfl, rfl, trivial⟩ ⟨rfl, rfl, trivial⟩ rfl (fun z' a b => hr z' a (by rw [eD, he]; exact b)) (fun z' a => hq z' (by rw [eD, he]; exact a))
      conv => lhs; whnf
      exact wrapN1 (by omega)
mutual
theorem tplain (hn : Non ext) : (a : T) → WfV a → (b : T) → (cfg ext).Ev 20 [A a, A b] (.bool (eqT a b))
  | ⟨k, n, t, l⟩, hw, ⟨k', n', t', m⟩ => by
    have E : ∀ a ∈ l, ∀ b ∈ m, (cfg ext).Ev 20 [A a, A b] (.bool (eqT a b)) := fun a ha b _ => tplainL hn l (by simp only [WfV] at hw; exact hw.2.2.2.2) a ha b
    have hl : l.length ≤ 9223372036854775807 := by simp only [WfV] at hw; exact hw.2.2.2.1
    have no (h : ¬ (k = k' ∧ n = n' ∧ t = t' ∧ l.length = m.length)) : eqT ⟨k, n, t, l⟩ ⟨k', n', t', m⟩ = false := by
      cases e : eqT ⟨k, n, t, l⟩ ⟨k', n', t', m⟩ with
      | false => rfl
      | true => have := eqT_iff.1 e; injection this with e1 e2 e3 e4; exact absurd ⟨e1, e2, e3, by rw [e4]⟩ h
    refine Ev.of (hn 20 (by decide) (by decide)) Tryd.func20 rfl rfl ?_
    conv => whnf
    by_cases h1 : k = k'
    · by_cases h2 : n = n'
      · by_cases h3 : t = t'
        · have h3' : (!(t.toList == t'.toList)) = false := by rw [h3]; simp
          by_cases h4 : l.length = m.length
          · have h4' : ((l.length : Int) != (m.length : Int)) = false := by rw [h4]; simp
            repeat (first
              | (refine sel_no ?_ ?_; (first | exact h3' | exact h4' | (simp only [bne_eq_false_iff_eq, beq_eq_false_iff_ne, beq_iff_eq, beq_false, Bool.not_eq_true']; omega) | (rw [h3']; rfl) | (rw [h4']; rfl)); conv => whnf)
              | (refine sel_yes ?_ ?_; (first | (simp only [bne_eq_false_iff_eq, beq_eq_false_iff_ne, beq_iff_eq, beq_false, Bool.not_eq_true']; omega) | (rw [h3']; rfl) | (rw [h4']; rfl)); conv => whnf))
            refine lplain k n t l k' n' t' m h4 hl E _ _ 0 _ rfl (by omega) ⟨rfl, rfl, rfl, rfl, trivial⟩ ⟨rfl, rfl, trivial⟩ rfl (fun z a b => ?_) (fun z a => ?_)
            · conv => whnf
              rw [a]
              refine congrArg V.bool ?_
              simp only [List.drop_zero] at b
              cases e : eqT ⟨k, n, t, l⟩ ⟨k', n', t', m⟩ with
              | false => rfl
              | true => have := eqT_iff.1 e; injection this with e1 e2 e3 e4; rw [e4, eqL_self] at b; cases b
            · conv => whnf
              refine congrArg V.bool ?_
              simp only [List.drop_zero] at a
              have := eqL_iff.1 a
              rw [h1, h2, h3, this, eqT_self]
          · rw [no (fun h => h4 h.2.2.2)]
            have h4' : ((l.length : Int) != (m.length : Int)) = true := by simp; omega
            repeat (first
              | (refine sel_no ?_ ?_; (first | exact h3' | (simp only [bne_eq_false_iff_eq, beq_eq_false_iff_ne, beq_iff_eq, beq_false, Bool.not_eq_true']; omega) | (rw [h3']; rfl)); conv => whnf)
              | (refine sel_yes ?_ ?_; (first | exact h4' | (simp only [bne_eq_false_iff_eq, beq_eq_false_iff_ne, beq_iff_eq, beq_false, Bool.not_eq_true']; omega) | (rw [h3']; rfl) | (rw [h4']; rfl)); conv => whnf))
        · rw [no (fun h => h3 h.2.2.1)]
          have h3' : (!(t.toList == t'.toList)) = true := by
            rw [Bool.not_eq_true', beq_eq_false_iff_ne]
            intro h
            exact h3 (Go.WideShapes.bytes_inj (by rw [ByteArray.toList_eq, ByteArray.toList_eq] at h; exact h))
          repeat (first
            | (refine sel_no ?_ ?_; (first | (simp only [bne_eq_false_iff_eq, beq_eq_false_iff_ne, beq_iff_eq, beq_false, Bool.not_eq_true']; omega) | (rw [h3']; rfl)); conv => whnf)
            | (refine sel_yes ?_ ?_; (first | exact h3' | (simp only [bne_eq_false_iff_eq, beq_eq_false_iff_ne, beq_iff_eq, beq_false, Bool.not_eq_true']; omega) | (rw [h3']; rfl)); conv => whnf))
      · rw [no (fun h => h2 h.2.1)]
        repeat (first
          | (refine sel_yes ?_ ?_; (first | assumption | (simp only [beq_iff_eq, bne_iff_ne, beq_eq_false_iff_ne, bne_eq_false_iff_eq, decide_eq_true_eq, decide_eq_false_iff_not, Bool.not_eq_true', Bool.not_eq_false', ne_eq, beq_true, beq_false, bne_self_eq_false, not_true_eq_false, not_false_eq_true, gt_iff_lt, ge_iff_le, Int.not_lt, Int.not_le, Bool.true_eq_false, Bool.false_eq_true] <;> omega)); conv => whnf)
          | (refine sel_no ?_ ?_; (first | assumption | (simp only [beq_iff_eq, bne_iff_ne, beq_eq_false_iff_ne, bne_eq_false_iff_eq, decide_eq_true_eq, decide_eq_false_iff_not, Bool.not_eq_true', Bool.not_eq_false', ne_eq, beq_true, beq_false, bne_self_eq_false, not_true_eq_false, not_false_eq_true, gt_iff_lt, ge_iff_le, Int.not_lt, Int.not_le, Bool.true_eq_false, Bool.false_eq_true] <;> omega)); conv => whnf)
          | (refine ⟨le_rfl' ?_, ?_⟩; rfl; conv => whnf)
          | (refine ⟨⟨?_, ?_⟩, ?_⟩; omega; omega; conv => whnf)
          | (refine ⟨⟨?_, ?_, ?_⟩, ?_⟩; rfl; omega; omega; conv => whnf)
          | (refine ⟨rfl, ?_, ?_⟩; decide; conv => whnf))
        try exact rfl
    · rw [no (fun h => h1 h.1)]
      repeat (first
        | (refine sel_yes ?_ ?_; (first | assumption | (simp only [beq_iff_eq, bne_iff_ne, beq_eq_false_iff_ne, bne_eq_false_iff_eq, decide_eq_true_eq, decide_eq_false_iff_not, Bool.not_eq_true', Bool.not_eq_false', ne_eq, beq_true, beq_false, bne_self_eq_false, not_true_eq_false, not_false_eq_true, gt_iff_lt, ge_iff_le, Int.not_lt, Int.not_le, Bool.true_eq_false, Bool.false_eq_true] <;> omega)); conv => whnf)
        | (refine sel_no ?_ ?_; (first | assumption | (simp only [beq_iff_eq, bne_iff_ne, beq_eq_false_iff_ne, bne_eq_false_iff_eq, decide_eq_true_eq, decide_eq_false_iff_not, Bool.not_eq_true', Bool.not_eq_false', ne_eq, beq_true, beq_false, bne_self_eq_false, not_true_eq_false, not_false_eq_true, gt_iff_lt, ge_iff_le, Int.not_lt, Int.not_le, Bool.true_eq_false, Bool.false_eq_true] <;> omega)); conv => whnf)
        | (refine ⟨le_rfl' ?_, ?_⟩; rfl; conv => whnf)
        | (refine ⟨⟨?_, ?_⟩, ?_⟩; omega; omega; conv => whnf)
        | (refine ⟨⟨?_, ?_, ?_⟩, ?_⟩; rfl; omega; omega; conv => whnf)
        | (refine ⟨rfl, ?_, ?_⟩; decide; conv => whnf))
      try exact rfl
theorem tplainL (hn : Non ext) : (l : List T) → WfL l → ∀ a ∈ l, ∀ b : T, (cfg ext).Ev 20 [A a, A b] (.bool (eqT a b))
  | [], _, a, ha, _ => by cases ha
  | v :: l, hw, a, ha, b => by
    simp only [WfL] at hw
    rcases List.mem_cons.1 ha with e | h
    · rw [e]; exact tplain hn v hw.1 b
    · exact tplainL hn l hw.2 a h b
end
end
end Go.Proofs.YtehajklneljbgaaDoor.AB
end

section
set_option linter.unusedVariables false
set_option linter.unusedSimpArgs false
open Go Go.Ab Go.Proofs Go.Vl
namespace Go.Proofs.YtehajklneljbgaaDoor.AB
set_option maxRecDepth 100000
set_option maxHeartbeats 1600000
set_option linter.unusedSimpArgs false
theorem St.knowsA {s : St} (L : List (Nat × V)) (n : Nat) (h : Has s.t L) (hn : s.hp.n = n) (B : List (Nat × Option Bx) := []) (hB : Has s.hp.h B := by trivial) (D : List (Nat × Option Arr) := []) (hD : Has s.hp.a D := by trivial) : s = ⟨updL s.t L, ⟨updL s.hp.h B, n, updL s.hp.a D, s.hp.m⟩⟩ := by
  rw [updL_has _ _ h, updL_has _ _ hB, updL_has _ _ hD, ← hn]
section
variable {ext : Exts}
theorem lvals (l m : List T) (hm : l.length = m.length) (hl : l.length ≤ 9223372036854775807) (E : ∀ a ∈ l, ∀ b ∈ m, (cfg ext).Ev 20 [A a, A b] (.bool (eqT a b))) (Q : Ex → St → Prop) (d : Nat) :
    ∀ (i : Nat) (z : St), l.length - i = d → i ≤ l.length → Has z.t [(13, .int .i64 i), (12, .int .i64 l.length), (0, .sl false (encL l) l.length), (1, .sl false (encL m) m.length)] → z.hp.n = 9 →
      (∀ z', z'.t 4 = .bool false → eqL (l.drop i) (m.drop i) = false → Q .ret z') → (∀ z', eqL (l.drop i) (m.drop i) = true → Q (.exit 0) z') →
      Go.Ab.Loop (cfg ext) (lpOf Tryd.f10) 9 z Q := by
  induction d with
  | zero =>
    intro i z hd hi ht hn hr hq
    obtain rfl : i = l.length := by omega
    rw [St.knows _ _ ht hn]
    refine Loop.round ?_
    conv => whnf
    refine sel_no (by simp) ?_
    conv => whnf
    exact hq _ (by rw [List.drop_length, hm, List.drop_length]; exact eqL_self _)
  | succ d ih =>
    intro i z hd hi ht hn hr hq
    have h1 : i < l.length := by omega
    have h2 : i < m.length := by omega
    have hE := E _ (List.getElem_mem h1) _ (List.getElem_mem h2)
    have eD := eqL_drop h1 h2
    rw [St.knows _ _ ht hn]
    refine Loop.round ?_
    conv => whnf
    refine sel_yes (by simp; omega) ?_
    conv => whnf
    refine ⟨⟨by omega, by omega⟩, ?_⟩
    conv => whnf
    refine ldA (i := i) h1 ?_
    conv => whnf
    refine ⟨⟨by omega, by omega⟩, ?_⟩
    conv => whnf
    refine ldA (i := i) h2 ?_
    conv => whnf
    refine ⟨_, hE, ?_⟩
    cases he : eqT l[i] m[i] with
    | false =>
      conv => whnf
      exact hr _ rfl (by rw [eD, he]; rfl)
    | true =>
      conv => whnf
      refine ih (i + 1) _ (by omega) (by omega) ⟨?_, rfl, rfl, rfl, trivial⟩ rfl (fun z' a b => hr z' a (by rw [eD, he]; exact b)) (fun z' a => hq z' (by rw [eD, he]; exact a))
      conv => lhs; whnf
      exact wrapN1 (by omega)
theorem tvals (hn : Non ext) (l m : List T) (hl : l.length ≤ 9223372036854775807) (hw : ∀ v ∈ l, WfV v) : (cfg ext).Ev 10 [.sl false (encL l) l.length, .sl false (encL m) m.length] (.bool (eqL l m)) := by
  refine Ev.of (hn 10 (by decide) (by decide)) Tryd.func10 rfl rfl ?_
  conv => whnf
  by_cases h : l.length = m.length
  · have h' : ((l.length : Int) != (m.length : Int)) = false := by rw [h]; simp
    refine sel_no h' ?_
    conv => whnf
    refine lvals l m h hl (fun a ha b _ => tplain hn a (hw a ha) b) _ _ 0 _ rfl (by omega) ⟨rfl, rfl, rfl, rfl, trivial⟩ rfl (fun z a b => ?_) (fun z a => ?_)
    · conv => whnf
      rw [a]
      simp only [List.drop_zero] at b
      rw [b]
      exact rfl
    · conv => whnf
      simp only [List.drop_zero] at a
      rw [a]
  · have h' : ((l.length : Int) != (m.length : Int)) = true := by simp; omega
    refine sel_yes h' ?_
    conv => whnf
    refine congrArg V.bool ?_
    cases e : eqL l m with
    | false => rfl
    | true => exact absurd (by rw [eqL_iff.1 e]) h
end
end Go.Proofs.YtehajklneljbgaaDoor.AB
end

section
set_option linter.unusedVariables false
set_option linter.unusedSimpArgs false
open Go Go.Ab Go.Proofs Go.Vl
namespace Go.Proofs.YtehajklneljbgaaDoor.AB
set_option maxRecDepth 100000
set_option maxHeartbeats 16000000
set_option linter.unusedSimpArgs false
set_option linter.unusedVariables false
/-- what is known of a state, and no more -/
theorem gen_state {C : Cfg} {ops : List Oper} {draw : Bool} {n0 m0 i : Nat} {os : List Oper} {Q : St → Prop} {s : St} (L : List (Nat × V)) (h : Has s.t L) (q : ∀ z n0 m0, Has z.t L → xOps C ops draw n0 m0 i os z Q) : xOps C ops draw n0 m0 i os s Q := q s n0 m0 h
theorem opt_gro2 {d : Bool} {hp : Hp} {xs : List V} {m : Nat} {S c : V} {l : List T} {Q : List V × Hp → Prop} (h : Gro 4 hp.a m S (encL l) l.length) (hd : d = false) (hc : cold c = true) (hx : xs = [c, S]) (hq : ∀ hp', Q ([c, .sl false (encL l) l.length], hp')) : opt (asData d hp xs) Q := by
  subst hd hx
  obtain ⟨hp', e⟩ := h.fz (d := 4)
  have : asData false hp [c, S] = some ([c, .sl false (encL l) l.length], hp') := by
    show fzL (fz 6) hp [c, S] = _
    simp only [fzL, fz_cold 5 hp hc]
    rw [show fz 6 hp S = _ from e]
  rw [this]
  exact hq hp'
section
variable {ext : Exts}
theorem psortK (hn : Non ext) (o : Int) (ho : o < 0 ∨ o > 5) (l : List T) : (cfg ext).Ev 8 [.int .i64 o, .sl false (encL l) l.length] (.tup [.sl false [] 0, .int .i64 4]) := by
  have h1 := t11x hn o ho (encL l) l.length
  refine Ev.of (hn 8 (by decide) (by decide)) Tryd.func8 rfl rfl ?_
  conv => whnf
  refine ⟨_, h1, ?_⟩
  conv => whnf
  try exact rfl
theorem listed_perm {l m : List T} (h : l.Perm m) (hz : listedZ m = 0) : listedZ l = 0 := by
  have ok := listed_ok hz
  unfold listedZ
  rw [if_neg (by rw [h.length_eq]; omega), if_pos (List.all_eq_true.2 fun x hx => ok.2 x (h.mem_iff.1 hx))]
end
theorem again_speaks (o : Int) (l m : List T) (L M : List T) (e f : Int) (h1 : (cfg ext0).Ev 8 [.int .i64 o, .sl false (encL l) l.length] (.tup [.sl false (encL L) L.length, .int .i64 e])) (h2 : (cfg ext0).Ev 8 [.int .i64 o, .sl false (encL m) m.length] (.tup [.sl false (encL M) M.length, .int .i64 f]))
    (h : e ≠ 0 ∨ (e = 0 ∧ f ≠ 0) ∨ (e = 0 ∧ f = 0 ∧ IntKind.i64.wrap ((l.length : Int) + (m.length : Int)) > 65536)) : (cfg ext0).Ev 4 [.int .i64 o, .sl false (encL l) l.length, .sl false (encL m) m.length] (.bool true) := by
  refine Ev.of rfl Tryd.func4 rfl rfl ?_
  conv => whnf
  refine ⟨_, h1, ?_⟩
  conv => whnf
  refine ⟨_, h2, ?_⟩
  conv => whnf
  rcases h with h | ⟨h, h'⟩ | ⟨h, h', h''⟩
  · repeat (first
      | (refine sel_yes ?_ ?_; (first | assumption | (simp only [beq_iff_eq, bne_iff_ne, beq_eq_false_iff_ne, bne_eq_false_iff_eq, decide_eq_true_eq, decide_eq_false_iff_not, Bool.not_eq_true', Bool.not_eq_false', ne_eq, beq_true, beq_false, bne_self_eq_false, not_true_eq_false, not_false_eq_true, gt_iff_lt, ge_iff_le, Int.not_lt, Int.not_le, Bool.true_eq_false, Bool.false_eq_true] <;> omega)); conv => whnf)
      | (refine sel_no ?_ ?_; (first | assumption | (simp only [beq_iff_eq, bne_iff_ne, beq_eq_false_iff_ne, bne_eq_false_iff_eq, decide_eq_true_eq, decide_eq_false_iff_not, Bool.not_eq_true', Bool.not_eq_false', ne_eq, beq_true, beq_false, bne_self_eq_false, not_true_eq_false, not_false_eq_true, gt_iff_lt, ge_iff_le, Int.not_lt, Int.not_le, Bool.true_eq_false, Bool.false_eq_true] <;> omega)); conv => whnf)
      | (refine ⟨_, t6, ?_⟩; conv => whnf)
      | (refine ⟨le_rfl' ?_, ?_⟩; rfl; conv => whnf)
      | (refine ⟨⟨?_, ?_⟩, ?_⟩; omega; omega; conv => whnf)
      | (refine ⟨⟨?_, ?_, ?_⟩, ?_⟩; rfl; omega; omega; conv => whnf)
      | (refine ⟨rfl, ?_, ?_⟩; decide; conv => whnf))
    try exact rfl
  · repeat (first
      | (refine sel_yes ?_ ?_; (first | assumption | (simp only [beq_iff_eq, bne_iff_ne, beq_eq_false_iff_ne, bne_eq_false_iff_eq, decide_eq_true_eq, decide_eq_false_iff_not, Bool.not_eq_true', Bool.not_eq_false', ne_eq, beq_true, beq_false, bne_self_eq_false, not_true_eq_false, not_false_eq_true, gt_iff_lt, ge_iff_le, Int.not_lt, Int.not_le, Bool.true_eq_false, Bool.false_eq_true] <;> omega)); conv => whnf)
      | (refine sel_no ?_ ?_; (first | assumption | (simp only [beq_iff_eq, bne_iff_ne, beq_eq_false_iff_ne, bne_eq_false_iff_eq, decide_eq_true_eq, decide_eq_false_iff_not, Bool.not_eq_true', Bool.not_eq_false', ne_eq, beq_true, beq_false, bne_self_eq_false, not_true_eq_false, not_false_eq_true, gt_iff_lt, ge_iff_le, Int.not_lt, Int.not_le, Bool.true_eq_false, Bool.false_eq_true] <;> omega)); conv => whnf)
      | (refine ⟨_, t6, ?_⟩; conv => whnf)
      | (refine ⟨le_rfl' ?_, ?_⟩; rfl; conv => whnf)
      | (refine ⟨⟨?_, ?_⟩, ?_⟩; omega; omega; conv => whnf)
      | (refine ⟨⟨?_, ?_, ?_⟩, ?_⟩; rfl; omega; omega; conv => whnf)
      | (refine ⟨rfl, ?_, ?_⟩; decide; conv => whnf))
    try exact rfl
  · repeat (first
      | (refine sel_yes ?_ ?_; (first | assumption | (simp only [beq_iff_eq, bne_iff_ne, beq_eq_false_iff_ne, bne_eq_false_iff_eq, decide_eq_true_eq, decide_eq_false_iff_not, Bool.not_eq_true', Bool.not_eq_false', ne_eq, beq_true, beq_false, bne_self_eq_false, not_true_eq_false, not_false_eq_true, gt_iff_lt, ge_iff_le, Int.not_lt, Int.not_le, Bool.true_eq_false, Bool.false_eq_true] <;> omega)); conv => whnf)
      | (refine sel_no ?_ ?_; (first | assumption | (simp only [beq_iff_eq, bne_iff_ne, beq_eq_false_iff_ne, bne_eq_false_iff_eq, decide_eq_true_eq, decide_eq_false_iff_not, Bool.not_eq_true', Bool.not_eq_false', ne_eq, beq_true, beq_false, bne_self_eq_false, not_true_eq_false, not_false_eq_true, gt_iff_lt, ge_iff_le, Int.not_lt, Int.not_le, Bool.true_eq_false, Bool.false_eq_true] <;> omega)); conv => whnf)
      | (refine ⟨_, t6, ?_⟩; conv => whnf)
      | (refine ⟨le_rfl' ?_, ?_⟩; rfl; conv => whnf)
      | (refine ⟨⟨?_, ?_⟩, ?_⟩; omega; omega; conv => whnf)
      | (refine ⟨⟨?_, ?_, ?_⟩, ?_⟩; rfl; omega; omega; conv => whnf)
      | (refine ⟨rfl, ?_, ?_⟩; decide; conv => whnf))
    try exact rfl
theorem OrderAgain_ev (o : Int) (_ : In64 o) (l : List T) (hll : l.length ≤ 9223372036854775807) (hwl : ∀ x ∈ l, WfV x) (m : List T) (hlm : m.length ≤ 9223372036854775807) (hwm : ∀ x ∈ m, WfV x) : (cfg ext0).Ev 4 [.int .i64 o, .sl false (encL l) l.length, .sl false (encL m) m.length] (.bool true) := by
  by_cases ho : o < 0 ∨ o > 5
  · refine again_speaks o l m [] [] 4 4 ?_ ?_ (.inl (by decide))
    · have h := psortK non0 o ho l; simp only [encL]; exact h
    · have h := psortK non0 o ho m; simp only [encL]; exact h
  obtain ⟨k, rfl⟩ : ∃ k : Nat, o = k := ⟨o.toNat, by omega⟩
  have h5 : k ≤ 5 := by omega
  obtain ⟨a, ra, ea⟩ := psort non0 e26 e73 k h5 l hwl
  obtain ⟨b, rb, eb⟩ := psort non0 e26 e73 k h5 m hwm
  by_cases hzl : listedZ l = 0
  · by_cases hzm : listedZ m = 0
    · have okl := listed_ok hzl
      have okm := listed_ok hzm
      have w : IntKind.i64.wrap ((l.length : Int) + (m.length : Int)) = ((l.length + m.length : Nat) : Int) := by rw [IntKind.wrap_i64]; omega
      by_cases hs : 65536 < l.length + m.length
      · exact again_speaks k l m a b _ _ ea eb (.inr (.inr ⟨hzl, hzm, by rw [w]; omega⟩))
      have pa := ra.ok hzl
      have pb := rb.ok hzm
      have hza : listedZ a = 0 := listed_perm pa.2 hzl
      have hzb : listedZ b = 0 := listed_perm pb.2 hzm
      have hwa : ∀ x ∈ a, WfV x := fun x hx => hwl x (pa.2.mem_iff.1 hx)
      have hwb : ∀ x ∈ b, WfV x := fun x hx => hwm x (pb.2.mem_iff.1 hx)
      have hwlm : ∀ x ∈ l ++ m, WfV x := fun x hx => by rcases List.mem_append.1 hx with h | h; exact hwl x h; exact hwm x h
      have hzlm : listedZ (l ++ m) = 0 := by
        unfold listedZ
        rw [if_neg (by rw [List.length_append]; omega), if_pos (List.all_eq_true.2 fun x hx => by rcases List.mem_append.1 hx with h | h; exact okl.2 x h; exact okm.2 x h)]
      obtain ⟨c, rc, ec⟩ := psort non0 e26 e73 k h5 a hwa
      obtain ⟨x, eM, rM, em⟩ := pmerge non0 e26 e73 k h5 a b hwa hwb
      obtain ⟨y, ry, ey⟩ := psort non0 e26 e73 k h5 (l ++ m) hwlm
      have pc := rc.ok hza
      have py := ry.ok hzlm
      have hGl := Gd.of hzl hwl
      have hGlm := Gd.of hzlm hwlm
      obtain rfl : a = c := le_perm_eq (ord_line k) ((hGl.perm pa.2).shp) pa.1 pc.1 pc.2.symm
      have hGa := Gd.of hza hwa
      have hGb := Gd.of hzb hwb
      have hxy : eM = 0 ∧ x = y := by
        rcases rM.s hza hzb (by rw [pa.2.length_eq, pb.2.length_eq]; omega) with ⟨q1, q2, q3, q4, q5⟩ | ⟨q1, q2, q3⟩
        · have p : x.Perm y := q5.trans ((List.Perm.append pa.2 pb.2).trans py.2.symm)
          exact ⟨q1, le_perm_eq (ord_line k) ((hGlm.perm (p.trans py.2)).shp) q4 py.1 p⟩
        · exact absurd ⟨le_Srt (ord_line k) pa.1, le_Srt (ord_line k) pb.1⟩ q2
      obtain ⟨rfl, rfl⟩ := hxy
      have ga := tvals non0 a a (by rw [pa.2.length_eq]; omega) hwa
      have gx := tvals non0 x x (by rw [py.2.length_eq, List.length_append]; omega) (fun z hz => hwlm z (py.2.mem_iff.1 hz))
      rw [eqL_self] at ga gx
      rw [hzl] at ea
      rw [hzm] at eb
      rw [hza] at ec
      rw [hzlm] at ey
      have g : decide (IntKind.i64.wrap ((l.length : Int) + (m.length : Int)) > 65536) = false := decide_eq_false (by rw [w]; omega)
      refine Ev.of rfl Tryd.func4 rfl rfl ?_
      conv => whnf
      refine ⟨_, ea, ?_⟩
      conv => whnf
      refine ⟨_, eb, ?_⟩
      conv => whnf
      refine sel_no g ?_
      conv => whnf
      refine ⟨_, ec, ?_⟩
      conv => whnf
      refine ⟨_, em, ?_⟩
      refine gen_state [(0, .int .i64 k), (1, .sl false (encL l) l.length), (2, .sl false (encL m) m.length), (7, .sl false (encL a) a.length), (11, .sl false (encL a) a.length), (12, .int .i64 0), (55, .tup [.sl false (encL x) x.length, .int .i64 0])] ⟨rfl, rfl, rfl, rfl, rfl, rfl, rfl, trivial⟩ (fun z n0 m0 hz => ?_)
      rw [St.knows _ z.hp.n hz rfl]
      conv => whnf
      refine ⟨rfl, ?_⟩
      conv => whnf
      refine ⟨⟨rfl, (show (4 : Nat) ≠ 0 by decide)⟩, ?_⟩
      have hlen : ([] : List T).length + l.length ≤ 1000000 := by simp; omega
      refine appS (l := l) (D := []) (m := 0) (Gro.to (Gro.nil _ _ _) (show ([] : List V) = encL [] by simp only [encL]) rfl) (Nat.zero_le _) (Nat.add_lt_add_left (by decide) _) hlen (fun S1 a1 h1 => ?_)
      have h1 : Gro 4 a1 _ S1 (encL l) l.length := h1
      rcases h1.form with ⟨eS, _⟩ | ⟨b1, v1, eS⟩ <;> subst eS
      all_goals
        conv => whnf
        refine ⟨rfl, ?_⟩
        conv => whnf
        refine ⟨⟨rfl, (show (4 : Nat) ≠ 0 by decide)⟩, ?_⟩
        refine appS (l := m) h1 (by (conv => lhs; whnf); (repeat ((conv => rhs; whnf); first | with_reducible exact Nat.le_refl _ | refine Nat.le_trans ?_ (Nat.le_add_right _ _) | refine Nat.le_succ_of_le ?_ | exact Nat.le_refl _))) (Nat.add_lt_add_left (by decide) _) (by omega) (fun S2 a2 h2 => ?_)
        rcases h2.form with ⟨eS, e0⟩ | ⟨b2, v2, eS⟩ <;> subst eS
        · have en : l ++ m = [] := List.eq_nil_of_length_eq_zero e0
          rw [en] at ey
          simp only [encL] at ey
          conv => whnf
          refine ⟨_, ey, ?_⟩
          conv => whnf
          refine ⟨_, ga, ?_⟩
          conv => whnf
          refine ⟨_, gx, ?_⟩
          conv => whnf
          repeat (first
            | (refine sel_yes ?_ ?_; (first | assumption | (simp only [beq_iff_eq, bne_iff_ne, beq_eq_false_iff_ne, bne_eq_false_iff_eq, decide_eq_true_eq, decide_eq_false_iff_not, Bool.not_eq_true', Bool.not_eq_false', ne_eq, beq_true, beq_false, bne_self_eq_false, not_true_eq_false, not_false_eq_true, gt_iff_lt, ge_iff_le, Int.not_lt, Int.not_le, Bool.true_eq_false, Bool.false_eq_true] <;> omega)); conv => whnf)
            | (refine sel_no ?_ ?_; (first | assumption | (simp only [beq_iff_eq, bne_iff_ne, beq_eq_false_iff_ne, bne_eq_false_iff_eq, decide_eq_true_eq, decide_eq_false_iff_not, Bool.not_eq_true', Bool.not_eq_false', ne_eq, beq_true, beq_false, bne_self_eq_false, not_true_eq_false, not_false_eq_true, gt_iff_lt, ge_iff_le, Int.not_lt, Int.not_le, Bool.true_eq_false, Bool.false_eq_true] <;> omega)); conv => whnf)
            | (refine ⟨_, t6, ?_⟩; conv => whnf)
            | (refine ⟨le_rfl' ?_, ?_⟩; rfl; conv => whnf)
            | (refine ⟨⟨?_, ?_⟩, ?_⟩; omega; omega; conv => whnf)
            | (refine ⟨⟨?_, ?_, ?_⟩, ?_⟩; rfl; omega; omega; conv => whnf)
            | (refine ⟨rfl, ?_, ?_⟩; decide; conv => whnf))
          try exact rfl
        · conv => whnf
          refine opt_gro2 (c := .int .i64 k) (l := l ++ m) (m := ?mm) ?hg rfl rfl rfl (fun hp' => ?_)
          case hg => exact h2
          refine ⟨_, ey, ?_⟩
          conv => whnf
          refine ⟨_, ga, ?_⟩
          conv => whnf
          refine ⟨_, gx, ?_⟩
          conv => whnf
          repeat (first
            | (refine sel_yes ?_ ?_; (first | assumption | (simp only [beq_iff_eq, bne_iff_ne, beq_eq_false_iff_ne, bne_eq_false_iff_eq, decide_eq_true_eq, decide_eq_false_iff_not, Bool.not_eq_true', Bool.not_eq_false', ne_eq, beq_true, beq_false, bne_self_eq_false, not_true_eq_false, not_false_eq_true, gt_iff_lt, ge_iff_le, Int.not_lt, Int.not_le, Bool.true_eq_false, Bool.false_eq_true] <;> omega)); conv => whnf)
            | (refine sel_no ?_ ?_; (first | assumption | (simp only [beq_iff_eq, bne_iff_ne, beq_eq_false_iff_ne, bne_eq_false_iff_eq, decide_eq_true_eq, decide_eq_false_iff_not, Bool.not_eq_true', Bool.not_eq_false', ne_eq, beq_true, beq_false, bne_self_eq_false, not_true_eq_false, not_false_eq_true, gt_iff_lt, ge_iff_le, Int.not_lt, Int.not_le, Bool.true_eq_false, Bool.false_eq_true] <;> omega)); conv => whnf)
            | (refine ⟨_, t6, ?_⟩; conv => whnf)
            | (refine ⟨le_rfl' ?_, ?_⟩; rfl; conv => whnf)
            | (refine ⟨⟨?_, ?_⟩, ?_⟩; omega; omega; conv => whnf)
            | (refine ⟨⟨?_, ?_, ?_⟩, ?_⟩; rfl; omega; omega; conv => whnf)
            | (refine ⟨rfl, ?_, ?_⟩; decide; conv => whnf))
          try exact rfl
    · exact again_speaks k l m a b _ _ ea eb (.inr (.inl ⟨hzl, hzm⟩))
  · exact again_speaks k l m a b _ _ ea eb (.inl hzl)
end Go.Proofs.YtehajklneljbgaaDoor.AB
end
